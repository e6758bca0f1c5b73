import PyProof.Rows.All
import HandS.ForMost
import HandS.ForExc
import HandS.HeadHook4
import HandS.Lambda
import KE.KeyNested
import KE.KDictCopyH
import KE.KDictDisplayH
import KE.DataEq
import KE.DataCmp
import HandS.TupAny
import HandS.TupLe
import HandS.Wide
import HandS.Style
import HandS.Conv
import HandS.TupLen
import HandS.TupSets
import HandS.AnyAll
import HandS.IsInst
import HandS.Iter
import KE.DataMinMax
import KE.SortData
import HandS.SetFor
import KE.KEqDict
import KE.GoesEnum
import HandS.HeadEnd
import HandS.HeadHook2
import HandS.EndTab
import HandS.SortKw
import KE.SortKeyHeap
import KE.KDictPairs
import PySem.Challenge.RW_leaptover_k68_closures_are_closures
import Wide.All
import OpenK.AllK
import Wide.FinOn
import KE.KStateDown
import Lean
import HandS.Head0
import HandS.Head1
import HandS.Head2
set_option Elab.async false
set_option linter.all false
set_option autoImplicit false
/-! P0: data, what stands for it in the abstract heap, the mirrors' monad, readings by mirrors. -/
namespace Px
open PySem PySem.Spec
open L2

/-- a value as data; mref: the n-th of the objects that may still change -/
inductive D where
  | non | bl (b : Bool) | int (i : Int) | str (x : Str) | byt (b : Array UInt8) | flt (b : UInt64)
  | tup (l : List D) | lst (l : List D) | dct (ks vs : List D) | ins (c : Str) (ns : List Str) (vs : List D) | mref (n : Nat) | scr (l : List Int)

/-- an object that may change -/
inductive MObj where
  | lst (l : List D) | dct (ks vs : List D) | ins (c : Str) (ns : List Str) (vs : List D)
abbrev Store := List MObj
structure Exn where
  cls : Str
  ns : List Str
  vs : List D
inductive R (α : Type) where
  | ok (a : α) | exn (e : Exn) (st : Store) | stuck
namespace R
def bind {α β : Type} (r : R α) (k : α → R β) : R β := match r with
  | .ok a => k a
  | .exn e st => .exn e st
  | .stuck => .stuck
instance : Monad R where
  pure := fun a => .ok a
  bind := R.bind
@[simp] theorem pure_eq {α : Type} (a : α) : (pure a : R α) = .ok a := rfl
@[simp] theorem ok_bind {α β : Type} (a : α) (k : α → R β) : (R.ok a >>= k) = k a := rfl
@[simp] theorem exn_bind {α β : Type} (e : Exn) (st : Store) (k : α → R β) : ((R.exn e st : R α) >>= k) = .exn e st := rfl
@[simp] theorem stuck_bind {α β : Type} (k : α → R β) : ((R.stuck : R α) >>= k) = .stuck := rfl
theorem bind_assoc {α β γ : Type} (r : R α) (k : α → R β) (l : β → R γ) : ((r >>= k) >>= l) = (r >>= fun a => k a >>= l) := by
  cases r <;> rfl
end R
abbrev DEnv := List (Option D)
/-- an expression's mirror, a test's, an argument list's, a def's -/
abbrev Ev := DEnv → Store → R (D × Store)
abbrev Tv := DEnv → Store → R (Bool × Store)
abbrev Av := DEnv → Store → R (List D × Store)
abbrev Fv := List D → Store → R (D × Store)
inductive SOut where
  | nx | bk | ct | rt (d : D)
abbrev Sm := DEnv → Store → R (SOut × DEnv × Store)

/-! ### what stands for data -/
/-- where the objects stand that may still change: the code's own ones, by number, and those of its callers -/
structure Rho where
  own : List Addr
  av : List Addr
instance : Membership Addr Rho := ⟨fun ρ a => a ∈ ρ.own ∨ a ∈ ρ.av⟩
def Rho.push (ρ : Rho) (p : Addr) : Rho := ⟨ρ.own ++ [p], ρ.av⟩
def Rho.none : Rho := ⟨[], []⟩
theorem Rho.not_none (a : Addr) : a ∉ Rho.none := fun h => by rcases h with h | h <;> cases h
theorem Rho.of_own {ρ : Rho} {a : Addr} (h : a ∈ ρ.own) : a ∈ ρ := .inl h

def keyD : Key → D
  | .inl i => .int i
  | .inr x => .str x
mutual
def ofKey : NestedKey → D
  | .none => .non
  | .num i => .int i
  | .text x => .str x
  | .tup ks => .tup (ofKeys ks)
def ofKeys : List NestedKey → List D
  | [] => []
  | k :: ks => ofKey k :: ofKeys ks
end
/-- the defs that make lambdas -/
def lamNames : List Str := ["in_order", "all_standings", "in_heap_order", "first_rules", "law"]
/-- no table of code objects -/
def NT (o : HO) : Prop := ∀ ps, o ≠ .tbl ps
/-- the program, the world, the written part -/
structure Wd where
  P : Program
  w : World
  K : PySem.W.Frag
abbrev zx (X : Cx) : Wd := ⟨X.prog, X.w, X.K⟩
/-- a dict at a: its keys whole numbers and texts, or tuples (nested too); Rv, Rk: what its values, its keys are -/
def DictC (Z : Wd) (H : Hp) (a : Addr) (ks : List D) (Rv Rk : List V → Prop) : Prop :=
  (∃ kvs : List (Key × V), H a = some (.dK kvs) ∧ ks = kvs.map (fun p => keyD p.1) ∧ Rv (kvs.map (·.2))) ∨
    ∃ (o : Obj) (es : Array DictEntry) (ep : Nat) (xs : List (NestedKey × Addr × Value)) (vvs : List V), H a = some (.ext fun h => h.get? a = some o) ∧ o.ExactDict ∧ o.data = .dict es ep ∧
      es.toList = xs.map (entryOfKey (nestedKind Z.P Z.w)) ∧ (xs.map (·.1)).Nodup ∧ (a == sysModules) = false ∧ xs.length ≤ sizeLine ∧ (∀ x ∈ xs, x.1.depth ≤ 8) ∧
      Vals vvs (xs.map (·.2.2)) ∧ Rv vvs ∧ Rk (xs.map fun x => .ref x.2.1) ∧ (ks = xs.map fun x => ofKey x.1) ∧ xs ≠ []
section
variable (Z : Wd) (H : Hp) (ρ : Rho)
mutual
def Rep : D → V → Prop
  | .non, v => v = .non
  | .bl b, v => v = .bl b
  | .int i, v => v = .int i
  | .str x, v => v = .str x
  | .byt b, v => v = .byt b
  | .flt b, v => v = .flt b
  | .tup l, v => ∃ a xs, v = .ref a ∧ ((Rd H a (.tup xs) ∧ a ∉ ρ) ∨ SqT Z.K (fun _ => none) a xs) ∧ Reps l xs
  | .lst l, v => ∃ a xs, v = .ref a ∧ H a = some (.lst xs) ∧ a ∉ ρ ∧ Reps l xs
  | .dct ks vs, v => ∃ a, v = .ref a ∧ a ∉ ρ ∧ DictC Z H a ks (Reps vs) (Reps ks)
  | .ins c ns vs, v => ∃ a dx fs, v = .ref a ∧ a ∉ ρ ∧ H a = some (.ins (He.ga Z.K c) dx fs) ∧ fs.map (·.1) = ns ∧ Reps vs (fs.map (·.2))
  | .mref n, v => ∃ a, v = .ref a ∧ ρ.own[n]? = some a
  | .scr l, v => ∃ a, v = .ref a ∧ ((Rd H a (.lst (l.map V.int)) ∧ a ∉ ρ) ∨ SqL Z.K (fun _ => none) a (l.map V.int))
def Reps : List D → List V → Prop
  | [], xs => xs = []
  | d :: l, xs => ∃ x r, xs = x :: r ∧ Rep d x ∧ Reps l r
end
/-- an object that may change, at a -/
def MRep (a : Addr) : MObj → Prop
  | .lst l => ∃ xs, H a = some (.lst xs) ∧ Reps Z H ρ l xs
  | .dct ks vs => DictC Z H a ks (Reps Z H ρ vs) (Reps Z H ρ ks)
  | .ins c ns vs => ∃ dx fs, H a = some (.ins (He.ga Z.K c) dx fs) ∧ fs.map (·.1) = ns ∧ Reps Z H ρ vs (fs.map (·.2))
/-- the tables of code objects of those defs that make lambdas -/
def TabX : Prop := ∀ x ∈ lamNames, ∀ c P, PySem.W.tabIn Z.K x = some (c, P) → LamX.TabS H P (x ++ ".<locals>." ++ "<lambda>")
structure StR (st : Store) : Prop where
  len : st.length = ρ.own.length
  nd : ρ.own.Nodup
  at_ : ∀ (n : Nat) (o : MObj), st[n]? = some o → ∃ a, ρ.own[n]? = some a ∧ MRep Z H ρ a o
  tr : ∀ a ∈ ρ.av, Mut (H a)
  tb : TabX Z H
structure EnvR (env : DEnv) (σ : St) : Prop where
  len : env.length = σ.length
  at_ : ∀ (i : Nat) (d : D), env[i]? = some (some d) → ∃ v, σ[i]? = some (some v) ∧ Rep Z H ρ d v
/-- an exception: its class, its dict's address -/
def ExR (e : Exn) (cv : Value) (dx : Option Addr) : Prop :=
  cv = .ref (He.ga Z.K e.cls) ∧ ∃ d fs, dx = some d ∧ H d = some (.xd fs) ∧ fs.map (·.1) = e.ns ∧ Reps Z H ρ e.vs (fs.map (·.2))
end
/-- the heap grows: what may not change stays -/
structure Grow (H H' : Hp) (ρ ρ' : Rho) : Prop where
  pre : ∀ (n : Nat) (a : Addr), ρ.own[n]? = some a → ρ'.own[n]? = some a
  keep : ∀ a o, H a = some o → NT o → a ∉ ρ.own → H' a = some o
  new : ∀ a, a ∈ ρ'.own → a ∈ ρ.own ∨ H a = none
  was : ∀ a, H a ≠ none → H' a ≠ none
  mt : ∀ a, a ∈ ρ.own → Mut (H a) → Mut (H' a)
  av : ρ'.av = ρ.av
theorem mut_nt {o : HO} (h : Mut (some o)) : NT o := fun ps e => by rw [e] at h; exact h
theorem code_nt {c : Addr} {q : Str} : NT (LamX.CodeO c q) := fun ps => LamX.codeO_ne ps
/-- neither a table nor a code object -/
def Plain (H : Hp) (p : Addr) : Prop := (∀ ps, H p ≠ some (.tbl ps)) ∧ ∀ q, H p ≠ some (LamX.CodeO p q)
theorem tabs_new {H : Hp} {p P : Addr} {o : HO} {q : Str} (hp : H p = none) (h : LamX.TabS H P q) : LamX.TabS (upd H p o) P q := h.ext fun b o' e => by rw [upd_ne (ne_of_none e hp)]; exact e
theorem tabs_write {H : Hp} {p P : Addr} {o : HO} {q : Str} (hp : Plain H p) (h : LamX.TabS H P q) : LamX.TabS (upd H p o) P q := by
  obtain ⟨ps, h1, h2, h3⟩ := h
  refine ⟨ps, by rw [upd_ne fun z => hp.1 ps (by rw [← z]; exact h1)]; exact h1, h2, fun pos cv hc => ?_⟩
  obtain ⟨c, e1, e2⟩ := h3 pos cv hc
  exact ⟨c, e1, by rw [upd_ne fun z => hp.2 q (by rw [← z]; exact e2)]; exact e2⟩
section
variable {Z : Wd} {H H' H1 H2 : Hp} {ρ ρ' ρ1 ρ2 : Rho}
theorem Grow.refl : Grow H H ρ ρ := ⟨fun _ _ h => h, fun _ _ h _ _ => h, fun _ h => .inl h, fun _ h => h, fun _ _ h => h, rfl⟩
theorem Grow.some (g : Grow H H' ρ ρ') {a : Addr} (h : H a ≠ none) : H' a ≠ none := g.was a h
theorem Grow.mutA (g : Grow H H' ρ ρ') {a : Addr} (h : Mut (H a)) : Mut (H' a) := by
  by_cases m : a ∈ ρ.own
  · exact g.mt a m h
  · cases e : H a with
    | none => rw [e] at h; exact h.elim
    | some o =>
      rw [e] at h
      rw [g.keep a o e (mut_nt h) m]; exact h
theorem Grow.trans (g : Grow H H1 ρ ρ1) (k : Grow H1 H2 ρ1 ρ2) : Grow H H2 ρ ρ2 where
  pre := fun n a h => k.pre n a (g.pre n a h)
  keep := fun a o h nt m => by
    refine k.keep a o (g.keep a o h nt m) nt fun q => ?_
    rcases g.new a q with z | z
    · exact m z
    · rw [h] at z; cases z
  new := fun a q => by
    rcases k.new a q with z | z
    · exact g.new a z
    · refine .inr (Classical.byContradiction fun e => ?_)
      exact g.was a e z
  was := fun a h => k.was a (g.was a h)
  mt := fun a m h => k.mutA (g.mt a m h)
  av := k.av.trans g.av
theorem Grow.out (g : Grow H H' ρ ρ') {a : Addr} (h : H a ≠ none) (m : a ∉ ρ) : a ∉ ρ' := fun q => by
  rcases q with q | q
  · rcases g.new a q with z | z
    · exact m (.inl z)
    · exact h z
  · rw [g.av] at q; exact m (.inr q)
/-- a new object, not one that may change -/
theorem Grow.put {p : Addr} {o : HO} (h : H p = none) : Grow H (upd H p o) ρ ρ where
  pre := fun _ _ h => h
  keep := fun a o' e _ _ => by rw [upd_ne (ne_of_none e h)]; exact e
  new := fun _ q => .inl q
  was := fun a e => by
    by_cases q : a = p
    · subst q; exact absurd h e
    · rw [upd_ne q]; exact e
  mt := fun a _ e => by
    by_cases q : a = p
    · subst q; rw [h] at e; exact e.elim
    · rw [upd_ne q]; exact e
  av := rfl
/-- a new object that may change -/
theorem Grow.putM {p : Addr} {o : HO} (h : H p = none) : Grow H (upd H p o) ρ (ρ.push p) where
  pre := fun n a e => by
    have : n < ρ.own.length := (List.getElem?_eq_some_iff.mp e).1
    show (ρ.own ++ [p])[n]? = _
    rw [List.getElem?_append_left this]; exact e
  keep := fun a o' e _ _ => by rw [upd_ne (ne_of_none e h)]; exact e
  new := fun a q => by
    rcases List.mem_append.mp (show a ∈ ρ.own ++ [p] from q) with z | z
    · exact .inl z
    · right
      have : a = p := by simpa using z
      rw [this]; exact h
  was := fun a e => by
    by_cases q : a = p
    · subst q; exact absurd h e
    · rw [upd_ne q]; exact e
  mt := fun a _ e => by
    by_cases q : a = p
    · subst q; rw [h] at e; exact e.elim
    · rw [upd_ne q]; exact e
  av := rfl
/-- one of those that may change is written -/
theorem Grow.write {p : Addr} {o : HO} (m : p ∈ ρ.own) (mu : Mut (Option.some o)) : Grow H (upd H p o) ρ ρ where
  pre := fun _ _ h => h
  keep := fun a o' e _ n => by rw [upd_ne (fun q => n (by rw [q]; exact m))]; exact e
  new := fun _ q => .inl q
  was := fun a e => by
    by_cases q : a = p
    · subst q; rw [upd_same]; simp
    · rw [upd_ne q]; exact e
  mt := fun a _ e => by
    by_cases q : a = p
    · subst q; rw [upd_same]; exact mu
    · rw [upd_ne q]; exact e
  av := rfl
theorem mut_some {a : Addr} (h : Mut (H a)) : H a ≠ none := by
  intro e; rw [e] at h; exact h
theorem rd_some {a : Addr} {u : HO} (h : Rd H a u) : H a ≠ none := by
  rcases h with h | ⟨o, h⟩ <;> (rw [h]; simp)
/-- what Rep leans on; the list of those that may change may have become wider -/
structure Wide (H H' : Hp) (ρ ρ' : Rho) : Prop where
  pre : ∀ (n : Nat) (a : Addr), ρ.own[n]? = some a → ρ'.own[n]? = some a
  keep : ∀ a o, H a = some o → NT o → a ∉ ρ → H' a = some o
  new : ∀ a, a ∈ ρ' → a ∈ ρ ∨ H a = none
theorem Grow.wide (g : Grow H H' ρ ρ') : Wide H H' ρ ρ' := ⟨g.pre, fun a o h nt m => g.keep a o h nt fun z => m (.inl z), fun a m => by
  rcases m with m | m
  · exact (g.new a m).imp .inl id
  · rw [g.av] at m; exact .inl (.inr m)⟩
theorem Wide.out (g : Wide H H' ρ ρ') {a : Addr} (h : H a ≠ none) (m : a ∉ ρ) : a ∉ ρ' := fun q => (g.new a q).elim m h
theorem rd_wide (g : Wide H H' ρ ρ') {a : Addr} {u : HO} (nt : NT u) (h : Rd H a u) (m : a ∉ ρ) : Rd H' a u := by
  rcases h with h | ⟨o, h⟩
  · exact .inl (g.keep _ _ h nt m)
  · exact .inr ⟨o, g.keep _ _ h (fun ps z => by cases z) m⟩
theorem DictC.there {a : Addr} {ks : List D} {Rv Rk : List V → Prop} (h : DictC Z H a ks Rv Rk) : H a ≠ none := by
  rcases h with ⟨_, h, _⟩ | ⟨_, _, _, _, _, h, _⟩ <;> (rw [h]; simp)
theorem DictC.imp {a : Addr} {ks : List D} {Rv Rk Rv' Rk' : List V → Prop} (h : DictC Z H a ks Rv Rk) (hk : H a ≠ none → ∀ {o : HO}, NT o → H a = some o → H' a = some o) (h1 : ∀ l, Rv l → Rv' l) (h2 : ∀ l, Rk l → Rk' l) : DictC Z H' a ks Rv' Rk' := by
  have hk' := @hk h.there
  rcases h with ⟨kvs, h, e, r⟩ | ⟨o, es, ep, xs, vvs, h, x1, x2, x3, x4, x5, x6, x7, x8, r1, r2, e⟩
  · exact .inl ⟨kvs, hk' (fun ps z => by cases z) h, e, h1 _ r⟩
  · exact .inr ⟨o, es, ep, xs, vvs, hk' (fun ps z => by cases z) h, x1, x2, x3, x4, x5, x6, x7, x8, h1 _ r1, h2 _ r2, e⟩
mutual
theorem Rep.wide (g : Wide H H' ρ ρ') : ∀ {d : D} {v : V}, Rep Z H ρ d v → Rep Z H' ρ' d v
  | .non, v, h => h
  | .bl _, v, h => h
  | .int _, v, h => h
  | .str _, v, h => h
  | .byt _, v, h => h
  | .flt _, v, h => h
  | .tup l, v, ⟨a, xs, e, hq, r⟩ => by
    refine ⟨a, xs, e, ?_, Reps.wide g r⟩
    rcases hq with ⟨hq, m⟩ | hq
    · exact .inl ⟨rd_wide g (fun ps z => by cases z) hq m, g.out (rd_some hq) m⟩
    · exact .inr hq
  | .lst l, v, ⟨a, xs, e, hq, m, r⟩ => ⟨a, xs, e, g.keep _ _ hq (fun ps z => by cases z) m, g.out (by rw [hq]; simp) m, Reps.wide g r⟩
  | .dct ks vs, v, ⟨a, e, m, h⟩ => ⟨a, e, g.out h.there m, h.imp (fun hn {o} nt q => g.keep _ _ q nt m) (fun _ q => Reps.wide g q) fun _ q => Reps.wide g q⟩
  | .ins c ns vs, v, ⟨a, dx, fs, e, m, hq, en, r⟩ => ⟨a, dx, fs, e, g.out (by rw [hq]; simp) m, g.keep _ _ hq (fun ps z => by cases z) m, en, Reps.wide g r⟩
  | .mref n, v, ⟨a, e, q⟩ => ⟨a, e, g.pre n a q⟩
  | .scr l, v, ⟨a, e, q⟩ => ⟨a, e, q.imp (fun z => ⟨rd_wide g (fun ps y => by cases y) z.1 z.2, g.out (rd_some z.1) z.2⟩) id⟩
theorem Reps.wide (g : Wide H H' ρ ρ') : ∀ {l : List D} {xs : List V}, Reps Z H ρ l xs → Reps Z H' ρ' l xs
  | [], xs, h => h
  | d :: l, xs, ⟨x, r, e, h, t⟩ => ⟨x, r, e, Rep.wide g h, Reps.wide g t⟩
end
theorem Rep.grow (g : Grow H H' ρ ρ') {d : D} {v : V} (h : Rep Z H ρ d v) : Rep Z H' ρ' d v := h.wide g.wide
theorem Reps.grow (g : Grow H H' ρ ρ') {l : List D} {xs : List V} (h : Reps Z H ρ l xs) : Reps Z H' ρ' l xs := h.wide g.wide
theorem EnvR.grow (g : Grow H H' ρ ρ') {env : DEnv} {σ : St} (h : EnvR Z H ρ env σ) : EnvR Z H' ρ' env σ :=
  ⟨h.len, fun i d e => let ⟨v, h1, h2⟩ := h.at_ i d e; ⟨v, h1, h2.grow g⟩⟩
theorem sqT_of {a : Addr} {xs : List V} (h : (Rd H a (.tup xs) ∧ a ∉ ρ) ∨ SqT Z.K (fun _ => none) a xs) : SqT Z.K H a xs := by
  rcases h with h | h
  · exact .inl h.1
  · rcases h with h | h
    · rcases h with h | ⟨o, h⟩ <;> cases h
    · exact .inr h
theorem Reps.len : ∀ {l : List D} {xs : List V}, Reps Z H ρ l xs → xs.length = l.length
  | [], xs, h => by rw [show xs = [] from h]; rfl
  | d :: l, xs, ⟨x, r, e, h, t⟩ => by rw [e]; simp [Reps.len t]
theorem Reps.get : ∀ {l : List D} {xs : List V} {i : Nat} {d : D}, Reps Z H ρ l xs → l[i]? = some d → ∃ x, xs[i]? = some x ∧ Rep Z H ρ d x
  | [], _, _, _, _, e => by simp at e
  | d :: l, xs, 0, d', ⟨x, r, e, h, t⟩, q => by
    simp at q; subst q; subst e; exact ⟨x, rfl, h⟩
  | d :: l, xs, i + 1, d', ⟨x, r, e, h, t⟩, q => by
    subst e
    obtain ⟨y, h1, h2⟩ := Reps.get (i := i) t (by simpa using q)
    exact ⟨y, by simpa using h1, h2⟩
theorem Reps.get' : ∀ {l : List D} {xs : List V} {i : Nat} {x : V}, Reps Z H ρ l xs → xs[i]? = some x → ∃ d, l[i]? = some d ∧ Rep Z H ρ d x
  | [], xs, i, x, h, e => by rw [show xs = [] from h] at e; simp at e
  | d :: l, xs, 0, x', ⟨x, r, e, h, t⟩, q => by
    subst e; simp at q; subst q; exact ⟨d, rfl, h⟩
  | d :: l, xs, i + 1, x', ⟨x, r, e, h, t⟩, q => by
    subst e
    obtain ⟨y, h1, h2⟩ := Reps.get' (i := i) t (by simpa using q)
    exact ⟨y, by simpa using h1, h2⟩
theorem Reps.append : ∀ {l l' : List D} {xs ys : List V}, Reps Z H ρ l xs → Reps Z H ρ l' ys → Reps Z H ρ (l ++ l') (xs ++ ys)
  | [], _, xs, ys, h, t => by rw [show xs = [] from h]; exact t
  | d :: l, _, xs, ys, ⟨x, r, e, h, t⟩, q => by
    subst e; exact ⟨x, r ++ ys, rfl, h, Reps.append t q⟩
theorem Reps.one {d : D} {v : V} (h : Rep Z H ρ d v) : Reps Z H ρ [d] [v] := ⟨v, [], rfl, h, rfl⟩
theorem Reps.set {d : D} {v : V} (h : Rep Z H ρ d v) : ∀ {l : List D} {xs : List V} (i : Nat), Reps Z H ρ l xs → Reps Z H ρ (l.set i d) (xs.set i v)
  | [], xs, i, q => by rw [show xs = [] from q]; rfl
  | d' :: l, xs, 0, ⟨x, r, e, h', t⟩ => by subst e; exact ⟨v, r, rfl, h, t⟩
  | d' :: l, xs, i + 1, ⟨x, r, e, h', t⟩ => by subst e; exact ⟨x, r.set i v, rfl, h', Reps.set h i t⟩
theorem Reps.take : ∀ {l : List D} {xs : List V} (n : Nat), Reps Z H ρ l xs → Reps Z H ρ (l.take n) (xs.take n)
  | l, xs, 0, _ => by rw [List.take_zero, List.take_zero]; exact rfl
  | [], xs, n + 1, h => by rw [show xs = [] from h]; rfl
  | d :: l, xs, n + 1, ⟨x, r, e, h, t⟩ => by subst e; exact ⟨x, r.take n, rfl, h, Reps.take n t⟩
theorem Reps.drop : ∀ {l : List D} {xs : List V} (n : Nat), Reps Z H ρ l xs → Reps Z H ρ (l.drop n) (xs.drop n)
  | l, xs, 0, h => by rw [List.drop_zero, List.drop_zero]; exact h
  | [], xs, n + 1, h => by rw [show xs = [] from h]; rfl
  | d :: l, xs, n + 1, ⟨x, r, e, h, t⟩ => by subst e; exact Reps.drop n t
theorem Reps.rev : ∀ {l : List D} {xs : List V}, Reps Z H ρ l xs → Reps Z H ρ l.reverse xs.reverse
  | [], xs, h => by rw [show xs = [] from h]; rfl
  | d :: l, xs, ⟨x, r, e, h, t⟩ => by
    subst e
    rw [List.reverse_cons, List.reverse_cons]
    exact Reps.append (Reps.rev t) (.one h)
theorem Reps.all : ∀ {l : List D} {xs : List V}, Reps Z H ρ l xs → ∀ x ∈ xs, ∃ d ∈ l, Rep Z H ρ d x
  | [], xs, h, x, m => by rw [show xs = [] from h] at m; cases m
  | d :: l, xs, ⟨y, r, e, h, t⟩, x, m => by
    subst e
    rcases List.mem_cons.mp m with z | z
    · subst z; exact ⟨d, List.mem_cons_self, h⟩
    · obtain ⟨d', m', h'⟩ := Reps.all t x z
      exact ⟨d', List.mem_cons_of_mem _ m', h'⟩
theorem reps_ints : ∀ {ns : List Int} {xs : List V}, Reps Z H ρ (ns.map D.int) xs → xs = ns.map V.int
  | [], xs, h => h
  | n :: ns, xs, ⟨x, r, e, h, t⟩ => by rw [e, show x = .int n from h, reps_ints t]; rfl
theorem ints_reps : ∀ {ns : List Int}, Reps Z H ρ (ns.map D.int) (ns.map V.int)
  | [] => rfl
  | _ :: _ => ⟨_, _, rfl, rfl, ints_reps⟩

/-! ### ends -/
/-- a computation's end, at the heap where it begins -/
def PostX {β : Type} (Z : Wd) (H : Hp) (ρ : Rho) (r : R β) (B : β → Hp → Rho → Prop) (E : XK) : Prop := match r with
  | .ok b => ∀ H' ρ', Grow H H' ρ ρ' → B b H' ρ'
  | .exn e st => ∀ cv dx H' ρ', Grow H H' ρ ρ' → StR Z H' ρ' st → ExR Z H' ρ' e cv dx → E cv dx H'
  | .stuck => False
def BE (Z : Wd) (Q : VK) : D × Store → Hp → Rho → Prop := fun p H' ρ' => StR Z H' ρ' p.2 → ∀ v, Rep Z H' ρ' p.1 v → Q v H'
def BT (Z : Wd) (Q : Bool → Hp → Prop) : Bool × Store → Hp → Rho → Prop := fun p H' ρ' => StR Z H' ρ' p.2 → Q p.1 H'
def BA (Z : Wd) (Q : List V → Hp → Prop) : List D × Store → Hp → Rho → Prop := fun p H' ρ' => StR Z H' ρ' p.2 → ∀ vs, Reps Z H' ρ' p.1 vs → Q vs H'
def BS (Z : Wd) (U : Ends) : SOut × DEnv × Store → Hp → Rho → Prop := fun p H' ρ' => StR Z H' ρ' p.2.2 → ∀ σ', EnvR Z H' ρ' p.2.1 σ' → match p.1 with
  | .nx => U.nx σ' H'
  | .bk => U.bk σ' H'
  | .ct => U.ct σ' H'
  | .rt d => ∀ v, Rep Z H' ρ' d v → U.rt v H'
section
variable {β γ : Type} {r : R β} {B B' : β → Hp → Rho → Prop} {E : XK}
theorem PostX.grow (h : PostX Z H ρ r B E) (g : Grow H H1 ρ ρ1) : PostX Z H1 ρ1 r B E := by
  cases r with
  | ok b => exact fun H' ρ' g' => h H' ρ' (g.trans g')
  | exn e st => exact fun cv dx H' ρ' g' => h cv dx H' ρ' (g.trans g')
  | stuck => exact h
theorem PostX.imp (h : PostX Z H ρ r B E) (c : ∀ b H' ρ', Grow H H' ρ ρ' → r = .ok b → B b H' ρ' → B' b H' ρ') : PostX Z H ρ r B' E := by
  cases r with
  | ok b => exact fun H' ρ' g' => c b H' ρ' g' rfl (h H' ρ' g')
  | exn e st => exact h
  | stuck => exact h
/-- a part that comes first -/
theorem PostX.seq {k : β → R γ} {C : γ → Hp → Rho → Prop} (h : PostX Z H ρ (r >>= k) C E) (c : ∀ b H' ρ', Grow H H' ρ ρ' → PostX Z H' ρ' (k b) C E → B b H' ρ') : PostX Z H ρ r B E := by
  cases r with
  | ok b => exact fun H' ρ' g => c b H' ρ' g (PostX.grow (r := k b) h g)
  | exn e st => exact h
  | stuck => exact h
theorem PostX.now {b : β} (h : PostX Z H ρ (.ok b) B E) : B b H ρ := h H ρ .refl
end

/-! ### readings by mirrors -/
def tE (Z : Wd) (E : XK) (m : Ev) : TE := fun σ H Q => ∃ env st ρ, EnvR Z H ρ env σ ∧ StR Z H ρ st ∧ PostX Z H ρ (m env st) (BE Z Q) E
def tT (Z : Wd) (E : XK) (m : Tv) : TT := fun σ H Q => ∃ env st ρ, EnvR Z H ρ env σ ∧ StR Z H ρ st ∧ PostX Z H ρ (m env st) (BT Z Q) E
def tA (Z : Wd) (E : XK) (m : Av) : TA := fun σ H Q => ∃ env st ρ, EnvR Z H ρ env σ ∧ StR Z H ρ st ∧ PostX Z H ρ (m env st) (BA Z Q) E
def tS (Z : Wd) (E : XK) (m : Sm) : TS := fun U σ H => ∃ env st ρ, EnvR Z H ρ env σ ∧ StR Z H ρ st ∧ PostX Z H ρ (m env st) (BS Z U) E
abbrev DE (X : Cx) (E : XK) (e : Expr) (m : Ev) : Prop := PE X e (tE (zx X) E m)
abbrev DT (X : Cx) (E : XK) (e : Expr) (m : Tv) : Prop := PT X e (tT (zx X) E m)
abbrev DW (X : Cx) (E : XK) (e : Expr) (m : Tv) : Prop := PW X e (tT (zx X) E m)
abbrev DA (X : Cx) (E : XK) (es : List Expr) (m : Av) : Prop := PA X es (tA (zx X) E m)
abbrev DS (X : Cx) (E : XK) (s : Stmt) (m : Sm) : Prop := PS X s (tS (zx X) E m)
abbrev DSs (X : Cx) (E : XK) (s : List Stmt) (m : Sm) : Prop := PSs X s (tS (zx X) E m)
/-- another reading that asks no more -/
theorem pe_weak {X : Cx} {e : Expr} {t t' : TE} (h : PE X e t) (c : ∀ σ H Q, t' σ H Q → t σ H Q) : PE X e t' := ⟨fun pins s σ H Q I q => h.run pins s σ H Q I (c σ H Q q)⟩
theorem pt_weak {X : Cx} {e : Expr} {t t' : TT} (h : PT X e t) (c : ∀ σ H Q, t' σ H Q → t σ H Q) : PT X e t' := ⟨fun pins s σ H Q I q => h.run pins s σ H Q I (c σ H Q q)⟩
theorem pw_weak {X : Cx} {e : Expr} {t t' : TT} (h : PW X e t) (c : ∀ σ H Q, t' σ H Q → t σ H Q) : PW X e t' := ⟨fun wh pins s σ H Q I q => h.run wh pins s σ H Q I (c σ H Q q)⟩
theorem pa_weak {X : Cx} {e : List Expr} {t t' : TA} (h : PA X e t) (c : ∀ σ H Q, t' σ H Q → t σ H Q) : PA X e t' := ⟨fun pos pins s σ H Q I q => h.run pos pins s σ H Q I (c σ H Q q)⟩
theorem ps_weak {X : Cx} {e : Stmt} {t t' : TS} (h : PS X e t) (c : ∀ Z σ H, t' Z σ H → t Z σ H) : PS X e t' := ⟨fun pins s σ H Z I q => h.run pins s σ H Z I (c Z σ H q)⟩
theorem pss_weak {X : Cx} {e : List Stmt} {t t' : TS} (h : PSs X e t) (c : ∀ Z σ H, t' Z σ H → t Z σ H) : PSs X e t' := ⟨fun pins s σ H Z I q => h.run pins s σ H Z I (c Z σ H q)⟩
end
end Px
/-! P1: data as the library's data; operators by data. -/
namespace Px
open PySem PySem.Spec
open L2
/-! ### data as PyData -/
mutual
def toPy : D → PyData
  | .non => .none
  | .bl b => .bool b
  | .int i => .int i
  | .str x => .str x
  | .tup l => .tuple (toPys l)
  | .lst l => .list (toPys l)
  | .byt _ => .dict []
  | .flt _ => .dict []
  | .dct _ _ => .dict []
  | .ins _ _ _ => .dict []
  | .mref _ => .dict []
  | .scr l => .list (l.map .int)
def toPys : List D → List PyData
  | [] => []
  | d :: l => toPy d :: toPys l
end
mutual
def isPy : D → Bool
  | .non => true
  | .bl _ => true
  | .int _ => true
  | .str _ => true
  | .tup l => isPys l
  | .lst l => isPys l
  | .byt _ => false
  | .flt _ => false
  | .dct _ _ => false
  | .ins _ _ _ => false
  | .mref _ => false
  | .scr _ => false
def isPys : List D → Bool
  | [] => true
  | d :: l => isPy d && isPys l
end
/-- plain data, not too deep -/
def okD (d : D) : Bool := isPy d && decide ((toPy d).depth ≤ 60)
mutual
theorem plain_toPy : ∀ (d : D), isPy d = true → (toPy d).plain = true
  | .non, _ => rfl
  | .bl _, _ => rfl
  | .int _, _ => rfl
  | .str _, _ => rfl
  | .tup l, h => by
    have h' : isPys l = true := h
    show PyData.plain (.tuple (toPys l)) = true
    simp only [PyData.plain]; exact plain_toPys l h'
  | .lst l, h => by
    have h' : isPys l = true := h
    show PyData.plain (.list (toPys l)) = true
    simp only [PyData.plain]; exact plain_toPys l h'
theorem plain_toPys : ∀ (l : List D), isPys l = true → PyData.plainAll (toPys l) = true
  | [], _ => rfl
  | d :: l, h => by
    have h' : (isPy d && isPys l) = true := h
    rw [Bool.and_eq_true] at h'
    show PyData.plainAll (toPy d :: toPys l) = true
    simp only [PyData.plainAll, Bool.and_eq_true]
    exact ⟨plain_toPy d h'.1, plain_toPys l h'.2⟩
end
section
variable {Z : Wd} {H H' : Hp} {ρ ρ' : Rho} {st : Store}
mutual
theorem Rep.dp : ∀ {d : D} {v : V}, isPy d = true → Rep Z H ρ d v → Dp Z.K H v (toPy d)
  | .non, v, _, h => by rw [show v = .non from h]; exact .non
  | .bl b, v, _, h => by rw [show v = .bl b from h]; exact .bl b
  | .int i, v, _, h => by rw [show v = .int i from h]; exact .int i
  | .str x, v, _, h => by rw [show v = .str x from h]; exact .str x
  | .tup l, v, q, ⟨a, xs, e, hq, r⟩ => by rw [e]; exact .tup (sqT_of hq) (Reps.dp q r)
  | .lst l, v, q, ⟨a, xs, e, hq, m, r⟩ => by rw [e]; exact .lst (.of hq) (Reps.dp q r)
theorem Reps.dp : ∀ {l : List D} {xs : List V}, isPys l = true → Reps Z H ρ l xs → DpAll Z.K H xs (toPys l)
  | [], xs, _, h => by rw [show xs = [] from h]; exact .nil
  | d :: l, xs, q, ⟨x, r, e, h, t⟩ => by
    have q' : (isPy d && isPys l) = true := q
    rw [Bool.and_eq_true] at q'
    rw [e]; exact .cons (Rep.dp q'.1 h) (Reps.dp q'.2 t)
end
theorem StR.tracked (h : StR Z H ρ st) {a : Addr} (m : a ∈ ρ) : H a ≠ none := by
  rcases m with m | m
  · obtain ⟨n, hn, e⟩ := List.getElem_of_mem m
    have hl : n < st.length := by rw [h.len]; exact hn
    obtain ⟨b, e2, q⟩ := h.at_ n _ (List.getElem?_eq_getElem hl)
    rw [List.getElem?_eq_getElem hn, e] at e2
    cases e2
    cases q3 : st[n] with
    | lst l => rw [q3] at q; obtain ⟨xs, q, _⟩ := q; rw [q]; simp
    | dct ks vs => rw [q3] at q; exact DictC.there q
    | ins c ns vs => rw [q3] at q; obtain ⟨dx, fs, q, _⟩ := q; rw [q]; simp
  · exact mut_some (h.tr a m)
theorem StR.out (h : StR Z H ρ st) {a : Addr} (e : H a = none) : a ∉ ρ := fun m => h.tracked m e
theorem MRep.grow (g : Grow H H' ρ ρ') {a : Addr} {o : MObj} (e : H' a = H a) (h : MRep Z H ρ a o) : MRep Z H' ρ' a o := by
  cases o with
  | lst l => obtain ⟨xs, q, r⟩ := h; exact ⟨xs, e.trans q, r.grow g⟩
  | dct ks vs => exact DictC.imp h (fun _ {o} _ q => e.trans q) (fun _ q => Reps.grow g q) fun _ q => Reps.grow g q
  | ins c ns vs => obtain ⟨dx, fs, q, en, r⟩ := h; exact ⟨dx, fs, e.trans q, en, r.grow g⟩
theorem ext_ne {a : Addr} {o : Obj} {es : Array DictEntry} {ep : Nat} {q : Str} (hd : o.data = .dict es ep) : HO.ext (fun h => h.get? a = some o) ≠ LamX.CodeO a q := by
  intro e
  unfold LamX.CodeO at e
  injection e with e
  have h1 : (Heap.mk (Array.replicate (a + 1) o) {}).get? a = some o := by
    unfold Heap.get?
    simp only [Array.getElem?_replicate, Nat.lt_succ_self, if_true]
    split
    · rename_i x y z e2
      cases e2
      cases hd
    · rfl
  have h2 := (congrFun e (Heap.mk (Array.replicate (a + 1) o) {})).mp h1
  obtain ⟨oc, vs, t, e1, e2, _⟩ := h2
  rw [h1] at e1
  cases e1
  rw [hd] at e2
  cases e2
theorem MRep.plain {a : Addr} {o : MObj} (h : MRep Z H ρ a o) : Plain H a := by
  cases o with
  | lst l => obtain ⟨xs, q, _⟩ := h; exact ⟨fun ps e => (by rw [q] at e; cases e), fun c e => by rw [q] at e; unfold LamX.CodeO at e; cases e⟩
  | dct ks vs =>
    rcases h with ⟨_, q, _⟩ | ⟨o, _, _, _, _, q, _, hd, _⟩
    · exact ⟨fun ps e => (by rw [q] at e; cases e), fun c e => by rw [q] at e; unfold LamX.CodeO at e; cases e⟩
    · exact ⟨fun ps e => (by rw [q] at e; cases e), fun c e => ext_ne hd (Option.some.inj (q.symm.trans e))⟩
  | ins c ns vs => obtain ⟨dx, fs, q, _⟩ := h; exact ⟨fun ps e => (by rw [q] at e; cases e), fun c e => by rw [q] at e; unfold LamX.CodeO at e; cases e⟩
theorem StR.plain (h : StR Z H ρ st) {a : Addr} (m : a ∈ ρ.own) : Plain H a := by
  obtain ⟨n, hn, e⟩ := List.getElem_of_mem m
  have hl : n < st.length := by rw [h.len]; exact hn
  obtain ⟨b, e2, q⟩ := h.at_ n _ (List.getElem?_eq_getElem hl)
  rw [List.getElem?_eq_getElem hn, e] at e2
  cases e2
  exact q.plain
theorem TabX.new {p : Addr} {o : HO} (h : TabX Z H) (hp : H p = none) : TabX Z (upd H p o) := fun x m c P e => tabs_new hp (h x m c P e)
theorem TabX.write {p : Addr} {o : HO} (h : TabX Z H) (hp : Plain H p) : TabX Z (upd H p o) := fun x m c P e => tabs_write hp (h x m c P e)
theorem StR.same (h : StR Z H ρ st) (g : Grow H H' ρ ρ) (e : ∀ a ∈ ρ.own, H' a = H a) (tb : TabX Z H') : StR Z H' ρ st :=
  ⟨h.len, h.nd, fun n o q => (let ⟨a, e1, r⟩ := h.at_ n o q; ⟨a, e1, r.grow g (e a (List.mem_of_getElem? e1))⟩), fun a m => g.mutA (h.tr a m), tb⟩
/-- a new object that may not change -/
theorem StR.put (h : StR Z H ρ st) {p : Addr} {o : HO} (hp : H p = none) : StR Z (upd H p o) ρ st :=
  h.same (.put hp) (fun a m => upd_ne fun z => h.out hp (.inl (z ▸ m))) (h.tb.new hp)
/-- a new object that may change -/
theorem StR.putM (h : StR Z H ρ st) {p : Addr} {o : HO} {m : MObj} (hp : H p = none) (r : MRep Z (upd H p o) (ρ.push p) p m) : StR Z (upd H p o) (ρ.push p) (st ++ [m]) := by
  have np : p ∉ ρ.own := fun z => h.out hp (.inl z)
  refine ⟨by show (st ++ [m]).length = (ρ.own ++ [p]).length; simp [h.len], ?_, fun n o' q => ?_, fun a ha => (Grow.put hp : Grow H _ ρ ρ).mutA (h.tr a ha), h.tb.new hp⟩
  · show (ρ.own ++ [p]).Nodup
    rw [List.nodup_append]
    exact ⟨h.nd, by simp, fun a ha b hb => by
      have : b = p := by simpa using hb
      rw [this]; rintro rfl; exact np ha⟩
  · by_cases hn : n < st.length
    · rw [List.getElem?_append_left hn] at q
      obtain ⟨a, e1, r1⟩ := h.at_ n o' q
      have ha : a ∈ ρ.own := List.mem_of_getElem? e1
      refine ⟨a, ?_, r1.grow (.putM hp) (upd_ne fun z => np (z ▸ ha))⟩
      show (ρ.own ++ [p])[n]? = _
      rw [List.getElem?_append_left (by rw [← h.len]; exact hn)]; exact e1
    · have e : n = st.length := by
        have := (List.getElem?_eq_some_iff.mp q).1
        simp at this; omega
      subst e
      rw [List.getElem?_append_right (Nat.le_refl _)] at q
      simp at q
      subst q
      refine ⟨p, ?_, r⟩
      show (ρ.own ++ [p])[st.length]? = _
      rw [h.len, List.getElem?_append_right (Nat.le_refl _)]; simp
/-- the n-th object that may change is written -/
theorem StR.write (h : StR Z H ρ st) {n : Nat} {p : Addr} {o : HO} {m : MObj} (e : ρ.own[n]? = some p) (mu : Mut (some o)) (r : MRep Z (upd H p o) ρ p m) : StR Z (upd H p o) ρ (st.set n m) := by
  have hp : p ∈ ρ.own := List.mem_of_getElem? e
  refine ⟨by simp [h.len], h.nd, fun k o' q => ?_, fun a ha => (Grow.write hp mu : Grow H _ ρ ρ).mutA (h.tr a ha), h.tb.write (h.plain hp)⟩
  by_cases hk : k = n
  · subst hk
    have hl : k < st.length := by have := (List.getElem?_eq_some_iff.mp q).1; simpa using this
    rw [List.getElem?_set_self hl] at q
    cases q
    exact ⟨p, e, r⟩
  · rw [List.getElem?_set_ne (Ne.symm hk)] at q
    obtain ⟨a, e1, r1⟩ := h.at_ k o' q
    refine ⟨a, e1, r1.grow (.write hp mu) (upd_ne ?_)⟩
    rintro rfl
    obtain ⟨h1, e2⟩ := List.getElem?_eq_some_iff.mp e
    obtain ⟨h2, e3⟩ := List.getElem?_eq_some_iff.mp e1
    exact hk ((List.getElem_inj h.nd).mp (e3.trans e2.symm))
theorem StR.lst (h : StR Z H ρ st) {n : Nat} {l : List D} (e : st[n]? = some (.lst l)) : ∃ a xs, ρ.own[n]? = some a ∧ H a = some (.lst xs) ∧ Reps Z H ρ l xs :=
  let ⟨a, e1, xs, q, r⟩ := h.at_ n _ e; ⟨a, xs, e1, q, r⟩

/-! ### what is read -/
/-- an object that may change, as it stands now -/
def rd (st : Store) : D → D
  | .mref n => match st[n]? with
    | some (.lst l) => .lst l
    | some (.dct ks vs) => .dct ks vs
    | some (.ins c ns vs) => .ins c ns vs
    | none => .mref n
  | d => d
mutual
/-- nothing in it may change -/
def still : D → Bool
  | .non => true
  | .bl _ => true
  | .int _ => true
  | .str _ => true
  | .byt _ => true
  | .flt _ => true
  | .tup l => stills l
  | .lst l => stills l
  | .dct ks vs => stills ks && stills vs
  | .ins _ _ vs => stills vs
  | .mref _ => false
  | .scr _ => true
def stills : List D → Bool
  | [] => true
  | d :: l => still d && stills l
end
mutual
theorem still_of_py : ∀ (d : D), isPy d = true → still d = true
  | .non, _ => rfl
  | .bl _, _ => rfl
  | .int _, _ => rfl
  | .str _, _ => rfl
  | .tup l, h => stills_of_py l h
  | .lst l, h => stills_of_py l h
theorem stills_of_py : ∀ (l : List D), isPys l = true → stills l = true
  | [], _ => rfl
  | d :: l, h => by
    have h' : (isPy d && isPys l) = true := h
    rw [Bool.and_eq_true] at h'
    show (still d && stills l) = true
    rw [still_of_py d h'.1, stills_of_py l h'.2]; rfl
end
mutual
/-- what may not change is the same over fewer that may -/
theorem Rep.fewer (hs : ∀ a, a ∈ ρ' → a ∈ ρ) : ∀ {d : D} {v : V}, still d = true → Rep Z H ρ d v → Rep Z H ρ' d v
  | .non, v, _, h => h
  | .bl _, v, _, h => h
  | .int _, v, _, h => h
  | .str _, v, _, h => h
  | .byt _, v, _, h => h
  | .flt _, v, _, h => h
  | .tup l, v, q, ⟨a, xs, e, hq, r⟩ => ⟨a, xs, e, hq.imp (fun z => ⟨z.1, fun m => z.2 (hs a m)⟩) id, Reps.fewer hs q r⟩
  | .lst l, v, q, ⟨a, xs, e, hq, m, r⟩ => ⟨a, xs, e, hq, fun z => m (hs a z), Reps.fewer hs q r⟩
  | .dct ks vs, v, q, ⟨a, e, m, h⟩ => by
    have q' : (stills ks && stills vs) = true := q
    rw [Bool.and_eq_true] at q'
    exact ⟨a, e, fun z => m (hs a z), h.imp (fun _ {o} _ x => x) (fun _ w => Reps.fewer hs q'.2 w) fun _ w => Reps.fewer hs q'.1 w⟩
  | .ins c ns vs, v, q, ⟨a, dx, fs, e, m, hq, en, r⟩ => ⟨a, dx, fs, e, fun z => m (hs a z), hq, en, Reps.fewer hs q r⟩
  | .scr l, v, _, ⟨a, e, q⟩ => ⟨a, e, q.imp (fun z => ⟨z.1, fun m => z.2 (hs a m)⟩) id⟩
theorem Reps.fewer (hs : ∀ a, a ∈ ρ' → a ∈ ρ) : ∀ {l : List D} {xs : List V}, stills l = true → Reps Z H ρ l xs → Reps Z H ρ' l xs
  | [], xs, _, h => h
  | d :: l, xs, q, ⟨x, r, e, h, t⟩ => by
    have q' : (still d && stills l) = true := q
    rw [Bool.and_eq_true] at q'
    exact ⟨x, r, e, Rep.fewer hs q'.1 h, Reps.fewer hs q'.2 t⟩
end
theorem Rep.look {d : D} {v : V} (hs : StR Z H ρ st) (q : still (rd st d) = true) (h : Rep Z H ρ d v) : Rep Z H .none (rd st d) v := by
  have no : ∀ a, a ∈ Rho.none → a ∈ ρ := fun a h => absurd h (Rho.not_none a)
  cases d with
  | mref n =>
    obtain ⟨a, e, ea⟩ := h
    unfold rd at q ⊢
    cases e2 : st[n]? with
    | none => simp only [e2] at q; cases q
    | some o =>
      obtain ⟨b, e3, r⟩ := hs.at_ n o e2
      rw [ea] at e3; cases e3
      cases o with
      | lst l =>
        obtain ⟨xs, e4, r⟩ := r
        simp only [e2] at q ⊢
        exact ⟨a, xs, e, e4, Rho.not_none a, Reps.fewer no q r⟩
      | dct ks vs =>
        simp only [e2] at q ⊢
        have q' : (stills ks && stills vs) = true := q
        rw [Bool.and_eq_true] at q'
        exact ⟨a, e, Rho.not_none a, DictC.imp r (fun _ {o} _ x => x) (fun _ w => Reps.fewer no q'.2 w) fun _ w => Reps.fewer no q'.1 w⟩
      | ins c ns vs =>
        simp only [e2] at q ⊢
        obtain ⟨dx, fs, e4, en, r⟩ := r
        exact ⟨a, dx, fs, e, Rho.not_none a, e4, en, Reps.fewer no q r⟩
  | _ => exact Rep.fewer no q h
/-- as plain data -/
theorem Rep.data {d : D} {v : V} (hs : StR Z H ρ st) (q : isPy (rd st d) = true) (h : Rep Z H ρ d v) : Dp Z.K H v (toPy (rd st d)) :=
  Rep.dp q (h.look hs (still_of_py _ q))
/-- a list's or tuple's items -/
def seqD (st : Store) : D → Option (List D)
  | .tup l => some l
  | .lst l => some l
  | .scr l => some (l.map .int)
  | .mref n => match st[n]? with
    | some (.lst l) => some l
    | _ => none
  | _ => none
theorem sqL_of {a : Addr} {xs : List V} (h : (Rd H a (.lst xs) ∧ a ∉ ρ) ∨ SqL Z.K (fun _ => none) a xs) : SqL Z.K H a xs := by
  rcases h with h | h
  · exact .inl h.1
  · rcases h with h | h
    · rcases h with h | ⟨o, h⟩ <;> cases h
    · exact .inr h
theorem Rep.seq {d : D} {v : V} {l : List D} (hs : StR Z H ρ st) (h : Rep Z H ρ d v) (e : seqD st d = some l) : ∃ a xs, v = .ref a ∧ (SqL Z.K H a xs ∨ SqT Z.K H a xs) ∧ Reps Z H ρ l xs := by
  unfold seqD at e
  split at e
  · cases e; obtain ⟨a, xs, e, q, r⟩ := h; exact ⟨a, xs, e, .inr (sqT_of q), r⟩
  · cases e; obtain ⟨a, xs, e, q, m, r⟩ := h; exact ⟨a, xs, e, .inl (.of q), r⟩
  · cases e; obtain ⟨a, e, q⟩ := h; exact ⟨a, _, e, .inl (sqL_of q), ints_reps⟩
  · split at e
    · cases e
      rename_i n l' e2
      obtain ⟨a, e1, e3⟩ := h
      obtain ⟨b, xs, e4, q, r⟩ := hs.lst e2
      rw [e3] at e4; cases e4
      exact ⟨a, xs, e1, .inl (.of q), r⟩
    · cases e
  · cases e
/-- a list's items, whichever of both it is -/
def lstD (st : Store) : D → Option (List D)
  | .lst l => some l
  | .mref n => match st[n]? with
    | some (.lst l) => some l
    | _ => none
  | _ => none
theorem Rep.list {d : D} {v : V} {l : List D} (hs : StR Z H ρ st) (h : Rep Z H ρ d v) (e : lstD st d = some l) : ∃ a xs, v = .ref a ∧ H a = some (.lst xs) ∧ Reps Z H ρ l xs := by
  unfold lstD at e
  split at e
  · cases e; obtain ⟨a, xs, e, q, m, r⟩ := h; exact ⟨a, xs, e, q, r⟩
  · split at e
    · cases e
      rename_i n l' e2
      obtain ⟨a, e1, e3⟩ := h
      obtain ⟨b, xs, e4, q, r⟩ := hs.lst e2
      rw [e3] at e4; cases e4
      exact ⟨a, xs, e1, q, r⟩
    · cases e
  · cases e
/-- a tuple's items -/
def tupD : D → Option (List D)
  | .tup l => some l
  | _ => none
end
end Px
/-! P2: names, constants, operators, comparisons, displays, calls by mirrors. -/
namespace Px
open PySem PySem.Spec
open L2
section
variable {X : Cx} {E : XK} {pos : Pos}
def R.opt {α : Type} : Option α → R α
  | some a => .ok a
  | none => .stuck
@[simp] theorem R.opt_some {α : Type} (a : α) : R.opt (some a) = .ok a := rfl
@[simp] theorem R.opt_none {α : Type} : (R.opt none : R α) = .stuck := rfl

/-- an expression runs, in front of what follows -/
theorem DE.go {e : Expr} {m : Ev} (he : DE X E e m) {pins : List (Addr × Obj)} {s : Shared} {σ : L2.St} {H : Hp} {ρ : Rho} {env : DEnv} {st : Store} {γ : Type} {k : D × Store → R γ} {B : γ → Hp → Rho → Prop} (I : Inv X pins σ H s)
    (hen : EnvR (zx X) H ρ env σ) (hs : StR (zx X) H ρ st) (hp : PostX (zx X) H ρ (m env st >>= k) B E) :
    wpAny (model X.prog X.w) X.A (eval e X.env) (fun u s1 => ∃ v H1 ρ1 p, Inv X pins σ H1 s1 ∧ RelV v u ∧ Grow H H1 ρ ρ1 ∧ EnvR (zx X) H1 ρ1 env σ ∧ StR (zx X) H1 ρ1 p.2 ∧ Rep (zx X) H1 ρ1 p.1 v ∧ PostX (zx X) H1 ρ1 (k p) B E) X.xe s := by
  have go := he.run pins s σ H (fun v H1 => ∃ ρ1 p, Grow H H1 ρ ρ1 ∧ StR (zx X) H1 ρ1 p.2 ∧ Rep (zx X) H1 ρ1 p.1 v ∧ PostX (zx X) H1 ρ1 (k p) B E) I ⟨env, st, ρ, hen, hs, PostX.seq hp fun p H1 ρ1 g hp1 hs1 v rv => ⟨ρ1, p, g, hs1, rv, hp1⟩⟩
  exact thn go fun u s1 ⟨v, H1, I1, r1, ρ1, p, g, hs1, rv, hp1⟩ => ⟨v, H1, ρ1, p, I1, r1, g, hen.grow g, hs1, rv, hp1⟩

/-! ### names and constants -/
def eV (i : Nat) : Ev := fun env st => match env[i]? with
  | some (some d) => .ok (d, st)
  | _ => .stuck
def eC (d : D) : Ev := fun _ st => .ok (d, st)
theorem de_v {i : Nat} {x : Str} (hN : X.N[i]? = some x) (hv : Vis X.env.scope x) (hd : (x == ("__debug__" : Str)) = false := by decide) (hcd : (x == ("__classdict__" : Str)) = false := by decide) : DE X E (.Name x pos) (eV i) :=
  pe_weak (pe_var hN hv hd hcd) fun σ H Q ⟨env, st, ρ, he, hs, hp⟩ => by
    unfold eV at hp
    split at hp
    · rename_i d e
      obtain ⟨v, h1, h2⟩ := he.at_ i d e
      exact ⟨v, h1, hp H ρ .refl hs v h2⟩
    · exact hp.elim
theorem de_c {e : Expr} {v : V} {d : D} (h : PE X e (tC v)) (r : ∀ Z H ρ, Rep Z H ρ d v) : DE X E e (eC d) :=
  pe_weak h fun σ H Q ⟨env, st, ρ, he, hs, hp⟩ => hp H ρ .refl hs v (r _ _ _)
theorem de_int {i : Int} {j : Nat} : DE X E (.Constant (.int i) j pos) (eC (.int i)) := de_c pe_int fun _ _ _ => rfl
theorem de_bl {b : Bool} {j : Nat} : DE X E (.Constant (.bool b) j pos) (eC (.bl b)) := de_c pe_bl fun _ _ _ => rfl
theorem de_non {j : Nat} : DE X E (.Constant .none j pos) (eC .non) := de_c pe_non fun _ _ _ => rfl
theorem de_str {x : Str} {j : Nat} : DE X E (.Constant (.str x) j pos) (eC (.str x)) := de_c pe_str fun _ _ _ => rfl
/-- a module's constant that is no object -/
theorem de_glob {x : Str} {v : V} {u : Value} {d : D} (hg : Gl X x) (hm : X.mg x = some u) (r : RelV v u) (rd : ∀ Z H ρ, Rep Z H ρ d v) (hd : (x == ("__debug__" : Str)) = false := by decide) : DE X E (.Name x pos) (eC d) :=
  de_c (pe_glob hg hm r hd) rd

/-! ### two operands -/
abbrev F2 := Store → D → D → Option D
def rD (Z : Wd) (g : F2) : R2 := fun xv yv H Q => ∃ ρ st x y d, StR Z H ρ st ∧ Rep Z H ρ x xv ∧ Rep Z H ρ y yv ∧ g st x y = some d ∧
  ∀ z H', Grow H H' ρ ρ → StR Z H' ρ st → Rep Z H' ρ d z → Q z H'
def eOp2 (g : F2) (a b : Ev) : Ev := fun env st => a env st >>= fun p => b env p.2 >>= fun q => R.opt (g q.2 p.1 q.1) >>= fun d => .ok (d, q.2)
theorem tOp_of {g : F2} {ma mb : Ev} {σ : L2.St} {H : Hp} {Q : VK} (h : tE (zx X) E (eOp2 g ma mb) σ H Q) : tOp (rD (zx X) g) (tE (zx X) E ma) (tE (zx X) E mb) σ H Q := by
  obtain ⟨env, st, ρ, he, hs, hp⟩ := h
  refine ⟨env, st, ρ, he, hs, PostX.seq hp fun p H1 ρ1 g1 hp1 hs1 v rv => ?_⟩
  refine ⟨env, p.2, ρ1, he.grow g1, hs1, PostX.seq hp1 fun q H2 ρ2 g2 hp2 hs2 w rw => ?_⟩
  cases e : g q.2 p.1 q.1 with
  | none => simp only [e] at hp2; exact hp2.elim
  | some d =>
    simp only [e] at hp2
    exact ⟨ρ2, q.2, p.1, q.1, d, hs2, rv.grow g2, rw, e, fun z H' k hs' r => hp2 H' ρ2 k hs' z r⟩
theorem de_op {op : Operator} {g : F2} {a b : Expr} {ma mb : Ev} (ho : OpR X (binaryOp op) (rD (zx X) g)) (ha : DE X E a ma) (hb : DE X E b mb) : DE X E (.BinOp a op b pos) (eOp2 g ma mb) :=
  pe_weak (pe_op ho ha hb) fun _ _ _ h => tOp_of h
theorem de_cmp {op : CmpOp} {g : F2} {a b : Expr} {ma mb : Ev} (ho : OpR X (compareOp op) (rD (zx X) g)) (ha : DE X E a ma) (hb : DE X E b mb) (hm : behindInMarks op b = false := by first | exact nomark _ | rfl) : DE X E (.Compare a [op] [b] pos) (eOp2 g ma mb) :=
  pe_weak (pe_cmpR ho ha hb hm) fun _ _ _ h => tOp_of h
/-- by cases of what the data are -/
theorem opR_of {f : Value → Value → Sem Value} {g : F2} (h : ∀ {pins s σ H ρ st x y v u d} {xv yv : V} {Q : VK}, Inv X pins σ H s → StR (zx X) H ρ st → Rep (zx X) H ρ x xv → RelV xv v → Rep (zx X) H ρ y yv → RelV yv u → g st x y = some d →
    (∀ z H', Grow H H' ρ ρ → StR (zx X) H' ρ st → Rep (zx X) H' ρ d z → Q z H') → wpAny (model X.prog X.w) X.A (f v u) (EP X pins σ Q) X.xe s) : OpR X f (rD (zx X) g) :=
  fun pins s σ H xv yv v u Q I r1 r2 ⟨ρ, st, x, y, d, hs, h1, h2, e, q⟩ => h I hs h1 r1 h2 r2 e q

/-! ### arithmetic -/
def LINE : Nat := 16777216
theorem line_eq : sizeLine = LINE := by rw [PySem.sizeLine_eq]; rfl
def dAdd : F2 := fun st x y => match x, y with
  | .int i, .int j => some (.int (i + j))
  | .tup a, .tup b => if a.length + b.length ≤ LINE then some (.tup (a ++ b)) else none
  | x, y => match lstD st x, lstD st y with
    | some a, some b => if a.length + b.length ≤ LINE then some (.lst (a ++ b)) else none
    | _, _ => none
def dSub : F2 := fun _ x y => match x, y with
  | .int i, .int j => some (.int (i - j))
  | _, _ => none
def dMul : F2 := fun st x y => match x, y with
  | .int i, .int j => if (-(2 ^ 64) < i ∧ i < 2 ^ 64) ∨ (-(2 ^ 64) < j ∧ j < 2 ^ 64) then some (.int (i * j)) else none
  | x, .int k => match lstD st x with
    | some a => if 0 ≤ k ∧ k ≤ 1000 ∧ a.length * k.toNat ≤ LINE then some (.lst ((List.replicate k.toNat a).flatten)) else none
    | none => none
  | _, _ => none
def dDiv : F2 := fun _ x y => match x, y with
  | .int i, .int j => if j ≠ 0 ∧ j.natAbs < 1073741824 then some (.int (i.fdiv j)) else none
  | _, _ => none
def dMod : F2 := fun _ x y => match x, y with
  | .int i, .int j => if j ≠ 0 then some (.int (i.fmod j)) else none
  | _, _ => none
def dPow : F2 := fun _ x y => match x, y with
  | .int i, .int j => if 0 ≤ j ∧ j ≤ 1000 ∧ i.natAbs < 2 ^ 64 then some (.int (i ^ j.toNat)) else none
  | _, _ => none
def dShl : F2 := fun _ x y => match x, y with
  | .int i, .int j => if 0 ≤ j ∧ j ≤ 1000 ∧ i.natAbs < 2 ^ 64 then some (.int (i * 2 ^ j.toNat)) else none
  | _, _ => none
def dShr : F2 := fun _ x y => match x, y with
  | .int i, .int j => if 0 ≤ j then some (.int (i / 2 ^ j.toNat)) else none
  | _, _ => none
def dAnd : F2 := fun _ x y => match x, y with
  | .int i, .int j => some (.int (Builtin.bitAnd i j))
  | _, _ => none
theorem Reps.nil {Z : Wd} {H : Hp} {ρ : Rho} {l : List D} (h : Reps Z H ρ l []) : l = [] := by
  have := h.len
  exact List.eq_nil_of_length_eq_zero this.symm
/-- a new list, a new tuple -/
theorem q_lst {Z : Wd} {H : Hp} {ρ : Rho} {st : Store} {l : List D} {xs : List V} {p : Addr} {Q : VK} (hs : StR Z H ρ st) (q : ∀ z H', Grow H H' ρ ρ → StR Z H' ρ st → Rep Z H' ρ (.lst l) z → Q z H') (r : Reps Z H ρ l xs) (hp : H p = none) : Q (.ref p) (upd H p (.lst xs)) :=
  q _ _ (.put hp) (hs.put hp) ⟨p, xs, rfl, upd_same, hs.out hp, r.grow (.put hp)⟩
theorem q_tup {Z : Wd} {H : Hp} {ρ : Rho} {st : Store} {l : List D} {xs : List V} {p : Addr} {Q : VK} (hs : StR Z H ρ st) (q : ∀ z H', Grow H H' ρ ρ → StR Z H' ρ st → Rep Z H' ρ (.tup l) z → Q z H') (r : Reps Z H ρ l xs) (hp : H p = none) : Q (.ref p) (upd H p (.tup xs)) :=
  q _ _ (.put hp) (hs.put hp) ⟨p, xs, rfl, .inl ⟨.inl upd_same, hs.out hp⟩, r.grow (.put hp)⟩
theorem o_add : OpR X (binaryOp .Add) (rD (zx X) dAdd) := opR_of fun {pins s σ H ρ st x y v u d xv yv Q} I hs h1 r1 h2 r2 e q => by
  unfold dAdd at e
  split at e
  · cases e
    obtain rfl : xv = V.int _ := h1
    obtain rfl : yv = V.int _ := h2
    exact op_add pins s σ H _ _ v u Q I r1 r2 ⟨_, _, rfl, rfl, q _ _ .refl hs rfl⟩
  · split at e
    · rename_i hz
      cases e
      obtain ⟨a, xs, rfl, q1, w1⟩ := h1
      obtain ⟨b, ys, rfl, q2, w2⟩ := h2
      refine op_catA pins s σ H _ _ v u Q I r1 r2 ⟨a, b, xs, ys, rfl, rfl, sqT_of q1, sqT_of q2, by rw [w1.len, w2.len, line_eq]; exact hz, fun n => ?_, fun n m => ?_, fun n m p hp => ?_⟩
      · rw [n] at w1
        rw [w1.nil] at q
        exact q _ _ .refl hs ⟨b, ys, rfl, q2, w2⟩
      · rw [m] at w2
        rw [w2.nil, List.append_nil] at q
        exact q _ _ .refl hs ⟨a, xs, rfl, q1, w1⟩
      · exact q_tup hs q (w1.append w2) hp
    · cases e
  · split at e
    · split at e
      · rename_i l1 l2 e1 e2 hz
        cases e
        obtain ⟨a, xs, rfl, q1, w1⟩ := h1.list hs e1
        obtain ⟨b, ys, rfl, q2, w2⟩ := h2.list hs e2
        exact op_cat pins s σ H _ _ v u Q I r1 r2 ⟨a, b, xs, ys, rfl, rfl, q1, q2, by rw [w1.len, w2.len, line_eq]; exact hz, fun p hp => q_lst hs q (w1.append w2) hp⟩
      · cases e
    · cases e
theorem o_sub : OpR X (binaryOp .Sub) (rD (zx X) dSub) := opR_of fun {pins s σ H ρ st x y v u d xv yv Q} I hs h1 r1 h2 r2 e q => by
  unfold dSub at e
  split at e
  · cases e
    obtain rfl : xv = V.int _ := h1
    obtain rfl : yv = V.int _ := h2
    exact op_sub pins s σ H _ _ v u Q I r1 r2 ⟨_, _, rfl, rfl, q _ _ .refl hs rfl⟩
  · cases e
theorem o_mul : OpR X (binaryOp .Mult) (rD (zx X) dMul) := opR_of fun {pins s σ H ρ st x y v u d xv yv Q} I hs h1 r1 h2 r2 e q => by
  unfold dMul at e
  split at e
  · split at e
    · rename_i hz
      cases e
      obtain rfl : xv = V.int _ := h1
      obtain rfl : yv = V.int _ := h2
      exact op_mul pins s σ H _ _ v u Q I r1 r2 ⟨_, _, rfl, rfl, hz, q _ _ .refl hs rfl⟩
    · cases e
  · split at e
    · split at e
      · rename_i l e1 hz
        cases e
        obtain ⟨a, xs, rfl, q1, w1⟩ := h1.list hs e1
        obtain rfl : yv = V.int _ := h2
        refine op_rep pins s σ H _ _ v u Q I r1 r2 ⟨a, _, xs, rfl, rfl, q1, by omega, by omega, by rw [w1.len, line_eq]; exact hz.2.2, fun p hp => ?_⟩
        have many : ∀ n : Nat, Reps (zx X) H ρ ((List.replicate n l).flatten) ((List.replicate n xs).flatten) := by
          intro n
          induction n with
          | zero => exact rfl
          | succ n ih =>
            rw [List.replicate_succ, List.replicate_succ, List.flatten_cons, List.flatten_cons]
            exact w1.append ih
        exact q_lst hs q (many _) hp
      · cases e
    · cases e
  · cases e
theorem o_div : OpR X (binaryOp .FloorDiv) (rD (zx X) dDiv) := opR_of fun {pins s σ H ρ st x y v u d xv yv Q} I hs h1 r1 h2 r2 e q => by
  unfold dDiv at e
  split at e
  · split at e
    · rename_i hz
      cases e
      obtain rfl : xv = V.int _ := h1
      obtain rfl : yv = V.int _ := h2
      exact op_fdivN pins s σ H _ _ v u Q I r1 r2 ⟨_, _, rfl, rfl, hz, q _ _ .refl hs rfl⟩
    · cases e
  · cases e
theorem o_mod : OpR X (binaryOp .Mod) (rD (zx X) dMod) := opR_of fun {pins s σ H ρ st x y v u d xv yv Q} I hs h1 r1 h2 r2 e q => by
  unfold dMod at e
  split at e
  · split at e
    · rename_i hz
      cases e
      obtain rfl : xv = V.int _ := h1
      obtain rfl : yv = V.int _ := h2
      exact op_modN pins s σ H _ _ v u Q I r1 r2 ⟨_, _, rfl, rfl, hz, q _ _ .refl hs rfl⟩
    · cases e
  · cases e
theorem o_pow : OpR X (binaryOp .Pow) (rD (zx X) dPow) := opR_of fun {pins s σ H ρ st x y v u d xv yv Q} I hs h1 r1 h2 r2 e q => by
  unfold dPow at e
  split at e
  · split at e
    · rename_i hz
      cases e
      obtain rfl : xv = V.int _ := h1
      obtain rfl : yv = V.int _ := h2
      exact op_pow pins s σ H _ _ v u Q I r1 r2 ⟨_, _, rfl, rfl, ⟨hz.1, by omega, hz.2.2⟩, q _ _ .refl hs rfl⟩
    · cases e
  · cases e
theorem o_shl : OpR X (binaryOp .LShift) (rD (zx X) dShl) := opR_of fun {pins s σ H ρ st x y v u d xv yv Q} I hs h1 r1 h2 r2 e q => by
  unfold dShl at e
  split at e
  · split at e
    · rename_i hz
      cases e
      obtain rfl : xv = V.int _ := h1
      obtain rfl : yv = V.int _ := h2
      exact op_shl pins s σ H _ _ v u Q I r1 r2 ⟨_, _, rfl, rfl, ⟨hz.1, by omega, hz.2.2⟩, q _ _ .refl hs rfl⟩
    · cases e
  · cases e
theorem o_shr : OpR X (binaryOp .RShift) (rD (zx X) dShr) := opR_of fun {pins s σ H ρ st x y v u d xv yv Q} I hs h1 r1 h2 r2 e q => by
  unfold dShr at e
  split at e
  · split at e
    · rename_i hz
      cases e
      obtain rfl : xv = V.int _ := h1
      obtain rfl : yv = V.int _ := h2
      exact op_shr pins s σ H _ _ v u Q I r1 r2 ⟨_, _, rfl, rfl, hz, q _ _ .refl hs rfl⟩
    · cases e
  · cases e
theorem o_and : OpR X (binaryOp .BitAnd) (rD (zx X) dAnd) := opR_of fun {pins s σ H ρ st x y v u d xv yv Q} I hs h1 r1 h2 r2 e q => by
  unfold dAnd at e
  split at e
  · cases e
    obtain rfl : xv = V.int _ := h1
    obtain rfl : yv = V.int _ := h2
    exact op_and pins s σ H _ _ v u Q I r1 r2 ⟨_, _, rfl, rfl, q _ _ .refl hs rfl⟩
  · cases e
def eNeg (a : Ev) : Ev := fun env st => a env st >>= fun p => match p.1 with
  | .int i => .ok (.int (-i), p.2)
  | _ => .stuck
theorem de_neg {a : Expr} {ma : Ev} (ha : DE X E a ma) : DE X E (.UnaryOp .USub a pos) (eNeg ma) :=
  pe_weak (pe_un un_neg ha) fun σ H Q ⟨env, st, ρ, he, hs, hp⟩ => ⟨env, st, ρ, he, hs, PostX.seq hp fun p H1 ρ1 g1 hp1 hs1 v rv => by
    split at hp1
    · rename_i i e
      rw [e] at rv
      exact ⟨i, rv, hp1 H1 ρ1 .refl hs1 _ rfl⟩
    · exact hp1.elim⟩

/-! ### comparisons -/
def notNone : PyData → Bool
  | .none => false
  | _ => true
theorem notNone_ne {p : PyData} (h : notNone p = true) : p ≠ .none := by
  rintro rfl; cases h
def dEqB (st : Store) (x y : D) : Option Bool := if okD (rd st x) = true ∧ okD (rd st y) = true then some (PyData.eqv (toPy (rd st x)) (toPy (rd st y))) else none
def dEq : F2 := fun st x y => (dEqB st x y).map .bl
def dNe : F2 := fun st x y => (dEqB st x y).map fun b => .bl (!b)
def dLtB (st : Store) (x y : D) : Option Bool := if okD (rd st x) = true ∧ okD (rd st y) = true ∧ PySem.W.alike (toPy (rd st x)) (toPy (rd st y)) = true ∧ notNone (toPy (rd st x)) = true then some (PySem.W.dataLt (toPy (rd st x)) (toPy (rd st y))) else none
def dGtB (st : Store) (x y : D) : Option Bool := if okD (rd st x) = true ∧ okD (rd st y) = true ∧ PySem.W.alike (toPy (rd st x)) (toPy (rd st y)) = true ∧ notNone (toPy (rd st x)) = true then some (PySem.W.dataLt (toPy (rd st y)) (toPy (rd st x))) else none
def dLt : F2 := fun st x y => (dLtB st x y).map .bl
def dGt : F2 := fun st x y => (dGtB st x y).map .bl
def dLe : F2 := fun st x y => (dGtB st x y).map fun b => .bl (!b)
def dGe : F2 := fun st x y => (dLtB st x y).map fun b => .bl (!b)
theorem okD_py {d : D} (h : okD d = true) : isPy d = true := (Bool.and_eq_true_iff.mp h).1
theorem okD_dep {d : D} (h : okD d = true) : (toPy d).depth ≤ 60 := of_decide_eq_true (Bool.and_eq_true_iff.mp h).2
section
variable (hu : X.A.units + 64 < cLine)
include hu
theorem o_eq : OpR X (compareOp .Eq) (rD (zx X) dEq) := opR_of fun {pins s σ H ρ st x y v u d xv yv Q} I hs h1 r1 h2 r2 e q => by
  unfold dEq dEqB at e
  split at e
  · rename_i hz
    cases e
    obtain ⟨as, w1⟩ := Dp.reads I _ _ v (h1.data hs (okD_py hz.1)) r1
    obtain ⟨bs, w2⟩ := Dp.reads I _ _ u (h2.data hs (okD_py hz.2)) r2
    have := okD_dep hz.1
    exact PySem.SeqAt.eq_plain w1 w2 (plain_toPy _ (okD_py hz.1)) (plain_toPy _ (okD_py hz.2)) (by omega) ⟨.bl _, H, I, rfl, q _ _ .refl hs rfl⟩
  · cases e
theorem o_ne : OpR X (compareOp .NotEq) (rD (zx X) dNe) := opR_of fun {pins s σ H ρ st x y v u d xv yv Q} I hs h1 r1 h2 r2 e q => by
  unfold dNe dEqB at e
  split at e
  · rename_i hz
    cases e
    obtain ⟨as, w1⟩ := Dp.reads I _ _ v (h1.data hs (okD_py hz.1)) r1
    obtain ⟨bs, w2⟩ := Dp.reads I _ _ u (h2.data hs (okD_py hz.2)) r2
    have := okD_dep hz.1
    exact PySem.SeqAt.ne_plain w1 w2 (plain_toPy _ (okD_py hz.1)) (plain_toPy _ (okD_py hz.2)) (by omega) ⟨.bl _, H, I, rfl, q _ _ .refl hs rfl⟩
  · cases e
theorem o_lt : OpR X (compareOp .Lt) (rD (zx X) dLt) := opR_of fun {pins s σ H ρ st x y v u d xv yv Q} I hs h1 r1 h2 r2 e q => by
  unfold dLt dLtB at e
  split at e
  · rename_i hz
    cases e
    obtain ⟨as, w1⟩ := Dp.reads I _ _ v (h1.data hs (okD_py hz.1)) r1
    obtain ⟨bs, w2⟩ := Dp.reads I _ _ u (h2.data hs (okD_py hz.2.1)) r2
    have := okD_dep hz.1
    exact PySem.W.lt_data w1 w2 hz.2.2.1 (notNone_ne hz.2.2.2) (by omega) ⟨.bl _, H, I, rfl, q _ _ .refl hs rfl⟩
  · cases e
theorem o_ge : OpR X (compareOp .GtE) (rD (zx X) dGe) := opR_of fun {pins s σ H ρ st x y v u d xv yv Q} I hs h1 r1 h2 r2 e q => by
  unfold dGe dLtB at e
  split at e
  · rename_i hz
    cases e
    obtain ⟨as, w1⟩ := Dp.reads I _ _ v (h1.data hs (okD_py hz.1)) r1
    obtain ⟨bs, w2⟩ := Dp.reads I _ _ u (h2.data hs (okD_py hz.2.1)) r2
    have := okD_dep hz.1
    exact PySem.W.ge_data w1 w2 hz.2.2.1 (notNone_ne hz.2.2.2) (by omega) ⟨.bl _, H, I, rfl, q _ _ .refl hs rfl⟩
  · cases e
theorem o_gt : OpR X (compareOp .Gt) (rD (zx X) dGt) := opR_of fun {pins s σ H ρ st x y v u d xv yv Q} I hs h1 r1 h2 r2 e q => by
  unfold dGt dGtB at e
  split at e
  · rename_i hz
    cases e
    obtain ⟨as, w1⟩ := Dp.reads I _ _ v (h1.data hs (okD_py hz.1)) r1
    obtain ⟨bs, w2⟩ := Dp.reads I _ _ u (h2.data hs (okD_py hz.2.1)) r2
    have := okD_dep hz.1
    exact PySem.W.gt_data w1 w2 hz.2.2.1 (notNone_ne hz.2.2.2) (by omega) ⟨.bl _, H, I, rfl, q _ _ .refl hs rfl⟩
  · cases e
theorem o_le : OpR X (compareOp .LtE) (rD (zx X) dLe) := opR_of fun {pins s σ H ρ st x y v u d xv yv Q} I hs h1 r1 h2 r2 e q => by
  unfold dLe dGtB at e
  split at e
  · rename_i hz
    cases e
    obtain ⟨as, w1⟩ := Dp.reads I _ _ v (h1.data hs (okD_py hz.1)) r1
    obtain ⟨bs, w2⟩ := Dp.reads I _ _ u (h2.data hs (okD_py hz.2.1)) r2
    have := okD_dep hz.1
    exact PySem.W.le_data w1 w2 hz.2.2.1 (notNone_ne hz.2.2.2) (by omega) ⟨.bl _, H, I, rfl, q _ _ .refl hs rfl⟩
  · cases e
end
end
end Px
/-! P3: dicts by data: what stands in them, what is stored. -/
namespace Px
open PySem PySem.Spec
open L2
/-! ### keys -/
def isLeaf : D → Bool
  | .int _ => true
  | .str _ => true
  | _ => false
mutual
def toKey : D → Option NestedKey
  | .non => some .none
  | .int i => some (.num i)
  | .str x => some (.text x)
  | .tup l => (toKeys l).map .tup
  | .bl _ => none
  | .byt _ => none
  | .flt _ => none
  | .lst _ => none
  | .dct _ _ => none
  | .ins _ _ _ => none
  | .mref _ => none
  | .scr _ => none
def toKeys : List D → Option (List NestedKey)
  | [] => some []
  | d :: l => match toKey d, toKeys l with
    | some k, some ks => some (k :: ks)
    | _, _ => none
end
def leafKey : D → Option Key
  | .int i => some (.inl i)
  | .str x => some (.inr x)
  | _ => none
def tupKey : D → Option NestedKey
  | .tup l => match toKey (.tup l) with
    | some n => if n.depth ≤ 8 then some n else none
    | none => none
  | _ => none
/-- may be a key -/
def keyOk (k : D) : Bool := (leafKey k).isSome || (tupKey k).isSome
/-- a key of the sort of those that are there -/
def sortOk (ks : List D) (k : D) : Bool := match ks with
  | [] => true
  | j :: _ => isLeaf j == isLeaf k
def keq (a b : D) : Bool := PyData.eqv (toPy a) (toPy b)
mutual
theorem toKey_of : ∀ (d : D) (n : NestedKey), toKey d = some n → d = ofKey n
  | .non, n, h => by cases h; rfl
  | .int i, n, h => by cases h; rfl
  | .str x, n, h => by cases h; rfl
  | .tup l, n, h => by
    have h' : (toKeys l).map NestedKey.tup = some n := h
    cases e : toKeys l with
    | none => rw [e] at h'; cases h'
    | some ks =>
      rw [e] at h'; cases h'
      rw [toKeys_of l ks e]; rfl
theorem toKeys_of : ∀ (l : List D) (ns : List NestedKey), toKeys l = some ns → l = ofKeys ns
  | [], ns, h => by cases h; rfl
  | d :: l, ns, h => by
    have h' : (match toKey d, toKeys l with | some k, some ks => some (k :: ks) | _, _ => none) = some ns := h
    cases e1 : toKey d with
    | none => rw [e1] at h'; cases h'
    | some k =>
      cases e2 : toKeys l with
      | none => rw [e1, e2] at h'; cases h'
      | some ks =>
        rw [e1, e2] at h'; cases h'
        rw [toKey_of d k e1, toKeys_of l ks e2]; rfl
end
mutual
theorem toPy_of : ∀ n : NestedKey, toPy (ofKey n) = n.data
  | .none => rfl
  | .num i => rfl
  | .text x => rfl
  | .tup ks => by
    show PyData.tuple (toPys (ofKeys ks)) = PyData.tuple (NestedKey.datas ks)
    rw [toPys_of ks]
theorem toPys_of : ∀ ns : List NestedKey, toPys (ofKeys ns) = NestedKey.datas ns
  | [] => rfl
  | n :: ns => by
    show toPy (ofKey n) :: toPys (ofKeys ns) = NestedKey.data n :: NestedKey.datas ns
    rw [toPy_of n, toPys_of ns]
end
mutual
theorem eqv_data : ∀ a b : NestedKey, PyData.eqv a.data b.data = NestedKey.beq a b
  | .none, b => by cases b <;> simp [NestedKey.data, PyData.eqv, NestedKey.beq]
  | .num i, b => by
    cases b with
    | num j => simp only [NestedKey.data, PyData.eqv, NestedKey.beq]; exact Bool.beq_eq_decide_eq i j
    | _ => simp [NestedKey.data, PyData.eqv, NestedKey.beq]
  | .text x, b => by
    cases b with
    | text y => simp only [NestedKey.data, PyData.eqv, NestedKey.beq]; exact Bool.beq_eq_decide_eq x y
    | _ => simp [NestedKey.data, PyData.eqv, NestedKey.beq]
  | .tup ks, b => by
    cases b with
    | tup js => simp only [NestedKey.data, PyData.eqv, NestedKey.beq]; exact eqv_datas ks js
    | _ => simp [NestedKey.data, PyData.eqv, NestedKey.beq]
theorem eqv_datas : ∀ a b : List NestedKey, PyData.eqvAll (NestedKey.datas a) (NestedKey.datas b) = NestedKey.beqAll a b
  | [], [] => by simp [NestedKey.datas, PyData.eqvAll, NestedKey.beqAll]
  | [], _ :: _ => by simp [NestedKey.datas, PyData.eqvAll, NestedKey.beqAll]
  | _ :: _, [] => by simp [NestedKey.datas, PyData.eqvAll, NestedKey.beqAll]
  | a :: as, b :: bs => by simp only [NestedKey.datas, PyData.eqvAll, NestedKey.beqAll, eqv_data a b, eqv_datas as bs]
end
theorem keq_of (a b : NestedKey) : keq (ofKey a) (ofKey b) = decide (a = b) := by
  unfold keq; rw [toPy_of, toPy_of, eqv_data, NestedKey.decide_eq]
theorem keq_leaf (a b : Key) : keq (keyD a) (keyD b) = decide (a = b) := by
  cases a with
  | inl i => cases b with
    | inl j => unfold keq; simp only [keyD, toPy, PyData.eqv]; rw [key_ll]
    | inr y => unfold keq; simp only [keyD, toPy, PyData.eqv]; rw [key_lr]
  | inr x => cases b with
    | inl j => unfold keq; simp only [keyD, toPy, PyData.eqv]; rw [key_rl]
    | inr y => unfold keq; simp only [keyD, toPy, PyData.eqv]; rw [key_rr, Bool.beq_eq_decide_eq]
theorem leafKey_of {d : D} {k : Key} (h : leafKey d = some k) : d = keyD k := by
  cases d <;> cases h <;> rfl
theorem tupKey_of {d : D} {n : NestedKey} (h : tupKey d = some n) : d = ofKey n ∧ n.depth ≤ 8 ∧ isLeaf d = false ∧ ∃ ns, n = .tup ns := by
  unfold tupKey at h
  split at h
  · rename_i l
    split at h
    · rename_i m e
      split at h
      · cases h
        refine ⟨toKey_of _ _ e, by assumption, rfl, ?_⟩
        have e' : (toKeys l).map NestedKey.tup = some n := e
        cases q : toKeys l with
        | none => rw [q] at e'; cases e'
        | some ks => rw [q] at e'; cases e'; exact ⟨ks, rfl⟩
      · cases h
    · cases h
  · cases h
theorem isLeaf_keyD (k : Key) : isLeaf (keyD k) = true := by cases k <;> rfl

/-! ### a dict's content as two lists -/
def dLook : List D → List D → D → Option D
  | j :: ks, v :: vs, k => if keq j k = true then some v else dLook ks vs k
  | _, _, _ => none
def dSet : List D → List D → D → D → List D × List D
  | j :: ks, v :: vs, k, d => if keq j k = true then (j :: ks, d :: vs) else (j :: (dSet ks vs k d).1, v :: (dSet ks vs k d).2)
  | _, _, k, d => ([k], [d])
section
variable {Z : Wd} {H : Hp} {ρ : Rho}
theorem look_leaf (k : Key) : ∀ (kvs : List (Key × V)) (vs : List D), Reps Z H ρ vs (kvs.map (·.2)) → (dLook (kvs.map fun p => keyD p.1) vs (keyD k) = none ∧ valV kvs k = none) ∨
    ∃ d v, dLook (kvs.map fun p => keyD p.1) vs (keyD k) = some d ∧ valV kvs k = some v ∧ Rep Z H ρ d v
  | [], vs, h => by
    left
    have : vs = [] := Reps.nil h
    subst this; exact ⟨rfl, rfl⟩
  | p :: kvs, [], h => by cases (show (p :: kvs).map (·.2) = [] from h)
  | p :: kvs, d :: vs, ⟨x, r, e, h1, h2⟩ => by
    simp only [List.map_cons, List.cons.injEq] at e
    obtain ⟨rfl, rfl⟩ := e
    by_cases q : p.1 = k
    · right
      refine ⟨d, p.2, ?_, valV_pos q, h1⟩
      show (if keq (keyD p.1) (keyD k) = true then some d else _) = some d
      rw [if_pos (by rw [keq_leaf]; exact decide_eq_true q)]
    · have e1 : dLook ((p :: kvs).map fun p => keyD p.1) (d :: vs) (keyD k) = dLook (kvs.map fun p => keyD p.1) vs (keyD k) := by
        show (if keq (keyD p.1) (keyD k) = true then some d else _) = _
        rw [if_neg (by rw [keq_leaf, decide_eq_false q]; decide)]
      rw [e1, valV_neg q]
      exact look_leaf k kvs vs h2
theorem putK_cons_pos {p : Key × V} {kvs : List (Key × V)} {k : Key} {v : V} (e : p.1 = k) (hn : k ∉ kvs.map (·.1)) : putK (p :: kvs) k v = (k, v) :: kvs := by
  unfold putK
  rw [if_pos (by simp [e]), List.map_cons, if_pos e, e]
  congr 1
  have e2 : kvs.map (fun kv => if kv.1 = k then (kv.1, v) else kv) = kvs.map id := List.map_congr_left fun q hq => if_neg fun z => hn (List.mem_map.mpr ⟨q, hq, z⟩)
  rw [e2, List.map_id]
theorem putK_cons_neg {p : Key × V} {kvs : List (Key × V)} {k : Key} {v : V} (e : ¬ p.1 = k) : putK (p :: kvs) k v = p :: putK kvs k v := by
  unfold putK
  rw [List.any_cons, decide_eq_false e, Bool.false_or]
  split
  · rw [List.map_cons, if_neg e]
  · rfl
theorem set_leaf (k : Key) {d : D} {v : V} (r : Rep Z H ρ d v) : ∀ (kvs : List (Key × V)) (vs : List D), (kvs.map (·.1)).Nodup → Reps Z H ρ vs (kvs.map (·.2)) →
    (dSet (kvs.map fun p => keyD p.1) vs (keyD k) d).1 = (putK kvs k v).map (fun p => keyD p.1) ∧ Reps Z H ρ (dSet (kvs.map fun p => keyD p.1) vs (keyD k) d).2 ((putK kvs k v).map (·.2))
  | [], vs, _, h => by
    have : vs = [] := Reps.nil h
    subst this
    exact ⟨rfl, .one r⟩
  | p :: kvs, [], _, h => by cases (show (p :: kvs).map (·.2) = [] from h)
  | p :: kvs, d' :: vs, hn, ⟨x, r', e, h1, h2⟩ => by
    simp only [List.map_cons, List.cons.injEq] at e
    obtain ⟨rfl, rfl⟩ := e
    rw [List.map_cons, List.nodup_cons] at hn
    by_cases q : p.1 = k
    · have e1 : dSet ((p :: kvs).map fun p => keyD p.1) (d' :: vs) (keyD k) d = (keyD p.1 :: kvs.map fun p => keyD p.1, d :: vs) := by
        show (if keq (keyD p.1) (keyD k) = true then _ else _) = _
        rw [if_pos (by rw [keq_leaf]; exact decide_eq_true q)]
      rw [e1, putK_cons_pos q (by rw [← q]; exact hn.1), ← q]
      exact ⟨rfl, _, _, rfl, r, h2⟩
    · obtain ⟨i1, i2⟩ := set_leaf k r kvs vs hn.2 h2
      have e1 : dSet ((p :: kvs).map fun p => keyD p.1) (d' :: vs) (keyD k) d = (keyD p.1 :: (dSet (kvs.map fun p => keyD p.1) vs (keyD k) d).1, d' :: (dSet (kvs.map fun p => keyD p.1) vs (keyD k) d).2) := by
        show (if keq (keyD p.1) (keyD k) = true then _ else _) = _
        rw [if_neg (by rw [keq_leaf, decide_eq_false q]; decide)]
      rw [e1, putK_cons_neg q]
      exact ⟨by rw [List.map_cons, i1], _, _, rfl, h1, i2⟩
abbrev NX := List (NestedKey × Addr × Value)
theorem look_tup (n : NestedKey) : ∀ (xs : NX) (vs : List D) (vvs : List V), Vals vvs (xs.map (·.2.2)) → Reps Z H ρ vs vvs → (dLook (xs.map fun x => ofKey x.1) vs (ofKey n) = none ∧ atKey xs n = none) ∨
    ∃ d v p, dLook (xs.map fun x => ofKey x.1) vs (ofKey n) = some d ∧ atKey xs n = some p ∧ RelV v p.2 ∧ Rep Z H ρ d v
  | [], vs, vvs, _, _ => by
    left
    exact ⟨by cases vs <;> rfl, rfl⟩
  | x :: xs, vs, vvs, h, h' => by
    cases h with
    | @cons v _ vvs' _ rv rt =>
      cases vs with
      | nil => cases (show (v :: vvs') = [] from h')
      | cons d vs =>
        obtain ⟨y, r, e, h1, h2⟩ := h'
        simp only [List.cons.injEq] at e
        obtain ⟨rfl, rfl⟩ := e
        by_cases q : x.1 = n
        · right
          refine ⟨d, v, x.2, ?_, by simp [atKey, q], rv, h1⟩
          show (if keq (ofKey x.1) (ofKey n) = true then some d else _) = some d
          rw [if_pos (by rw [keq_of]; exact decide_eq_true q)]
        · have e1 : dLook ((x :: xs).map fun x => ofKey x.1) (d :: vs) (ofKey n) = dLook (xs.map fun x => ofKey x.1) vs (ofKey n) := by
            show (if keq (ofKey x.1) (ofKey n) = true then some d else _) = _
            rw [if_neg (by rw [keq_of, decide_eq_false q]; decide)]
          have e2 : atKey (x :: xs) n = atKey xs n := by simp [atKey, List.find?_cons, q]
          rw [e1, e2]
          exact look_tup n xs vs _ rt h2
theorem stH_pos {x : NestedKey × Addr × Value} {xs : NX} {n : NestedKey} {b : Addr} {u : Value} (e : x.1 = n) (hn : n ∉ xs.map (·.1)) : storedH (x :: xs) n b u = (x.1, x.2.1, u) :: xs := by
  unfold storedH
  rw [if_pos (by simp [atKey, e]), List.map_cons]
  have e1 : putAt n u x = (x.1, x.2.1, u) := by unfold putAt; rw [if_pos e]
  rw [e1, map_putAt_of_not_mem xs n u hn]
theorem stH_neg {x : NestedKey × Addr × Value} {xs : NX} {n : NestedKey} {b : Addr} {u : Value} (e : ¬ x.1 = n) : storedH (x :: xs) n b u = x :: storedH xs n b u := by
  have e2 : atKey (x :: xs) n = atKey xs n := by simp [atKey, List.find?_cons, e]
  unfold storedH
  rw [e2]
  split
  · rw [List.map_cons]
    have e1 : putAt n u x = x := by unfold putAt; rw [if_neg e]
    rw [e1]
  · rfl
theorem set_tup (n : NestedKey) {b : Addr} {d : D} {v : V} {u : Value} (rk : Rep Z H ρ (ofKey n) (.ref b)) (r : Rep Z H ρ d v) (ru : RelV v u) : ∀ (xs : NX) (vs : List D) (vvs : List V), (xs.map (·.1)).Nodup →
    Vals vvs (xs.map (·.2.2)) → Reps Z H ρ vs vvs → Reps Z H ρ (xs.map fun x => ofKey x.1) (xs.map fun x => .ref x.2.1) →
    (dSet (xs.map fun x => ofKey x.1) vs (ofKey n) d).1 = (storedH xs n b u).map (fun x => ofKey x.1) ∧ (∃ vvs', Vals vvs' ((storedH xs n b u).map (·.2.2)) ∧ Reps Z H ρ (dSet (xs.map fun x => ofKey x.1) vs (ofKey n) d).2 vvs') ∧
      Reps Z H ρ ((storedH xs n b u).map fun x => ofKey x.1) ((storedH xs n b u).map fun x => .ref x.2.1) ∧ (∀ x ∈ storedH xs n b u, x.1 = n ∨ ∃ y ∈ xs, x.1 = y.1)
  | [], vs, vvs, _, _, _, _ => by
    have e : dSet (([] : NX).map fun x => ofKey x.1) vs (ofKey n) d = ([ofKey n], [d]) := by cases vs <;> rfl
    rw [e]
    exact ⟨rfl, ⟨[v], .cons ru .nil, .one r⟩, .one rk, fun x hx => by
      have : x = (n, b, u) := by simpa [storedH, atKey] using hx
      rw [this]; exact .inl rfl⟩
  | x :: xs, vs, vvs, hn, h, h', hk => by
    rw [List.map_cons, List.nodup_cons] at hn
    cases h with
    | @cons v' _ vvs' _ rv rt =>
      cases vs with
      | nil => cases (show (v' :: vvs') = [] from h')
      | cons d' vs =>
        obtain ⟨y, r', e, h1, h2⟩ := h'
        simp only [List.cons.injEq] at e
        obtain ⟨rfl, rfl⟩ := e
        obtain ⟨y2, r2, e2, k1, k2⟩ := hk
        simp only [List.map_cons, List.cons.injEq] at e2
        obtain ⟨rfl, rfl⟩ := e2
        by_cases q : x.1 = n
        · have e1 : dSet ((x :: xs).map fun x => ofKey x.1) (d' :: vs) (ofKey n) d = (ofKey x.1 :: xs.map fun x => ofKey x.1, d :: vs) := by
            show (if keq (ofKey x.1) (ofKey n) = true then _ else _) = _
            rw [if_pos (by rw [keq_of]; exact decide_eq_true q)]
          rw [e1, stH_pos q (by rw [← q]; exact hn.1)]
          refine ⟨rfl, ⟨_, .cons ru rt, _, _, rfl, r, h2⟩, ⟨_, _, rfl, k1, k2⟩, fun z hz => ?_⟩
          rcases List.mem_cons.mp hz with e | hz
          · rw [e]; exact .inl q
          · exact .inr ⟨z, List.mem_cons_of_mem _ hz, rfl⟩
        · obtain ⟨i1, ⟨vv2, i2, i3⟩, i4, i5⟩ := set_tup n rk r ru xs vs _ hn.2 rt h2 k2
          have e1 : dSet ((x :: xs).map fun x => ofKey x.1) (d' :: vs) (ofKey n) d = (ofKey x.1 :: (dSet (xs.map fun x => ofKey x.1) vs (ofKey n) d).1, d' :: (dSet (xs.map fun x => ofKey x.1) vs (ofKey n) d).2) := by
            show (if keq (ofKey x.1) (ofKey n) = true then _ else _) = _
            rw [if_neg (by rw [keq_of, decide_eq_false q]; decide)]
          rw [e1, stH_neg q]
          refine ⟨by rw [List.map_cons, i1], ⟨_, .cons rv i2, _, _, rfl, h1, i3⟩, ⟨_, _, rfl, k1, i4⟩, fun z hz => ?_⟩
          rcases List.mem_cons.mp hz with e | hz
          · rw [e]; exact .inr ⟨x, List.mem_cons_self, rfl⟩
          · rcases i5 z hz with e | ⟨y, hy, e⟩
            · exact .inl e
            · exact .inr ⟨y, List.mem_cons_of_mem _ hy, e⟩
end

/-! ### in the state -/
section
variable {X : Cx} {pins : List (Addr × Obj)} {σ : L2.St} {H : Hp} {s : Shared} {ρ : Rho} {st : Store}
mutual
theorem nested_of (I : Inv X pins σ H s) : ∀ (n : NestedKey) (v : V) (u : Value), Rep (zx X) H ρ (ofKey n) v → RelV v u → NestedIs s.heap n u
  | .none, v, u, h, r => by
    obtain rfl : v = .non := h
    cases r; exact .none
  | .num i, v, u, h, r => by
    obtain rfl : v = .int i := h
    obtain ⟨t, rfl⟩ := r; exact .int i t
  | .text x, v, u, h, r => by
    obtain rfl : v = .str x := h
    obtain ⟨t, rfl⟩ := r; exact .text x t
  | .tup ks, v, u, ⟨a, xs, e, hq, hr⟩, r => by
    subst e
    cases r
    obtain ⟨its, rv, ⟨o, h1, h2, m, h3⟩, _⟩ := I.tuple (sqT_of hq)
    exact .tup h1 h2 h3 (by simpa using nested_all I ks xs its hr rv)
theorem nested_all (I : Inv X pins σ H s) : ∀ (ns : List NestedKey) (vs : List V) (us : List Value), Reps (zx X) H ρ (ofKeys ns) vs → Vals vs us → NestedAll s.heap ns us
  | [], vs, us, h, r => by
    obtain rfl : vs = [] := h
    cases r; exact .nil
  | n :: ns, vs, us, ⟨x, xr, e, h1, h2⟩, r => by
    subst e
    cases r with
    | cons r1 r2 => exact .cons (nested_of I n x _ h1 r1) (nested_all I ns xr _ h2 r2)
end
/-- a dict that may or may not change -/
def dctD (st : Store) : D → Option (List D × List D)
  | .dct ks vs => some (ks, vs)
  | .mref n => match st[n]? with
    | some (.dct ks vs) => some (ks, vs)
    | _ => none
  | _ => none
theorem Rep.dict {Z : Wd} {d : D} {v : V} {p : List D × List D} (hs : StR Z H ρ st) (h : Rep Z H ρ d v) (e : dctD st d = some p) : ∃ a, v = .ref a ∧ DictC Z H a p.1 (Reps Z H ρ p.2) (Reps Z H ρ p.1) := by
  unfold dctD at e
  split at e
  · cases e; obtain ⟨a, e, m, q⟩ := h; exact ⟨a, e, q⟩
  · split at e
    · cases e
      rename_i n _ ks vs e2
      obtain ⟨a, e1, e3⟩ := h
      obtain ⟨b, e4, r⟩ := hs.at_ n _ e2
      rw [e3] at e4; cases e4
      exact ⟨a, e1, r⟩
    · cases e
  · cases e
/-- the dict in the state: for a leaf key, for a tuple key -/
theorem dict_leaf (I : Inv X pins σ H s) {a : Addr} {ks vs : List D} (h : DictC (zx X) H a ks (Reps (zx X) H ρ vs) (Reps (zx X) H ρ ks)) {k : D} {key : Key} (hk : leafKey k = some key) (hs : sortOk ks k = true) :
    ∃ kvs us, ks = kvs.map (fun p => keyD p.1) ∧ Reps (zx X) H ρ vs (kvs.map (·.2)) ∧ KV kvs us ∧ s.heap.DictOf (mixKind X.prog X.w) a us ∧ (a == sysModules) = false ∧ kvs.length ≤ sizeLine ∧ Mut (H a) := by
  rcases h with ⟨kvs, hq, e, r⟩ | ⟨o, es, ep, xs, vvs, hq, x1, x2, x3, x4, x5, x6, x7, x8, r1, r2, e, ne⟩
  · obtain ⟨z, hd, us, rel, dd⟩ := dk_of I.hok hq
    exact ⟨kvs, us, e, r, rel, dd, hd, z, by rw [hq]; trivial⟩
  · have e0 : xs = [] := by
      cases xs with
      | nil => rfl
      | cons x xs =>
        rw [e, leafKey_of hk] at hs
        have r2' := r2
        rw [e] at r2'
        obtain ⟨y, r, e2, q, _⟩ := r2'
        have q : Rep (zx X) H ρ (ofKey x.1) y := q
        simp only [List.map_cons, List.cons.injEq] at e2
        obtain ⟨rfl, _⟩ := e2
        have hs' : (isLeaf (ofKey x.1) == isLeaf (keyD key)) = true := hs
        rw [isLeaf_keyD] at hs'
        cases q2 : x.1 with
        | none => rw [q2] at hs'; cases hs'
        | num i => rw [q2] at q; cases q
        | text z => rw [q2] at q; cases q
        | tup z => rw [q2] at hs'; cases hs'
    subst e0
    have e1 : es = #[] := by
      have : es.toList = [] := x3
      exact Array.toList_inj.mp (by simpa using this)
    subst e1
    have hv : vvs = [] := by cases x8; rfl
    subst hv
    have := r1.nil
    subst this
    rw [e]
    have ho := (show ObjOk X.prog X.w H s.heap a _ from I.hok a _ hq).1
    exact ⟨[], [], rfl, rfl, .nil, ⟨o, #[], ep, ho, x1, x2, (fun q hq => by simp at hq), .nil, List.nodup_nil⟩, x5, Nat.zero_le _, by rw [hq]; trivial⟩
theorem dict_tup (I : Inv X pins σ H s) {a : Addr} {ks vs : List D} (h : DictC (zx X) H a ks (Reps (zx X) H ρ vs) (Reps (zx X) H ρ ks)) {k : D} {n : NestedKey} (hk : tupKey k = some n) (hs : sortOk ks k = true) :
    ∃ (xs : NX) (vvs : List V), ks = xs.map (fun x => ofKey x.1) ∧ Vals vvs (xs.map (·.2.2)) ∧ Reps (zx X) H ρ vs vvs ∧ Reps (zx X) H ρ (xs.map fun x => ofKey x.1) (xs.map fun x => .ref x.2.1) ∧
      s.heap.DictOfH (nestedKind X.prog X.w) a xs ∧ (a == sysModules) = false ∧ xs.length ≤ sizeLine ∧ (∀ x ∈ xs, x.1.depth ≤ 8) ∧ Mut (H a) := by
  have hl := (tupKey_of hk).2.2.1
  rcases h with ⟨kvs, hq, e, r⟩ | ⟨o, es, ep, xs, vvs, hq, x1, x2, x3, x4, x5, x6, x7, x8, r1, r2, e, ne⟩
  · have e0 : kvs = [] := by
      cases kvs with
      | nil => rfl
      | cons p kvs =>
        rw [e] at hs
        have hs' : (isLeaf (keyD p.1) == isLeaf k) = true := hs
        rw [isLeaf_keyD, hl] at hs'; cases hs'
    subst e0
    obtain ⟨z, hd, us, rel, dd⟩ := dk_of I.hok hq
    cases rel
    obtain ⟨o, es, ep, ho, hx, hd2, _, hp, _⟩ := dd
    have hes : es.toList = [] := by
      generalize es.toList = el at hp
      cases hp; rfl
    have : vs = [] := Reps.nil r
    subst this
    exact ⟨[], [], e, .nil, rfl, rfl, ⟨o, es, ep, ho, hx, hd2, by rw [hes]; rfl, (fun x hx => by simp at hx), List.nodup_nil⟩, hd, Nat.zero_le _, (fun x hx => by simp at hx), by rw [hq]; trivial⟩
  · have ho := (show ObjOk X.prog X.w H s.heap a _ from I.hok a _ hq).1
    rw [e] at r2
    refine ⟨xs, vvs, e, x8, r1, r2, ⟨o, es, ep, ho, x1, x2, x3, fun x hx => ⟨?_, x7 x hx⟩, x4⟩, x5, x6, x7, by rw [hq]; trivial⟩
    have all : ∀ (l : NX), Reps (zx X) H ρ (l.map fun x => ofKey x.1) (l.map fun x => .ref x.2.1) → ∀ x ∈ l, NestedIs s.heap x.1 (.ref x.2.1) := by
      intro l
      induction l with
      | nil => intro _ x hx; cases hx
      | cons y l ih =>
        rintro ⟨z, r, e2, q1, q2⟩ x hx
        simp only [List.map_cons, List.cons.injEq] at e2
        obtain ⟨rfl, rfl⟩ := e2
        rcases List.mem_cons.mp hx with e3 | hx
        · rw [e3]; exact nested_of I y.1 _ _ q1 rfl
        · exact ih q2 x hx
    exact all xs r2 x hx
end
end Px
/-! P4: in, is, subscripts, slices. -/
namespace Px
open PySem PySem.Spec
open L2
def okDs (l : List D) : Bool := isPys l && decide (PyData.depthAll (toPys l) ≤ 59)
theorem okDs_py {l : List D} (h : okDs l = true) : isPys l = true := (Bool.and_eq_true_iff.mp h).1
theorem okDs_dep {l : List D} (h : okDs l = true) : PyData.depthAll (toPys l) ≤ 59 := of_decide_eq_true (Bool.and_eq_true_iff.mp h).2
theorem any_toPys (d : PyData) : ∀ l : List D, ((toPys l).any fun z => PyData.eqv z d) = l.any fun z => PyData.eqv (toPy z) d
  | [] => rfl
  | z :: l => by rw [List.any_cons, ← any_toPys d l]; rfl
section
variable {X : Cx} {E : XK} {pos : Pos}
def dInB (st : Store) (x y : D) : Option Bool := match seqD st y with
  | some l => if okD (rd st x) = true ∧ okDs l = true then some (l.any fun z => PyData.eqv (toPy z) (toPy (rd st x))) else none
  | none => match dctD st y with
    | some p => if keyOk x = true ∧ sortOk p.1 x = true then some (dLook p.1 p.2 x).isSome else none
    | none => none
def dIn : F2 := fun st x y => (dInB st x y).map .bl
def dNotIn : F2 := fun st x y => (dInB st x y).map fun b => .bl (!b)
end
section
variable {X : Cx} {pins : List (Addr × Obj)} {σ : L2.St} {H : Hp} {s : Shared} {ρ : Rho} {st : Store} {E : Value → Shared → Prop}
theorem seq_reads (I : Inv X pins σ H s) {a : Addr} {xs : List V} {l : List D} (hq : SqL X.K H a xs ∨ SqT X.K H a xs) (r : Reps (zx X) H ρ l xs) (h : isPys l = true) :
    (∃ as, Reads s.heap (.ref a) (.list (toPys l)) as) ∨ ∃ as, Reads s.heap (.ref a) (.tuple (toPys l)) as := by
  rcases hq with hq | hq
  · exact .inl (Dp.reads I _ _ _ (.lst hq (Reps.dp h r)) rfl)
  · exact .inr (Dp.reads I _ _ _ (.tup hq (Reps.dp h r)) rfl)
theorem in_seq_run (hu : X.A.units + 64 < cLine) (I : Inv X pins σ H s) {a : Addr} {xs : List V} {l : List D} {d : D} {v : V} {u : Value} {neg : Bool} {Q : Value → Shared → Prop} (hs : StR (zx X) H ρ st) (hq : SqL X.K H a xs ∨ SqT X.K H a xs) (r : Reps (zx X) H ρ l xs) (hl : okDs l = true)
    (h1 : Rep (zx X) H ρ d v) (r1 : RelV v u) (hd : okD (rd st d) = true) (q : Q (.bool (neg ^^ l.any fun z => PyData.eqv (toPy z) (toPy (rd st d)))) s) :
    wpAny (model X.prog X.w) X.A (compareOp (if neg then .NotIn else .In) u (.ref a)) Q E s := by
  obtain ⟨as, w1⟩ := Dp.reads I _ _ u (h1.data hs (okD_py hd)) r1
  have e1 := okD_dep hd
  have e2 := okDs_dep hl
  rw [← any_toPys] at q
  rcases seq_reads I hq r (okDs_py hl) with ⟨bs, w2⟩ | ⟨bs, w2⟩
  · cases neg with
    | false => exact PySem.SeqAt.in_list_data w2 w1 (plain_toPys _ (okDs_py hl)) (plain_toPy _ (okD_py hd)) (by omega) (by simpa using q)
    | true => exact PySem.SeqAt.notIn_list_data w2 w1 (plain_toPys _ (okDs_py hl)) (plain_toPy _ (okD_py hd)) (by omega) (by simpa using q)
  · cases neg with
    | false => exact PySem.SeqAt.in_tuple_data w2 w1 (plain_toPys _ (okDs_py hl)) (plain_toPy _ (okD_py hd)) (by omega) (by simpa using q)
    | true => exact PySem.SeqAt.notIn_tuple_data w2 w1 (plain_toPys _ (okDs_py hl)) (plain_toPy _ (okD_py hd)) (by omega) (by simpa using q)
theorem in_dict_run (hu : X.A.units + 64 < cLine) (I : Inv X pins σ H s) {a : Addr} {ks vs : List D} {k : D} {v : V} {u : Value} {neg : Bool} {Q : Value → Shared → Prop} (h : DictC (zx X) H a ks (Reps (zx X) H ρ vs) (Reps (zx X) H ρ ks))
    (h1 : Rep (zx X) H ρ k v) (r1 : RelV v u) (hk : keyOk k = true) (hso : sortOk ks k = true) (q : ∀ n, Q (.bool (neg ^^ (dLook ks vs k).isSome)) { s with toks := n }) :
    wpAny (model X.prog X.w) X.A (compareOp (if neg then .NotIn else .In) u (.ref a)) Q E s := by
  cases e1 : leafKey k with
  | some key =>
    obtain ⟨kvs, us, e2, r, rel, dd, hd, _, _⟩ := dict_leaf I h e1 hso
    rw [leafKey_of e1] at h1 q
    have hki : (mixKind X.prog X.w).is key u = true := by
      cases key with
      | inl i => obtain rfl : v = .int i := h1; exact kV_is (k := .inl i) r1
      | inr x => obtain rfl : v = .str x := h1; exact kV_is (k := .inr x) r1
    have e3 : (dLook ks vs (keyD key)).isSome = (valueAt us key).isSome := by
      rw [e2, ← (rel.val key).isSome_eq]
      rcases look_leaf key kvs vs r with ⟨h1, h2⟩ | ⟨d, w, h1, h2, _⟩ <;> rw [h1, h2] <;> rfl
    rw [e3] at q
    cases neg with
    | false => exact wpAny_in_of hki hd dd.mapOf (by simpa using q _)
    | true => exact wpAny_notIn_of hki hd dd.mapOf (by simpa using q _)
  | none =>
    cases e2 : tupKey k with
    | none => unfold keyOk at hk; rw [e1, e2] at hk; cases hk
    | some n =>
      obtain ⟨xs, vvs, e3, x1, x2, x3, dd, hd, _, _, _⟩ := dict_tup I h e2 hso
      obtain ⟨e4, e5, _, ns, e6⟩ := tupKey_of e2
      rw [e4] at h1 q
      have hn := nested_of I n v u h1 r1
      obtain ⟨b, rfl⟩ : ∃ b, u = .ref b := by subst e6; obtain ⟨b, xs, e, _⟩ := h1; subst e; cases r1; exact ⟨b, rfl⟩
      have e7 : (dLook ks vs (ofKey n)).isSome = (atKey xs n).isSome := by
        rw [e3]
        rcases look_tup n xs vs vvs x1 x2 with ⟨h1, h2⟩ | ⟨d, w, p, h1, h2, _⟩ <;> rw [h1, h2] <;> rfl
      rw [e7] at q
      cases neg with
      | false => exact wpAny_in_heap (knd := nestedKind X.prog X.w) (show X.A.units + 1 + 8 < cLine by omega) ⟨hn, e5⟩ hd dd (by simpa using q _)
      | true => exact PyProof.Rows.wpAny_notIn_heap (knd := nestedKind X.prog X.w) (show X.A.units + 1 + 8 < cLine by omega) ⟨hn, e5⟩ hd dd (by simpa using q _)
theorem get_dict_run (hu : X.A.units + 64 < cLine) (I : Inv X pins σ H s) {a : Addr} {ks vs : List D} {k d : D} {v : V} {u : Value} {Q : Value → Shared → Prop} (h : DictC (zx X) H a ks (Reps (zx X) H ρ vs) (Reps (zx X) H ρ ks))
    (h1 : Rep (zx X) H ρ k v) (r1 : RelV v u) (hk : keyOk k = true) (hso : sortOk ks k = true) (hd : dLook ks vs k = some d) (q : ∀ n w z, Rep (zx X) H ρ d z → RelV z w → Q w { s with toks := n }) :
    s.TypeIs (.ref a) "dict" ∧ ∃ w, wpAny (model X.prog X.w) X.A (getItem (.ref a) u) (fun r s' => r = w ∧ Q r s') E s := by
  cases e1 : leafKey k with
  | some key =>
    obtain ⟨kvs, us, e2, r, rel, dd, hdd, _, _⟩ := dict_leaf I h e1 hso
    rw [leafKey_of e1] at h1 hd
    have hki : (mixKind X.prog X.w).is key u = true := by
      cases key with
      | inl i => obtain rfl : v = .int i := h1; exact kV_is (k := .inl i) r1
      | inr x => obtain rfl : v = .str x := h1; exact kV_is (k := .inr x) r1
    rw [e2] at hd
    rcases look_leaf key kvs vs r with ⟨h1, h2⟩ | ⟨d', z, h1, h2, h3⟩
    · rw [h1] at hd; cases hd
    · rw [h1] at hd; cases hd
      obtain ⟨w, hw, rw'⟩ := RelO.some_of (v := z) (o := valueAt us key) (by rw [← h2]; exact rel.val key)
      exact ⟨dd.typeIs, w, wpAny_getItem_of hki dd.mapOf hw ⟨rfl, q _ w z h3 rw'⟩⟩
  | none =>
    cases e2 : tupKey k with
    | none => unfold keyOk at hk; rw [e1, e2] at hk; cases hk
    | some n =>
      obtain ⟨xs, vvs, e3, x1, x2, x3, dd, hdd, _, _, _⟩ := dict_tup I h e2 hso
      obtain ⟨e4, e5, _, ns, e6⟩ := tupKey_of e2
      rw [e4] at h1 hd
      have hn := nested_of I n v u h1 r1
      obtain ⟨b, rfl⟩ : ∃ b, u = .ref b := by subst e6; obtain ⟨b, xs, e, _⟩ := h1; subst e; cases r1; exact ⟨b, rfl⟩
      rw [e3] at hd
      rcases look_tup n xs vs vvs x1 x2 with ⟨h1, h2⟩ | ⟨d', z, p, h1, h2, h3, h4⟩
      · rw [h1] at hd; cases hd
      · rw [h1] at hd; cases hd
        exact ⟨dd.typeIs, p.2, wpAny_getItem_heap (knd := nestedKind X.prog X.w) (show X.A.units + 1 + 8 < cLine by omega) ⟨hn, e5⟩ dd h2 ⟨rfl, q _ p.2 z h4 h3⟩⟩
end
section
variable {X : Cx} {E : XK} {pos : Pos}
variable (hu : X.A.units + 64 < cLine)
include hu
theorem o_inG (neg : Bool) : OpR X (compareOp (if neg then .NotIn else .In)) (rD (zx X) fun st x y => (dInB st x y).map fun b => .bl (neg ^^ b)) := opR_of fun {pins s σ H ρ st x y v u d xv yv Q} I hs h1 r1 h2 r2 e q => by
  unfold dInB at e
  split at e
  · rename_i l e1
    split at e
    · rename_i hz
      cases e
      obtain ⟨a, xs, rfl, hq, r⟩ := h2.seq hs e1
      cases r2
      exact in_seq_run hu I hs hq r hz.2 h1 r1 hz.1 ⟨.bl _, H, I, rfl, q _ _ .refl hs rfl⟩
    · cases e
  · split at e
    · rename_i p e1
      split at e
      · rename_i hz
        cases e
        obtain ⟨a, rfl, hq⟩ := h2.dict hs e1
        cases r2
        exact in_dict_run hu I hq h1 r1 hz.1 hz.2 fun n => ⟨.bl _, H, I.tok n, rfl, q _ _ .refl hs rfl⟩
      · cases e
    · cases e
theorem o_in : OpR X (compareOp .In) (rD (zx X) dIn) := by
  have h := o_inG hu false
  simp only [Bool.false_bne, Bool.false_xor] at h
  exact h
theorem o_notIn : OpR X (compareOp .NotIn) (rD (zx X) dNotIn) := by
  have h := o_inG hu true
  simp only [Bool.true_xor] at h
  exact h
end
section
variable {X : Cx} {E : XK} {pos : Pos}
def isNon : D → Bool
  | .non => true
  | _ => false
theorem rep_non {Z : Wd} {H : Hp} {ρ : Rho} {d : D} {v : V} (h : Rep Z H ρ d v) : decide (v = .non) = isNon d := by
  cases d with
  | non => obtain rfl : v = .non := h; rfl
  | bl b => obtain rfl : v = .bl b := h; rfl
  | int i => obtain rfl : v = .int i := h; rfl
  | str x => obtain rfl : v = .str x := h; rfl
  | byt x => obtain rfl : v = .byt x := h; rfl
  | flt x => obtain rfl : v = .flt x := h; rfl
  | tup l => obtain ⟨a, xs, rfl, _⟩ := h; rfl
  | lst l => obtain ⟨a, xs, rfl, _⟩ := h; rfl
  | dct ks vs => obtain ⟨a, rfl, _⟩ := h; rfl
  | ins c ns vs => obtain ⟨a, dx, fs, rfl, _⟩ := h; rfl
  | mref n => obtain ⟨a, rfl, _⟩ := h; rfl
  | scr l => obtain ⟨a, rfl, _⟩ := h; rfl
/-- is, is not: of None, of truth values -/
def dIsB (x y : D) : Option Bool := match y with
  | .non => some (isNon x)
  | .bl b => match x with
    | .bl a => some (decide (a = b))
    | _ => none
  | _ => none
def dIs : F2 := fun _ x y => (dIsB x y).map .bl
def dIsNot : F2 := fun _ x y => (dIsB x y).map fun b => .bl (!b)
theorem o_is : OpR X (compareOp .Is) (rD (zx X) dIs) := opR_of fun {pins s σ H ρ st x y v u d xv yv Q} I hs h1 r1 h2 r2 e q => by
  unfold dIs dIsB at e
  split at e
  · cases e
    exact op_isN pins s σ H _ _ v u Q I r1 r2 ⟨h2, by rw [rep_non h1]; exact q _ _ .refl hs rfl⟩
  · split at e
    · cases e
      exact op_isBl pins s σ H _ _ v u Q I r1 r2 ⟨_, _, h1, h2, q _ _ .refl hs rfl⟩
    · cases e
  · cases e
theorem o_isNot : OpR X (compareOp .IsNot) (rD (zx X) dIsNot) := opR_of fun {pins s σ H ρ st x y v u d xv yv Q} I hs h1 r1 h2 r2 e q => by
  unfold dIsNot dIsB at e
  split at e
  · cases e
    exact op_notN pins s σ H _ _ v u Q I r1 r2 ⟨h2, by rw [rep_non h1]; exact q _ _ .refl hs rfl⟩
  · split at e
    · cases e
      exact op_notBl pins s σ H _ _ v u Q I r1 r2 ⟨_, _, h1, h2, q _ _ .refl hs rfl⟩
    · cases e
  · cases e

/-! ### subscripts -/
theorem atI_reps {Z : Wd} {H : Hp} {ρ : Rho} {l : List D} {xs : List V} {i : Int} {d : D} (h : Reps Z H ρ l xs) (e : atI l i = some d) : ∃ v, atI xs i = some v ∧ Rep Z H ρ d v := by
  unfold atI at e ⊢
  rw [h.len]
  cases q : ixN l.length i with
  | none => rw [q] at e; cases e
  | some j => rw [q] at e; exact h.get e
def dIx : F2 := fun st x y => match seqD st x with
  | some l => match y with
    | .int i => atI l i
    | _ => none
  | none => match dctD st x with
    | some p => if keyOk y = true ∧ sortOk p.1 y = true then dLook p.1 p.2 y else none
    | none => none
theorem i_ix (hu : X.A.units + 64 < cLine) : IxR X (rD (zx X) dIx) := by
  intro value slice pins s σ H xv yv v u Q I r1 r2 ⟨ρ, st, x, y, d, hs, h1, h2, e, q⟩ hsub
  unfold dIx at e
  split at e
  · rename_i l e1
    split at e
    · obtain ⟨a, xs, rfl, hq, r⟩ := h1.seq hs e1
      obtain rfl : yv = .int _ := h2
      obtain ⟨z, e2, rz⟩ := atI_reps r e
      rcases hq with hq | hq
      · exact ix_list value slice pins s σ H _ _ v u Q I r1 r2 ⟨a, xs, _, z, rfl, rfl, hq, e2, q _ _ .refl hs rz⟩ hsub
      · exact ix_tup value slice pins s σ H _ _ v u Q I r1 r2 ⟨a, xs, _, z, rfl, rfl, hq, e2, q _ _ .refl hs rz⟩ hsub
    · cases e
  · split at e
    · rename_i p e1
      split at e
      · rename_i hz
        obtain ⟨a, rfl, hq⟩ := h1.dict hs e1
        cases r1
        obtain ⟨ty, w, run⟩ := get_dict_run (E := X.xe) (Q := EP X pins σ Q) hu I hq h2 r2 hz.1 hz.2 e fun n w z rz rw' => ⟨z, H, I.tok n, rw', q _ _ .refl hs rz⟩
        exact PyProof.Rows.subscriptTail_builtinR (x := w) ty PySem.F.slot_dict_getitem.lookup run hsub
      · cases e
    · cases e
theorem de_ix (hu : X.A.units + 64 < cLine) {a b : Expr} {ma mb : Ev} (ha : DE X E a ma) (hb : DE X E b mb) (hs : PlainIx b := by exact fun _ _ => rfl) : DE X E (.Subscript a b pos) (eOp2 dIx ma mb) :=
  pe_weak (pe_ix (i_ix hu) ha hb hs) fun _ _ _ h => tOp_of h
end
end Px
/-! P5: slices, reversal. -/
namespace Px
open PySem PySem.Spec
open L2
section
variable {prog : Program} {w : World} {A : Around} {E : Value → Shared → Prop} {s : Shared}
open PyProof.Rows in
theorem applied_rev {sl : Addr} {vl vu vs : Value} {n : Nat} {Q : Int × Int × Nat → Shared → Prop} (hs : s.heap.IsSliceOf sl vl vu vs) (pl : IsPart vl none) (pu : IsPart vu none) (ps : IsPart vs (some (-1)))
    (h : Q ((n : Int) - 1, -1, n) s) : wpAny (model prog w) A (Builtin.Slice.sliceApplied (.ref sl) (pure (n : Int))) Q E s := by
  obtain ⟨os, hos, hcs, hds⟩ := id hs
  unfold Builtin.Slice.sliceApplied Builtin.Slice.sliceFields
  refine wpAny_bind (wpAny_bind (wpAny_field hos hds (x := vl) rfl (wpAny_bind (wpAny_field hos hds (x := vu) rfl (wpAny_bind (wpAny_field hos hds (x := vs) rfl (wpAny_pure ?_)))))))
  refine wpAny_bind (HT.slicePart_ ps ?_)
  show wpAny _ _ (if (((-1 : Int)) == 0) = true then _ else _) _ _ s
  rw [if_neg (by decide)]
  refine wpAny_bind (HT.slicePart_ pl (wpAny_bind (HT.slicePart_ pu (wpAny_bind (wpAny_pure ?_)))))
  have e1 : Builtin.Slice.sliceAdjust none none (-1) (n : Int) = ((n : Int) - 1, -1) := rfl
  have e2 : Builtin.Slice.slicePlaces ((n : Int) - 1) (-1) (-1) = n := by
    unfold Builtin.Slice.slicePlaces
    rw [if_neg (by decide)]
    by_cases hn : (n : Int) - 1 > -1
    · rw [if_pos hn]
      have : ((n : Int) - 1 - -1 - 1) / (- -1) + 1 = (n : Int) := by
        rw [show (- -1 : Int) = 1 by decide, Int.ediv_one]; omega
      rw [this]; omega
    · rw [if_neg hn]; omega
  show wpAny _ _ (match Builtin.Slice.sliceAdjust none none (-1) (n : Int) with | (lo, hi) => pure (lo, (-1 : Int), Builtin.Slice.slicePlaces lo hi (-1))) _ _ s
  rw [e1]
  show wpAny _ _ (pure ((n : Int) - 1, (-1 : Int), Builtin.Slice.slicePlaces ((n : Int) - 1) (-1) (-1))) _ _ s
  rw [e2]
  exact wpAny_pure h
theorem picked_rev (xs : Array Value) : ((List.range xs.size).filterMap fun (k : Nat) => xs[((xs.size : Int) - 1 + (k : Int) * (-1)).toNat]?).toArray = xs.toList.reverse.toArray := by
  have e := PySem.W.krv_pick xs
  unfold slicePick at e
  rw [PySem.W.krv_bounds] at e
  have e0 : ((sliceRange ((xs.size : Int) - 1) (-1) (-1)).filterMap (xs[·]?)).toArray = xs.toList.reverse.toArray := e
  rw [PySem.W.krv_sliceRange, List.filterMap_map] at e0
  rw [← e0]
  congr 1
  have cong : ∀ (f g : Nat → Option Value) (l : List Nat), (∀ k ∈ l, f k = g k) → l.filterMap f = l.filterMap g := by
    intro f g l
    induction l with
    | nil => intro _; rfl
    | cons x l ih =>
      intro h
      rw [List.filterMap_cons, List.filterMap_cons, h x List.mem_cons_self, ih fun k hk => h k (List.mem_cons_of_mem _ hk)]
  refine cong _ _ _ fun k hk => ?_
  have hk' := List.mem_range.mp hk
  show xs[((xs.size : Int) - 1 + (k : Int) * (-1)).toNat]? = xs[xs.size - 1 - k]?
  congr 1
  omega
open PyProof.Rows in
theorem getItem_rev {t sl : Addr} {items : Array Value} {vl vu vs : Value} {Q : Value → Shared → Prop} (ht : IsTup s.heap t items) (hs : s.heap.IsSliceOf sl vl vu vs) (pl : IsPart vl none) (pu : IsPart vu none) (ps : IsPart vs (some (-1)))
    (h : Q (.ref s.heap.objs.size) { s with heap := s.heap.push { cls := .type "tuple", data := .seq items.toList.reverse.toArray } })
    (hsz : items.size ≤ sizeLine) : wpAny (model prog w) A (getItem (.ref t) (.ref sl)) Q E s := by
  have hok : sizeOk (.seq items.toList.reverse.toArray) := by
    show items.toList.reverse.toArray.size ≤ sizeLine
    rw [List.size_toArray, List.length_reverse, Array.length_toList]; exact hsz
  obtain ⟨os, hos, hcs, hds⟩ := id hs
  have hTs : s.TypeIs (.ref sl) "slice" := ⟨os, hos, hcs⟩
  unfold getItem
  try with_reducible refine wpAny_holding ?_
  first | refine wpAny_bind (wpAny_pure ?_) | skip
  refine wpAny_bind (wpAny_sequenceKey ht.typeIs (by decide) ?_)
  refine wpAny_bind (wpAny_callSpecial?_slot (name := Str.ofString "__getitem__") ht.typeIs PyProof.Rows.slot_tuple_getitem
    (wpAny_call_entry slot_tuple_getitem ht.typeIs entry_tuple_getitem ?_ (args_tuple_getitem (.ref t) (.ref sl))))
  show wpAny _ _ (Builtin.Tuple.tupleItemsOf (.ref t) >>= fun _ => _) _ _ s
  refine wpAny_bind (tupleItemsOf_ ht ?_)
  refine wpAny_bind (wpAny_typeOf hTs ?_)
  rw [if_pos (by decide)]
  refine wpAny_bind (applied_rev hs pl pu ps ?_)
  have hno : ¬ ((((items.size : Int) - 1) == 0 && (-1 : Int) == 1 && items.size == items.size) = true) := by
    intro q
    rw [Bool.and_eq_true, Bool.and_eq_true] at q
    exact absurd q.1.2 (by decide)
  show wpAny _ _ (if ((((items.size : Int) - 1) == 0 && (-1 : Int) == 1 && items.size == items.size) = true) then _ else _) _ _ s
  rw [if_neg hno, picked_rev]
  first
    | exact wpAny_bind (m := Builtin.Tuple.tupleExact _) (wpAny_newObj_type (wpAny_pure ⟨_, rfl, wpAny_pure h⟩) hok)
    | exact wpAny_bind (m := Builtin.Tuple.tupleExact _) (wpAny_newObj_type (wpAny_bind (wpAny_pure (wpAny_pure ⟨_, rfl, wpAny_pure h⟩))) hok)
    | exact wpAny_bind (wpAny_bind (m := Builtin.Tuple.tupleExact _) (wpAny_newObj_type (wpAny_pure (wpAny_pure ⟨_, rfl, wpAny_pure h⟩)) hok))
    | exact wpAny_bind (wpAny_bind (m := Builtin.Tuple.tupleExact _) (wpAny_newObj_type (wpAny_pure ⟨_, rfl, wpAny_pure h⟩) hok))
end
section
variable {X : Cx} {E : XK} {pos : Pos}
/-- x[::-1] -/
def dRev (st : Store) (x : D) : Option D := match x with
  | .tup l => some (.tup l.reverse)
  | x => match lstD st x with
    | some l => some (.lst l.reverse)
    | none => none
def eRev (a : Ev) : Ev := fun env st => a env st >>= fun p => R.opt (dRev p.2 p.1) >>= fun d => .ok (d, p.2)
theorem de_rev {e : Expr} {m : Ev} {k : Nat} {p1 p2 p3 : Pos} (he : DE X E e m) : DE X E (.Subscript e (.Slice none none (some (.UnaryOp .USub (.Constant (.int 1) k p1) p2)) p3) pos) (eRev m) := by
  refine ⟨fun pins s σ H Q I ⟨env, st, ρ, hen, hs, hp⟩ => ?_⟩
  refine PyProof.Rows.Subscript_ (thn (he.go (k := fun p => R.opt (dRev p.2 p.1) >>= fun d => .ok (d, p.2)) I hen hs hp) fun v s1 ⟨x, H1, ρ1, p, I1, r1, g1, he1, hs1, rv, hp1⟩ => ?_)
  have hst : PO X (some (.UnaryOp .USub (.Constant (.int 1) k p1) p2)) (tPart (tUn (rU fun i => .int (-i)) (tC (.int 1)))) := po_some (pe_un un_neg pe_int)
  refine wpAny_Slice (thn (po_none.run pins s1 σ H1 (fun o H2 => o = none ∧ H2 = H1) I1 ⟨rfl, rfl⟩) fun vl s2 ⟨l, H2, I2, pl, el, e2⟩ => ?_)
  subst el e2
  refine thn (po_none.run pins s2 σ H2 (fun o H3 => o = none ∧ H3 = H2) I2 ⟨rfl, rfl⟩) fun vu s3 ⟨u, H3, I3, pu, eu, e3⟩ => ?_
  subst eu e3
  refine thn (hst.run pins s3 σ H3 (fun o H4 => o = some (-1) ∧ H4 = H3) I3 ⟨1, rfl, -1, rfl, rfl, rfl⟩) fun vs s4 ⟨o, H4, I4, ps, eo, e4⟩ => ?_
  subst eo e4
  have I5 : Inv X pins σ H4 { s4 with heap := s4.heap.push { cls := .type "slice", data := .fields #[vl, vu, vs] } } := I4.kept (t' := s4.toks) fun b ob q => Heap.get?_push_of_some _ q
  cases e : dRev p.2 p.1 with
  | none => simp only [e] at hp1; exact hp1.elim
  | some d =>
    simp only [e] at hp1
    have q : ∀ z H', Grow H4 H' ρ1 ρ1 → StR (zx X) H' ρ1 p.2 → Rep (zx X) H' ρ1 d z → Q z H' := fun z H' g hs' r => hp1 H' ρ1 g hs' z r
    unfold dRev at e
    split at e
    · rename_i l e0
      cases e
      rw [e0] at rv
      obtain ⟨a, xs, rfl, hq, r⟩ := rv
      cases r1
      obtain ⟨its, rv', ht, hz⟩ := I5.tuple (sqT_of hq)
      show wpAny (model X.prog X.w) X.A (PyProof.Rows.subscriptTail _ (.Slice none none (some (.UnaryOp .USub (.Constant (.int 1) k p1) p2)) p3) (.ref a) (.ref s4.heap.objs.size)) (EP X pins σ Q) X.xe { s4 with heap := s4.heap.push { cls := .type "slice", data := .fields #[vl, vu, vs] } }
      refine PyProof.Rows.tail_any (ops := [.ref a, .ref s4.heap.objs.size]) ht.typeIs (PyProof.Rows.slot_tuple_getitem.lookup) ?_ (by with_unfolding_all rfl)
      have hn : its.toArray.size ≤ sizeLine := by rw [List.size_toArray, ← rv'.length]; exact hz
      refine getItem_rev ht (Heap.IsSliceOf.new _ vl vu vs) pl pu ps ?_ hn
      refine ⟨.ref _, _, I5.laid (t' := s4.toks) (o := .tup xs.reverse) (fun b ob q => Heap.get?_push_of_some _ q) (Nat.le_refl _) ?_, rfl, q_tup hs1 q r.rev (I5.hok.fresh (Nat.le_refl _))⟩
      refine ⟨by rw [List.length_reverse]; exact hz, its.reverse, rv'.reverse, ?_⟩
      exact PyProof.Rows.IsTup.new _ _
    · split at e
      · rename_i l e1
        cases e
        obtain ⟨a, xs, rfl, hq, r⟩ := rv.list hs1 e1
        cases r1
        obtain ⟨its, rv', ht, hz⟩ := I5.list (.of hq)
        show wpAny (model X.prog X.w) X.A (PyProof.Rows.subscriptTail _ (.Slice none none (some (.UnaryOp .USub (.Constant (.int 1) k p1) p2)) p3) (.ref a) (.ref s4.heap.objs.size)) (EP X pins σ Q) X.xe { s4 with heap := s4.heap.push { cls := .type "slice", data := .fields #[vl, vu, vs] } }
        refine PyProof.Rows.tail_any (ops := [.ref a, .ref s4.heap.objs.size]) ht.isList.typeIs (PySem.slot_list_getitem.lookup) ?_ (by with_unfolding_all rfl)
        refine wpAny_getItem_list_slice ht.isList (Heap.IsSliceOf.new _ vl vu vs) pl pu ps (by decide) ?_ (by rw [List.size_toArray, ← rv'.length]; exact hz)
        rw [PySem.W.krv_pick]
        refine ⟨.ref _, _, I5.laid (t' := s4.toks) (o := .lst xs.reverse) (fun b ob q => Heap.get?_push_of_some _ q) (Nat.le_refl _) ?_, rfl, q_lst hs1 q r.rev (I5.hok.fresh (Nat.le_refl _))⟩
        exact ⟨by rw [List.length_reverse]; exact hz, _, 0, rv'.reverse, Heap.get?_push_size _ rfl⟩
      · cases e
end
end Px
/-! P6: slices by places, fields, tests, and, or, not, displays, calls. -/
namespace Px
open PySem PySem.Spec
open L2
section
variable {X : Cx} {E : XK} {pos : Pos}
/-! ### x[lo:hi] -/
def cutD (l : List D) (lo hi : Option Int) : List D := (l.drop (HT.sIx l.length 0 lo)).take (HT.sIx l.length l.length hi - HT.sIx l.length 0 lo)
theorem Reps.cut {Z : Wd} {H : Hp} {ρ : Rho} {l : List D} {xs : List V} (h : Reps Z H ρ l xs) (lo hi : Option Int) : Reps Z H ρ (cutD l lo hi) (cutV xs lo hi) := by
  unfold cutD cutV
  rw [h.len]
  exact (h.drop _).take _
theorem cut_whole {l : List D} {lo hi : Option Int} (h : HT.sIx l.length 0 lo = 0 ∧ HT.sIx l.length l.length hi = l.length) : cutD l lo hi = l := by
  unfold cutD
  rw [h.1, h.2]; simp
def dCut (st : Store) (x : D) (lo hi : Option Int) : Option D := match x with
  | .tup l => some (.tup (cutD l lo hi))
  | x => match lstD st x with
    | some l => some (.lst (cutD l lo hi))
    | none => none
def rCut (Z : Wd) : V → Option Int → Option Int → Hp → VK → Prop := fun xv lo hi H Q => ∃ ρ st x d, StR Z H ρ st ∧ Rep Z H ρ x xv ∧ dCut st x lo hi = some d ∧ ∀ z H', Grow H H' ρ ρ → StR Z H' ρ st → Rep Z H' ρ d z → Q z H'
theorem sl_cut : SlR X (rCut (zx X)) := by
  intro pins s σ H xv v vl vu lo hi sl Q I r1 hs pl pu ⟨ρ, st, x, d, hst, h1, e, q⟩
  unfold dCut at e
  split at e
  · cases e
    obtain ⟨a, xs, rfl, hq, r⟩ := h1
    refine sl_tupA pins s σ H _ v vl vu lo hi sl Q I r1 hs pl pu ⟨a, xs, rfl, sqT_of hq, fun hw => ?_, fun _ p hp => q_tup hst q (r.cut lo hi) hp⟩
    rw [r.len] at hw
    rw [cut_whole hw] at q
    exact q _ _ .refl hst ⟨a, xs, rfl, hq, r⟩
  · split at e
    · rename_i l e1
      cases e
      obtain ⟨a, xs, rfl, hq, r⟩ := h1.list hst e1
      exact sl_list pins s σ H _ v vl vu lo hi sl Q I r1 hs pl pu ⟨a, xs, rfl, .of hq, fun p hp => q_lst hst q (r.cut lo hi) hp⟩
    · cases e
abbrev Ov := DEnv → Store → R (Option Int × Store)
def oNone : Ov := fun _ st => .ok (none, st)
def oSome (m : Ev) : Ov := fun env st => m env st >>= fun p => match p.1 with
  | .int i => .ok (some i, p.2)
  | _ => .stuck
def BO (Z : Wd) (Q : Option Int → Hp → Prop) : Option Int × Store → Hp → Rho → Prop := fun p H' ρ' => StR Z H' ρ' p.2 → Q p.1 H'
def tO (Z : Wd) (E : XK) (m : Ov) : TO := fun σ H Q => ∃ env st ρ, EnvR Z H ρ env σ ∧ StR Z H ρ st ∧ PostX Z H ρ (m env st) (BO Z Q) E
theorem do_none : PO X none (tO (zx X) E oNone) := ⟨fun pins s σ H Q I ⟨env, st, ρ, he, hs, hp⟩ => po_none.run pins s σ H Q I (hp H ρ .refl hs)⟩
theorem do_some {e : Expr} {m : Ev} (h : DE X E e m) : PO X (some e) (tO (zx X) E (oSome m)) := ⟨fun pins s σ H Q I ⟨env, st, ρ, he, hs, hp⟩ => (po_some h).run pins s σ H Q I ⟨env, st, ρ, he, hs, PostX.seq hp fun p H1 ρ1 g1 hp1 hs1 v rv => by
  split at hp1
  · rename_i i e1
    rw [e1] at rv
    exact ⟨i, rv, hp1 H1 ρ1 .refl hs1⟩
  · exact hp1.elim⟩⟩
def eCut (a : Ev) (lo hi : Ov) : Ev := fun env st => a env st >>= fun p => lo env p.2 >>= fun l => hi env l.2 >>= fun h => R.opt (dCut h.2 p.1 l.1 h.1) >>= fun d => .ok (d, h.2)
theorem de_cut {e : Expr} {lo hi : Option Expr} {m : Ev} {ml mh : Ov} {p2 : Pos} (he : DE X E e m) (hl : PO X lo (tO (zx X) E ml)) (hh : PO X hi (tO (zx X) E mh)) : DE X E (.Subscript e (.Slice lo hi none p2) pos) (eCut m ml mh) :=
  pe_weak (pe_slice sl_cut he hl hh) fun σ H Q ⟨env, st, ρ, hen, hs, hp⟩ => ⟨env, st, ρ, hen, hs, PostX.seq hp fun p H1 ρ1 g1 hp1 hs1 v rv =>
    ⟨env, p.2, ρ1, hen.grow g1, hs1, PostX.seq hp1 fun l H2 ρ2 g2 hp2 hs2 => ⟨env, l.2, ρ2, (hen.grow g1).grow g2, hs2, PostX.seq hp2 fun h H3 ρ3 g3 hp3 hs3 => by
      cases e1 : dCut h.2 p.1 l.1 h.1 with
      | none => simp only [e1] at hp3; exact hp3.elim
      | some d =>
        simp only [e1] at hp3
        exact ⟨ρ3, h.2, p.1, d, hs3, (rv.grow g2).grow g3, e1, fun z H' k hs' r => hp3 H' ρ3 k hs' z r⟩⟩⟩⟩

/-! ### fields of an instance of an own class -/
def lookD (f : Str) : List Str → List D → Option D
  | n :: ns, v :: vs => if n = f then some v else lookD f ns vs
  | _, _ => none
def dFld (c f : Str) (st : Store) (x : D) : Option D := match rd st x with
  | .ins c' ns vs => if c' = c then lookD f ns vs else none
  | _ => none
theorem look_fs {Z : Wd} {H : Hp} {ρ : Rho} {f : Str} {d : D} : ∀ (fs : List (Str × V)) (vs : List D), Reps Z H ρ vs (fs.map (·.2)) → lookD f (fs.map (·.1)) vs = some d → ∃ v, fs.lookup f = some v ∧ Rep Z H ρ d v
  | [], vs, _, e => by cases vs <;> cases e
  | p :: fs, [], h, _ => by cases (show (p :: fs).map (·.2) = [] from h)
  | p :: fs, w :: vs, ⟨x, r, e1, h1, h2⟩, e => by
    simp only [List.map_cons, List.cons.injEq] at e1
    obtain ⟨rfl, rfl⟩ := e1
    have e' : (if p.1 = f then some w else lookD f (fs.map (·.1)) vs) = some d := e
    by_cases q : p.1 = f
    · rw [if_pos q] at e'
      cases e'
      exact ⟨p.2, by rw [List.lookup_cons]; simp [q], h1⟩
    · rw [if_neg q] at e'
      obtain ⟨v, h3, h4⟩ := look_fs fs vs h2 e'
      refine ⟨v, ?_, h4⟩
      rw [List.lookup_cons]
      have : (f == p.1) = false := beq_eq_false_iff_ne.mpr fun z => q z.symm
      rw [this]; exact h3
theorem Rep.inst {Z : Wd} {H : Hp} {ρ : Rho} {st : Store} {x d : D} {v : V} {c f : Str} (hs : StR Z H ρ st) (h : Rep Z H ρ x v) (e : dFld c f st x = some d) :
    ∃ a dx fs z, v = .ref a ∧ H a = some (.ins (He.ga Z.K c) dx fs) ∧ fs.lookup f = some z ∧ Rep Z H ρ d z := by
  unfold dFld at e
  split at e
  · rename_i c' ns vs e1
    split at e
    · rename_i ec
      subst ec
      cases x with
      | mref n =>
        unfold rd at e1
        cases e2 : st[n]? with
        | none => simp only [e2] at e1; cases e1
        | some o =>
          obtain ⟨a, e3, r⟩ := hs.at_ n o e2
          obtain ⟨b, e4, e5⟩ := h
          rw [e3] at e5; cases e5
          cases o with
          | lst l => simp only [e2] at e1; cases e1
          | dct k w => simp only [e2] at e1; cases e1
          | ins c ms ws =>
            simp only [e2] at e1
            cases e1
            obtain ⟨dx, fs, q1, q2, q3⟩ := r
            rw [← q2] at e
            obtain ⟨z, h1, h2⟩ := look_fs fs _ q3 e
            exact ⟨a, dx, fs, z, e4, q1, h1, h2⟩
      | ins c ms ws =>
        cases e1
        obtain ⟨a, dx, fs, q0, m, q1, q2, q3⟩ := h
        rw [← q2] at e
        obtain ⟨z, h1, h2⟩ := look_fs fs _ q3 e
        exact ⟨a, dx, fs, z, q0, q1, h1, h2⟩
      | _ => cases e1
    · cases e
  · cases e
def eFld (c f : Str) (a : Ev) : Ev := fun env st => a env st >>= fun p => R.opt (dFld c f p.2 p.1) >>= fun d => .ok (d, p.2)
theorem de_fld {c f : Str} {e : Expr} {m : Ev} (hc : Cls X.K (He.ga X.K c)) (hn : NoAttr X.K (He.ga X.K c) f) (he : DE X E e m) (hb : attributeBase e f X.env (eval e X.env) = eval e X.env := by rfl) : DE X E (.Attribute e f pos) (eFld c f m) :=
  pe_weak (pe_fld he hb) fun σ H Q ⟨env, st, ρ, hen, hs, hp⟩ => ⟨env, st, ρ, hen, hs, PostX.seq hp fun p H1 ρ1 g1 hp1 hs1 v rv => by
    cases e1 : dFld c f p.2 p.1 with
    | none => simp only [e1] at hp1; exact hp1.elim
    | some d =>
      simp only [e1] at hp1
      obtain ⟨a, dx, fs, z, rfl, q1, q2, q3⟩ := rv.inst hs1 e1
      exact ⟨a, _, dx, fs, z, rfl, q1, hc, hn, q2, hp1 H1 ρ1 .refl hs1 z q3⟩⟩

/-! ### tests -/
def tV (m : Ev) : Tv := fun env st => m env st >>= fun p => match p.1 with
  | .bl b => .ok (b, p.2)
  | _ => .stuck
theorem tTest_of {m : Ev} {t : TE} (h : ∀ σ H Q, tE (zx X) E m σ H Q → t σ H Q) {σ : L2.St} {H : Hp} {Q : Bool → Hp → Prop} (q : tT (zx X) E (tV m) σ H Q) : tTest t σ H Q := by
  obtain ⟨env, st, ρ, hen, hs, hp⟩ := q
  refine h _ _ _ ⟨env, st, ρ, hen, hs, PostX.seq hp fun p H1 ρ1 g1 hp1 hs1 v rv => ?_⟩
  split at hp1
  · rename_i b e
    rw [e] at rv
    exact ⟨b, rv, hp1 H1 ρ1 .refl hs1⟩
  · exact hp1.elim
theorem dt_cmp {op : CmpOp} {g : F2} {a b : Expr} {ma mb : Ev} (ho : OpR X (compareOp op) (rD (zx X) g)) (ha : DE X E a ma) (hb : DE X E b mb) (hm : behindInMarks op b = false := by first | exact nomark _ | rfl) : DT X E (.Compare a [op] [b] pos) (tV (eOp2 g ma mb)) :=
  pt_weak (pt_cmpR ho ha hb hm) fun _ _ _ h => tTest_of (fun _ _ _ h => tOp_of h) h
theorem dt_v {e : Expr} {m : Ev} (h : DE X E e m) (he : ∀ whole, isTrue e X.env whole = (do let v ← whole; standAt e.pos; holding [v] (truthy v)) := by intro _; rfl) : DT X E e (tV m) :=
  pt_weak (pt_val h he) fun _ _ _ h => tTest_of (fun _ _ _ h => h) h
def tAnd (a b : Tv) : Tv := fun env st => a env st >>= fun p => if p.1 = true then b env p.2 else .ok (false, p.2)
def tOr (a b : Tv) : Tv := fun env st => a env st >>= fun p => if p.1 = true then .ok (true, p.2) else b env p.2
def tNot (a : Tv) : Tv := fun env st => a env st >>= fun p => .ok (!p.1, p.2)
theorem dt_of {e : Expr} {m : Tv} (h : DW X E e m) : DT X E e m := PW.pt h
theorem dw_and1 {a : Expr} {ma : Tv} (h : DT X E a ma) : DW X E (.BoolOp .And [a] pos) ma := pw_and1 h
theorem dw_or1 {a : Expr} {ma : Tv} (h : DT X E a ma) : DW X E (.BoolOp .Or [a] pos) ma := pw_or1 h
theorem dw_and {a b : Expr} {r : List Expr} {ma mb : Tv} (ha : DT X E a ma) (hb : DW X E (.BoolOp .And (b :: r) pos) mb) : DW X E (.BoolOp .And (a :: b :: r) pos) (tAnd ma mb) :=
  pw_weak (pw_and ha hb) fun σ H Q ⟨env, st, ρ, hen, hs, hp⟩ => ⟨env, st, ρ, hen, hs, PostX.seq hp fun p H1 ρ1 g1 hp1 hs1 => by
    dsimp only
    split
    · rename_i e
      rw [if_pos e] at hp1
      exact ⟨env, p.2, ρ1, hen.grow g1, hs1, hp1⟩
    · rename_i e
      rw [if_neg e] at hp1
      exact hp1 H1 ρ1 .refl hs1⟩
theorem dw_or {a b : Expr} {r : List Expr} {ma mb : Tv} (ha : DT X E a ma) (hb : DW X E (.BoolOp .Or (b :: r) pos) mb) : DW X E (.BoolOp .Or (a :: b :: r) pos) (tOr ma mb) :=
  pw_weak (pw_or ha hb) fun σ H Q ⟨env, st, ρ, hen, hs, hp⟩ => ⟨env, st, ρ, hen, hs, PostX.seq hp fun p H1 ρ1 g1 hp1 hs1 => by
    dsimp only
    split
    · rename_i e
      rw [if_pos e] at hp1
      exact hp1 H1 ρ1 .refl hs1
    · rename_i e
      rw [if_neg e] at hp1
      exact ⟨env, p.2, ρ1, hen.grow g1, hs1, hp1⟩⟩
theorem dt_not {a : Expr} {ma : Tv} (ha : DT X E a ma) : DT X E (.UnaryOp .Not a pos) (tNot ma) :=
  pt_weak (pt_not ha) fun σ H Q ⟨env, st, ρ, hen, hs, hp⟩ => ⟨env, st, ρ, hen, hs, PostX.seq hp fun p H1 ρ1 g1 hp1 hs1 => hp1 H1 ρ1 .refl hs1⟩
/-- as values -/
def eAnd (a b : Ev) : Ev := fun env st => a env st >>= fun p => match p.1 with
  | .bl c => if c = true then b env p.2 else .ok (.bl false, p.2)
  | _ => .stuck
def eOr (a b : Ev) : Ev := fun env st => a env st >>= fun p => match p.1 with
  | .bl c => if c = true then .ok (.bl true, p.2) else b env p.2
  | _ => .stuck
def eNot (a : Ev) : Ev := fun env st => a env st >>= fun p => match p.1 with
  | .bl c => .ok (.bl (!c), p.2)
  | _ => .stuck
theorem de_one {op : BoolOp} {a : Expr} {m : Ev} (h : DE X E a m) : DE X E (.BoolOp op [a] pos) m := pe_one h
theorem de_and {a b : Expr} {r : List Expr} {ma mb : Ev} (ha : DE X E a ma) (hb : DE X E (.BoolOp .And (b :: r) pos) mb) : DE X E (.BoolOp .And (a :: b :: r) pos) (eAnd ma mb) :=
  pe_weak (pe_and ha hb) fun σ H Q ⟨env, st, ρ, hen, hs, hp⟩ => ⟨env, st, ρ, hen, hs, PostX.seq hp fun p H1 ρ1 g1 hp1 hs1 v rv => by
    split at hp1
    · rename_i c e
      rw [e] at rv
      refine ⟨c, rv, ?_⟩
      split
      · rename_i ec
        rw [if_pos ec] at hp1
        exact ⟨env, p.2, ρ1, hen.grow g1, hs1, hp1⟩
      · rename_i ec
        rw [if_neg ec] at hp1
        exact hp1 H1 ρ1 .refl hs1 _ rfl
    · exact hp1.elim⟩
theorem de_or {a b : Expr} {r : List Expr} {ma mb : Ev} (ha : DE X E a ma) (hb : DE X E (.BoolOp .Or (b :: r) pos) mb) : DE X E (.BoolOp .Or (a :: b :: r) pos) (eOr ma mb) :=
  pe_weak (pe_or ha hb) fun σ H Q ⟨env, st, ρ, hen, hs, hp⟩ => ⟨env, st, ρ, hen, hs, PostX.seq hp fun p H1 ρ1 g1 hp1 hs1 v rv => by
    split at hp1
    · rename_i c e
      rw [e] at rv
      refine ⟨c, rv, ?_⟩
      split
      · rename_i ec
        rw [if_pos ec] at hp1
        exact hp1 H1 ρ1 .refl hs1 _ rfl
      · rename_i ec
        rw [if_neg ec] at hp1
        exact ⟨env, p.2, ρ1, hen.grow g1, hs1, hp1⟩
    · exact hp1.elim⟩
theorem de_not {a : Expr} {ma : Ev} (ha : DE X E a ma) : DE X E (.UnaryOp .Not a pos) (eNot ma) :=
  pe_weak (pe_not ha) fun σ H Q ⟨env, st, ρ, hen, hs, hp⟩ => ⟨env, st, ρ, hen, hs, PostX.seq hp fun p H1 ρ1 g1 hp1 hs1 v rv => by
    split at hp1
    · rename_i c e
      rw [e] at rv
      exact ⟨c, rv, hp1 H1 ρ1 .refl hs1 _ rfl⟩
    · exact hp1.elim⟩
def eIf (t : Tv) (a b : Ev) : Ev := fun env st => t env st >>= fun p => if p.1 = true then a env p.2 else b env p.2
theorem de_if {c a b : Expr} {mc : Tv} {ma mb : Ev} (hc : DT X E c mc) (ha : DE X E a ma) (hb : DE X E b mb) : DE X E (.IfExp c a b pos) (eIf mc ma mb) :=
  pe_weak (pe_ifExp hc ha hb) fun σ H Q ⟨env, st, ρ, hen, hs, hp⟩ => ⟨env, st, ρ, hen, hs, PostX.seq hp fun p H1 ρ1 g1 hp1 hs1 => by
    dsimp only
    split
    · rename_i e
      rw [if_pos e] at hp1
      exact ⟨env, p.2, ρ1, hen.grow g1, hs1, hp1⟩
    · rename_i e
      rw [if_neg e] at hp1
      exact ⟨env, p.2, ρ1, hen.grow g1, hs1, hp1⟩⟩
/-- a < b < c -/
def eChain (g h : F2) (a b c : Ev) : Ev := fun env st => a env st >>= fun p => b env p.2 >>= fun q => R.opt (g q.2 p.1 q.1) >>= fun d => match d with
  | .bl k => if k = true then c env q.2 >>= fun r => R.opt (h r.2 q.1 r.1) >>= fun d => .ok (d, r.2) else .ok (.bl false, q.2)
  | _ => .stuck
theorem tChain_of {g h : F2} {ma mb mc : Ev} {σ : L2.St} {H : Hp} {Q : VK} (w : tE (zx X) E (eChain g h ma mb mc) σ H Q) : tChain (rD (zx X) g) (rD (zx X) h) (tE (zx X) E ma) (tE (zx X) E mb) (tE (zx X) E mc) σ H Q := by
  obtain ⟨env, st, ρ, he, hs, hp⟩ := w
  refine ⟨env, st, ρ, he, hs, PostX.seq hp fun p H1 ρ1 g1 hp1 hs1 v rv => ?_⟩
  refine ⟨env, p.2, ρ1, he.grow g1, hs1, PostX.seq hp1 fun q H2 ρ2 g2 hp2 hs2 u ru => ?_⟩
  cases e : g q.2 p.1 q.1 with
  | none => simp only [e] at hp2; exact hp2.elim
  | some d =>
    simp only [e] at hp2
    refine ⟨ρ2, q.2, p.1, q.1, d, hs2, rv.grow g2, ru, e, fun z H3 g3 hs3 r => ?_⟩
    have hp3 := PostX.grow hp2 g3
    cases d with
    | bl k =>
      refine ⟨k, r, ?_⟩
      split
      · rename_i ek
        have hp3' : PostX (zx X) H3 ρ2 (mc env q.2 >>= fun r => R.opt (h r.2 q.1 r.1) >>= fun d => .ok (d, r.2)) (BE (zx X) Q) E := by
          simpa [ek] using hp3
        refine ⟨env, q.2, ρ2, ((he.grow g1).grow g2).grow g3, hs3, PostX.seq hp3' fun t H4 ρ4 g4 hp4 hs4 y ry => ?_⟩
        cases e4 : h t.2 q.1 t.1 with
        | none => simp only [e4] at hp4; exact hp4.elim
        | some d4 =>
          simp only [e4] at hp4
          exact ⟨ρ4, t.2, q.1, t.1, d4, hs4, (ru.grow g3).grow g4, ry, e4, fun z H' k hs' r => hp4 H' ρ4 k hs' z r⟩
      · rename_i ek
        have hp3' : PostX (zx X) H3 ρ2 (.ok (.bl false, q.2)) (BE (zx X) Q) E := by
          simpa [ek] using hp3
        exact hp3' H3 ρ2 .refl hs3 _ rfl
    | _ => exact hp3.elim
theorem de_chain {op op' : CmpOp} {g h : F2} {a b c : Expr} {ma mb mc : Ev} (ho : OpR X (compareOp op) (rD (zx X) g)) (ho' : OpR X (compareOp op') (rD (zx X) h)) (ha : DE X E a ma) (hb : DE X E b mb) (hc : DE X E c mc)
    (hm : lastMarks [op, op'] [b, c] = false := by with_unfolding_all rfl) : DE X E (.Compare a [op, op'] [b, c] pos) (eChain g h ma mb mc) :=
  pe_weak (pe_chain ho ho' ha hb hc hm) fun _ _ _ h => tChain_of h
theorem dt_chain {op op' : CmpOp} {g h : F2} {a b c : Expr} {ma mb mc : Ev} (ho : OpR X (compareOp op) (rD (zx X) g)) (ho' : OpR X (compareOp op') (rD (zx X) h)) (ha : DE X E a ma) (hb : DE X E b mb) (hc : DE X E c mc)
    (hm : lastMarks [op, op'] [b, c] = false := by with_unfolding_all rfl) : DT X E (.Compare a [op, op'] [b, c] pos) (tV (eChain g h ma mb mc)) :=
  pt_weak (pt_chain ho ho' ha hb hc hm) fun _ _ _ h => tTest_of (fun _ _ _ h => tChain_of h) h

/-! ### argument lists, displays -/
def aNil : Av := fun _ st => .ok ([], st)
def aCons (a : Ev) (r : Av) : Av := fun env st => a env st >>= fun p => r env p.2 >>= fun q => .ok (p.1 :: q.1, q.2)
theorem da_nil : DA X E [] aNil := pa_weak pa_nil fun σ H Q ⟨env, st, ρ, he, hs, hp⟩ => hp H ρ .refl hs [] rfl
theorem da_cons {e : Expr} {es : List Expr} {m : Ev} {r : Av} (ha : DE X E e m) (hr : DA X E es r) (hs : starEach (e :: es) X.env = (false, eval e X.env) :: starEach es X.env := by rfl) : DA X E (e :: es) (aCons m r) :=
  pa_weak (pa_cons ha hr hs) fun σ H Q ⟨env, st, ρ, he, hst, hp⟩ => ⟨env, st, ρ, he, hst, PostX.seq hp fun p H1 ρ1 g1 hp1 hs1 v rv =>
    ⟨env, p.2, ρ1, he.grow g1, hs1, PostX.seq hp1 fun q H2 ρ2 g2 hp2 hs2 vs rvs => hp2 H2 ρ2 .refl hs2 _ ⟨v, vs, rfl, rv.grow g2, rvs⟩⟩⟩
def eTup (a : Av) : Ev := fun env st => a env st >>= fun p => if p.1.length ≤ LINE then .ok (.tup p.1, p.2) else .stuck
def eLst (a : Av) : Ev := fun env st => a env st >>= fun p => if p.1.length ≤ LINE then .ok (.lst p.1, p.2) else .stuck
/-- a list that may change -/
def eNewL (a : Av) : Ev := fun env st => a env st >>= fun p => if p.1.length ≤ LINE then .ok (.mref p.2.length, p.2 ++ [.lst p.1]) else .stuck
theorem de_tup {es : List Expr} {m : Av} {k : Nat} (h : DA X E es m) : DE X E (.Tuple es k pos) (eTup m) :=
  pe_weak (pe_tup h) fun σ H Q ⟨env, st, ρ, he, hst, hp⟩ => ⟨env, st, ρ, he, hst, PostX.seq hp fun p H1 ρ1 g1 hp1 hs1 vs rv => by
    split at hp1
    · rename_i hl
      exact ⟨by rw [rv.len, line_eq]; exact hl, fun a ha => q_tup (Q := Q) hs1 (fun z H' g hs' r => hp1 H' ρ1 g hs' z r) rv ha⟩
    · exact hp1.elim⟩
theorem de_lst {es : List Expr} {m : Av} (h : DA X E es m) : DE X E (.List es pos) (eLst m) :=
  pe_weak (pe_lst h) fun σ H Q ⟨env, st, ρ, he, hst, hp⟩ => ⟨env, st, ρ, he, hst, PostX.seq hp fun p H1 ρ1 g1 hp1 hs1 vs rv => by
    split at hp1
    · rename_i hl
      exact ⟨by rw [rv.len, line_eq]; exact hl, fun a ha => q_lst (Q := Q) hs1 (fun z H' g hs' r => hp1 H' ρ1 g hs' z r) rv ha⟩
    · exact hp1.elim⟩
/-- a new list that may change, at p -/
theorem q_newL {Z : Wd} {H : Hp} {ρ : Rho} {st : Store} {l : List D} {xs : List V} {p : Addr} {Q : VK} (hs : StR Z H ρ st) (q : ∀ z H' ρ', Grow H H' ρ ρ' → StR Z H' ρ' (st ++ [.lst l]) → Rep Z H' ρ' (.mref st.length) z → Q z H') (r : Reps Z H ρ l xs) (hp : H p = none) : Q (.ref p) (upd H p (.lst xs)) :=
  q _ _ (ρ.push p) (.putM hp) (hs.putM hp ⟨xs, upd_same, r.grow (.putM hp)⟩) ⟨p, rfl, by show (ρ.own ++ [p])[st.length]? = _; rw [hs.len, List.getElem?_append_right (Nat.le_refl _)]; simp⟩
theorem de_newL {es : List Expr} {m : Av} (h : DA X E es m) : DE X E (.List es pos) (eNewL m) :=
  pe_weak (pe_lst h) fun σ H Q ⟨env, st, ρ, he, hst, hp⟩ => ⟨env, st, ρ, he, hst, PostX.seq hp fun p H1 ρ1 g1 hp1 hs1 vs rv => by
    split at hp1
    · rename_i hl
      exact ⟨by rw [rv.len, line_eq]; exact hl, fun a ha => q_newL (Q := Q) hs1 (fun z H' ρ' g hs' r => hp1 H' ρ' g hs' z r) rv ha⟩
    · exact hp1.elim⟩

/-! ### calls of defs -/
/-- the promise that a mirror makes -/
def spD (Z : Wd) (n : Nat) (f : Fv) : Sp := fun vs H Q E => vs.length = n ∧ ∃ ds st ρ, Reps Z H ρ ds vs ∧ StR Z H ρ st ∧ PostX Z H ρ (f ds st) (BE Z Q) E
def eCall (f : Fv) (a : Av) : Ev := fun env st => a env st >>= fun p => f p.1 p.2
theorem tCall_of {f : Fv} {n : Nat} {m : Av} (hn : ∀ env st p, m env st = .ok p → p.1.length = n) {σ : L2.St} {H : Hp} {Q : VK} (h : tE (zx X) E (eCall f m) σ H Q) : tCall (spD (zx X) n f) [] E (tA (zx X) E m) σ H Q := by
  obtain ⟨env, st, ρ, he, hst, hp⟩ := h
  have hn' := hn env st
  unfold eCall at hp
  cases e : m env st with
  | stuck => rw [e] at hp; exact hp.elim
  | exn x st' => rw [e] at hp; exact ⟨env, st, ρ, he, hst, by rw [e]; exact hp⟩
  | ok p =>
    have hl := hn' p e
    rw [e] at hp
    refine ⟨env, st, ρ, he, hst, ?_⟩
    rw [e]
    intro H' ρ' g hs' vs rv
    refine ⟨by rw [List.append_nil, rv.len]; exact hl, p.1, p.2, ρ', by rw [List.append_nil]; exact rv, hs', PostX.grow (r := f p.1 p.2) hp g⟩
theorem aNil_len (env : DEnv) (st : Store) (p : List D × Store) (h : aNil env st = .ok p) : p.1.length = 0 := by cases h; rfl
theorem aCons_len {a : Ev} {r : Av} {n : Nat} (hr : ∀ env st p, r env st = .ok p → p.1.length = n) (env : DEnv) (st : Store) (p : List D × Store) (h : aCons a r env st = .ok p) : p.1.length = n + 1 := by
  unfold aCons at h
  cases e : a env st with
  | stuck => rw [e] at h; cases h
  | exn x s => rw [e] at h; cases h
  | ok q =>
    rw [e] at h
    have h' : (r env q.2 >>= fun t => R.ok (q.1 :: t.1, t.2)) = .ok p := h
    cases e2 : r env q.2 with
    | stuck => rw [e2] at h'; cases h'
    | exn x s => rw [e2] at h'; cases h'
    | ok t =>
      rw [e2] at h'
      cases h'
      simp [hr env q.2 t e2]
theorem de_call {CX : CXT} {k n : Nat} {f : Addr} {fd : FuncData} {ps : List Str} {g : Fv} {x : Str} {p : Pos} {e : Expr} {es : List Expr} {m : Av} (F : FnOk X.prog X.w X.K X.mg X.base CX k f fd ps (spD (zx X) n g)) (hr : Room k X.A) (hg : Gl X x) (hm : X.mg x = some (.ref f)) (hk : PySem.W.keepIn X.K (.ref f) = true) (hb : Binds X.K fd ps []) (hx : Passes CX X E)
    (ha : DA X E (e :: es) m) (hn : ∀ env st p, m env st = .ok p → p.1.length = n) (hdb : (x == ("__debug__" : Str)) = false := by decide) (he : starEach (e :: es) X.env = (false, eval e X.env) :: starEach es X.env := by rfl) (hpl : (backTo pos (starEach es X.env)).any (·.1) = false := by rfl) :
    DE X E (.Call (.Name x p) (e :: es) [] pos) (eCall g m) :=
  pe_weak (pe_call F hr hg hm hk hb .nil hx ha hdb he hpl) fun _ _ _ h => tCall_of hn h
/-! ### defs that change nothing of their callers' -/
abbrev Pf := List D → R D
def BP (Z : Wd) (Q : VK) : D → Hp → Rho → Prop := fun d H' ρ' => ρ'.own = [] → still d = true → TabX Z H' → ∀ v, Rep Z H' ρ' d v → Q v H'
def spP (Z : Wd) (n : Nat) (f : Pf) : Sp := fun vs H Q E => vs.length = n ∧ ∃ ds ρ, ρ.own = [] ∧ (∀ a ∈ ρ.av, Mut (H a)) ∧ TabX Z H ∧ Reps Z H ρ ds vs ∧ PostX Z H ρ (f ds) (BP Z Q) E
mutual
/-- no list, no dict, no instance in it -/
def hard : D → Bool
  | .non => true
  | .bl _ => true
  | .int _ => true
  | .str _ => true
  | .byt _ => true
  | .flt _ => true
  | .tup l => hards l
  | .lst _ => false
  | .dct _ _ => false
  | .ins _ _ _ => false
  | .mref _ => false
  | .scr _ => false
def hards : List D → Bool
  | [] => true
  | d :: l => hard d && hards l
end
mutual
theorem Rep.hard {Z : Wd} {H : Hp} {ρ ρ' : Rho} (ht : ∀ a ∈ ρ', Mut (H a)) : ∀ {d : D} {v : V}, hard d = true → Rep Z H ρ d v → Rep Z H ρ' d v
  | .non, v, _, h => h
  | .bl _, v, _, h => h
  | .int _, v, _, h => h
  | .str _, v, _, h => h
  | .byt _, v, _, h => h
  | .flt _, v, _, h => h
  | .tup l, v, q, ⟨a, xs, e, hq, r⟩ => by
    refine ⟨a, xs, e, ?_, Reps.hard ht q r⟩
    rcases hq with ⟨hq, _⟩ | hq
    · refine .inl ⟨hq, fun m => ?_⟩
      have := ht a m
      rcases hq with hq | ⟨o, hq⟩ <;> (rw [hq] at this; exact this)
    · exact .inr hq
theorem Reps.hard {Z : Wd} {H : Hp} {ρ ρ' : Rho} (ht : ∀ a ∈ ρ', Mut (H a)) : ∀ {l : List D} {xs : List V}, hards l = true → Reps Z H ρ l xs → Reps Z H ρ' l xs
  | [], xs, _, h => h
  | d :: l, xs, q, ⟨x, r, e, h, t⟩ => by
    have q' : (Px.hard d && hards l) = true := q
    rw [Bool.and_eq_true] at q'
    exact ⟨x, r, e, Rep.hard ht q'.1 h, Reps.hard ht q'.2 t⟩
end
theorem mrep_mut {Z : Wd} {H : Hp} {ρ : Rho} {a : Addr} {o : MObj} (h : MRep Z H ρ a o) : Mut (H a) := by
  cases o with
  | lst l => obtain ⟨xs, q, _⟩ := h; rw [q]; trivial
  | dct ks vs => rcases h with ⟨_, q, _⟩ | ⟨_, _, _, _, _, q, _⟩ <;> (rw [q]; trivial)
  | ins c ns vs => obtain ⟨dx, fs, q, _⟩ := h; rw [q]; trivial
theorem StR.mt {Z : Wd} {H : Hp} {ρ : Rho} {st : Store} (h : StR Z H ρ st) : ∀ a ∈ ρ, Mut (H a) := fun a m => by
  rcases m with m | m
  · obtain ⟨n, hn, e⟩ := List.getElem_of_mem m
    have hl : n < st.length := by rw [h.len]; exact hn
    obtain ⟨b, e2, q⟩ := h.at_ n _ (List.getElem?_eq_getElem hl)
    rw [List.getElem?_eq_getElem hn, e] at e2
    cases e2
    exact mrep_mut q
  · exact h.tr a m
/-- what a caller sees of such a call -/
def callP (f : Pf) (st : Store) (ds : List D) : R D :=
  if stills ds = true then f ds
  else if stills (ds.map (rd st)) = true then f (ds.map (rd st)) >>= fun d => if hard d = true then .ok d else .stuck
  else .stuck
def R.land (st : Store) : R D → R (D × Store)
  | .ok d => .ok (d, st)
  | .exn e s => if hards e.vs = true then .exn e st else .stuck
  | .stuck => .stuck
def eCallP (f : Pf) (a : Av) : Ev := fun env st => a env st >>= fun p => R.land p.2 (callP f p.2 p.1)
theorem looks {Z : Wd} {H : Hp} {ρ : Rho} {st : Store} (hs : StR Z H ρ st) : ∀ {l : List D} {xs : List V}, stills (l.map (rd st)) = true → Reps Z H ρ l xs → Reps Z H .none (l.map (rd st)) xs
  | [], xs, _, h => h
  | d :: l, xs, q, ⟨x, r, e, h, t⟩ => by
    have q' : (still (rd st d) && stills (l.map (rd st))) = true := q
    rw [Bool.and_eq_true] at q'
    exact ⟨x, r, e, h.look hs q'.1, looks hs q'.2 t⟩
theorem own_nil {Z : Wd} {H : Hp} {ρ : Rho} (h : StR Z H ρ []) : ρ.own = [] := List.eq_nil_of_length_eq_zero h.len.symm
/-- behind a call that changes nothing of its caller's -/
theorem back_from {Z : Wd} {H H' : Hp} {ρ ρc ρ' : Rho} {st : Store} (hs : StR Z H ρ st) (hc : ρc.own = []) (g : Grow H H' ρc ρ') (tb : TabX Z H') : Grow H H' ρ ρ ∧ StR Z H' ρ st := by
  have kp : ∀ a o, NT o → H a = some o → H' a = some o := fun a o nt e => g.keep a o e nt (by rw [hc]; simp)
  have g2 : Grow H H' ρ ρ := ⟨fun _ _ h => h, fun a o e nt _ => kp a o nt e, fun _ h => .inl h, g.was, fun a _ h => by
    cases e : H a with
    | none => rw [e] at h; exact h.elim
    | some o =>
      rw [e] at h
      rw [kp a o (mut_nt h) e]; exact h, rfl⟩
  refine ⟨g2, hs.same g2 (fun a m => ?_) tb⟩
  cases e : H a with
  | none => exact absurd e (hs.tracked (.inl m))
  | some o =>
    have := hs.mt a (.inl m)
    rw [e] at this
    rw [kp a o (mut_nt this) e]
theorem tCallP_of {f : Pf} {n : Nat} {m : Av} (hn : ∀ env st p, m env st = .ok p → p.1.length = n) {σ : L2.St} {H : Hp} {Q : VK} (h : tE (zx X) E (eCallP f m) σ H Q) : tCall (spP (zx X) n f) [] E (tA (zx X) E m) σ H Q := by
  obtain ⟨env, st, ρ, he, hst, hp⟩ := h
  have hn' := hn env st
  unfold eCallP at hp
  cases e : m env st with
  | stuck => rw [e] at hp; exact hp.elim
  | exn x st' => rw [e] at hp; exact ⟨env, st, ρ, he, hst, by rw [e]; exact hp⟩
  | ok p =>
    have hl := hn' p e
    rw [e] at hp
    have hp : PostX (zx X) H ρ (R.land p.2 (callP f p.2 p.1)) (BE (zx X) Q) E := hp
    refine ⟨env, st, ρ, he, hst, ?_⟩
    rw [e]
    intro H' ρ' g hs' vs rv
    have hp1 := hp.grow g
    refine ⟨by rw [List.append_nil, rv.len]; exact hl, ?_⟩
    rw [List.append_nil]
    unfold callP at hp1
    by_cases hst : stills p.1 = true
    · rw [if_pos hst] at hp1
      have sub : ∀ a, a ∈ (⟨[], ρ'.own ++ ρ'.av⟩ : Rho) → a ∈ ρ' := fun a q => by
        rcases q with q | q
        · cases q
        · exact List.mem_append.mp q
      have sup : ∀ a, a ∈ ρ' → a ∈ (⟨[], ρ'.own ++ ρ'.av⟩ : Rho) := fun a q => .inr (List.mem_append.mpr q)
      refine ⟨p.1, ⟨[], ρ'.own ++ ρ'.av⟩, rfl, fun a q => hs'.mt a (sub a (.inr q)), hs'.tb, rv.fewer sub hst, ?_⟩
      cases ef : f p.1 with
      | stuck => rw [ef] at hp1; exact hp1.elim
      | exn x s =>
        rw [ef] at hp1
        have hp1 : PostX (zx X) H' ρ' (if hards x.vs = true then .exn x p.2 else .stuck) (BE (zx X) Q) E := hp1
        split at hp1
        · rename_i hx
          intro cv dx H2 ρ2 g2 hs2 ⟨ec, d, fs, e3, e4, e5, r5⟩
          obtain ⟨g3, hs3⟩ := back_from hs' rfl g2 hs2.tb
          exact hp1 cv dx H2 ρ' g3 hs3 ⟨ec, d, fs, e3, e4, e5, r5.hard hs3.mt hx⟩
        · exact hp1.elim
      | ok d =>
        rw [ef] at hp1
        intro H2 ρ2 g2 ow hd tb v rvd
        obtain ⟨g3, hs3⟩ := back_from hs' rfl g2 tb
        refine hp1 H2 ρ' g3 hs3 v (rvd.fewer (fun a q => ?_) hd)
        rw [show ρ2 = ⟨ρ2.own, ρ2.av⟩ from rfl, ow, g2.av]
        exact sup a q
    · rw [if_neg hst] at hp1
      by_cases hst2 : stills (p.1.map (rd p.2)) = true
      · rw [if_pos hst2] at hp1
        refine ⟨p.1.map (rd p.2), .none, rfl, fun a q => absurd q (by simp [Rho.none]), hs'.tb, looks hs' hst2 rv, ?_⟩
        cases ef : f (p.1.map (rd p.2)) with
        | stuck => rw [ef] at hp1; exact hp1.elim
        | exn x s =>
          rw [ef] at hp1
          have hp1 : PostX (zx X) H' ρ' (if hards x.vs = true then .exn x p.2 else .stuck) (BE (zx X) Q) E := hp1
          split at hp1
          · rename_i hx
            intro cv dx H2 ρ2 g2 hs2 ⟨ec, d, fs, e3, e4, e5, r5⟩
            obtain ⟨g3, hs3⟩ := back_from hs' rfl g2 hs2.tb
            exact hp1 cv dx H2 ρ' g3 hs3 ⟨ec, d, fs, e3, e4, e5, r5.hard hs3.mt hx⟩
          · exact hp1.elim
        | ok d =>
          rw [ef] at hp1
          simp only [R.ok_bind] at hp1
          intro H2 ρ2 g2 ow hd tb v rvd
          obtain ⟨g3, hs3⟩ := back_from hs' rfl g2 tb
          split at hp1
          · rename_i hh
            exact hp1 H2 ρ' g3 hs3 v (rvd.hard hs3.mt hh)
          · exact hp1.elim
      · rw [if_neg hst2] at hp1; exact hp1.elim
theorem de_callP {CX : CXT} {k n : Nat} {f : Addr} {fd : FuncData} {ps : List Str} {g : Pf} {x : Str} {p : Pos} {e : Expr} {es : List Expr} {m : Av} (F : FnOk X.prog X.w X.K X.mg X.base CX k f fd ps (spP (zx X) n g)) (hr : Room k X.A) (hg : Gl X x) (hm : X.mg x = some (.ref f)) (hk : PySem.W.keepIn X.K (.ref f) = true) (hb : Binds X.K fd ps []) (hx : Passes CX X E)
    (ha : DA X E (e :: es) m) (hn : ∀ env st p, m env st = .ok p → p.1.length = n) (hdb : (x == ("__debug__" : Str)) = false := by decide) (he : starEach (e :: es) X.env = (false, eval e X.env) :: starEach es X.env := by rfl) (hpl : (backTo pos (starEach es X.env)).any (·.1) = false := by rfl) :
    DE X E (.Call (.Name x p) (e :: es) [] pos) (eCallP g m) :=
  pe_weak (pe_call F hr hg hm hk hb .nil hx ha hdb he hpl) fun _ _ _ h => tCallP_of hn h
end
end Px
/-! P7: statements by mirrors. -/
namespace Px
open PySem PySem.Spec
open L2
section
variable {X : Cx} {E : XK} {pos : Pos}
/-! ### blocks -/
def sNil : Sm := fun env st => .ok (.nx, env, st)
def sSeq (a b : Sm) : Sm := fun env st => a env st >>= fun p => match p.1 with
  | .nx => b p.2.1 p.2.2
  | o => .ok (o, p.2.1, p.2.2)
theorem dss_nil : DSs X E [] sNil := pss_weak pss_nil fun U σ H ⟨env, st, ρ, he, hs, hp⟩ => hp H ρ .refl hs σ he
theorem dss_cons {s : Stmt} {r : List Stmt} {m n : Sm} (h1 : DS X E s m) (h2 : DSs X E r n) : DSs X E (s :: r) (sSeq m n) :=
  pss_weak (pss_cons h1 h2) fun U σ H ⟨env, st, ρ, he, hs, hp⟩ => ⟨env, st, ρ, he, hs, PostX.seq hp fun p H1 ρ1 g1 hp1 hs1 σ1 he1 => by
    cases e : p.1 with
    | nx => rw [e] at hp1; exact ⟨p.2.1, p.2.2, ρ1, he1, hs1, hp1⟩
    | bk => rw [e] at hp1; exact hp1 H1 ρ1 .refl hs1 σ1 he1
    | ct => rw [e] at hp1; exact hp1 H1 ρ1 .refl hs1 σ1 he1
    | rt d => rw [e] at hp1; exact hp1 H1 ρ1 .refl hs1 σ1 he1⟩
theorem dss_one {s : Stmt} {m : Sm} (h1 : DS X E s m) : DSs X E [s] m := pss_one h1
def sRet (m : Ev) : Sm := fun env st => m env st >>= fun p => .ok (.rt p.1, env, p.2)
theorem ds_ret {e : Expr} {m : Ev} (h : DE X E e m) : DS X E (.Return (some e) pos) (sRet m) :=
  ps_weak (ps_ret h) fun U σ H ⟨env, st, ρ, he, hs, hp⟩ => ⟨env, st, ρ, he, hs, PostX.seq hp fun p H1 ρ1 g1 hp1 hs1 v rv => hp1 H1 ρ1 .refl hs1 σ (he.grow g1) v rv⟩
def sRetN : Sm := fun env st => .ok (.rt .non, env, st)
theorem ds_retN : DS X E (.Return none pos) sRetN := ps_weak ps_retN fun U σ H ⟨env, st, ρ, he, hs, hp⟩ => hp H ρ .refl hs σ he _ rfl
theorem ds_pass : DS X E (.Pass pos) sNil := ps_weak ps_pass fun U σ H ⟨env, st, ρ, he, hs, hp⟩ => hp H ρ .refl hs σ he
def sBreak : Sm := fun env st => .ok (.bk, env, st)
def sCont : Sm := fun env st => .ok (.ct, env, st)
theorem ds_break : DS X E (.Break pos) sBreak := ps_weak ps_break fun U σ H ⟨env, st, ρ, he, hs, hp⟩ => hp H ρ .refl hs σ he
theorem ds_cont : DS X E (.Continue pos) sCont := ps_weak ps_continue fun U σ H ⟨env, st, ρ, he, hs, hp⟩ => hp H ρ .refl hs σ he
def sExpr (m : Ev) : Sm := fun env st => m env st >>= fun p => .ok (.nx, env, p.2)
theorem ds_expr {e : Expr} {m : Ev} (h : DE X E e m) (hs : swapsWith e none pos.line X.env = pure false := by rfl) : DS X E (.Expr e pos) (sExpr m) :=
  ps_weak (ps_expr h hs) fun U σ H ⟨env, st, ρ, he, hs, hp⟩ => ⟨env, st, ρ, he, hs, PostX.seq hp fun p H1 ρ1 g1 hp1 hs1 v rv => hp1 H1 ρ1 .refl hs1 σ (he.grow g1)⟩
def sIf (c : Tv) (a b : Sm) : Sm := fun env st => c env st >>= fun p => if p.1 = true then a env p.2 else b env p.2
theorem ds_if {c : Expr} {a b : List Stmt} {mc : Tv} {ma mb : Sm} (hc : DT X E c mc) (ha : DSs X E a ma) (hb : DSs X E b mb) : DS X E (.If c a b pos) (sIf mc ma mb) :=
  ps_weak (ps_if hc ha hb) fun U σ H ⟨env, st, ρ, he, hs, hp⟩ => ⟨env, st, ρ, he, hs, PostX.seq hp fun p H1 ρ1 g1 hp1 hs1 => by
    dsimp only
    split
    · rename_i e
      rw [if_pos e] at hp1
      exact ⟨env, p.2, ρ1, he.grow g1, hs1, hp1⟩
    · rename_i e
      rw [if_neg e] at hp1
      exact ⟨env, p.2, ρ1, he.grow g1, hs1, hp1⟩⟩

/-! ### stores -/
theorem EnvR.put {Z : Wd} {H : Hp} {ρ : Rho} {env : DEnv} {σ : L2.St} (h : EnvR Z H ρ env σ) (i : Nat) {d : D} {v : V} (r : Rep Z H ρ d v) : EnvR Z H ρ (env.set i (some d)) (σ.set i (some v)) := by
  refine ⟨by simp [h.len], fun j d' e => ?_⟩
  by_cases hj : i = j
  · subst hj
    have hl : i < env.length := by have := (List.getElem?_eq_some_iff.mp e).1; simpa using this
    rw [List.getElem?_set_self hl] at e
    cases e
    exact ⟨v, by rw [List.getElem?_set_self (by rw [← h.len]; exact hl)], r⟩
  · rw [List.getElem?_set_ne hj] at e
    obtain ⟨u, h1, h2⟩ := h.at_ j d' e
    exact ⟨u, by rw [List.getElem?_set_ne hj]; exact h1, h2⟩
/-- a target: what is stored, the names, the objects -/
abbrev Gv := D → DEnv → Store → R (DEnv × Store)
abbrev Gvs := List D → DEnv → Store → R (DEnv × Store)
def BG (Z : Wd) (Q : L2.St → Hp → Prop) : DEnv × Store → Hp → Rho → Prop := fun p H' ρ' => StR Z H' ρ' p.2 → ∀ σ', EnvR Z H' ρ' p.1 σ' → Q σ' H'
def tG (Z : Wd) (E : XK) (g : Gv) : TG := fun v σ H Q => ∃ d env st ρ, Rep Z H ρ d v ∧ EnvR Z H ρ env σ ∧ StR Z H ρ st ∧ PostX Z H ρ (g d env st) (BG Z Q) E
def tGs (Z : Wd) (E : XK) (g : Gvs) : TGs := fun vs σ H Q => ∃ ds env st ρ, Reps Z H ρ ds vs ∧ EnvR Z H ρ env σ ∧ StR Z H ρ st ∧ PostX Z H ρ (g ds env st) (BG Z Q) E
abbrev DG (X : Cx) (E : XK) (t : Expr) (g : Gv) : Prop := PG X t (tG (zx X) E g)
abbrev DGs (X : Cx) (E : XK) (t : List Expr) (g : Gvs) : Prop := PGs X t (tGs (zx X) E g)
theorem pg_weak {t : Expr} {a b : TG} (h : PG X t a) (c : ∀ v σ H Q, b v σ H Q → a v σ H Q) : PG X t b := ⟨fun pins s σ H v u Q I r q => h.run pins s σ H v u Q I r (c _ _ _ _ q)⟩
theorem pgs_weak {t : List Expr} {a b : TGs} (h : PGs X t a) (c : ∀ v σ H Q, b v σ H Q → a v σ H Q) : PGs X t b := ⟨fun pins s σ H v u Q I r q => h.run pins s σ H v u Q I r (c _ _ _ _ q)⟩
def gV (i : Nat) : Gv := fun d env st => .ok (env.set i (some d), st)
theorem dg_v {i : Nat} {x : Str} (hN : X.N.Nodup) (hi : X.N[i]? = some x) (hx : Loc X.env.scope x) (hf : X.fn x = true ∨ X.env.scope.names.lookup x = some .local := by first | exact .inl rfl | exact .inr rfl | assumption) : DG X E (.Name x pos) (gV i) :=
  pg_weak (pg_name hN hi hx hf) fun v σ H Q ⟨d, env, st, ρ, r, he, hs, hp⟩ => hp H ρ .refl hs _ (he.put i r)
def gNo : Gvs := fun ds env st => match ds with
  | [] => .ok (env, st)
  | _ => .stuck
def gAnd (g : Gv) (r : Gvs) : Gvs := fun ds env st => match ds with
  | d :: ds => g d env st >>= fun p => r ds p.1 p.2
  | [] => .stuck
theorem dgs_nil : DGs X E [] gNo := pgs_weak pgs_nil fun vs σ H Q ⟨ds, env, st, ρ, r, he, hs, hp⟩ => by
  cases ds with
  | nil => exact ⟨r, hp H ρ .refl hs σ he⟩
  | cons d ds => exact hp.elim
theorem dgs_cons {t : Expr} {ts : List Expr} {g : Gv} {r : Gvs} (h1 : DG X E t g) (h2 : DGs X E ts r) (hs : (assignEach (t :: ts) X.env).map (·.2) = assign t X.env :: (assignEach ts X.env).map (·.2) := by rfl) : DGs X E (t :: ts) (gAnd g r) :=
  pgs_weak (pgs_cons h1 h2 hs) fun vs σ H Q ⟨ds, env, st, ρ, rv, he, hs, hp⟩ => by
    cases ds with
    | nil => exact hp.elim
    | cons d ds =>
      obtain ⟨v, vr, e, h3, h4⟩ := rv
      refine ⟨v, vr, e, d, env, st, ρ, h3, he, hs, PostX.seq hp fun p H1 ρ1 g1 hp1 hs1 σ1 he1 => ?_⟩
      exact ⟨ds, p.1, p.2, ρ1, h4.grow g1, he1, hs1, hp1⟩
/-- (a, b, ..) -/
def gTup (n : Nat) (r : Gvs) : Gv := fun d env st => match d with
  | .tup l => if l.length = n then r l env st else .stuck
  | _ => .stuck
theorem dg_tup {es : List Expr} {k n : Nat} {g : Gvs} (hc : X.calm = true) (h : DGs X E es g) (hn : (assignEach es X.env).length = n := by rfl) (hst : (assignEach es X.env).findIdx? (·.1) = none := by rfl) : DG X E (.Tuple es k pos) (gTup n g) :=
  pg_weak (pg_tup hc h hn hst) fun v σ H Q ⟨d, env, st, ρ, r, he, hs, hp⟩ => by
    unfold gTup at hp
    split at hp
    · rename_i l
      split at hp
      · rename_i hl
        obtain ⟨a, xs, rfl, hq, r⟩ := r
        exact ⟨a, xs, rfl, sqT_of hq, by rw [r.len]; exact hl, l, env, st, ρ, r, he, hs, hp⟩
      · exact hp.elim
    · exact hp.elim
def sAsg (m : Ev) (g : Gv) : Sm := fun env st => m env st >>= fun p => g p.1 env p.2 >>= fun q => .ok (.nx, q.1, q.2)
theorem tAsg_of {m : Ev} {g : Gv} {U : Ends} {σ : L2.St} {H : Hp} (h : tS (zx X) E (sAsg m g) U σ H) : tAsg (tE (zx X) E m) (tG (zx X) E g) U σ H := by
  obtain ⟨env, st, ρ, he, hs, hp⟩ := h
  refine ⟨env, st, ρ, he, hs, PostX.seq hp fun p H1 ρ1 g1 hp1 hs1 v rv => ⟨p.1, env, p.2, ρ1, rv, he.grow g1, hs1, PostX.seq hp1 fun q H2 ρ2 g2 hp2 hs2 σ2 he2 => hp2 H2 ρ2 .refl hs2 σ2 he2⟩⟩
theorem ds_asg {tg e : Expr} {m : Ev} {g : Gv} (he : DE X E e m) (hg : DG X E tg g) (hs : swapsWithSole [tg] e pos.line X.env = pure false := by rfl) (hw : swappedStores [tg] e X.env = pure none := by rfl)
    (h1 : (assignEach [tg] X.env).map (·.2) = [assign tg X.env] := by rfl) : DS X E (.Assign [tg] e pos) (sAsg m g) :=
  ps_weak (ps_asg he hg hs hw h1) fun _ _ _ h => tAsg_of h
theorem ds_set {i : Nat} {x : Str} {e : Expr} {m : Ev} {pos' : Pos} (hN : X.N.Nodup) (hi : X.N[i]? = some x) (hx : Loc X.env.scope x) (he : DE X E e m) (hs : swapsWith e (some (.Name x pos')) pos.line X.env = pure false := by rfl) (hf : X.fn x = true ∨ X.env.scope.names.lookup x = some .local := by first | exact .inl rfl | exact .inr rfl | assumption) :
    DS X E (.Assign [.Name x pos'] e pos) (sAsg m (gV i)) :=
  ps_weak (ps_set hN hi hx he hs hf) fun U σ H ⟨env, st, ρ, he, hs, hp⟩ => ⟨env, st, ρ, he, hs, PostX.seq hp fun p H1 ρ1 g1 hp1 hs1 v rv => hp1 H1 ρ1 .refl hs1 _ ((he.grow g1).put i rv)⟩
/-- a, b = x, y: no tuple is made -/
def sPar (i j : Nat) (a : Av) : Sm := fun env st => a env st >>= fun p => match p.1 with
  | [x, y] => .ok (.nx, (env.set i (some x)).set j (some y), p.2)
  | _ => .stuck
theorem ds_par {i j : Nat} {x y : Str} {a b : Expr} {m : Av} {px py pt : Pos} {kt k2 : Nat} {pt2 : Pos} (hc : X.calm = true) (hN : X.N.Nodup) (hi : X.N[i]? = some x) (hj : X.N[j]? = some y) (hij : i ≠ j)
    (hx : X.env.scope.names.lookup x = some .local) (hy : X.env.scope.names.lookup y = some .local) (ha : DA X E [a, b] m)
    (hw : swappedStores [.Tuple [.Name x px, .Name y py] kt pt] (.Tuple [a, b] k2 pt2) X.env = pure (some [x, y]))
    (hs : swapsWithSole [.Tuple [.Name x px, .Name y py] kt pt] (.Tuple [a, b] k2 pt2) pos.line X.env = pure false := by rfl) :
    DS X E (.Assign [.Tuple [.Name x px, .Name y py] kt pt] (.Tuple [a, b] k2 pt2) pos) (sPar i j m) :=
  ps_weak (ps_par hc hN hi hj hij hx hy ha hw hs) fun U σ H ⟨env, st, ρ, he, hs, hp⟩ => ⟨env, st, ρ, he, hs, PostX.seq hp fun p H1 ρ1 g1 hp1 hs1 vs rv => by
    split at hp1
    · rename_i x y e
      rw [e] at rv
      obtain ⟨v, r, rfl, r1, w, r', rfl, r2, rfl⟩ := rv
      exact ⟨v, w, rfl, hp1 H1 ρ1 .refl hs1 _ (((he.grow g1).put i r1).put j r2)⟩
    · exact hp1.elim⟩
def sPar3 (i j l : Nat) (a : Av) : Sm := fun env st => a env st >>= fun p => match p.1 with
  | [x, y, z] => .ok (.nx, ((env.set i (some x)).set j (some y)).set l (some z), p.2)
  | _ => .stuck
/-- o[i] = e, into an object that may change -/
def dPut (x i d : D) (st : Store) : Option Store := match x with
  | .mref n => match st[n]? with
    | some (.lst l) => match i with
      | .int k => match ixN l.length k with
        | some j => some (st.set n (.lst (l.set j d)))
        | none => none
      | _ => none
    | some (.dct ks vs) => if keyOk i = true ∧ sortOk ks i = true ∧ ks.length < LINE then some (st.set n (.dct (dSet ks vs i d).1 (dSet ks vs i d).2)) else none
    | _ => none
  | _ => none
def rPut (Z : Wd) : TSet := fun ov iv v H Q => ∃ ρ st x i d st', StR Z H ρ st ∧ Rep Z H ρ x ov ∧ Rep Z H ρ i iv ∧ Rep Z H ρ d v ∧ dPut x i d st = some st' ∧ ∀ H', Grow H H' ρ ρ → StR Z H' ρ st' → Q H'
theorem stH_len (xs : NX) (n : NestedKey) (b : Addr) (u : Value) : (storedH xs n b u).length ≤ xs.length + 1 := by
  unfold storedH
  split
  · rw [List.length_map]; omega
  · simp
theorem stH_ne (xs : NX) (n : NestedKey) (b : Addr) (u : Value) : storedH xs n b u ≠ [] := by
  cases xs with
  | nil => simp [storedH]; rfl
  | cons x xs => unfold storedH; split <;> simp
theorem rep_ref_tup {Z : Wd} {H : Hp} {ρ : Rho} {l : List D} {v : V} (h : Rep Z H ρ (.tup l) v) : ∃ b, v = .ref b := let ⟨a, _, e, _⟩ := h; ⟨a, e⟩
/-- d[k] = e, in the state -/
theorem set_dict_run (hu : X.A.units + 64 < cLine) {pins : List (Addr × Obj)} {σ : L2.St} {H : Hp} {s : Shared} {ρ : Rho} {st : Store} {E : Value → Shared → Prop} {Q : Unit → Shared → Prop} (I : Inv X pins σ H s) (hst : StR (zx X) H ρ st) {n : Nat} {a : Addr} {ks vs : List D} {k d : D} {kv v : V} {u r : Value}
    (ha : ρ.own[n]? = some a) (h : DictC (zx X) H a ks (Reps (zx X) H ρ vs) (Reps (zx X) H ρ ks)) (h1 : Rep (zx X) H ρ k kv) (r1 : RelV kv u) (h2 : Rep (zx X) H ρ d v) (r2 : RelV v r) (hk : keyOk k = true) (hso : sortOk ks k = true) (hl : ks.length < LINE)
    (q : ∀ s' H', Inv X pins σ H' s' → Grow H H' ρ ρ → StR (zx X) H' ρ (st.set n (.dct (dSet ks vs k d).1 (dSet ks vs k d).2)) → Q () s') : wpAny (model X.prog X.w) X.A (setItem (.ref a) u r) Q E s := by
  have hap : a ∈ ρ.own := List.mem_of_getElem? ha
  cases e1 : leafKey k with
  | some key =>
    obtain ⟨kvs, us, e2, rr, rel, dd, hd, hz, mu⟩ := dict_leaf I h e1 hso
    rw [leafKey_of e1] at h1
    have hki : (mixKind X.prog X.w).is key u = true := by
      cases key with
      | inl i => obtain rfl : kv = .int i := h1; exact kV_is (k := .inl i) r1
      | inr x => obtain rfl : kv = .str x := h1; exact kV_is (k := .inr x) r1
    have hnd : (kvs.map (·.1)).Nodup := by
      rw [rel.keys]; obtain ⟨_, _, _, _, _, _, _, _, hn⟩ := dd; exact hn
    obtain ⟨i1, i2⟩ := set_leaf key h2 kvs vs hnd rr
    have hz2 : us.length ≤ sizeLine := by rw [← rel.length]; exact hz
    have hz3 : (putK kvs key v).length ≤ sizeLine := by
      have := length_putK kvs key v
      rw [line_eq]
      rw [e2, List.length_map] at hl
      omega
    refine wpAny_setItem_pairs (hsz := hz2) hki dd fun h' dd' hsb => ?_
    have he : ∃ q, h'.get? a = some q := let ⟨q, _, _, hq, _⟩ := dd'; ⟨q, hq⟩
    have g : Grow H (upd H a (.dK (putK kvs key v))) ρ ρ := .write hap trivial
    refine q _ _ (d_write I mu hsb he (dk_new hz3 hd (rel.put key r2) dd')) g (hst.write ha trivial (.inl ⟨_, upd_same, ?_, ?_⟩))
    · rw [e2, leafKey_of e1]; exact i1
    · rw [e2, leafKey_of e1]; exact i2.grow g
  | none =>
    cases e2 : tupKey k with
    | none => unfold keyOk at hk; rw [e1, e2] at hk; cases hk
    | some m =>
      obtain ⟨xs, vvs, e3, x1, x2, x3, dd, hd, hz, hdep, mu⟩ := dict_tup I h e2 hso
      obtain ⟨e4, e5, _, ns, e6⟩ := tupKey_of e2
      rw [e4] at h1
      have hn := nested_of I m kv u h1 r1
      obtain ⟨b, rfl⟩ : ∃ b, kv = .ref b := by rw [e6] at h1; exact rep_ref_tup h1
      obtain rfl : u = .ref b := r1
      obtain ⟨i1, ⟨vv2, i2, i3⟩, i4, i5⟩ := set_tup m h1 h2 r2 xs vs vvs dd.nodup x1 x2 x3
      have hz3 : (storedH xs m b r).length ≤ sizeLine := by
        have := stH_len xs m b r
        rw [line_eq]
        rw [e3, List.length_map] at hl
        omega
      refine wpAny_setItem_heap (knd := nestedKind X.prog X.w) (hsz := hz) (show X.A.units + 1 + 8 < cLine by omega) ⟨hn, e5⟩ dd fun h' dd' hsb => ?_
      obtain ⟨o, es, ep, hq, y1, y2, y3, _, y4⟩ := dd'
      have g : Grow H (upd H a (.ext fun h => h.get? a = some o)) ρ ρ := .write hap trivial
      refine q _ _ (d_write (ob := .ext fun h => h.get? a = some o) I mu hsb ⟨o, hq⟩ ⟨hq, ⟨o, hq⟩, fun h1 h2 p sm => sm _ p⟩) g (hst.write ha trivial (.inr ⟨o, es, ep, _, vv2, upd_same, y1, y2, y3, y4, hd, hz3, fun x hx => ?_, i2, ?_, ?_, ?_⟩))
      · rcases i5 x hx with e | ⟨y, hy, e⟩
        · rw [e]; exact e5
        · rw [e]; exact hdep y hy
      · rw [e3, e4]; exact i3.grow g
      · rw [e3, e4, i1]; exact i4.grow g
      · exact ⟨by rw [e3, e4]; exact i1, stH_ne xs m b r⟩
theorem set_put (hu : X.A.units + 64 < cLine) : PSet X (rPut (zx X)) := by
  intro pins s σ H ov iv v o i u Q I r1 r2 r3 ⟨ρ, st, x, k, d, st', hst, h1, h2, h3, e, q⟩
  unfold dPut at e
  split at e
  · rename_i n
    split at e
    · rename_i l e1
      split at e
      · split at e
        · rename_i j ej
          cases e
          obtain ⟨a, rfl, ea⟩ := h1
          obtain ⟨b, xs, eb, hq, rr⟩ := hst.lst e1
          rw [ea] at eb; cases eb
          obtain rfl : iv = .int _ := h2
          have hap : a ∈ ρ.own := List.mem_of_getElem? ea
          have g : Grow H (upd H a (.lst (xs.set j v))) ρ ρ := .write hap trivial
          refine set_list pins s σ H _ _ v o i u Q I r1 r2 r3 ⟨a, xs, _, j, rfl, rfl, hq, by rw [rr.len]; exact ej, ?_⟩
          exact q _ g (hst.write ea trivial ⟨_, upd_same, (Reps.set h3 j rr).grow g⟩)
        · cases e
      · cases e
    · rename_i ks vs e1
      split at e
      · rename_i hz
        cases e
        obtain ⟨a, rfl, ea⟩ := h1
        obtain ⟨b, eb, hq⟩ := hst.at_ n _ e1
        rw [ea] at eb; cases eb
        obtain rfl : o = .ref a := r1
        exact set_dict_run hu I hst ea hq h2 r2 h3 r3 hz.1 hz.2.1 hz.2.2 fun s' H' I' g hs' => ⟨H', I', q H' g hs'⟩
      · cases e
    · cases e
  · cases e
def gSub (a b : Ev) : Gv := fun d env st => a env st >>= fun p => b env p.2 >>= fun q => R.opt (dPut p.1 q.1 d q.2) >>= fun st' => .ok (env, st')
theorem dg_sub (hu : X.A.units + 64 < cLine) {o i : Expr} {mo mi : Ev} (ho : DE X E o mo) (hi : DE X E i mi) (ha : ∀ v, assign (.Subscript o i pos) X.env v = (do
      let ov ← holding [v] (eval o X.env)
      let iv ← holding [v, ov] (eval i X.env)
      standAt pos
      holding [v, ov, iv] (setItem ov iv v)
      release [v, ov, iv] []) := by intro _; rfl) : DG X E (.Subscript o i pos) (gSub mo mi) :=
  pg_weak (pg_sub ho hi (set_put hu) ha) fun v σ H Q ⟨d, env, st, ρ, r, he, hs, hp⟩ => ⟨env, st, ρ, he, hs, PostX.seq hp fun p H1 ρ1 g1 hp1 hs1 w rw =>
    ⟨env, p.2, ρ1, he.grow g1, hs1, PostX.seq hp1 fun q H2 ρ2 g2 hp2 hs2 z rz => by
      cases e : dPut p.1 q.1 d q.2 with
      | none => simp only [e] at hp2; exact hp2.elim
      | some st' =>
        simp only [e] at hp2
        exact ⟨ρ2, q.2, p.1, q.1, d, st', hs2, rw.grow g2, rz, (r.grow g1).grow g2, e, fun H' g hs' => hp2 H' ρ2 g hs' σ (((he.grow g1).grow g2).grow g)⟩⟩⟩

/-! ### while -/
def whileN : Nat → Tv → Sm → Sm
  | 0, _, _ => fun _ _ => .stuck
  | n + 1, c, b => fun env st => c env st >>= fun p => if p.1 = true then b env p.2 >>= fun q => match q.1 with
      | .nx => whileN n c b q.2.1 q.2.2
      | .ct => whileN n c b q.2.1 q.2.2
      | .bk => .ok (.nx, q.2.1, q.2.2)
      | .rt d => .ok (.rt d, q.2.1, q.2.2)
    else .ok (.nx, env, p.2)
def sWhile (n : Nat) (c : Tv) (b : Sm) : Sm := whileN n c b
theorem ds_while {n : Nat} {c : Expr} {body : List Stmt} {mc : Tv} {mb : Sm} (hp : PassesOwn (model X.prog X.w) X.A X.env X.xe) (hc : DT X E c mc) (hb : DSs X E body mb) : DS X E (.While c body [] pos) (sWhile n mc mb) :=
  ps_weak (ps_while hp hc hb) fun U σ H ⟨env, st, ρ, he, hs, hq⟩ => by
    refine ⟨fun m σ H => ∃ env st ρ, EnvR (zx X) H ρ env σ ∧ StR (zx X) H ρ st ∧ PostX (zx X) H ρ (whileN m mc mb env st) (BS (zx X) U) E, ⟨n, env, st, ρ, he, hs, hq⟩, ?_⟩
    rintro m σ H ⟨env, st, ρ, he, hs, hq⟩
    cases m with
    | zero => exact hq.elim
    | succ m =>
      refine ⟨env, st, ρ, he, hs, PostX.seq hq fun p H1 ρ1 g1 hp1 hs1 => ?_⟩
      dsimp only
      split
      · rename_i e
        rw [if_pos e] at hp1
        refine ⟨fun σ' H' => ∃ env st ρ, EnvR (zx X) H' ρ env σ' ∧ StR (zx X) H' ρ st ∧ PostX (zx X) H' ρ (whileN m mc mb env st) (BS (zx X) U) E, fun σ' H' h => ⟨m, Nat.lt_succ_self m, h⟩, env, p.2, ρ1, he.grow g1, hs1, PostX.seq hp1 fun q H2 ρ2 g2 hp2 hs2 σ2 he2 => ?_⟩
        cases e2 : q.1 with
        | nx => rw [e2] at hp2; exact ⟨_, _, ρ2, he2, hs2, hp2⟩
        | ct => rw [e2] at hp2; exact ⟨_, _, ρ2, he2, hs2, hp2⟩
        | bk => rw [e2] at hp2; exact hp2 H2 ρ2 .refl hs2 σ2 he2
        | rt d => rw [e2] at hp2; exact hp2 H2 ρ2 .refl hs2 σ2 he2
      · rename_i e
        rw [if_neg e] at hp1
        exact hp1 H1 ρ1 .refl hs1 σ (he.grow g1)
end
end Px
/-! P8: what is walked; for; list comprehensions. -/
namespace Px
open PySem PySem.Spec
open L2
/-! ### equal data -/
mutual
def eqD : D → D → Bool
  | .non, .non => true
  | .bl a, .bl b => a == b
  | .int a, .int b => a == b
  | .str a, .str b => decide (a = b)
  | .byt a, .byt b => decide (a = b)
  | .flt a, .flt b => decide (a = b)
  | .tup a, .tup b => eqDs a b
  | .lst a, .lst b => eqDs a b
  | .dct a b, .dct c d => eqDs a c && eqDs b d
  | .ins a b c, .ins d e f => decide (a = d) && decide (b = e) && eqDs c f
  | .mref a, .mref b => a == b
  | .scr a, .scr b => decide (a = b)
  | _, _ => false
def eqDs : List D → List D → Bool
  | [], [] => true
  | a :: l, b :: m => eqD a b && eqDs l m
  | _, _ => false
end
mutual
theorem eqD_self : ∀ d : D, eqD d d = true
  | .non => rfl
  | .bl a => by simp [eqD]
  | .int a => by simp [eqD]
  | .str a => by simp [eqD]
  | .byt a => by simp [eqD]
  | .flt a => by simp [eqD]
  | .tup a => by simp only [eqD]; exact eqDs_self a
  | .lst a => by simp only [eqD]; exact eqDs_self a
  | .dct a b => by simp only [eqD, eqDs_self a, eqDs_self b]; rfl
  | .ins a b c => by simp only [eqD, eqDs_self c]; simp
  | .mref a => by simp [eqD]
  | .scr a => by simp [eqD]
theorem eqDs_self : ∀ l : List D, eqDs l l = true
  | [] => rfl
  | d :: l => by simp only [eqDs, eqD_self d, eqDs_self l]; rfl
end
mutual
theorem eqD_of : ∀ a b : D, eqD a b = true → a = b
  | .non, b, h => by cases b <;> simp_all [eqD]
  | .bl a, b, h => by cases b <;> simp_all [eqD]
  | .int a, b, h => by cases b <;> simp_all [eqD]
  | .str a, b, h => by cases b <;> simp_all [eqD]
  | .byt a, b, h => by cases b <;> simp_all [eqD]
  | .flt a, b, h => by cases b <;> simp_all [eqD]
  | .tup a, b, h => by
    cases b with
    | tup c => simp only [eqD] at h; rw [eqDs_of a c h]
    | _ => simp [eqD] at h
  | .lst a, b, h => by
    cases b with
    | lst c => simp only [eqD] at h; rw [eqDs_of a c h]
    | _ => simp [eqD] at h
  | .dct a a', b, h => by
    cases b with
    | dct c c' => simp only [eqD, Bool.and_eq_true] at h; rw [eqDs_of a c h.1, eqDs_of a' c' h.2]
    | _ => simp [eqD] at h
  | .ins a a' a2, b, h => by
    cases b with
    | ins c c' c2 => simp only [eqD, Bool.and_eq_true, decide_eq_true_eq] at h; rw [h.1.1, h.1.2, eqDs_of a2 c2 h.2]
    | _ => simp [eqD] at h
  | .mref a, b, h => by cases b <;> simp_all [eqD]
  | .scr a, b, h => by cases b <;> simp_all [eqD]
theorem eqDs_of : ∀ a b : List D, eqDs a b = true → a = b
  | [], [], _ => rfl
  | [], _ :: _, h => by simp [eqDs] at h
  | _ :: _, [], h => by simp [eqDs] at h
  | a :: l, b :: m, h => by
    simp only [eqDs, Bool.and_eq_true] at h
    rw [eqD_of a b h.1, eqDs_of l m h.2]
end
def eqM : MObj → MObj → Bool
  | .lst a, .lst b => eqDs a b
  | .dct a b, .dct c d => eqDs a c && eqDs b d
  | .ins a b c, .ins d e f => decide (a = d) && decide (b = e) && eqDs c f
  | _, _ => false
@[simp] theorem eqM_self (o : MObj) : eqM o o = true := by cases o <;> simp [eqM, eqDs_self]
theorem eqM_of {a b : MObj} (h : eqM a b = true) : a = b := by
  cases a <;> cases b <;> simp_all [eqM]
  · exact eqDs_of _ _ h
  · exact ⟨eqDs_of _ _ h.1, eqDs_of _ _ h.2⟩
  · exact eqDs_of _ _ h.2

/-! ### what is walked: its items; the object that must stand meanwhile -/
abbrev Src := Option (Nat × MObj)
def chk (s : Src) (st : Store) : Bool := match s with
  | none => true
  | some (n, o) => match st[n]? with
    | some o' => eqM o' o
    | none => false
@[simp] theorem chk_none (st : Store) : chk none st = true := rfl
theorem chk_at {n : Nat} {o : MObj} {st : Store} (h : chk (some (n, o)) st = true) : st[n]? = some o := by
  unfold chk at h
  simp only at h
  split at h
  · rename_i o' e; rw [e, eqM_of h]
  · cases h
abbrev Iv := DEnv → Store → R ((List D × Src) × Store)
def ItD (Z : Wd) (J : It) (H : Hp) (ρ : Rho) (s : Src) (l : List D) : Prop := ∀ (i : Nat) (H1 : Hp) (ρ1 : Rho) (st1 : Store), Wide H H1 ρ ρ1 → StR Z H1 ρ1 st1 → chk s st1 = true →
  (∀ d, l[i]? = some d → J.go i H1 ∧ ∀ v H2, J.yld i H1 v H2 → Grow H1 H2 ρ1 ρ1 ∧ (∀ st, StR Z H1 ρ1 st → StR Z H2 ρ1 st) ∧ Rep Z H2 ρ1 d v) ∧ (l.length = i → J.stop i H1)
def BI (Z : Wd) (R : It → Hp → Prop) : (List D × Src) × Store → Hp → Rho → Prop := fun p H' ρ' => StR Z H' ρ' p.2 → ∀ J, ItD Z J H' ρ' p.1.2 p.1.1 → R J H'
def DI (X : Cx) (E : XK) (tg iter : Expr) (m : Iv) : Prop := ∃ wi, PI X tg iter wi ∧ ∀ σ H (R : It → Hp → Prop) env st ρ, EnvR (zx X) H ρ env σ → StR (zx X) H ρ st → PostX (zx X) H ρ (m env st) (BI (zx X) R) E → wi σ H R
section
variable {X : Cx} {E : XK} {pos : Pos}
/-! ### for -/
def forN (g : Gv) (b : Sm) (s : Src) : List D → Sm
  | [] => fun env st => if chk s st = true then .ok (.nx, env, st) else .stuck
  | d :: l => fun env st => if chk s st = true then g d env st >>= fun p => b p.1 p.2 >>= fun q => match q.1 with
      | .nx => forN g b s l q.2.1 q.2.2
      | .ct => forN g b s l q.2.1 q.2.2
      | .bk => .ok (.nx, q.2.1, q.2.2)
      | .rt d => .ok (.rt d, q.2.1, q.2.2)
    else .stuck
def sFor (m : Iv) (g : Gv) (b : Sm) : Sm := fun env st => m env st >>= fun p => forN g b p.1.2 p.1.1 env p.2
theorem ds_for {tg iter : Expr} {body : List Stmt} {mi : Iv} {g : Gv} {mb : Sm} (hp : PassesOwn (model X.prog X.w) X.A X.env X.xe) (hc : X.calm = true) (hi : DI X E tg iter mi) (hg : DG X E tg g) (hb : DSs X E body mb)
    (hs : ∀ x, foldedSetIterable iter X.env x = pure x := by intro _; rfl) : DS X E (.For tg iter body [] pos) (sFor mi g mb) := by
  obtain ⟨wi, hi, hw⟩ := hi
  refine ps_weak (ps_for hp hc hi hg hb hs) fun U σ H ⟨env, st, ρ, he, hst, hq⟩ => ?_
  refine hw σ H _ env st ρ he hst (PostX.seq hq fun p H1 ρ1 g1 hp1 hs1 J it => ?_)
  refine ⟨fun i m σ H2 => m = p.1.1.length - i ∧ i ≤ p.1.1.length ∧ ∃ env st ρ2, Grow H1 H2 ρ1 ρ2 ∧ EnvR (zx X) H2 ρ2 env σ ∧ StR (zx X) H2 ρ2 st ∧ PostX (zx X) H2 ρ2 (forN g mb p.1.2 (p.1.1.drop i) env st) (BS (zx X) U) E,
    ⟨_, rfl, Nat.zero_le _, env, p.2, ρ1, .refl, he.grow g1, hs1, by rw [List.drop_zero]; exact hp1⟩, ?_⟩
  rintro i m σ2 H2 ⟨rfl, hi2, env, st, ρ2, g2, he2, hs2, hq2⟩
  by_cases hlt : i < p.1.1.length
  · right
    rw [List.drop_eq_getElem_cons hlt] at hq2
    unfold forN at hq2
    split at hq2
    · rename_i hck
      obtain ⟨hgo, hy⟩ := (it i H2 ρ2 st g2.wide hs2 hck).1 _ (List.getElem?_eq_getElem hlt)
      refine ⟨hgo, fun σ' H' => ∃ env st ρ', Grow H1 H' ρ1 ρ' ∧ EnvR (zx X) H' ρ' env σ' ∧ StR (zx X) H' ρ' st ∧ PostX (zx X) H' ρ' (forN g mb p.1.2 (p.1.1.drop (i + 1)) env st) (BS (zx X) U) E, fun σ' H' h => ⟨_, by omega, rfl, hlt, h⟩, fun v H3 y => ?_⟩
      obtain ⟨g3, hs3, rv⟩ := hy v H3 y
      refine ⟨_, env, st, ρ2, rv, he2.grow g3, hs3 st hs2, PostX.seq (hq2.grow g3) fun q H4 ρ4 g4 hp4 hs4 σ4 he4 => ?_⟩
      refine ⟨q.1, q.2, ρ4, he4, hs4, PostX.seq hp4 fun t H5 ρ5 g5 hp5 hs5 σ5 he5 => ?_⟩
      have g15 : Grow H1 H5 ρ1 ρ5 := ((g2.trans g3).trans g4).trans g5
      cases e : t.1 with
      | nx => rw [e] at hp5; exact ⟨_, _, ρ5, g15, he5, hs5, hp5⟩
      | ct => rw [e] at hp5; exact ⟨_, _, ρ5, g15, he5, hs5, hp5⟩
      | bk => rw [e] at hp5; exact hp5 H5 ρ5 .refl hs5 σ5 he5
      | rt d => rw [e] at hp5; exact hp5 H5 ρ5 .refl hs5 σ5 he5
    · exact hq2.elim
  · left
    have e0 : i = p.1.1.length := by omega
    subst e0
    rw [List.drop_length] at hq2
    unfold forN at hq2
    split at hq2
    · rename_i hck
      exact ⟨(it _ H2 ρ2 st g2.wide hs2 hck).2 rfl, hq2 H2 ρ2 .refl hs2 σ2 he2⟩
    · exact hq2.elim

/-! ### what may be walked -/
theorem item_still {Z : Wd} {H1 H2 : Hp} {ρ1 : Rho} (e : H2 = H1) : Grow H1 H2 ρ1 ρ1 ∧ ∀ st, StR Z H1 ρ1 st → StR Z H2 ρ1 st := by
  subst e; exact ⟨.refl, fun _ h => h⟩
/-- a list or tuple, by its expression -/
theorem pi_seq {tg l : Expr} {tl : TE} (hl : PE X l tl) : PI X tg l (fun σ H R => tl σ H fun x H1 => ∃ a, x = .ref a ∧ (((∃ xs, SqL X.K H1 a xs) ∧ R (Itl X.K a) H1) ∨ ((∃ xs, SqT X.K H1 a xs) ∧ R (Itt X.K a) H1))) := by
  refine ⟨fun pins s σ H R I h => ?_⟩
  refine thn (hl.run pins s σ H _ I h) fun v s1 ⟨x, H1, I1, r1, a, e, q⟩ => ?_
  subst e
  cases r1
  rcases q with ⟨⟨xs, hq⟩, q⟩ | ⟨⟨xs, hq⟩, q⟩
  · obtain ⟨its, rv, p, hz⟩ := I1.list hq
    refine wpAny_pyIter_list p.isList ?_
    refine ⟨s1.heap.objs.size, [s1.heap.objs.size], _, _, H1, rfl, I1.kept (t' := s1.toks) fun b o e => Heap.get?_push_of_some _ e, turn_list a _, ⟨_, Heap.get?_push_size _ rfl, rfl, rfl⟩, fun b hb => ?_, q⟩
    obtain rfl : b = s1.heap.objs.size := by simpa using hb
    exact I1.fpOk (Nat.le_refl _) (I1.hok.fresh (Nat.le_refl _))
  · obtain ⟨its, rv, p, hz⟩ := I1.tuple hq
    refine wpAny_pyIter_tuple (show s1.heap.IsTuple a its.toArray from p) ?_
    refine ⟨s1.heap.objs.size, [s1.heap.objs.size], _, _, H1, rfl, I1.kept (t' := s1.toks) fun b o e => Heap.get?_push_of_some _ e, turn_tuple a _, ⟨_, Heap.get?_push_size _ rfl, rfl, rfl⟩, fun b hb => ?_, q⟩
    obtain rfl : b = s1.heap.objs.size := by simpa using hb
    exact I1.fpOk (Nat.le_refl _) (I1.hok.fresh (Nat.le_refl _))
def seqS (st : Store) : D → Option (List D × Src)
  | .tup l => some (l, none)
  | .lst l => some (l, none)
  | .scr l => some (l.map .int, none)
  | .mref n => match st[n]? with
    | some (.lst l) => some (l, some (n, .lst l))
    | _ => none
  | _ => none
def iSeq (m : Ev) : Iv := fun env st => m env st >>= fun p => match seqS p.2 p.1 with
  | some q => .ok (q, p.2)
  | none => .stuck
theorem itl_d {Z : Wd} {H : Hp} {ρ : Rho} {a : Addr} {l : List D} {s : Src} (h : ∀ H1 ρ1 st1, Wide H H1 ρ ρ1 → StR Z H1 ρ1 st1 → chk s st1 = true → ∃ xs, SqL Z.K H1 a xs ∧ Reps Z H1 ρ1 l xs) : ItD Z (Itl Z.K a) H ρ s l := by
  intro i H1 ρ1 st1 w hs ck
  obtain ⟨xs, hq, r⟩ := h H1 ρ1 st1 w hs ck
  refine ⟨fun d e => ?_, fun hl => ⟨xs, hq, by rw [r.len]; exact Nat.le_of_eq hl⟩⟩
  obtain ⟨x, e1, r1⟩ := r.get e
  refine ⟨⟨xs, x, hq, e1⟩, fun v H2 ⟨e2, y⟩ => ?_⟩
  have := y xs hq
  rw [e1] at this
  cases this
  subst e2
  exact ⟨.refl, fun _ h => h, r1⟩
theorem itt_d {Z : Wd} {H : Hp} {ρ : Rho} {a : Addr} {l : List D} {s : Src} (h : ∀ H1 ρ1 st1, Wide H H1 ρ ρ1 → StR Z H1 ρ1 st1 → chk s st1 = true → ∃ xs, SqT Z.K H1 a xs ∧ Reps Z H1 ρ1 l xs) : ItD Z (Itt Z.K a) H ρ s l := by
  intro i H1 ρ1 st1 w hs ck
  obtain ⟨xs, hq, r⟩ := h H1 ρ1 st1 w hs ck
  refine ⟨fun d e => ?_, fun hl => ⟨xs, hq, by rw [r.len]; exact Nat.le_of_eq hl⟩⟩
  obtain ⟨x, e1, r1⟩ := r.get e
  refine ⟨⟨xs, x, hq, e1⟩, fun v H2 ⟨e2, y⟩ => ?_⟩
  have := y xs hq
  rw [e1] at this
  cases this
  subst e2
  exact ⟨.refl, fun _ h => h, r1⟩
/-- a value's items, whatever grows meanwhile -/
theorem seq_lasts {Z : Wd} {H : Hp} {ρ : Rho} {st : Store} {d : D} {v : V} {q : List D × Src} (hs : StR Z H ρ st) (h : Rep Z H ρ d v) (e : seqS st d = some q) :
    ∃ a, v = .ref a ∧ ((∀ H1 ρ1 st1, Wide H H1 ρ ρ1 → StR Z H1 ρ1 st1 → chk q.2 st1 = true → ∃ xs, SqL Z.K H1 a xs ∧ Reps Z H1 ρ1 q.1 xs) ∨
      ∀ H1 ρ1 st1, Wide H H1 ρ ρ1 → StR Z H1 ρ1 st1 → chk q.2 st1 = true → ∃ xs, SqT Z.K H1 a xs ∧ Reps Z H1 ρ1 q.1 xs) := by
  unfold seqS at e
  split at e
  · cases e
    obtain ⟨a, xs, rfl, hq, r⟩ := h
    refine ⟨a, rfl, .inr fun H1 ρ1 st1 w hs1 _ => ⟨xs, ?_, r.wide w⟩⟩
    rcases hq with ⟨hq, m⟩ | hq
    · exact .inl (rd_wide w (fun ps z => by cases z) hq m)
    · exact sqT_of (H := H1) (ρ := ρ1) (.inr hq)
  · cases e
    obtain ⟨a, xs, rfl, hq, m, r⟩ := h
    exact ⟨a, rfl, .inl fun H1 ρ1 st1 w hs1 _ => ⟨xs, .of (w.keep _ _ hq (fun ps z => by cases z) m), r.wide w⟩⟩
  · cases e
    obtain ⟨a, rfl, hq⟩ := h
    refine ⟨a, rfl, .inl fun H1 ρ1 st1 w hs1 _ => ⟨_, ?_, ints_reps⟩⟩
    rcases hq with ⟨hq, m⟩ | hq
    · exact .inl (rd_wide w (fun ps z => by cases z) hq m)
    · exact sqL_of (H := H1) (ρ := ρ1) (.inr hq)
  · split at e
    · cases e
      rename_i n _ l e1
      obtain ⟨a, rfl, ea⟩ := h
      refine ⟨a, rfl, .inl fun H1 ρ1 st1 w hs1 ck => ?_⟩
      obtain ⟨b, xs, eb, hq, r⟩ := hs1.lst (chk_at ck)
      rw [w.pre n a ea] at eb
      cases eb
      exact ⟨xs, .of hq, r⟩
    · cases e
  · cases e
theorem chk_now {st : Store} {d : D} {q : List D × Src} (e : seqS st d = some q) : chk q.2 st = true := by
  unfold seqS at e
  split at e
  · cases e; rfl
  · cases e; rfl
  · cases e; rfl
  · split at e
    · cases e
      rename_i n _ l e1
      unfold chk
      simp only [e1]
      exact eqM_self _
    · cases e
  · cases e
theorem di_seq {tg e : Expr} {m : Ev} (h : DE X E e m) : DI X E tg e (iSeq m) := by
  refine ⟨_, pi_seq h, fun σ H R env st ρ he hs hp => ⟨env, st, ρ, he, hs, PostX.seq hp fun p H1 ρ1 g1 hp1 hs1 v rv => ?_⟩⟩
  split at hp1
  · rename_i q e1
    obtain ⟨a, ea, l⟩ := seq_lasts hs1 rv e1
    refine ⟨a, ea, ?_⟩
    have q' := hp1 H1 ρ1 .refl hs1
    rcases l with l | l
    · obtain ⟨xs, hq, _⟩ := l H1 ρ1 p.2 (Grow.refl.wide) hs1 (chk_now e1)
      exact .inl ⟨⟨xs, hq⟩, q' _ (itl_d l)⟩
    · obtain ⟨xs, hq, _⟩ := l H1 ρ1 p.2 (Grow.refl.wide) hs1 (chk_now e1)
      exact .inr ⟨⟨xs, hq⟩, q' _ (itt_d l)⟩
  · exact hp1.elim
/-- range(n), range(a, b) -/
def rngL (a b : Int) : List D := (List.range (b - a).toNat).map fun i => .int (a + (i : Nat))
def iRng (m : Av) : Iv := fun env st => m env st >>= fun p => match p.1 with
  | [.int j] => if -(2 ^ 62) ≤ j ∧ j < 2 ^ 62 then .ok ((rngL 0 j, none), p.2) else .stuck
  | [.int i, .int j] => if -(2 ^ 62) ≤ i ∧ i < 2 ^ 62 ∧ -(2 ^ 62) ≤ j ∧ j < 2 ^ 62 then .ok ((rngL i j, none), p.2) else .stuck
  | _ => .stuck
theorem itr_d {Z : Wd} {H : Hp} {ρ : Rho} (i j : Int) : ItD Z (Itr i (j - i).toNat) H ρ none (rngL i j) := by
  intro k H1 ρ1 st1 w hs ck
  refine ⟨fun d e => ?_, fun hl => ?_⟩
  · unfold rngL at e
    rw [List.getElem?_map] at e
    cases q : (List.range (j - i).toNat)[k]? with
    | none => rw [q] at e; cases e
    | some m =>
      rw [q] at e
      cases e
      obtain ⟨h1, h2⟩ := List.getElem?_eq_some_iff.mp q
      simp at h1 h2
      subst h2
      exact ⟨by show k < _; omega, fun v H2 ⟨e2, e3⟩ => by subst e2; exact ⟨.refl, fun _ h => h, e3⟩⟩
  · show (j - i).toNat ≤ k
    unfold rngL at hl
    rw [List.length_map, List.length_range] at hl
    exact Nat.le_of_eq hl
theorem di_rng1 {tg a : Expr} {m : Av} {p pos : Pos} (hg : Gl X "range") (hm : X.mg "range" = none) (ha : DA X E [a] m) (hn : ∀ env st p, m env st = .ok p → p.1.length = 1) (hs : starEach [a] X.env = [(false, eval a X.env)] := by rfl) : DI X E tg (.Call (.Name "range" p) [a] [] pos) (iRng m) := by
  refine ⟨_, pi_range1 hg hm ha hs, fun σ H R env st ρ he hs hp => ⟨env, st, ρ, he, hs, ?_⟩⟩
  have hn' := hn env st
  unfold iRng at hp
  cases e0 : m env st with
  | stuck => rw [e0] at hp; exact hp.elim
  | exn x s => rw [e0] at hp; exact hp
  | ok p =>
    rw [e0] at hp
    have hl := hn' p e0
    intro H1 ρ1 g1 hs1 vs rv
    have hp1 := hp.grow g1
    simp only [_root_.Px.R.ok_bind] at hp1
    split at hp1
    · rename_i j e1
      split at hp1
      · rename_i hz
        rw [e1] at rv
        obtain ⟨v, r, rfl, rfl, rfl⟩ := rv
        have := hp1 H1 ρ1 .refl hs1 _ (itr_d 0 j)
        rw [Int.sub_zero] at this
        exact ⟨j, rfl, hz.1, hz.2, this⟩
      · exact hp1.elim
    · rename_i i j e1
      rw [e1] at hl; cases hl
    · exact hp1.elim
theorem di_rng2 {tg a b : Expr} {m : Av} {p pos : Pos} (hg : Gl X "range") (hm : X.mg "range" = none) (ha : DA X E [a, b] m) (hn : ∀ env st p, m env st = .ok p → p.1.length = 2) (hs : starEach [a, b] X.env = [(false, eval a X.env), (false, eval b X.env)] := by rfl) (hs2 : starEach [b] X.env = [(false, eval b X.env)] := by rfl) :
    DI X E tg (.Call (.Name "range" p) [a, b] [] pos) (iRng m) := by
  refine ⟨_, pi_range2 hg hm ha hs hs2, fun σ H R env st ρ he hs hp => ⟨env, st, ρ, he, hs, ?_⟩⟩
  have hn' := hn env st
  unfold iRng at hp
  cases e0 : m env st with
  | stuck => rw [e0] at hp; exact hp.elim
  | exn x s => rw [e0] at hp; exact hp
  | ok p =>
    rw [e0] at hp
    have hl := hn' p e0
    intro H1 ρ1 g1 hs1 vs rv
    have hp1 := hp.grow g1
    simp only [_root_.Px.R.ok_bind] at hp1
    split at hp1
    · rename_i j e1
      rw [e1] at hl; cases hl
    · rename_i i j e1
      split at hp1
      · rename_i hz
        rw [e1] at rv
        obtain ⟨v, r, rfl, rfl, w, r2, rfl, rfl, rfl⟩ := rv
        exact ⟨i, j, rfl, hz, hp1 H1 ρ1 .refl hs1 _ (itr_d i j)⟩
      · exact hp1.elim
    · exact hp1.elim
end
end Px
/-! P9: list comprehensions. -/
namespace Px
open PySem PySem.Spec
open L2
/-! ### the comprehension's own names -/
def wipeE (env : DEnv) : List Nat → DEnv
  | [] => env
  | v :: vs => (wipeE env vs).set v none
theorem wipeE_r {Z : Wd} {H : Hp} {ρ : Rho} {env : DEnv} {σ : L2.St} (h : EnvR Z H ρ env σ) : ∀ vs, EnvR Z H ρ (wipeE env vs) (wipe σ vs)
  | [] => h
  | v :: vs => by
    have ih := wipeE_r h vs
    refine ⟨by show ((wipeE env vs).set v none).length = ((wipe σ vs).set v none).length; simp [ih.len], fun i d e => ?_⟩
    have e' : ((wipeE env vs).set v none)[i]? = some (some d) := e
    by_cases hv : v = i
    · subst hv
      by_cases hl : v < (wipeE env vs).length
      · rw [List.getElem?_set_self hl] at e'; cases e'
      · rw [List.getElem?_eq_none (by simpa using hl)] at e'; cases e'
    · rw [List.getElem?_set_ne hv] at e'
      obtain ⟨u, h1, h2⟩ := ih.at_ i d e'
      exact ⟨u, by show ((wipe σ vs).set v none)[i]? = _; rw [List.getElem?_set_ne hv]; exact h1, h2⟩
theorem wipe_set (σ : L2.St) (i : Nat) (x : Option V) : ∀ vs : List Nat, i ∈ vs → wipe (σ.set i x) vs = wipe σ vs
  | [], h => by cases h
  | v :: vs, h => by
    show (wipe (σ.set i x) vs).set v none = (wipe σ vs).set v none
    by_cases hi : i ∈ vs
    · rw [wipe_set σ i x vs hi]
    · have e : i = v := by
        rcases List.mem_cons.mp h with e | e
        · exact e
        · exact absurd e hi
      subst e
      have cm : ∀ ws : List Nat, i ∉ ws → wipe (σ.set i x) ws = (wipe σ ws).set i x := by
        intro ws
        induction ws with
        | nil => intro _; rfl
        | cons w ws ih =>
          intro hw
          show (wipe (σ.set i x) ws).set w none = ((wipe σ ws).set w none).set i x
          rw [ih (fun z => hw (List.mem_cons_of_mem _ z)), List.set_comm _ _ (fun e => hw (by rw [e]; exact List.mem_cons_self))]
      rw [cm vs hi, List.set_set]
/-- a comprehension's target -/
abbrev Cv := D → DEnv → Option DEnv
structure CT (Z : Wd) (vs : List Nat) (t : TG) (g : Cv) : Prop where
  run : ∀ d v σ H ρ env env' (Q : L2.St → Hp → Prop), Rep Z H ρ d v → EnvR Z H ρ env σ → g d env = some env' → (∀ σ', EnvR Z H ρ env' σ' → wipe σ' vs = wipe σ vs → Q σ' H) → t v σ H Q
def cV (i : Nat) : Cv := fun d env => some (env.set i (some d))
def c2 (i j : Nat) : Cv := fun d env => match d with
  | .tup [x, y] => some ((env.set i (some x)).set j (some y))
  | _ => none
theorem ct_v {Z : Wd} {vs : List Nat} {i : Nat} (h : i ∈ vs) : CT Z vs (gName i) (cV i) := ⟨fun d v σ H ρ env env' Q r he e q => by
  cases e
  exact q _ (he.put i r) (wipe_set σ i _ vs h)⟩
theorem ct_2 {Z : Wd} {vs : List Nat} {i j : Nat} (h : i ∈ vs) (h' : j ∈ vs) : CT Z vs (L2.gTup Z.K 2 (gCons (gName i) (gCons (gName j) gNil))) (c2 i j) := ⟨fun d v σ H ρ env env' Q r he e q => by
  unfold c2 at e
  split at e
  · cases e
    obtain ⟨a, xs, rfl, hq, v1, r1, rfl, h1, v2, r2, rfl, h2, rfl⟩ := r
    exact ⟨a, _, rfl, sqT_of hq, rfl, v1, _, rfl, v2, _, rfl, rfl, q _ ((he.put i h1).put j h2) (by rw [wipe_set _ j _ vs h', wipe_set _ i _ vs h])⟩
  · cases e⟩

/-! ### [e for t in it if c] -/
def R.calm {α : Type} : R α → R α
  | .ok a => .ok a
  | _ => .stuck
@[simp] theorem R.calm_ok {α : Type} (a : α) : (R.ok a).calm = .ok a := rfl
def compN (g : Cv) (t : Tv) (e : Ev) (s : Src) : List D → DEnv → Store → R (List D × Store)
  | [] => fun _ st => if chk s st = true then .ok ([], st) else .stuck
  | d :: l => fun env st => if chk s st = true then match g d env with
      | none => .stuck
      | some env' => (t env' st).calm >>= fun p => if p.1 = true then (e env' p.2).calm >>= fun q => compN g t e s l env q.2 >>= fun r => .ok (q.1 :: r.1, r.2) else compN g t e s l env p.2
    else .stuck
def compF (m : Iv) (vs : List Nat) (g : Cv) (t : Tv) (e : Ev) : DEnv → Store → R (List D × Store) := fun env st => m env st >>= fun p => (compN g t e p.1.2 p.1.1 (wipeE env vs) p.2).calm >>= fun q => if q.1.length ≤ LINE then .ok q else .stuck
def eComp (m : Iv) (vs : List Nat) (g : Cv) (t : Tv) (e : Ev) : Ev := fun env st => compF m vs g t e env st >>= fun q => .ok (.lst q.1, q.2)
def eCompN (m : Iv) (vs : List Nat) (g : Cv) (t : Tv) (e : Ev) : Ev := fun env st => compF m vs g t e env st >>= fun q => .ok (.mref q.2.length, q.2 ++ [.lst q.1])
def tYesV : Tv := fun _ st => .ok (true, st)
/-- no exception leaves -/
abbrev noE : XK := fun _ _ _ => False
mutual
/-- one address less to avoid -/
theorem Rep.less {Z : Wd} {H : Hp} {own av av' : List Addr} (h : ∀ a, a ∈ av' → a ∈ av) : ∀ {d : D} {v : V}, Rep Z H ⟨own, av⟩ d v → Rep Z H ⟨own, av'⟩ d v
  | .non, v, x => x
  | .bl _, v, x => x
  | .int _, v, x => x
  | .str _, v, x => x
  | .byt _, v, x => x
  | .flt _, v, x => x
  | .tup l, v, ⟨a, xs, e, hq, r⟩ => ⟨a, xs, e, hq.imp (fun z => ⟨z.1, fun m => z.2 (m.imp id (h a))⟩) id, Reps.less h r⟩
  | .lst l, v, ⟨a, xs, e, hq, m, r⟩ => ⟨a, xs, e, hq, fun z => m (z.imp id (h a)), Reps.less h r⟩
  | .dct ks vs, v, ⟨a, e, m, x⟩ => ⟨a, e, fun z => m (z.imp id (h a)), x.imp (fun _ {o} _ x => x) (fun _ w => Reps.less h w) fun _ w => Reps.less h w⟩
  | .ins c ns vs, v, ⟨a, dx, fs, e, m, hq, en, r⟩ => ⟨a, dx, fs, e, fun z => m (z.imp id (h a)), hq, en, Reps.less h r⟩
  | .mref n, v, x => x
  | .scr l, v, ⟨a, e, q⟩ => ⟨a, e, q.imp (fun z => ⟨z.1, fun m => z.2 (m.imp id (h a))⟩) id⟩
theorem Reps.less {Z : Wd} {H : Hp} {own av av' : List Addr} (h : ∀ a, a ∈ av' → a ∈ av) : ∀ {l : List D} {xs : List V}, Reps Z H ⟨own, av⟩ l xs → Reps Z H ⟨own, av'⟩ l xs
  | [], xs, x => x
  | d :: l, xs, ⟨x, r, e, h1, h2⟩ => ⟨x, r, e, Rep.less h h1, Reps.less h h2⟩
end
theorem MRep.less {Z : Wd} {H : Hp} {own av av' : List Addr} (h : ∀ a, a ∈ av' → a ∈ av) {a : Addr} {o : MObj} (x : MRep Z H ⟨own, av⟩ a o) : MRep Z H ⟨own, av'⟩ a o := by
  cases o with
  | lst l => obtain ⟨xs, q, r⟩ := x; exact ⟨xs, q, r.less h⟩
  | dct ks vs => exact DictC.imp x (fun _ {o} _ x => x) (fun _ w => Reps.less h w) fun _ w => Reps.less h w
  | ins c ns vs => obtain ⟨dx, fs, q, en, r⟩ := x; exact ⟨dx, fs, q, en, r.less h⟩
theorem StR.less {Z : Wd} {H : Hp} {own av av' : List Addr} {st : Store} (h : ∀ a, a ∈ av' → a ∈ av) (x : StR Z H ⟨own, av⟩ st) : StR Z H ⟨own, av'⟩ st :=
  ⟨x.len, x.nd, fun n o e => (let ⟨a, e1, r⟩ := x.at_ n o e; ⟨a, e1, r.less h⟩), fun a m => x.tr a (h a m), x.tb⟩
/-- a new object, among those to avoid -/
theorem wide_new {H : Hp} {ρ : Rho} {p : Addr} {o : HO} (hp : H p = none) : Wide H (upd H p o) ρ ⟨ρ.own, p :: ρ.av⟩ := ⟨fun _ _ h => h, fun a o' e _ _ => by rw [upd_ne (ne_of_none e hp)]; exact e, fun a m => by
  rcases m with m | m
  · exact .inl (.inl m)
  · rcases List.mem_cons.mp m with e | m
    · subst e; exact .inr hp
    · exact .inl (.inr m)⟩
theorem wide_same {H : Hp} {ρ : Rho} {p : Addr} {o : HO} (m : p ∈ ρ) : Wide H (upd H p o) ρ ρ := ⟨fun _ _ h => h, fun a o' e _ n => by rw [upd_ne fun z => n (by rw [z]; exact m)]; exact e, fun a m => .inl m⟩
theorem StR.wide {Z : Wd} {H H' : Hp} {ρ : Rho} {av' : List Addr} {st : Store} (x : StR Z H ρ st) (g : Wide H H' ρ ⟨ρ.own, av'⟩) (e : ∀ a ∈ ρ.own, H' a = H a) (t : ∀ a ∈ av', Mut (H' a)) (tb : TabX Z H') : StR Z H' ⟨ρ.own, av'⟩ st :=
  ⟨x.len, x.nd, fun n o q => by
    obtain ⟨a, e1, r⟩ := x.at_ n o q
    refine ⟨a, e1, ?_⟩
    have ea := e a (List.mem_of_getElem? e1)
    cases o with
    | lst l => obtain ⟨xs, q, r⟩ := r; exact ⟨xs, ea.trans q, r.wide g⟩
    | dct ks vs => exact DictC.imp r (fun _ {o} _ x => ea.trans x) (fun _ w => Reps.wide g w) fun _ w => Reps.wide g w
    | ins c ns vs => obtain ⟨dx, fs, q, en, r⟩ := r; exact ⟨dx, fs, ea.trans q, en, r.wide g⟩, t, tb⟩
theorem EnvR.wide {Z : Wd} {H H' : Hp} {ρ ρ' : Rho} (g : Wide H H' ρ ρ') {env : DEnv} {σ : L2.St} (h : EnvR Z H ρ env σ) : EnvR Z H' ρ' env σ :=
  ⟨h.len, fun i d e => let ⟨v, h1, h2⟩ := h.at_ i d e; ⟨v, h1, h2.wide g⟩⟩
/-- who is to be avoided does not matter to what grows -/
theorem Grow.av_any {H H' : Hp} {own own' av av' : List Addr} (g : Grow H H' ⟨own, av⟩ ⟨own', av'⟩) (bv : List Addr) : Grow H H' ⟨own, bv⟩ ⟨own', bv⟩ := ⟨g.pre, g.keep, g.new, g.was, g.mt, rfl⟩
/-- an object that was not there at first is written -/
theorem Grow.upd_new {H H' : Hp} {ρ ρ' : Rho} {p : Addr} {o : HO} (g : Grow H H' ρ ρ') (hp : H p = none) : Grow H (upd H' p o) ρ ρ' := ⟨g.pre, fun a o' e nt m => by rw [upd_ne (ne_of_none e hp)]; exact g.keep a o' e nt m, g.new, fun a e => by
    rw [upd_ne fun z => e (by rw [z]; exact hp)]; exact g.was a e, fun a m e => by
    rw [upd_ne fun z => by rw [z, hp] at e; exact e]; exact g.mt a m e, g.av⟩
theorem plain_none {H : Hp} {p : Addr} (h : H p = none) : Plain H p := ⟨fun ps e => (by rw [h] at e; cases e), fun c e => by rw [h] at e; cases e⟩
theorem plain_lst {H : Hp} {p : Addr} {xs : List V} (h : H p = some (.lst xs)) : Plain H p := ⟨fun ps e => (by rw [h] at e; cases e), fun c e => by rw [h] at e; unfold LamX.CodeO at e; cases e⟩
theorem wipe_at {σ : L2.St} {i : Nat} : ∀ {vs : List Nat}, i ∈ vs → ∀ x, (wipe σ vs)[i]? ≠ some (some x)
  | vs, h, x, e => (wipe_some e).2 h
theorem set_none {σ : L2.St} {i : Nat} (h : ∀ x, σ[i]? ≠ some (some x)) : σ.set i none = σ := by
  apply List.ext_getElem?
  intro j
  by_cases e : i = j
  · subst e
    by_cases hl : i < σ.length
    · rw [List.getElem?_set_self hl]
      cases q : σ[i] with
      | none => rw [List.getElem?_eq_getElem hl, q]
      | some x => exact absurd (by rw [List.getElem?_eq_getElem hl, q]) (h x)
    · rw [List.getElem?_eq_none (by simpa using hl), List.getElem?_eq_none (by simpa using hl)]
  · rw [List.getElem?_set_ne e]
theorem wipe_sub (σ : L2.St) (vs : List Nat) : ∀ ws : List Nat, (∀ i ∈ ws, i ∈ vs) → wipe (wipe σ vs) ws = wipe σ vs
  | [], _ => rfl
  | w :: ws, h => by
    show (wipe (wipe σ vs) ws).set w none = wipe σ vs
    rw [wipe_sub σ vs ws fun i m => h i (List.mem_cons_of_mem _ m)]
    exact set_none (wipe_at (h w List.mem_cons_self))
theorem calm_ok' {α β : Type} {r : R α} {k : α → R β} {b : β} (h : (r.calm >>= k) = .ok b) : ∃ a, r = .ok a ∧ k a = .ok b := by
  cases r with
  | ok a => exact ⟨a, rfl, h⟩
  | exn e s => cases h
  | stuck => cases h
theorem bind_ok' {α β : Type} {r : R α} {k : α → R β} {b : β} (h : (r >>= k) = .ok b) : ∃ a, r = .ok a ∧ k a = .ok b := by
  cases r with
  | ok a => exact ⟨a, rfl, h⟩
  | exn e s => cases h
  | stuck => cases h
section
variable {X : Cx} {E : XK} {pos : Pos}
theorem lc_of {mi : Iv} {g : Cv} {t : Tv} {e : Ev} {vs : List Nat} {wi : TI} {tg : TG} {K : List D × Store → R (D × Store)} (ct : CT (zx X) vs tg g)
    (hw : ∀ σ H (R : It → Hp → Prop) env st ρ, EnvR (zx X) H ρ env σ → StR (zx X) H ρ st → PostX (zx X) H ρ (mi env st) (BI (zx X) R) E → wi σ H R) {σ : L2.St} {H : Hp} {Q : VK}
    (fin : ∀ (q : List D × Store) (H1 : Hp) (ρ1 : Rho) (H' : Hp) (own' : List Addr) (a : Addr) (vv : List V), PostX (zx X) H1 ρ1 (K q) (BE (zx X) Q) E → Grow H1 H' ρ1 ⟨own', ρ1.av⟩ → H1 a = none → H' a = some (.lst vv) → a ∉ own' → a ∉ ρ1.av → StR (zx X) H' ⟨own', a :: ρ1.av⟩ q.2 → Reps (zx X) H' ⟨own', a :: ρ1.av⟩ q.1 vv → Q (.ref a) H')
    (h : tE (zx X) E (fun env st => compF mi vs g t e env st >>= K) σ H Q) : tLc wi tg (tT (zx X) noE t) (tE (zx X) noE e) vs σ H Q := by
  obtain ⟨env, st, ρ, he, hs, hp⟩ := h
  refine hw σ H _ env st ρ he hs ?_
  have hp : PostX (zx X) H ρ (mi env st >>= fun p => ((compN g t e p.1.2 p.1.1 (wipeE env vs) p.2).calm >>= fun q => if q.1.length ≤ LINE then .ok q else .stuck) >>= K) (BE (zx X) Q) E := by
    have e1 := Px.R.bind_assoc (mi env st) (fun p => (compN g t e p.1.2 p.1.1 (wipeE env vs) p.2).calm >>= fun q => if q.1.length ≤ LINE then .ok q else .stuck) K
    rw [← e1]; exact hp
  refine PostX.seq hp fun p H1 ρ1 g1 hp1 hs1 J it da hD => ?_
  have av0 : ∀ a ∈ ρ1.av, a ≠ da := fun a m z => hs1.out hD (.inr (z ▸ m))
  have own0 : ∀ a ∈ ρ1.own, a ≠ da := fun a m z => hs1.out hD (.inl (z ▸ m))
  -- the whole comprehension comes to an end
  obtain ⟨q, eq, hq⟩ : ∃ q, compN g t e p.1.2 p.1.1 (wipeE env vs) p.2 = .ok q ∧ q.1.length ≤ LINE ∧ PostX (zx X) H1 ρ1 (K q) (BE (zx X) Q) E := by
    cases e2 : compN g t e p.1.2 p.1.1 (wipeE env vs) p.2 with
    | stuck => rw [e2] at hp1; exact hp1.elim
    | exn x s => rw [e2] at hp1; exact hp1.elim
    | ok q =>
      rw [e2] at hp1
      have hp1 : PostX (zx X) H1 ρ1 ((if q.1.length ≤ LINE then R.ok q else R.stuck) >>= K) (BE (zx X) Q) E := hp1
      by_cases hl : q.1.length ≤ LINE
      · rw [if_pos hl] at hp1; exact ⟨q, rfl, hl, hp1⟩
      · rw [if_neg hl] at hp1; exact hp1.elim
  obtain ⟨hq, hK⟩ := hq
  refine ⟨fun i m H2 => m = p.1.1.length - i ∧ i ≤ p.1.1.length ∧ ∃ (accD : List D) (accV : List V) (st' : Store) (own' : List Addr), Grow H1 H2 ρ1 ⟨own', ρ1.av⟩ ∧ H2 da = some (.lst accV) ∧ da ∉ own' ∧ StR (zx X) H2 ⟨own', da :: ρ1.av⟩ st' ∧
      Reps (zx X) H2 ⟨own', da :: ρ1.av⟩ accD accV ∧ ∃ r, compN g t e p.1.2 (p.1.1.drop i) (wipeE env vs) st' = .ok (r, q.2) ∧ accD ++ r = q.1, ⟨_, rfl, Nat.zero_le _, [], [], p.2, ρ1.own, ?_, upd_same, fun m => own0 da m rfl, ?_, rfl, q.1, by rw [List.drop_zero]; exact eq, rfl⟩, ?_⟩
  · exact (Grow.refl : Grow H1 H1 ρ1 ρ1).upd_new hD
  · refine hs1.wide (wide_new hD) (fun a m => upd_ne (own0 a m)) (fun a m => ?_) (hs1.tb.new hD)
    rcases List.mem_cons.mp m with e | m
    · rw [e, upd_same]; trivial
    · rw [upd_ne (av0 a m)]; exact hs1.tr a m
  · rintro i m H2 ⟨rfl, hi, accD, accV, st', own', G, hD2, nD, hs2, hr, r, er, ea⟩
    have wd : Wide H1 H2 ρ1 ⟨own', da :: ρ1.av⟩ := ⟨G.pre, fun a o h nt n => G.keep a o h nt fun z => n (.inl z), fun a m => by
      rcases m with m | m
      · exact (G.new a m).imp .inl id
      · rcases List.mem_cons.mp m with z | m
        · rw [z]; exact .inr hD
        · exact .inl (.inr m)⟩
    by_cases hlt : i < p.1.1.length
    · right
      rw [List.drop_eq_getElem_cons hlt] at er
      unfold compN at er
      split at er
      · rename_i hck
        split at er
        · cases er
        · rename_i env' eg
          obtain ⟨pt, et, er⟩ := calm_ok' er
          obtain ⟨hgo, hy⟩ := (it i H2 ⟨own', da :: ρ1.av⟩ st' wd hs2 hck).1 _ (List.getElem?_eq_getElem hlt)
          refine ⟨hgo, fun H' => ∃ (accD : List D) (accV : List V) (st' : Store) (own' : List Addr), Grow H1 H' ρ1 ⟨own', ρ1.av⟩ ∧ H' da = some (.lst accV) ∧ da ∉ own' ∧ StR (zx X) H' ⟨own', da :: ρ1.av⟩ st' ∧
            Reps (zx X) H' ⟨own', da :: ρ1.av⟩ accD accV ∧ ∃ r, compN g t e p.1.2 (p.1.1.drop (i + 1)) (wipeE env vs) st' = .ok (r, q.2) ∧ accD ++ r = q.1, fun H' h => ⟨_, by omega, rfl, hlt, h⟩, fun v H3 y => ?_⟩
          obtain ⟨g3, hs3, rv⟩ := hy v H3 y
          have he3 : EnvR (zx X) H3 ⟨own', da :: ρ1.av⟩ env σ := ((he.grow g1).wide wd).grow g3
          refine ct.run _ v (wipe σ vs) H3 _ (wipeE env vs) env' _ rv (wipeE_r he3 vs) eg fun σ2 he4 hw2 => ⟨by rw [hw2]; exact wipe_sub σ vs vs fun _ m => m, ?_⟩
          refine ⟨env', st', _, he4, hs3 st' hs2, ?_⟩
          rw [et]
          rintro H4 ⟨own4, av4⟩ g4 hs4
          obtain rfl : av4 = da :: ρ1.av := g4.av
          have g24 := g3.trans g4
          have hD4 : H4 da = some (.lst accV) := g24.keep da _ hD2 (fun ps z => by cases z) nD
          have nD4 : da ∉ own4 := fun z => by
            rcases g24.new da z with z | z
            · exact nD z
            · rw [hD2] at z; cases z
          by_cases hb : pt.1 = true
          · dsimp only
            rw [if_pos hb] at er ⊢
            obtain ⟨qe, ee, er⟩ := calm_ok' er
            obtain ⟨rr, err, er⟩ := bind_ok' er
            obtain ⟨er1, er2⟩ := Prod.mk.inj (Px.R.ok.inj er)
            subst er1
            refine ⟨env', pt.2, _, he4.grow g4, hs4, ?_⟩
            rw [ee]
            rintro H5 ⟨own5, av5⟩ g5 hs5 y5 ry5
            obtain rfl : av5 = da :: ρ1.av := g5.av
            have hD5 : H5 da = some (.lst accV) := g5.keep da _ hD4 (fun ps z => by cases z) nD4
            have nD5 : da ∉ own5 := fun z => by
              rcases g5.new da z with z | z
              · exact nD4 z
              · rw [hD4] at z; cases z
            have hlen : accD.length + 1 ≤ LINE := by
              have e2 : (accD ++ qe.1 :: rr.1).length ≤ LINE := by
                rw [ea]; exact hq
              rw [List.length_append, List.length_cons] at e2
              omega
            have mD : da ∈ (⟨own5, da :: ρ1.av⟩ : Rho) := .inr List.mem_cons_self
            have g25 := g24.trans g5
            refine ⟨accV, hD5, by rw [hr.len, line_eq]; omega, accD ++ [qe.1], accV ++ [y5], qe.2, own5, ?_, upd_same, nD5, ?_, ?_, rr.1, ?_, ?_⟩
            · exact (G.trans (g25.av_any ρ1.av)).upd_new hD
            · refine hs5.wide (wide_same mD) (fun a m => upd_ne fun z => nD5 (z ▸ m)) (fun a m => ?_) (hs5.tb.write (plain_lst hD5))
              by_cases z : a = da
              · rw [z, upd_same]; trivial
              · rw [upd_ne z]; exact hs5.tr a m
            · exact ((hr.grow g25).append (.one ry5)).wide (wide_same mD)
            · rw [err, ← er2]
            · rw [List.append_assoc]; exact ea
          · dsimp only
            rw [if_neg hb] at er ⊢
            exact ⟨accD, accV, pt.2, own4, G.trans (g24.av_any ρ1.av), hD4, nD4, hs4, hr.grow g24, r, er, ea⟩
      · cases er
    · left
      have e0 : i = p.1.1.length := by omega
      subst e0
      rw [List.drop_length] at er
      unfold compN at er
      split at er
      · rename_i hck
        obtain ⟨er1, er2⟩ := Prod.mk.inj (Px.R.ok.inj er)
        subst er1 er2
        refine ⟨(it _ H2 ⟨own', da :: ρ1.av⟩ _ wd hs2 hck).2 rfl, ?_⟩
        rw [List.append_nil] at ea
        exact fin q H1 ρ1 H2 own' da accV hK G hD hD2 nD (fun m => av0 da m rfl) hs2 (by rw [← ea]; exact hr)
      · cases er
theorem dts_nil : PTs X [] (tT (zx X) E tYesV) := ⟨fun pins s σ H Q I ⟨env, st, ρ, he, hs, hp⟩ => pts_nil.run pins s σ H Q I (hp H ρ .refl hs)⟩
theorem dts_one {c : Expr} {t : Tv} (h : DT X E c t) : PTs X [c] (tT (zx X) E t) := pts_one h
/-- the list, made to stay as it is; one that may change -/
theorem lc_of1 {mi : Iv} {g : Cv} {t : Tv} {e : Ev} {vs : List Nat} {wi : TI} {tg : TG} (ct : CT (zx X) vs tg g)
    (hw : ∀ σ H (R : It → Hp → Prop) env st ρ, EnvR (zx X) H ρ env σ → StR (zx X) H ρ st → PostX (zx X) H ρ (mi env st) (BI (zx X) R) E → wi σ H R) {σ : L2.St} {H : Hp} {Q : VK}
    (h : tE (zx X) E (eComp mi vs g t e) σ H Q) : tLc wi tg (tT (zx X) noE t) (tE (zx X) noE e) vs σ H Q :=
  lc_of (K := fun q => .ok (.lst q.1, q.2)) ct hw (fun q H1 ρ1 H' own' a vv hp g hn ha no nv hs r => by
    have sub : ∀ b, b ∈ ρ1.av → b ∈ a :: ρ1.av := fun b m => List.mem_cons_of_mem _ m
    exact hp H' _ g (hs.less sub) _ ⟨a, vv, rfl, ha, fun m => m.elim no nv, r.less sub⟩) h
theorem lc_of2 {mi : Iv} {g : Cv} {t : Tv} {e : Ev} {vs : List Nat} {wi : TI} {tg : TG} (ct : CT (zx X) vs tg g)
    (hw : ∀ σ H (R : It → Hp → Prop) env st ρ, EnvR (zx X) H ρ env σ → StR (zx X) H ρ st → PostX (zx X) H ρ (mi env st) (BI (zx X) R) E → wi σ H R) {σ : L2.St} {H : Hp} {Q : VK}
    (h : tE (zx X) E (eCompN mi vs g t e) σ H Q) : tLc wi tg (tT (zx X) noE t) (tE (zx X) noE e) vs σ H Q := by
  refine lc_of (K := fun q => .ok (.mref q.2.length, q.2 ++ [MObj.lst q.1])) ct hw (fun q H1 ρ1 H' own' a vv hp g hn ha no nv hs r => ?_) h
  have pre : ∀ (n : Nat) (b : Addr), own'[n]? = some b → (own' ++ [a])[n]? = some b := fun n b e => by
    rw [List.getElem?_append_left (List.getElem?_eq_some_iff.mp e).1]; exact e
  have one : ∀ b, b ∈ own' ++ [a] → b ∈ own' ∨ b = a := fun b m => by
    rcases List.mem_append.mp m with m | m
    · exact .inl m
    · exact .inr (by simpa using m)
  have g2 : Grow H1 H' ρ1 ⟨own' ++ [a], ρ1.av⟩ := ⟨fun n b e => pre n b (g.pre n b e), g.keep, fun b m => by
    rcases one b m with m | m
    · exact g.new b m
    · rw [m]; exact .inr hn, g.was, g.mt, rfl⟩
  have w : Wide H' H' ⟨own', a :: ρ1.av⟩ ⟨own' ++ [a], ρ1.av⟩ := ⟨pre, fun b o e _ _ => e, fun b m => by
    rcases m with m | m
    · rcases one b m with m | m
      · exact .inl (.inl m)
      · rw [m]; exact .inl (.inr List.mem_cons_self)
    · exact .inl (.inr (List.mem_cons_of_mem _ m))⟩
  refine hp H' _ g2 ⟨?_, ?_, fun n o e => ?_, fun b m => hs.tr b (List.mem_cons_of_mem _ m), hs.tb⟩ _ ⟨a, rfl, ?_⟩
  · show (q.2 ++ [MObj.lst q.1]).length = (own' ++ [a]).length
    have := hs.len
    simp [this]
  · show (own' ++ [a]).Nodup
    rw [List.nodup_append]
    exact ⟨hs.nd, by simp, fun b hb c hc => by
      have : c = a := by simpa using hc
      rw [this]; rintro rfl; exact no hb⟩
  · by_cases hl : n < q.2.length
    · rw [List.getElem?_append_left hl] at e
      obtain ⟨b, e1, r1⟩ := hs.at_ n o e
      refine ⟨b, pre n b e1, ?_⟩
      cases o with
      | lst l => obtain ⟨xs, q, r⟩ := r1; exact ⟨xs, q, r.wide w⟩
      | dct ks vs => exact DictC.imp r1 (fun _ {o} _ x => x) (fun _ z => Reps.wide w z) fun _ z => Reps.wide w z
      | ins c ns vs => obtain ⟨dx, fs, q, en, r⟩ := r1; exact ⟨dx, fs, q, en, r.wide w⟩
    · have e0 : n = q.2.length := by
        have := (List.getElem?_eq_some_iff.mp e).1
        simp at this; omega
      subst e0
      rw [List.getElem?_append_right (Nat.le_refl _)] at e
      simp at e
      subst e
      refine ⟨a, ?_, vv, ha, r.wide w⟩
      show (own' ++ [a])[q.2.length]? = _
      rw [show q.2.length = own'.length from hs.len, List.getElem?_append_right (Nat.le_refl _)]; simp
  · show (own' ++ [a])[q.2.length]? = _
    rw [show q.2.length = own'.length from hs.len, List.getElem?_append_right (Nat.le_refl _)]; simp
theorem de_comp {elt tg iter : Expr} {ifs : List Expr} {scope : Scope} {own : List (Str × Nat)} {mi : Iv} {g : Cv} {t : Tv} {e : Ev} {tr : TG} (hc : X.calm = true) (hN : X.N.Nodup) (hi : DI X E tg iter mi) (ok : BlkOk X.N X.env.scope scope own) (ct : CT (zx X) (own.map (·.2)) tr g)
    (hg : ∀ (s : Shared) (H : Hp) (C : Addr) (cl : List (Str × Addr)) (fp : List Addr), PG (X.blk s H scope (compEnvC scope cl C X.env) fp) tg tr) (ht : ∀ (s : Shared) (H : Hp) (C : Addr) (cl : List (Str × Addr)) (fp : List Addr), PTs (X.blk s H scope (compEnvC scope cl C X.env) fp) ifs (tT (zx X) noE t))
    (he : ∀ (s : Shared) (H : Hp) (C : Addr) (cl : List (Str × Addr)) (fp : List Addr), PE (X.blk s H scope (compEnvC scope cl C X.env) fp) elt (tE (zx X) noE e)) (hs : ∀ x, foldedSetIterable iter X.env x = pure x := by intro _; rfl) :
    DE X E (.ListComp elt [⟨tg, iter, ifs, 0⟩] scope pos) (eComp mi (own.map (·.2)) g t e) := by
  obtain ⟨wi, hi, hw⟩ := hi
  exact pe_weak (pe_lc hc hN hi ok hg ht he hs) fun _ _ _ h => lc_of1 ct hw h
theorem de_compN {elt tg iter : Expr} {ifs : List Expr} {scope : Scope} {own : List (Str × Nat)} {mi : Iv} {g : Cv} {t : Tv} {e : Ev} {tr : TG} (hc : X.calm = true) (hN : X.N.Nodup) (hi : DI X E tg iter mi) (ok : BlkOk X.N X.env.scope scope own) (ct : CT (zx X) (own.map (·.2)) tr g)
    (hg : ∀ (s : Shared) (H : Hp) (C : Addr) (cl : List (Str × Addr)) (fp : List Addr), PG (X.blk s H scope (compEnvC scope cl C X.env) fp) tg tr) (ht : ∀ (s : Shared) (H : Hp) (C : Addr) (cl : List (Str × Addr)) (fp : List Addr), PTs (X.blk s H scope (compEnvC scope cl C X.env) fp) ifs (tT (zx X) noE t))
    (he : ∀ (s : Shared) (H : Hp) (C : Addr) (cl : List (Str × Addr)) (fp : List Addr), PE (X.blk s H scope (compEnvC scope cl C X.env) fp) elt (tE (zx X) noE e)) (hs : ∀ x, foldedSetIterable iter X.env x = pure x := by intro _; rfl) :
    DE X E (.ListComp elt [⟨tg, iter, ifs, 0⟩] scope pos) (eCompN mi (own.map (·.2)) g t e) := by
  obtain ⟨wi, hi, hw⟩ := hi
  exact pe_weak (pe_lc hc hN hi ok hg ht he hs) fun _ _ _ h => lc_of2 ct hw h
/-- y = [..] on one line: any reading of the comprehension -/
theorem ds_setLc {i : Nat} {y : Str} {py : Pos} {elt tg iter : Expr} {ifs : List Expr} {scope : Scope} {own : List (Str × Nat)} {spos : Pos} {mi : Iv} {g : Cv} {t : Tv} {e m : Ev} {tr : TG} (hc : X.calm = true) (hN : X.N.Nodup) (hy : X.N[i]? = some y) (hyl : X.env.scope.names.lookup y = some .local)
    (hsw : swapsWith (.ListComp elt [⟨tg, iter, ifs, 0⟩] scope pos) (some (.Name y py)) spos.line X.env = pure true) (hi : DI X E tg iter mi) (ok : BlkOk X.N X.env.scope scope own) (ct : CT (zx X) (own.map (·.2)) tr g)
    (hg : ∀ (s : Shared) (H : Hp) (C : Addr) (cl : List (Str × Addr)) (fp : List Addr), PG (X.blk s H scope (compEnvC scope cl C X.env) fp) tg tr) (ht : ∀ (s : Shared) (H : Hp) (C : Addr) (cl : List (Str × Addr)) (fp : List Addr), PTs (X.blk s H scope (compEnvC scope cl C X.env) fp) ifs (tT (zx X) noE t))
    (he : ∀ (s : Shared) (H : Hp) (C : Addr) (cl : List (Str × Addr)) (fp : List Addr), PE (X.blk s H scope (compEnvC scope cl C X.env) fp) elt (tE (zx X) noE e)) (hm : m = eComp mi (own.map (·.2)) g t e ∨ m = eCompN mi (own.map (·.2)) g t e) (hs : ∀ x, foldedSetIterable iter X.env x = pure x := by intro _; rfl) :
    DS X E (.Assign [.Name y py] (.ListComp elt [⟨tg, iter, ifs, 0⟩] scope pos) spos) (sAsg m (gV i)) := by
  obtain ⟨wi, hi, hw⟩ := hi
  refine ps_weak (ps_setLc hc hN hy hyl hsw hi ok hg ht he hs) fun U σ H ⟨env, st, ρ, he2, hs2, hp⟩ => ?_
  have hp' : tE (zx X) E m σ H (fun x H1 => gName i x σ H1 U.nx) := ⟨env, st, ρ, he2, hs2, PostX.seq hp fun p H1 ρ1 g1 hp1 hs1 v rv => hp1 H1 ρ1 .refl hs1 _ ((he2.grow g1).put i rv)⟩
  rcases hm with rfl | rfl
  · exact lc_of1 ct hw hp'
  · exact lc_of2 ct hw hp'
end
end Px
/-! P10: defs. -/
namespace Px
open PySem PySem.Spec
open L2
/-- a body's end as a value -/
def R.out : R (SOut × DEnv × Store) → R (D × Store)
  | .ok (.nx, _, st) => .ok (.non, st)
  | .ok (.rt d, _, st) => .ok (d, st)
  | .ok (.bk, _, _) => .stuck
  | .ok (.ct, _, _) => .stuck
  | .exn e st => .exn e st
  | .stuck => .stuck
def env0 (n : Nat) (ds : List D) : DEnv := ds.map some ++ List.replicate (n - ds.length) none
/-- a def that may change what its callers have -/
def mM (n : Nat) (b : Sm) : Fv := fun ds st => R.out (b (env0 n ds) st)
/-- what is left of its end for the callers -/
def R.off : R (D × Store) → R D
  | .ok p => if still (rd p.2 p.1) = true then .ok (rd p.2 p.1) else .stuck
  | .exn e st => .exn e st
  | .stuck => .stuck
/-- a def that changes nothing of its callers' -/
def mP (n : Nat) (b : Sm) : Pf := fun ds => R.off (R.out (b (env0 n ds) []))
section
variable {P : Program} {w : World} {K : PySem.W.Frag} {mg : Str → Option Value} {base : Heap}
theorem env0_r {Z : Wd} {H : Hp} {ρ : Rho} : ∀ {ds : List D} {vs : List V}, Reps Z H ρ ds vs → ∀ N : List Str, EnvR Z H ρ (env0 N.length ds) (L2.start N vs) := by
  intro ds vs r N
  have hl := r.len
  refine ⟨by unfold env0 L2.start; simp [hl], fun i d e => ?_⟩
  unfold env0 at e
  unfold L2.start
  by_cases hi : i < ds.length
  · rw [List.getElem?_append_left (by simpa using hi), List.getElem?_map] at e
    cases e2 : ds[i]? with
    | none => rw [e2] at e; cases e
    | some d' =>
      rw [e2] at e
      cases e
      obtain ⟨v, h1, h2⟩ := r.get e2
      exact ⟨v, by rw [List.getElem?_append_left (by simpa [hl] using hi), List.getElem?_map, h1]; rfl, h2⟩
  · rw [List.getElem?_append_right (by simpa using Nat.le_of_not_lt hi)] at e
    rw [List.getElem?_replicate] at e
    split at e <;> cases e
theorem out_bs {Z : Wd} {H : Hp} {ρ : Rho} {E : XK} {Q : VK} {r : R (SOut × DEnv × Store)} (h : PostX Z H ρ (R.out r) (BE Z Q) E) : PostX Z H ρ r (BS Z { nx := fun x H' => Q .non H', rt := Q }) E := by
  match r, h with
  | .stuck, h => exact h
  | .exn e st, h => exact h
  | .ok (.nx, env, st), h => exact fun H' ρ' g hs σ he => h H' ρ' g hs _ rfl
  | .ok (.rt d, env, st), h => exact fun H' ρ' g hs σ he v rv => h H' ρ' g hs v rv
  | .ok (.bk, env, st), h => exact h.elim
  | .ok (.ct, env, st), h => exact h.elim
/-- what a caller sees of what was made inside -/
theorem Rep.lookP {Z : Wd} {H : Hp} {ρ : Rho} {st : Store} {d : D} {v : V} (hs : StR Z H ρ st) (ow : ∀ a ∈ ρ.own, a ∉ ρ.av) (q : still (rd st d) = true) (h : Rep Z H ρ d v) : Rep Z H ⟨[], ρ.av⟩ (rd st d) v := by
  have no : ∀ a, a ∈ (⟨[], ρ.av⟩ : Rho) → a ∈ ρ := fun a h => h.elim (fun z => by cases z) .inr
  have fr : ∀ a ∈ ρ.own, a ∉ (⟨[], ρ.av⟩ : Rho) := fun a m z => z.elim (fun z => by cases z) (ow a m)
  cases d with
  | mref n =>
    obtain ⟨a, e, ea⟩ := h
    have ma : a ∈ ρ.own := List.mem_of_getElem? ea
    unfold rd at q ⊢
    cases e2 : st[n]? with
    | none => simp only [e2] at q; cases q
    | some o =>
      obtain ⟨b, e3, r⟩ := hs.at_ n o e2
      rw [ea] at e3; cases e3
      cases o with
      | lst l =>
        obtain ⟨xs, e4, r⟩ := r
        simp only [e2] at q ⊢
        exact ⟨a, xs, e, e4, fr a ma, Reps.fewer no q r⟩
      | dct ks vs =>
        simp only [e2] at q ⊢
        have q' : (stills ks && stills vs) = true := q
        rw [Bool.and_eq_true] at q'
        exact ⟨a, e, fr a ma, DictC.imp r (fun _ {o} _ x => x) (fun _ w => Reps.fewer no q'.2 w) fun _ w => Reps.fewer no q'.1 w⟩
      | ins c ns vs =>
        simp only [e2] at q ⊢
        obtain ⟨dx, fs, e4, en, r⟩ := r
        exact ⟨a, dx, fs, e, fr a ma, e4, en, Reps.fewer no q r⟩
  | _ => exact Rep.fewer no q h
theorem off_be {Z : Wd} {H : Hp} {ρ : Rho} {E : XK} {Q : VK} {r : R (D × Store)} (ho : ρ.own = []) (ht : ∀ a ∈ ρ.av, Mut (H a)) (h : PostX Z H ρ (R.off r) (BP Z Q) E) : PostX Z H ρ r (BE Z Q) E := by
  match r, h with
  | .stuck, h => exact h
  | .exn e st, h => exact h
  | .ok p, h =>
    have h : PostX Z H ρ (if still (rd p.2 p.1) = true then .ok (rd p.2 p.1) else .stuck) (BP Z Q) E := h
    split at h
    · rename_i hq
      intro H' ρ' g hs v rv
      have e0 : ρ = ⟨[], ρ.av⟩ := by
        cases ρ; simp only at ho; subst ho; rfl
      have g2 : Grow H H' ρ ρ := ⟨fun _ _ h => h, fun a o e nt m => g.keep a o e nt m, fun _ h => .inl h, g.was, fun a m _ => (by rw [ho] at m; cases m), rfl⟩
      refine h H' ρ g2 ho hq hs.tb v ?_
      have := rv.lookP hs (fun a m z => ?_) hq
      · rw [g.av] at this
        rw [e0]; exact this
      · rw [g.av] at z
        rcases g.new a m with k | k
        · rw [ho] at k; cases k
        · exact mut_some (ht a z) k
    · exact h.elim
theorem fnM {x qual : Str} {ar : Arguments} {body : List Stmt} {scope : Scope} {f : Addr} {fd : FuncData} {N ps : List Str} {k : Nat} {m : Sm} {dvs : List V} {kws : List (Str × V)} (F : FunD K x qual ar body scope dvs kws f fd) (sc : FnScope N ps scope)
    (hm : ∀ (cdv : Value) (A : Around) (outer : List Env) (s : Shared) (H : Hp) (E : XK), Room k (A.deeper (PyProof.Rows.envOfC qual scope s.heap.objs.size f cdv)) → DSs (cxOf (CX P w) P w K mg base N qual scope f cdv A outer s H E) E body m) :
    FnOk P w K mg base (CX P w) (k + 1) f fd ps (spD ⟨P, w, K⟩ ps.length (mM N.length m)) :=
  F.ok sc (fun vs H Q E h => h.1) fun cdv A outer s H vs Q E hr h => ⟨_, hm cdv A outer s H E hr, by
    obtain ⟨hn, ds, st, ρ, r, hs, hp⟩ := h
    exact ⟨env0 N.length ds, st, ρ, env0_r r N, hs, out_bs hp⟩⟩
theorem fnP {x qual : Str} {ar : Arguments} {body : List Stmt} {scope : Scope} {f : Addr} {fd : FuncData} {N ps : List Str} {k : Nat} {m : Sm} {dvs : List V} {kws : List (Str × V)} (F : FunD K x qual ar body scope dvs kws f fd) (sc : FnScope N ps scope)
    (hm : ∀ (cdv : Value) (A : Around) (outer : List Env) (s : Shared) (H : Hp) (E : XK), Room k (A.deeper (PyProof.Rows.envOfC qual scope s.heap.objs.size f cdv)) → DSs (cxOf (CX P w) P w K mg base N qual scope f cdv A outer s H E) E body m) :
    FnOk P w K mg base (CX P w) (k + 1) f fd ps (spP ⟨P, w, K⟩ ps.length (mP N.length m)) :=
  F.ok sc (fun vs H Q E h => h.1) fun cdv A outer s H vs Q E hr h => ⟨_, hm cdv A outer s H E hr, by
    obtain ⟨hn, ds, ρ, ho, ht, tb, r, hp⟩ := h
    refine ⟨env0 N.length ds, [], ρ, env0_r r N, ?_, out_bs (off_be ho ht hp)⟩
    exact ⟨by rw [ho]; rfl, by rw [ho]; exact List.nodup_nil, fun n o e => by simp at e, ht, tb⟩⟩
/-- a promise that a call of a def in a block takes over -/
theorem passC {X : Cx} {E : XK} (h : X.stack = X.env :: X.outer) (h2 : X.env.frame = some X.env.locals) (h3 : X.ex = []) {E1 : Value → Shared → Prop}
    (h4 : X.xe = fun e s' => wpAny (model X.prog X.w) X.A (leaving X.env e) (fun x s'' => CX X.prog X.w X.outer X.H_0 X.s_0 E e s'') E1 s') : Passes (CX X.prog X.w) X E :=
  passes_call (takes_of h h2 h3 h4) fun _ _ _ _ h => h
/-- in a block nothing is raised -/
theorem passN {X : Cx} : Passes (CX X.prog X.w) X noE := by
  intro pins σ H s e s' I ⟨a, B, H', cls, d, h1, h2, h3, h4, h5, h6, h7, h8⟩
  exact h8.elim
end
end Px
/-! P11: builtins. -/
namespace Px
open PySem PySem.Spec
open L2
/-- what a built-in gives of its arguments -/
abbrev Bf := Store → List D → Option D
abbrev Lf := Store → List D → Option (List D)
def rB (Z : Wd) (f : Bf) : List V → Hp → VK → Prop := fun vs H Q => ∃ ρ st ds d, StR Z H ρ st ∧ Reps Z H ρ ds vs ∧ f st ds = some d ∧ ∀ z H', Grow H H' ρ ρ → StR Z H' ρ st → Rep Z H' ρ d z → Q z H'
/-- a new list -/
def rN (Z : Wd) (f : Lf) : List V → Hp → VK → Prop := fun vs H Q => ∃ ρ st ds l, StR Z H ρ st ∧ Reps Z H ρ ds vs ∧ f st ds = some l ∧ ∀ p xs, Reps Z H ρ l xs → H p = none → Q (.ref p) (upd H p (.lst xs))
def eB (f : Bf) (a : Av) : Ev := fun env st => a env st >>= fun p => R.opt (f p.2 p.1) >>= fun d => .ok (d, p.2)
def eL (f : Lf) (a : Av) : Ev := fun env st => a env st >>= fun p => R.opt (f p.2 p.1) >>= fun l => .ok (.lst l, p.2)
def eLN (f : Lf) (a : Av) : Ev := fun env st => a env st >>= fun p => R.opt (f p.2 p.1) >>= fun l => .ok (.mref p.2.length, p.2 ++ [.lst l])
section
variable {X : Cx} {E : XK} {pos : Pos}
theorem tCB_B {f : Bf} {m : Av} {σ : L2.St} {H : Hp} {Q : VK} (h : tE (zx X) E (eB f m) σ H Q) : tCB (rB (zx X) f) (tA (zx X) E m) σ H Q := by
  obtain ⟨env, st, ρ, he, hst, hp⟩ := h
  refine ⟨env, st, ρ, he, hst, PostX.seq hp fun p H1 ρ1 g1 hp1 hs1 vs rv => ?_⟩
  cases e : f p.2 p.1 with
  | none => simp only [e] at hp1; exact hp1.elim
  | some d =>
    simp only [e] at hp1
    exact ⟨ρ1, p.2, p.1, d, hs1, rv, e, fun z H' g hs' r => hp1 H' ρ1 g hs' z r⟩
theorem tCB_L {f : Lf} {m : Av} {σ : L2.St} {H : Hp} {Q : VK} (h : tE (zx X) E (eL f m) σ H Q) : tCB (rN (zx X) f) (tA (zx X) E m) σ H Q := by
  obtain ⟨env, st, ρ, he, hst, hp⟩ := h
  refine ⟨env, st, ρ, he, hst, PostX.seq hp fun p H1 ρ1 g1 hp1 hs1 vs rv => ?_⟩
  cases e : f p.2 p.1 with
  | none => simp only [e] at hp1; exact hp1.elim
  | some l =>
    simp only [e] at hp1
    exact ⟨ρ1, p.2, p.1, l, hs1, rv, e, fun q xs r hq => q_lst hs1 (fun z H' g hs' r => hp1 H' ρ1 g hs' z r) r hq⟩
theorem tCB_LN {f : Lf} {m : Av} {σ : L2.St} {H : Hp} {Q : VK} (h : tE (zx X) E (eLN f m) σ H Q) : tCB (rN (zx X) f) (tA (zx X) E m) σ H Q := by
  obtain ⟨env, st, ρ, he, hst, hp⟩ := h
  refine ⟨env, st, ρ, he, hst, PostX.seq hp fun p H1 ρ1 g1 hp1 hs1 vs rv => ?_⟩
  cases e : f p.2 p.1 with
  | none => simp only [e] at hp1; exact hp1.elim
  | some l =>
    simp only [e] at hp1
    exact ⟨ρ1, p.2, p.1, l, hs1, rv, e, fun q xs r hq => q_newL (Q := Q) hs1 (fun z H' ρ' g hs' r => hp1 H' ρ' g hs' z r) r hq⟩
/-- a call of a built-in function -/
theorem de_bf {x : Str} {p : Pos} {e : Expr} {es : List Expr} {m : Av} {id : String} {f : Bf} (c : CallR X (.builtin id) (rB (zx X) f)) (hb : bootBuiltins x = some (.builtin id)) (hg : Gl X x) (hm : X.mg x = none) (ha : DA X E (e :: es) m)
    (h1 : x ≠ ("__name__" : Str) := by decide) (h2 : (x == ("__debug__" : Str)) = false := by decide) (he : starEach (e :: es) X.env = (false, eval e X.env) :: starEach es X.env := by rfl) (hpl : (backTo pos (starEach es X.env)).any (·.1) = false := by rfl) :
    DE X E (.Call (.Name x p) (e :: es) [] pos) (eB f m) := pe_weak (pe_callB c hg hm hb ha h1 h2 he hpl) fun _ _ _ h => tCB_B h
theorem de_bl' {x : Str} {p : Pos} {e : Expr} {es : List Expr} {m : Av} {id : String} {f : Lf} (c : CallR X (.builtin id) (rN (zx X) f)) (hb : bootBuiltins x = some (.builtin id)) (hg : Gl X x) (hm : X.mg x = none) (ha : DA X E (e :: es) m)
    (h1 : x ≠ ("__name__" : Str) := by decide) (h2 : (x == ("__debug__" : Str)) = false := by decide) (he : starEach (e :: es) X.env = (false, eval e X.env) :: starEach es X.env := by rfl) (hpl : (backTo pos (starEach es X.env)).any (·.1) = false := by rfl) :
    DE X E (.Call (.Name x p) (e :: es) [] pos) (eL f m) := pe_weak (pe_callB c hg hm hb ha h1 h2 he hpl) fun _ _ _ h => tCB_L h
theorem de_bln {x : Str} {p : Pos} {e : Expr} {es : List Expr} {m : Av} {id : String} {f : Lf} (c : CallR X (.builtin id) (rN (zx X) f)) (hb : bootBuiltins x = some (.builtin id)) (hg : Gl X x) (hm : X.mg x = none) (ha : DA X E (e :: es) m)
    (h1 : x ≠ ("__name__" : Str) := by decide) (h2 : (x == ("__debug__" : Str)) = false := by decide) (he : starEach (e :: es) X.env = (false, eval e X.env) :: starEach es X.env := by rfl) (hpl : (backTo pos (starEach es X.env)).any (·.1) = false := by rfl) :
    DE X E (.Call (.Name x p) (e :: es) [] pos) (eLN f m) := pe_weak (pe_callB c hg hm hb ha h1 h2 he hpl) fun _ _ _ h => tCB_LN h
/-- a call of a built-in class -/
theorem de_tf {x : Str} {p : Pos} {e : Expr} {es : List Expr} {m : Av} {id : String} {f : Bf} (c : CallR X (.type id) (rB (zx X) f)) (hb : bootBuiltins x = some (.type id)) (hg : Gl X x) (hm : X.mg x = none) (ha : DA X E (e :: es) m)
    (h1 : x ≠ ("__name__" : Str) := by decide) (h2 : (x == ("__debug__" : Str)) = false := by decide) (he : starEach (e :: es) X.env = (false, eval e X.env) :: starEach es X.env := by rfl) (hpl : (backTo pos (starEach es X.env)).any (·.1) = false := by rfl) :
    DE X E (.Call (.Name x p) (e :: es) [] pos) (eB f m) := pe_weak (pe_callTy c hg hm hb ha h1 h2 he hpl) fun _ _ _ h => tCB_B h
theorem de_tl {x : Str} {p : Pos} {e : Expr} {es : List Expr} {m : Av} {id : String} {f : Lf} (c : CallR X (.type id) (rN (zx X) f)) (hb : bootBuiltins x = some (.type id)) (hg : Gl X x) (hm : X.mg x = none) (ha : DA X E (e :: es) m)
    (h1 : x ≠ ("__name__" : Str) := by decide) (h2 : (x == ("__debug__" : Str)) = false := by decide) (he : starEach (e :: es) X.env = (false, eval e X.env) :: starEach es X.env := by rfl) (hpl : (backTo pos (starEach es X.env)).any (·.1) = false := by rfl) :
    DE X E (.Call (.Name x p) (e :: es) [] pos) (eL f m) := pe_weak (pe_callTy c hg hm hb ha h1 h2 he hpl) fun _ _ _ h => tCB_L h
theorem de_tln {x : Str} {p : Pos} {e : Expr} {es : List Expr} {m : Av} {id : String} {f : Lf} (c : CallR X (.type id) (rN (zx X) f)) (hb : bootBuiltins x = some (.type id)) (hg : Gl X x) (hm : X.mg x = none) (ha : DA X E (e :: es) m)
    (h1 : x ≠ ("__name__" : Str) := by decide) (h2 : (x == ("__debug__" : Str)) = false := by decide) (he : starEach (e :: es) X.env = (false, eval e X.env) :: starEach es X.env := by rfl) (hpl : (backTo pos (starEach es X.env)).any (·.1) = false := by rfl) :
    DE X E (.Call (.Name x p) (e :: es) [] pos) (eLN f m) := pe_weak (pe_callTy c hg hm hb ha h1 h2 he hpl) fun _ _ _ h => tCB_LN h
/-- another promise that asks no more -/
theorem CallR.weak {c : Value} {r r' : List V → Hp → VK → Prop} (h : CallR X c r) (k : ∀ vs H Q, r' vs H Q → r vs H Q) : CallR X c r' := fun pins s σ H xs us Q I rv q => h pins s σ H xs us Q I rv (k _ _ _ q)
theorem reps1 {Z : Wd} {H : Hp} {ρ : Rho} {d : D} {vs : List V} (h : Reps Z H ρ [d] vs) : ∃ v, vs = [v] ∧ Rep Z H ρ d v := by
  obtain ⟨v, r, e, h1, h2⟩ := h
  have h2 : r = [] := h2
  subst h2
  exact ⟨v, e, h1⟩
theorem reps2 {Z : Wd} {H : Hp} {ρ : Rho} {d d' : D} {vs : List V} (h : Reps Z H ρ [d, d'] vs) : ∃ v v', vs = [v, v'] ∧ Rep Z H ρ d v ∧ Rep Z H ρ d' v' := by
  obtain ⟨v, r, rfl, h1, h2⟩ := h
  obtain ⟨v', rfl, h3⟩ := reps1 h2
  exact ⟨v, v', rfl, h1, h3⟩
/-! ### len -/
def bLen : Bf := fun st ds => match ds with
  | [x] => match seqD st x with
    | some l => some (.int l.length)
    | none => match x with
      | .str y => if y.length ≤ LINE then some (.int y.length) else none
      | _ => none
  | _ => none
theorem c_len : CallR X (.builtin "len") (rB (zx X) bLen) := CallR.weak call_len fun vs H Q ⟨ρ, st, ds, d, hs, r, e, q⟩ => by
  unfold bLen at e
  split at e
  · rename_i x
    obtain ⟨v, rfl, rv⟩ := reps1 r
    split at e
    · rename_i l e1
      cases e
      obtain ⟨a, xs, rfl, hq, rx⟩ := rv.seq hs e1
      refine ⟨_, xs.length, rfl, hq.imp (fun h => ⟨xs, h, rfl⟩) fun h => ⟨xs, h, rfl⟩, q _ _ .refl hs ?_⟩
      rw [rx.len]; rfl
    · split at e
      · rename_i y _
        split at e
        · rename_i hl
          cases e
          cases (show v = .str y from rv)
          exact ⟨_, y.length, rfl, ⟨by rw [line_eq]; exact hl, rfl⟩, q _ _ .refl hs rfl⟩
        · cases e
      · cases e
  · cases e
/-! ### list, tuple of a list or tuple -/
def bSeq : Lf := fun st ds => match ds with
  | [x] => seqD st x
  | _ => none
theorem c_list : CallR X (.type "list") (rN (zx X) bSeq) := CallR.weak call_list_of fun vs H Q ⟨ρ, st, ds, l, hs, r, e, q⟩ => by
  unfold bSeq at e
  split at e
  · obtain ⟨v, rfl, rv⟩ := reps1 r
    obtain ⟨a, xs, rfl, hq, rx⟩ := rv.seq hs e
    exact ⟨a, xs, rfl, hq, fun p hp => q p xs rx hp⟩
  · cases e
def bTup : Bf := fun st ds => match ds with
  | [x] => (seqD st x).map .tup
  | _ => none
theorem c_tuple : CallR X (.type "tuple") (rB (zx X) bTup) := CallR.weak call_tuple_of fun vs H Q ⟨ρ, st, ds, d, hs, r, e, q⟩ => by
  unfold bTup at e
  split at e
  · rename_i x
    obtain ⟨v, rfl, rv⟩ := reps1 r
    cases e1 : seqD st x with
    | none => rw [e1] at e; cases e
    | some l =>
      rw [e1] at e
      cases e
      by_cases ht : ∃ l', x = .tup l'
      · obtain ⟨l', rfl⟩ := ht
        cases e1
        obtain ⟨a, xs, rfl, hq, rx⟩ := rv
        exact ⟨a, xs, rfl, .inr ⟨sqT_of hq, q _ _ .refl hs ⟨a, xs, rfl, hq, rx⟩⟩⟩
      · have hl : ∃ a xs, v = .ref a ∧ SqL X.K H a xs ∧ Reps (zx X) H ρ l xs := by
          unfold seqD at e1
          split at e1
          · exact absurd ⟨_, rfl⟩ ht
          · cases e1; obtain ⟨a, xs, e, q, m, r⟩ := rv; exact ⟨a, xs, e, .of q, r⟩
          · cases e1; obtain ⟨a, e, q⟩ := rv; exact ⟨a, _, e, sqL_of q, ints_reps⟩
          · split at e1
            · cases e1
              rename_i n l' e2
              obtain ⟨a, e1, e3⟩ := rv
              obtain ⟨b, xs, e4, q, r⟩ := hs.lst e2
              rw [e3] at e4; cases e4
              exact ⟨a, xs, e1, .of q, r⟩
            · cases e1
          · cases e1
        obtain ⟨a, xs, rfl, hq, rx⟩ := hl
        exact ⟨a, xs, rfl, .inl ⟨hq, fun p hp => q_tup hs q rx hp⟩⟩
  · cases e
/-! ### int, abs -/
def bInt : Bf := fun _ ds => match ds with
  | [.int i] => some (.int i)
  | [.bl b] => some (.int (if b = true then 1 else 0))
  | _ => none
theorem c_int : CallR X (.type "int") (rB (zx X) bInt) := CallR.weak call_int1 fun vs H Q ⟨ρ, st, ds, d, hs, r, e, q⟩ => by
  unfold bInt at e
  split at e
  · cases e
    obtain ⟨v, rfl, rv⟩ := reps1 r
    cases rv
    exact .inl ⟨_, rfl, q _ _ .refl hs rfl⟩
  · cases e
    obtain ⟨v, rfl, rv⟩ := reps1 r
    cases rv
    exact .inr ⟨_, rfl, q _ _ .refl hs rfl⟩
  · cases e
def bAbs : Bf := fun _ ds => match ds with
  | [.int i] => some (.int (if i < 0 then -i else i))
  | _ => none
theorem c_abs : CallR X (.builtin "abs") (rB (zx X) bAbs) := CallR.weak call_abs fun vs H Q ⟨ρ, st, ds, d, hs, r, e, q⟩ => by
  unfold bAbs at e
  split at e
  · cases e
    obtain ⟨v, rfl, rv⟩ := reps1 r
    cases rv
    exact ⟨_, rfl, q _ _ .refl hs rfl⟩
  · cases e
/-! ### all, any of truths; sum, min, max of whole numbers, all in lists -/
def blsD : List D → Option (List Bool)
  | [] => some []
  | .bl b :: l => (blsD l).map fun r => b :: r
  | _ :: _ => none
def intsD : List D → Option (List Int)
  | [] => some []
  | .int i :: l => (intsD l).map fun r => i :: r
  | _ :: _ => none
theorem blsD_eq : ∀ {l : List D} {bs : List Bool}, blsD l = some bs → l = bs.map D.bl
  | [], bs, h => by cases h; rfl
  | .bl b :: l, bs, h => by
    have h' : (blsD l).map (fun r => b :: r) = some bs := h
    cases e : blsD l with
    | none => rw [e] at h'; cases h'
    | some r => rw [e] at h'; cases h'; rw [blsD_eq e]; rfl
theorem intsD_eq : ∀ {l : List D} {bs : List Int}, intsD l = some bs → l = bs.map D.int
  | [], bs, h => by cases h; rfl
  | .int b :: l, bs, h => by
    have h' : (intsD l).map (fun r => b :: r) = some bs := h
    cases e : intsD l with
    | none => rw [e] at h'; cases h'
    | some r => rw [e] at h'; cases h'; rw [intsD_eq e]; rfl
theorem reps_bls {Z : Wd} {H : Hp} {ρ : Rho} : ∀ {ns : List Bool} {xs : List V}, Reps Z H ρ (ns.map D.bl) xs → xs = ns.map V.bl
  | [], xs, h => h
  | n :: ns, xs, ⟨x, r, e, h, t⟩ => by rw [e, show x = .bl n from h, reps_bls t]; rfl
def isTupD : D → Bool
  | .tup _ => true
  | _ => false
/-- a list's items (no tuple's) -/
def lsD (st : Store) (d : D) : Option (List D) := if isTupD d = true then none else seqD st d
theorem Rep.ls {Z : Wd} {H : Hp} {ρ : Rho} {st : Store} {d : D} {v : V} {l : List D} (hs : StR Z H ρ st) (rv : Rep Z H ρ d v) (e : lsD st d = some l) : ∃ a xs, v = .ref a ∧ SqL Z.K H a xs ∧ Reps Z H ρ l xs := by
  unfold lsD at e
  split at e
  · cases e
  · rename_i ht
    unfold seqD at e
    split at e
    · exact absurd rfl ht
    · cases e; obtain ⟨a, xs, e, q, m, r⟩ := rv; exact ⟨a, xs, e, .of q, r⟩
    · cases e; obtain ⟨a, e, q⟩ := rv; exact ⟨a, _, e, sqL_of q, ints_reps⟩
    · split at e
      · cases e
        rename_i n l' e2
        obtain ⟨a, e1, e3⟩ := rv
        obtain ⟨b, xs, e4, q, r⟩ := hs.lst e2
        rw [e3] at e4; cases e4
        exact ⟨a, xs, e1, .of q, r⟩
      · cases e
    · cases e
def bBls (f : List Bool → Bool) : Bf := fun st ds => match ds with
  | [x] => ((lsD st x).bind blsD).map fun bs => .bl (f bs)
  | _ => none
def bAll : Bf := bBls fun bs => bs.all id
def bAny : Bf := bBls fun bs => bs.any id
theorem bBls_of {f : List Bool → Bool} {Z : Wd} {vs : List V} {H : Hp} {Q : VK} (h : rB Z (bBls f) vs H Q) : ∃ a bs, vs = [.ref a] ∧ SqL Z.K H a (bs.map V.bl) ∧ Q (.bl (f bs)) H := by
  obtain ⟨ρ, st, ds, d, hs, r, e, q⟩ := h
  unfold bBls at e
  split at e
  · rename_i x
    obtain ⟨v, rfl, rv⟩ := reps1 r
    cases e1 : lsD st x with
    | none => rw [e1] at e; cases e
    | some l =>
      rw [e1] at e
      simp only [Option.bind_some] at e
      cases e2 : blsD l with
      | none => rw [e2] at e; cases e
      | some bs =>
        rw [e2] at e
        cases e
        obtain ⟨a, xs, rfl, hq, rx⟩ := rv.ls hs e1
        rw [blsD_eq e2] at rx
        rw [reps_bls rx] at hq
        exact ⟨a, bs, rfl, hq, q _ _ .refl hs rfl⟩
  · cases e
theorem c_all (hc : X.calm = true) : CallR X (.builtin "all") (rB (zx X) bAll) := CallR.weak (cr_all hc) fun vs H Q h => bBls_of h
theorem c_any (hc : X.calm = true) : CallR X (.builtin "any") (rB (zx X) bAny) := CallR.weak (cr_any hc) fun vs H Q h => bBls_of h
def bSum : Bf := fun st ds => match ds with
  | [x] => ((lsD st x).bind intsD).map fun ns => .int ns.sum
  | _ => none
theorem c_sum (hc : X.calm = true) : CallR X (.builtin "sum") (rB (zx X) bSum) := CallR.weak (cr_sum hc) fun vs H Q ⟨ρ, st, ds, d, hs, r, e, q⟩ => by
  unfold bSum at e
  split at e
  · rename_i x
    obtain ⟨v, rfl, rv⟩ := reps1 r
    cases e1 : lsD st x with
    | none => rw [e1] at e; cases e
    | some l =>
      rw [e1] at e
      simp only [Option.bind_some] at e
      cases e2 : intsD l with
      | none => rw [e2] at e; cases e
      | some bs =>
        rw [e2] at e
        cases e
        obtain ⟨a, xs, rfl, hq, rx⟩ := rv.ls hs e1
        rw [intsD_eq e2] at rx
        rw [reps_ints rx] at hq
        exact ⟨a, bs, rfl, hq, q _ _ .refl hs rfl⟩
  · cases e
def bMin2 : Bf := fun _ ds => match ds with
  | [.int i, .int j] => some (.int (if j < i then j else i))
  | _ => none
def bMax2 : Bf := fun _ ds => match ds with
  | [.int i, .int j] => some (.int (if j > i then j else i))
  | _ => none
theorem c_min2 (hc : X.calm = true) : CallR X (.builtin "min") (rB (zx X) bMin2) := CallR.weak (call_min2 hc) fun vs H Q ⟨ρ, st, ds, d, hs, r, e, q⟩ => by
  unfold bMin2 at e
  split at e
  · cases e
    obtain ⟨v, v', rfl, r1, r2⟩ := reps2 r
    cases r1; cases r2
    exact ⟨_, _, rfl, q _ _ .refl hs rfl⟩
  · cases e
theorem c_max2 (hc : X.calm = true) : CallR X (.builtin "max") (rB (zx X) bMax2) := CallR.weak (call_max2 hc) fun vs H Q ⟨ρ, st, ds, d, hs, r, e, q⟩ => by
  unfold bMax2 at e
  split at e
  · cases e
    obtain ⟨v, v', rfl, r1, r2⟩ := reps2 r
    cases r1; cases r2
    exact ⟨_, _, rfl, q _ _ .refl hs rfl⟩
  · cases e
end
end Px
/-! P12: isinstance, sorted, ranges as lists and tuples. -/
namespace Px
open PySem PySem.Spec
open L2
section
variable {X : Cx} {E : XK} {pos : Pos}
/-! ### isinstance -/
def tyD (st : Store) : D → Option String
  | .non => some "NoneType"
  | .bl _ => some "bool"
  | .int _ => some "int"
  | .str _ => some "str"
  | .byt _ => some "bytes"
  | .flt _ => some "float"
  | .tup _ => some "tuple"
  | .lst _ => some "list"
  | .dct _ _ => some "dict"
  | .scr _ => some "list"
  | .ins _ _ _ => none
  | .mref n => match st[n]? with
    | some (.lst _) => some "list"
    | some (.dct _ _) => some "dict"
    | _ => none
def tys : List String := ["NoneType", "bool", "int", "str", "bytes", "float", "tuple", "list", "dict"]
def isTy (t T : String) : Bool := t == T || (t == "bool" && T == "int")
abbrev TyK (T : String) : Prop := ∀ K : PySem.W.Frag, ∀ t ∈ tys, PySem.W.kitOne K (.type t) (.type T) = some (isTy t T)
theorem tyk_of {T : String} (h : ∀ K : PySem.W.Frag, PySem.W.kitOne K (.type "NoneType") (.type T) = some (isTy "NoneType" T) ∧ PySem.W.kitOne K (.type "bool") (.type T) = some (isTy "bool" T) ∧ PySem.W.kitOne K (.type "int") (.type T) = some (isTy "int" T) ∧ PySem.W.kitOne K (.type "str") (.type T) = some (isTy "str" T)
    ∧ PySem.W.kitOne K (.type "bytes") (.type T) = some (isTy "bytes" T) ∧ PySem.W.kitOne K (.type "float") (.type T) = some (isTy "float" T) ∧ PySem.W.kitOne K (.type "tuple") (.type T) = some (isTy "tuple" T) ∧ PySem.W.kitOne K (.type "list") (.type T) = some (isTy "list" T) ∧ PySem.W.kitOne K (.type "dict") (.type T) = some (isTy "dict" T)) : TyK T := fun K t m => by
  obtain ⟨h1, h2, h3, h4, h5, h6, h7, h8, h9⟩ := h K
  simp only [tys, List.mem_cons, List.not_mem_nil, or_false] at m
  rcases m with rfl | rfl | rfl | rfl | rfl | rfl | rfl | rfl | rfl <;> assumption
theorem tyk_int : TyK "int" := tyk_of fun K => ⟨rfl, rfl, rfl, rfl, rfl, rfl, rfl, rfl, rfl⟩
theorem tyk_bool : TyK "bool" := tyk_of fun K => ⟨rfl, rfl, rfl, rfl, rfl, rfl, rfl, rfl, rfl⟩
theorem tyk_tuple : TyK "tuple" := tyk_of fun K => ⟨rfl, rfl, rfl, rfl, rfl, rfl, rfl, rfl, rfl⟩
theorem tyk_list : TyK "list" := tyk_of fun K => ⟨rfl, rfl, rfl, rfl, rfl, rfl, rfl, rfl, rfl⟩
theorem tyk_str : TyK "str" := tyk_of fun K => ⟨rfl, rfl, rfl, rfl, rfl, rfl, rfl, rfl, rfl⟩
theorem tyk_dict : TyK "dict" := tyk_of fun K => ⟨rfl, rfl, rfl, rfl, rfl, rfl, rfl, rfl, rfl⟩
theorem tyD_mem {st : Store} {d : D} {t : String} (h : tyD st d = some t) : t ∈ tys := by
  unfold tyD at h
  split at h
  all_goals first
    | (cases h; decide)
    | cases h
    | (split at h <;> first | (cases h; decide) | cases h)
theorem kit_run {T t : String} {pins : List (Addr × Obj)} {σ : L2.St} {H : Hp} {s : Shared} {a : Addr} {Q E : Value → Shared → Prop} (I : Inv X pins σ H s) (hx : PySem.W.KitX X.K (.ref a) (.type t) (PySem.W.KitAt a t)) (ha : PySem.W.KitAt a t s.heap) (k : PySem.W.kitOne X.K (.type t) (.type T) = some (isTy t T))
    (q : ∀ tk, Q (.bool (isTy t T)) { s with toks := tk }) : wpAny (model X.prog X.w) X.A (call (.builtin "isinstance") [.ref a, .type T]) Q E s :=
  PySem.W.kia_one hx I.kIn ha k (fun z => nomatch z) q
theorem kit_lst {pins : List (Addr × Obj)} {σ : L2.St} {H : Hp} {s : Shared} {a : Addr} {xs : List V} (I : Inv X pins σ H s) (h : SqL X.K H a xs) : PySem.W.KitAt a "list" s.heap := by
  obtain ⟨its, rv, p, hz⟩ := I.list h
  obtain ⟨o, h1, h2, _⟩ := p.isList
  exact ⟨o, h1, h2⟩
theorem kit_tup {pins : List (Addr × Obj)} {σ : L2.St} {H : Hp} {s : Shared} {a : Addr} {xs : List V} (I : Inv X pins σ H s) (h : SqT X.K H a xs) : PySem.W.KitAt a "tuple" s.heap := by
  obtain ⟨its, rv, p, hz⟩ := I.tuple h
  obtain ⟨o, h1, h2, _⟩ := (show s.heap.IsTuple a its.toArray from p)
  exact ⟨o, h1, h2⟩
theorem kit_dct {pins : List (Addr × Obj)} {σ : L2.St} {H : Hp} {s : Shared} {a : Addr} {ks : List D} {Rv Rk : List V → Prop} (I : Inv X pins σ H s) (h : DictC (zx X) H a ks Rv Rk) : PySem.W.KitAt a "dict" s.heap := by
  rcases h with ⟨kvs, h, _⟩ | ⟨o, es, ep, xs, vvs, h, x1, x2, _⟩
  · obtain ⟨_, _, vs, _, hd⟩ := (show ObjOk X.prog X.w H s.heap a _ from I.hok a _ h)
    obtain ⟨o, es, ep, h1, h2, _⟩ := hd
    exact ⟨o, h1, h2.1⟩
  · have ho := (show ObjOk X.prog X.w H s.heap a _ from I.hok a _ h).1
    exact ⟨o, ho, x1.1⟩
theorem isi_run {T : String} (hT : TyK T) {pins : List (Addr × Obj)} {σ : L2.St} {H : Hp} {s : Shared} {ρ : Rho} {st : Store} {d : D} {v : V} {u : Value} {t : String} {Q : VK} (I : Inv X pins σ H s) (hs : StR (zx X) H ρ st) (r : Rep (zx X) H ρ d v) (ru : RelV v u) (e : tyD st d = some t)
    (q : Q (.bl (isTy t T)) H) : wpAny (model X.prog X.w) X.A (call (.builtin "isinstance") [u, .type T]) (EP X pins σ Q) X.xe s := by
  have k := hT X.K t (tyD_mem e)
  have q1 : ∀ tk, EP X pins σ Q (.bool (isTy t T)) { s with toks := tk } := fun tk => ⟨.bl (isTy t T), H, I.kept (t' := tk) fun _ _ h => h, rfl, q⟩
  cases d with
  | non => cases e; cases r; exact isinst_ok I ru .non k q1
  | bl b => cases e; cases r; exact isinst_ok I ru (.bl _) k q1
  | int b => cases e; cases r; exact isinst_ok I ru (.int _) k q1
  | str b => cases e; cases r; exact isinst_ok I ru (.str _) k q1
  | byt b => cases e; cases r; exact call_isi pins s σ H [.byt b, .ty T] [u, .type T] Q I (.cons ru (.cons rfl .nil)) ⟨.byt b, .ty T, _, _, _, rfl, .ty T, .byt b, k, q⟩
  | flt b => cases e; cases r; exact isinst_ok I ru (.flt _) k q1
  | tup l => cases e; obtain ⟨a, xs, rfl, hq, r⟩ := r; cases ru; exact kit_run I PySem.W.kitx_tuple (kit_tup I (sqT_of hq)) k q1
  | lst l => cases e; obtain ⟨a, xs, rfl, hq, m, r⟩ := r; cases ru; exact kit_run I PySem.W.kitx_list (kit_lst I (.of hq)) k q1
  | dct ks vs => cases e; obtain ⟨a, rfl, m, h⟩ := r; cases ru; exact kit_run I PySem.W.kitx_dict (kit_dct I h) k q1
  | ins c ns vs => cases e
  | mref n =>
    obtain ⟨a, rfl, ea⟩ := r
    cases ru
    unfold tyD at e
    cases e2 : st[n]? with
    | none => simp only [e2] at e; cases e
    | some o =>
      obtain ⟨b, eb, r⟩ := hs.at_ n o e2
      rw [ea] at eb; cases eb
      cases o with
      | lst l => simp only [e2] at e; cases e; obtain ⟨xs, hq, r⟩ := r; exact kit_run I PySem.W.kitx_list (kit_lst I (.of hq)) k q1
      | dct ks vs => simp only [e2] at e; cases e; exact kit_run I PySem.W.kitx_dict (kit_dct I r) k q1
      | ins c ns vs => simp only [e2] at e; cases e
  | scr l => cases e; obtain ⟨a, rfl, hq⟩ := r; cases ru; exact kit_run I PySem.W.kitx_list (kit_lst I (sqL_of hq)) k q1
def bIsi (T : String) (st : Store) (d : D) : Option D := (tyD st d).map fun t => .bl (isTy t T)
def eB1 (f : Store → D → Option D) (m : Ev) : Ev := fun env st => m env st >>= fun p => R.opt (f p.2 p.1) >>= fun d => .ok (d, p.2)
def rIs (Z : Wd) (T : String) : List V → Hp → VK → Prop := fun vs H Q => ∃ ρ st d v t, vs = [v, .ty T] ∧ StR Z H ρ st ∧ Rep Z H ρ d v ∧ tyD st d = some t ∧ Q (.bl (isTy t T)) H
theorem c_isi {T : String} (hT : TyK T) : CallR X (.builtin "isinstance") (rIs (zx X) T) := by
  intro pins s σ H vs us Q I rv ⟨ρ, st, d, v, t, e, hs, r, et, q⟩
  subst e
  cases rv with
  | cons r1 r2 =>
    cases r2 with
    | cons r3 r4 =>
      cases r4
      cases r3
      exact isi_run hT I hs r r1 et q
theorem de_isi {T : String} {x : Str} {e : Expr} {m : Ev} {p p2 : Pos} (hT : TyK T) (hg : Gl X "isinstance") (hm : X.mg "isinstance" = none) (hgT : Gl X x) (hmT : X.mg x = none) (hbT : bootBuiltins x = some (.type T)) (he : DE X E e m)
    (hn : x ≠ ("__name__" : Str) := by decide) (hdb : (x == ("__debug__" : Str)) = false := by decide) (hs : starEach [e, .Name x p2] X.env = (false, eval e X.env) :: starEach [.Name x p2] X.env := by rfl) (hs2 : starEach [.Name x p2] X.env = (false, eval (.Name x p2) X.env) :: starEach [] X.env := by rfl) (hpl : (backTo pos (starEach [.Name x p2] X.env)).any (·.1) = false := by rfl) :
    DE X E (.Call (.Name "isinstance" p) [e, .Name x p2] [] pos) (eB1 (bIsi T) m) :=
  pe_weak (pe_callB (c_isi hT) hg hm (by rfl) (pa_cons he (pa_cons (pe_bltn hgT hmT hbT (v := .ty T) rfl hn hdb) pa_nil hs2) hs) (by decide) (by decide) hs hpl) fun σ H Q ⟨env, st, ρ, hen, hst, hp⟩ => ⟨env, st, ρ, hen, hst, PostX.seq hp fun p H1 ρ1 g1 hp1 hs1 v rv => by
    unfold bIsi at hp1
    cases et : tyD p.2 p.1 with
    | none => rw [et] at hp1; exact hp1.elim
    | some t =>
      rw [et] at hp1
      exact ⟨ρ1, p.2, p.1, v, t, rfl, hs1, rv, et, hp1 H1 ρ1 .refl hs1 _ rfl⟩⟩
end
end Px
/-! P13: sets of tuples (nested ones too), fewer than 64 unequal ones; the list that they are made of may be longer. -/
namespace Px
open PySem PySem.Spec
open L2
mutual
/-- no text in it -/
def pureK : NestedKey → Bool
  | .none => true
  | .num _ => true
  | .text _ => false
  | .tup ks => pureKs ks
def pureKs : List NestedKey → Bool
  | [] => true
  | k :: ks => pureK k && pureKs ks
end
/-- a tuple that is the datum k -/
structure KT (P : Program) (w : World) (h : Heap) (k : NestedKey) (a : Addr) : Prop where
  is : NestedIs h k (.ref a)
  dp : k.depth ≤ 7
  pu : pureK k = true
theorem KT.nk {P : Program} {w : World} {h : Heap} {k : NestedKey} {a : Addr} (t : KT P w h k a) : (nestedKind P w).is h k a := ⟨t.is, Nat.le_succ_of_le t.dp⟩
mutual
/-- what a set's change leaves -/
theorem nested_keep {h h' : Heap} (c : ∀ b o, h.get? b = some o → o.cls = .type "tuple" → h'.get? b = some o) : ∀ {k : NestedKey} {v : Value}, NestedIs h k v → NestedIs h' k v
  | _, _, .none => .none
  | _, _, .bool e => .bool e
  | _, _, .int i t => .int i t
  | _, _, .text x t => .text x t
  | _, _, .tup h1 h2 h3 h4 => .tup (c _ _ h1 h2) h2 h3 (nested_keepA c h4)
theorem nested_keepA {h h' : Heap} (c : ∀ b o, h.get? b = some o → o.cls = .type "tuple" → h'.get? b = some o) : ∀ {k : List NestedKey} {v : List Value}, NestedAll h k v → NestedAll h' k v
  | _, _, .nil => .nil
  | _, _, .cons h1 h2 => .cons (nested_keep c h1) (nested_keepA c h2)
end
theorem KT.keep {P : Program} {w : World} {h h' : Heap} {k : NestedKey} {a : Addr} (t : KT P w h k a) (c : ∀ b o, h.get? b = some o → h'.get? b = some o) : KT P w h' k a := ⟨nested_keep (fun b o e _ => c b o e) t.is, t.dp, t.pu⟩
theorem KT.same {P : Program} {w : World} {h h' : Heap} {k : NestedKey} {a S : Addr} {o : Obj} (k : KT P w h k a) (ho : h.get? S = some o) (hd : o.ExactSet) (c : Heap.SameBut S h h') : KT P w h' ‹_› a :=
  ⟨nested_keep (fun b o' e ec => by
    rw [c.2 b fun z => ?_]; exact e
    subst z
    rw [ho] at e; cases e
    rw [hd.1] at ec; exact absurd ec (by simp)) k.is, k.dp, k.pu⟩
abbrev nh (P : Program) (w : World) (k : NestedKey) : Int := (nestedKind P w).hash k
section
variable {P : Program} {w : World} {A : Around} {E : Value → Shared → Prop} {s : Shared}
theorem typeIs_tup {h : Heap} {g d t o} {k : NestedKey} {a : Addr} (i : NestedIs h k (.ref a)) : (⟨h, g, d, t, o⟩ : Shared).TypeIs (.ref a) "tuple" := by
  cases i with
  | tup h1 h2 h3 h4 => exact ⟨_, h1, h2⟩
mutual
theorem hashBy_n : ∀ {k : NestedKey} {v : Value} {n : Nat} {Q : Bool → Shared → Prop}, NestedIs s.heap k v → k.depth ≤ n → pureK k = true → Q true s → wpAny (model P w) A (hashByValue n v) Q E s
  | _, _, n, Q, .none, _, _, q => by rw [hashByValue.eq_def]; exact wpAny_pure q
  | _, _, n, Q, .bool e, _, _, q => by rw [hashByValue.eq_def]; exact wpAny_pure q
  | _, _, n, Q, .int i t, _, _, q => by rw [hashByValue.eq_def]; exact wpAny_pure q
  | _, _, n, Q, .text x t, _, p, q => by cases p
  | _, _, n, Q, .tup (ks := ks) (vs := vs) (a := a) h1 h2 h3 h4, d, p, q => by
    cases n with
    | zero => simp [NestedKey.depth] at d
    | succ n =>
      rw [hashByValue.eq_def]
      have d' : NestedKey.depthAll ks ≤ n := by simpa [NestedKey.depth] using d
      refine wpAny_bind (wpAny_specialOf (T := "tuple") ⟨_, h1, h2⟩ F.slot_tuple_hash.lookup ?_)
      refine wpAny_bind (wpAny_seqItems h1 h3 ?_)
      refine wpAny_bind ?_
      show wpAny _ _ (forIn vs _ _) _ _ _
      rw [← Array.forIn_toList]
      exact hashBy_ns h4 d' p (wpAny_pure q)
theorem hashBy_ns : ∀ {ks : List NestedKey} {vs : List Value} {n : Nat} {Q : Option Bool × Unit → Shared → Prop}, NestedAll s.heap ks vs → NestedKey.depthAll ks ≤ n → pureKs ks = true → Q (none, ()) s →
    wpAny (model P w) A (forIn vs ((none, ()) : Option Bool × Unit) fun x (_ : Option Bool × Unit) => do
      let b ← hashByValue n x
      if (!b) = true then pure (ForInStep.done (some false, ())) else pure (ForInStep.yield (none, ()))) Q E s
  | _, _, n, Q, .nil, _, _, q => wpAny_pure q
  | _, _, n, Q, .cons (k := k) (ks := ks) h1 h2, d, p, q => by
    have d' : k.depth ≤ n ∧ NestedKey.depthAll ks ≤ n := by
      simp only [NestedKey.depthAll] at d; omega
    have p' : (pureK k && pureKs ks) = true := p
    rw [Bool.and_eq_true] at p'
    rw [List.forIn_cons]
    refine wpAny_bind (wpAny_bind (hashBy_n h1 d'.1 p'.1 ?_))
    exact wpAny_pure (hashBy_ns h2 d'.2 p'.2 q)
end
mutual
theorem ofACl_n : ∀ {k : NestedKey} {v : Value} {n : Nat} {Q : Bool → Shared → Prop}, NestedIs s.heap k v → k.depth ≤ n → Q false s → wpAny (model P w) A (ofAClassStatement n v) Q E s
  | _, _, n, Q, .none, _, q => by rw [ofAClassStatement.eq_def]; exact wpAny_pure q
  | _, _, n, Q, .bool e, _, q => by rw [ofAClassStatement.eq_def]; exact wpAny_pure q
  | _, _, n, Q, .int i t, _, q => by rw [ofAClassStatement.eq_def]; exact wpAny_pure q
  | _, _, n, Q, .text x t, _, q => by rw [ofAClassStatement.eq_def]; exact wpAny_pure q
  | _, _, n, Q, .tup (ks := ks) (vs := vs) (a := a) h1 h2 h3 h4, d, q => by
    cases n with
    | zero => simp [NestedKey.depth] at d
    | succ n =>
      rw [ofAClassStatement.eq_def]
      have d' : NestedKey.depthAll ks ≤ n := by simpa [NestedKey.depth] using d
      refine wpAny_bind (wpAny_typeOf (T := "tuple") ⟨_, h1, h2⟩ ?_)
      refine wp_if_pos (by decide) (wpAny_bind (wpAny_pure ?_))
      refine wp_if_neg (by decide) ?_
      refine wpAny_bind (wpAny_seqItems h1 h3 ?_)
      refine wpAny_bind ?_
      show wpAny _ _ (forIn vs _ _) _ _ _
      rw [← Array.forIn_toList]
      exact ofACl_ns h4 d' (wpAny_pure q)
theorem ofACl_ns : ∀ {ks : List NestedKey} {vs : List Value} {n : Nat} {Q : Option Bool × Unit → Shared → Prop}, NestedAll s.heap ks vs → NestedKey.depthAll ks ≤ n → Q (none, ()) s →
    wpAny (model P w) A (forIn vs ((none, ()) : Option Bool × Unit) fun x (_ : Option Bool × Unit) => do
      let b ← ofAClassStatement n x
      if b = true then pure (ForInStep.done (some true, ())) else pure (ForInStep.yield (none, ()))) Q E s
  | _, _, n, Q, .nil, _, q => wpAny_pure q
  | _, _, n, Q, .cons (k := k) (ks := ks) h1 h2, d, q => by
    have d' : k.depth ≤ n ∧ NestedKey.depthAll ks ≤ n := by
      simp only [NestedKey.depthAll] at d; omega
    rw [List.forIn_cons]
    refine wpAny_bind (wpAny_bind (ofACl_n h1 d'.1 ?_))
    exact wpAny_pure (ofACl_ns h2 d'.2 q)
end
theorem seen_n {k : NestedKey} {b : Addr} {Q : Bool → Shared → Prop} (hk : KT P w s.heap k b) : ∀ {ys : List Value}, (∀ y ∈ ys, ∃ k' c, y = .ref c ∧ KT P w s.heap k' c) → Q false s → wpAny (model P w) A (searchCouldBeSeen (.ref b) ys) Q E s := by
  intro ys h q
  unfold searchCouldBeSeen
  refine wpAny_bind (wpAny_forIn_list _ (fun ys' r s' => s' = s ∧ r = (none, ()) ∧ ∀ y ∈ ys', ∃ k' c, y = .ref c ∧ KT P w s.heap k' c) _ ?_ ?_ ys _ ⟨rfl, rfl, h⟩)
  · rintro y rest r s' ⟨rfl, rfl, hy⟩
    obtain ⟨k', c, rfl, hc⟩ := hy y List.mem_cons_self
    have hr : ∀ y ∈ rest, ∃ k' c, y = .ref c ∧ KT P w s'.heap k' c := fun y m => hy y (List.mem_cons_of_mem _ m)
    dsimp only
    split
    · exact wpAny_pure ⟨rfl, rfl, hr⟩
    · refine wpAny_bind ((nestedKind P w).quiet hk.nk ?_)
      refine wp_if_neg (by decide) (wpAny_bind ((nestedKind P w).quiet hc.nk ?_))
      refine wp_if_neg (by decide) (wpAny_bind (ofACl_n hk.is (Nat.le_succ_of_le hk.dp) ?_))
      refine wp_if_neg (by decide) (wpAny_bind (ofACl_n hc.is (Nat.le_succ_of_le hc.dp) ?_))
      exact wp_if_neg (by decide) (wpAny_pure ⟨rfl, rfl, hr⟩)
  · rintro r s' ⟨rfl, rfl, _⟩
    exact wpAny_pure q
end
/-! ### a set of tuples -/
def rowsN (P : Program) (w : World) (L : List (Addr × NestedKey)) : List (Int × Value) := L.map fun p => (nh P w p.2, .ref p.1)
structure SetTN (P : Program) (w : World) (h : Heap) (a : Addr) (L : List (Addr × NestedKey)) (es : Array (Int × Value)) (ep : Nat) (t : SetTable) : Prop where
  ob : ∃ o, h.get? a = some o ∧ o.ExactSet ∧ o.data = .set es ep t
  rows : es.toList = rowsN P w L
  tab : TabOk t (L.map fun p => nh P w p.2)
  nd : (L.map (·.2)).Nodup
  tup : ∀ p ∈ L, KT P w h p.2 p.1
  plain : t.plain = true
  led : w.params.followText "set-order" = true ∨ t.led = true
  room : L.length * 5 < t.mask * 3
  few : L.length < 64
theorem nth_dm {m : Nat} : ∀ (n : Nat) (p : SetTable.Probe), p.dummy = none → (nth m p n).dummy = none
  | 0, p, h => h
  | n + 1, p, h => by
    show (nth m (adv m p) n).dummy = none
    refine nth_dm n _ ?_
    unfold adv
    split <;> first | exact h | rfl
namespace SetTN
variable {P : Program} {w : World} {s : Shared} {a : Addr} {L : List (Addr × NestedKey)} {es : Array (Int × Value)} {ep : Nat} {t : SetTable}
theorem size {h : Heap} (R : SetTN P w h a L es ep t) : es.size = L.length := by
  rw [← Array.length_toList, R.rows]; simp [rowsN]
theorem fill {h : Heap} (R : SetTN P w h a L es ep t) : t.place.size = L.length := by
  rw [R.tab.sz]; simp
theorem fits {h : Heap} (R : SetTN P w h a L es ep t) : t.fits es.size = true := by
  have h1 := R.fill
  have h2 := R.room
  have h3 := R.tab.dm
  unfold SetTable.fits SetTable.fill
  rw [R.size, h1, h3]
  simp
  omega
theorem gw {h : Heap} (R : SetTN P w h a L es ep t) : ¬ t.gaveWay = true := by
  unfold SetTable.gaveWay
  rcases R.tab.mok with h | h | h <;> rw [h] <;> decide
theorem entry {h : Heap} (R : SetTN P w h a L es ep t) {i : Nat} {p : Addr × NestedKey} (e : L[i]? = some p) : es[i]? = some (nh P w p.2, .ref p.1) := by
  rw [← Array.getElem?_toList, R.rows]
  unfold rowsN
  rw [List.getElem?_map, e]; rfl
theorem keep {h h' : Heap} (R : SetTN P w h a L es ep t) (c : ∀ b o, h.get? b = some o → h'.get? b = some o) : SetTN P w h' a L es ep t :=
  ⟨let ⟨o, h1, h2⟩ := R.ob; ⟨o, c _ _ h1, h2⟩, R.rows, R.tab, R.nd, fun p m => (R.tup p m).keep c, R.plain, R.led, R.room, R.few⟩
section
variable {A : Around} {E : Value → Shared → Prop}
theorem search_from (R : SetTN P w s.heap a L es ep t) {x : Addr} {k : NestedKey} (hx : KT P w s.heap k x) (hu : A.units + 8 < cLine) {K : Nat} (hK : way t.mask (nh P w k) K ∉ t.place.toList) (hKb : ∀ c < K, way t.mask (nh P w k) c ∈ t.place.toList) {Q : SetFound → Shared → Prop} (hKf : K < 10 * SetTable.turns t.mask)
    (hin : k ∈ L.map (·.2) → Q (.there none) s) (hout : k ∉ L.map (·.2) → Q (.free (way t.mask (nh P w k) K) false) s) :
    ∀ (f c : Nat) (stand : Option SetTable.Probe), stand.getD (t.probeStart (nh P w k)) = nth t.mask (runAt t.mask (SetTable.bits (nh P w k) % (t.mask + 1)) (SetTable.bits (nh P w k))) c → c ≤ K → K - c < f →
      (∀ (i : Nat) (p : Addr × NestedKey), L[i]? = some p → p.2 = k → ∃ c', c ≤ c' ∧ c' < K ∧ t.place.toList[i]? = some (way t.mask (nh P w k) c')) → wpAny (model P w) A (setSearchFrom a (.ref x) (nh P w k) true f stand) Q E s := by
  intro f
  induction f with
  | zero => intro c stand _ _ h; omega
  | succ f ih =>
    intro c stand hst hcK hf hpl
    obtain ⟨o, ho, hex, hd⟩ := R.ob
    rw [setSearchFrom_succ]
    refine wpAny_bind (wpAny_setState_of ho hd R.fits ?_)
    refine wp_if_neg R.gw ?_
    dsimp only
    rw [hst]
    have hj : ∀ n, (nth t.mask (nth t.mask (runAt t.mask (SetTable.bits (nh P w k) % (t.mask + 1)) (SetTable.bits (nh P w k))) c) n).j = way t.mask (nh P w k) (c + n) := fun n => by
      show _ = (nth t.mask _ (c + n)).j
      rw [nth_add]
    have hash : ∀ (i : Nat) (p : Addr × NestedKey), L[i]? = some p → (Option.map (fun x => x.1) es[i]?).getD 0 = nh P w p.2 := fun i p e => by rw [R.entry e]; rfl
    have g := go_spec t R.tab.ris R.tab.dm (fun i => (Option.map (fun x => x.1) es[i]?).getD 0) (nh P w k) (10 * SetTable.turns t.mask) (K - c) (nth t.mask (runAt t.mask (SetTable.bits (nh P w k) % (t.mask + 1)) (SetTable.bits (nh P w k))) c) (nth_dm _ _ rfl) (by omega)
      (fun n hn => by rw [hj]; exact hKb _ (by omega)) (by rw [hj, show c + (K - c) = K by omega]; exact hK)
    rcases g with ⟨n, i, hn, hi, hh, hbf, e⟩ | ⟨hno, e⟩
    · have e' : t.probe (fun i => (Option.map (fun x => x.1) es[i]?).getD 0) (nh P w k) (nth t.mask (runAt t.mask (SetTable.bits (nh P w k) % (t.mask + 1)) (SetTable.bits (nh P w k))) c) = _ := e
      rw [e']
      dsimp only
      have hil : i < L.length := by rw [← R.fill, ← Array.length_toList]; exact (List.getElem?_eq_some_iff.mp hi).1
      obtain ⟨p, hp⟩ : ∃ p, L[i]? = some p := ⟨_, List.getElem?_eq_getElem hil⟩
      have hpm := List.mem_of_getElem? hp
      have hpk := R.tup p hpm
      have rest : wpAny (model P w) A (searchRest a (.ref x) (nh P w k) true f es t (nth t.mask (nth t.mask (runAt t.mask (SetTable.bits (nh P w k) % (t.mask + 1)) (SetTable.bits (nh P w k))) c) n).j i (nth t.mask (nth t.mask (runAt t.mask (SetTable.bits (nh P w k) % (t.mask + 1)) (SetTable.bits (nh P w k))) c) (n + 1))) Q E s := by
        unfold searchRest
        rw [R.entry hp]
        dsimp only
        refine wpAny_bind (wpAny_holding ((nestedKind P w).eqBool hu hpk.nk hx.nk ?_))
        refine wpAny_bind (wpAny_setState_of ho hd R.fits ?_)
        dsimp only
        by_cases hk : p.2 = k
        · refine wp_if_pos (by simp [hk]) (wpAny_pure (hin (List.mem_map.mpr ⟨p, hpm, hk⟩)))
        · refine wp_if_neg (by simp [hk]) ?_
          rw [sameMem]
          dsimp only
          rw [if_pos rfl, slot_live R.tab.ris hi]
          dsimp only
          rw [R.entry hp]
          dsimp only
          refine wpAny_bind (wpAny_isSame_ref_self ?_)
          refine wpAny_bind (wpAny_pure ?_)
          rw [if_pos rfl]
          dsimp only
          refine wp_if_neg (by simp [hk]) ?_
          refine ih (c + (n + 1)) (some _) (nth_add _ _ _ _).symm (by omega) (by omega) fun i' p' e1 e2 => ?_
          obtain ⟨c', h1, h2, h3⟩ := hpl i' p' e1 e2
          refine ⟨c', ?_, h2, h3⟩
          rcases Nat.lt_or_ge c' (c + (n + 1)) with z | z
          · exfalso
            rcases Nat.lt_or_ge c' (c + n) with z2 | z2
            · refine hbf (c' - c) i' (by omega) (by rw [hj, show c + (c' - c) = c' by omega]; exact h3) ?_
              show (Option.map (fun x => x.1) es[i']?).getD 0 = _
              rw [hash i' p' e1, e2]
            · have e3 : c' = c + n := by omega
              subst e3
              rw [hj] at hi
              have hii : i' = i := by
                have hr := R.tab.ris
                have l1 := slot_live hr h3
                have l2 := slot_live hr hi
                rw [l1] at l2
                cases l2; rfl
              subst hii
              rw [hp] at e1; cases e1
              exact hk e2
          · exact z
      by_cases hl : t.led = true
      · refine wp_if_neg (by simp [hl]) rest
      · refine wp_if_pos (by simp [hl]) (wpAny_bind (seen_n hx (fun y m => ?_) (wp_if_neg (by decide) rest)))
        obtain ⟨q, hq, rfl⟩ := List.mem_map.mp m
        have hq1 : q ∈ es.toList := by
          simp only [Array.mem_toList_iff, Array.mem_filter] at hq
          exact Array.mem_toList_iff.mpr hq.1
        rw [R.rows] at hq1
        obtain ⟨z, hz, rfl⟩ := List.mem_map.mp hq1
        exact ⟨z.2, z.1, rfl, R.tup z hz⟩
    · have e' : t.probe (fun i => (Option.map (fun x => x.1) es[i]?).getD 0) (nh P w k) (nth t.mask (runAt t.mask (SetTable.bits (nh P w k) % (t.mask + 1)) (SetTable.bits (nh P w k))) c) = _ := e
      rw [e']
      dsimp only
      rw [hj, show c + (K - c) = K by omega]
      refine wpAny_pure (hout fun m => ?_)
      obtain ⟨p, hp, hk⟩ := List.mem_map.mp m
      obtain ⟨i, hi, e1⟩ := List.getElem_of_mem hp
      have e2 : L[i]? = some p := by rw [List.getElem?_eq_getElem hi, e1]
      obtain ⟨c', h1, h2, h3⟩ := hpl i p e2 hk
      refine hno (c' - c) i (by omega) (by rw [hj, show c + (c' - c) = c' by omega]; exact h3) ?_
      show (Option.map (fun x => x.1) es[i]?).getD 0 = _
      rw [hash i p e2, hk]
theorem search_at (R : SetTN P w s.heap a L es ep t) {x : Addr} {k : NestedKey} (hx : KT P w s.heap k x) (hu : A.units + 8 < cLine) {Q : SetFound → Shared → Prop} (hin : k ∈ L.map (·.2) → Q (.there none) s)
    (hout : ∀ K, k ∉ L.map (·.2) → way t.mask (nh P w k) K ∉ t.place.toList → (∀ c < K, way t.mask (nh P w k) c ∈ t.place.toList) → Q (.free (way t.mask (nh P w k) K) false) s) : wpAny (model P w) A (setSearch a (.ref x) (nh P w k) true) Q E s := by
  have hr := R.room
  obtain ⟨K, hKf, hK, hKb⟩ := R.tab.first (by rw [List.length_map]; omega) (nh P w k)
  have hf : K < 100000 := by
    rcases R.tab.mok with h | h | h <;> rw [h] at hKf <;> simp [SetTable.turns] at hKf <;> omega
  refine search_from R hx hu hK hKb hKf hin (fun h => hout K h hK hKb) 100000 0 none rfl (Nat.zero_le _) (by omega) fun i p e1 e2 => ?_
  have hl : (L.map fun p => nh P w p.2)[i]? = some (nh P w k) := by rw [List.getElem?_map, e1, ← e2]; rfl
  have hi : i < t.place.toList.length := by rw [Array.length_toList, R.fill]; exact (List.getElem?_eq_some_iff.mp e1).1
  obtain ⟨c, h1, h2⟩ := R.tab.before hK hl (List.getElem?_eq_getElem hi)
  exact ⟨c, Nat.zero_le _, h1, by rw [List.getElem?_eq_getElem hi, h2]⟩
theorem relay_at {o : Obj} (ho : s.heap.get? a = some o) (hx : o.ExactSet) (hd : o.data = .set es ep t) (hr : es.toList = rowsN P w L) (hz : t.place.size = es.size) (hdm : t.dummies = #[]) (hm : es.size ≤ t.mask) (nd : (L.map (·.2)).Nodup) (ht : ∀ p ∈ L, KT P w s.heap p.2 p.1)
    (hp : t.plain = true) (hl : w.params.followText "set-order" = true ∨ t.led = true) (few : L.length < 64) {wanted M : Nat} (hM : SetTable.sizeAbove wanted - 1 = M) (mok : MaskOk M) (h128 : SetTable.sizeAbove wanted ≤ 128) (room : L.length * 5 < M * 3) {Q : Unit → Shared → Prop}
    (q : ∀ (h' : Heap) (L' : List (Addr × NestedKey)) es' ep' t', Heap.SameBut a s.heap h' → SetTN P w h' a L' es' ep' t' → L'.Perm L → Q () { s with heap := h' }) : wpAny (model P w) A (setRelay a wanted) Q E s := by
  have hsz : es.size = L.length := by rw [← Array.length_toList, hr]; simp [rowsN]
  have hfit : t.fits es.size = true := by
    unfold SetTable.fits SetTable.fill
    rw [hz, hdm]; simp; omega
  obtain ⟨t', order, he, hper, htab, hmask, hled, hpl, hdm'⟩ := relaid_ok t (hs := es.map (·.1)) hM mok (by rw [Array.size_map]; omega)
  rw [Array.size_map, hsz] at hper
  have hget : ∀ i, (es.map (·.1)).getD i 0 = ((L[i]?).map fun p => nh P w p.2).getD 0 := fun i => by
    have e1 : es[i]? = (L[i]?).map fun p => (nh P w p.2, Value.ref p.1) := by
      rw [← Array.getElem?_toList, hr]; unfold rowsN; rw [List.getElem?_map]
    rw [Array.getD_eq_getD_getElem?, Array.getElem?_map, e1]
    cases L[i]? <;> rfl
  obtain ⟨L2, e2, p2, e3⟩ : ∃ L2 : List (Addr × NestedKey), (Array.filterMap (fun x => es[x]?) order).toList = rowsN P w L2 ∧ L2.Perm L ∧ L2.map (fun p => nh P w p.2) = order.toList.map fun i => (es.map (·.1)).getD i 0 := by
    refine ⟨order.toList.filterMap fun i => L[i]?, ?_, ?_, ?_⟩
    · rw [Array.toList_filterMap]
      unfold rowsN
      rw [List.map_filterMap]
      congr 1
      funext i
      rw [← Array.getElem?_toList, hr]; unfold rowsN; rw [List.getElem?_map]
    · have := hper.filterMap fun i => L[i]?
      refine this.trans ?_
      have e0 : (List.range L.length).filterMap (fun i => L[i]?) = L := List.filterMap_getElem?_range_length L
      rw [e0]
    · rw [List.map_filterMap]
      have hall : ∀ i ∈ order.toList, ∃ p, L[i]? = some p := fun i m => by
        have hi : i < L.length := by simpa using (hper.mem_iff.mp m)
        exact ⟨_, List.getElem?_eq_getElem hi⟩
      revert hall
      generalize order.toList = l
      intro hall
      induction l with
      | nil => rfl
      | cons i r ih =>
        obtain ⟨p, e⟩ := hall i List.mem_cons_self
        rw [List.filterMap_cons, e, List.map_cons, hget, e]
        simp only [Option.map_some, Option.getD_some]
        rw [ih fun j m => hall j (List.mem_cons_of_mem _ m)]
  have hsz2 : (Array.filterMap (fun x => es[x]?) order).size = es.size := by
    rw [← Array.length_toList, e2, hsz, ← p2.length_eq]; simp [rowsN]
  rw [setRelay_eq]
  refine wpAny_bind (wpAny_setState_of ho hd hfit ?_)
  dsimp only
  refine wp_if_neg (by rw [sizeLine_eq]; omega) ?_
  rw [he]
  dsimp only
  refine wpAny_bind (wp_if_neg (by simp [hsz2]) (wpAny_pure ?_))
  dsimp only
  refine wpAny_storeSet_of ho hd ?_ (by rw [sizeLine_eq, hsz2, hsz]; omega)
  have sb : Heap.SameBut a s.heap (s.heap.update a (Obj.putSet (Array.filterMap (fun x => es[x]?) order) t')) := .update _ _ _
  refine q _ L2 _ (ep + 1) t' sb ⟨⟨_, store_at ho hd, ⟨hx.1, hx.2.1, hx.2.2⟩, rfl⟩, e2, ?_, ?_, ?_, ?_, ?_, ?_, ?_⟩ p2
  · rw [e3]; exact htab
  · exact (p2.map _).nodup_iff.mpr nd
  · exact fun p m => (ht p (p2.mem_iff.mp m)).same ho hx sb
  · rw [hpl]; exact hp
  · exact hl.imp id fun z => by rw [hled]; exact z
  · rw [p2.length_eq, hmask]; exact room
  · rw [p2.length_eq]; exact few
theorem add_at (R : SetTN P w s.heap a L es ep t) {x : Addr} {k : NestedKey} (hx : KT P w s.heap k x) (hu : A.units + 8 < cLine) (few : k ∉ L.map (·.2) → L.length + 1 < 64) {Q : Bool → Shared → Prop}
    (q : ∀ (b : Bool) (h' : Heap) (L' : List (Addr × NestedKey)) es' ep' t', Heap.SameBut a s.heap h' → SetTN P w h' a L' es' ep' t' → (k ∈ L.map (·.2) → L' = L) → (k ∉ L.map (·.2) → L'.Perm ((x, k) :: L)) → Q b { s with heap := h' }) : wpAny (model P w) A (setAddHashed a (.ref x) (nh P w k)) Q E s := by
  obtain ⟨o, ho, hex, hd⟩ := R.ob
  unfold setAddHashed
  refine wpAny_holding ?_
  show wpAny _ _ (setAddHashedIn a (.ref x) (nh P w k) (99999 + 1)) _ _ _
  rw [setAddHashedIn_succ]
  refine wpAny_bind (wpAny_setState_of ho hd R.fits ?_)
  dsimp only
  refine wp_if_neg (by unfold byScan; simp [Value.scannable]) ?_
  refine wpAny_bind (search_at R hx hu (fun hm => ?_) fun K hm hK hKb => ?_)
  · dsimp only
    exact wpAny_pure (q false s.heap L es ep t (.refl _ _) R (fun _ => rfl) fun z => absurd hm z)
  · dsimp only
    obtain ⟨e1, e2, e3, e4, e5, e6, e7, e8, e9⟩ := R.tab.put hK hKb
    have fw := few hm
    refine wpAny_bind (wpAny_setState_of ho hd R.fits ?_)
    dsimp only
    generalize hput : t.put (way t.mask (nh P w k) K) = tp at e1 e2 e3 e4 e5 e6 e7 e8 e9 ⊢
    obtain ⟨t1, p⟩ := tp
    dsimp only at e1 e2 e3 e4 e5 e6 e7 e8 e9 ⊢
    subst e1
    refine wp_if_pos (by rw [e6]; exact R.plain) (wpAny_bind (hashBy_n hx.is (Nat.le_succ_of_le hx.dp) hx.pu ?_))
    rw [if_pos rfl]
    have hm' := R.room
    have hsz := R.size
    have hins : (SetTable.insertAt es (SetTable.below t.place (way t.mask (nh P w k) K)) (nh P w k, Value.ref x)).toList = rowsN P w (List.take (SetTable.below t.place (way t.mask (nh P w k) K)) L ++ (x, k) :: List.drop (SetTable.below t.place (way t.mask (nh P w k) K)) L) := by
      rw [SetTable.toList_insertAt, R.rows]
      unfold rowsN
      rw [List.map_append, List.map_cons, List.map_take, List.map_drop]
    generalize hL : List.take (SetTable.below t.place (way t.mask (nh P w k) K)) L ++ (x, k) :: List.drop (SetTable.below t.place (way t.mask (nh P w k) K)) L = L1 at hins
    have pL : L1.Perm ((x, k) :: L) := by rw [← hL]; exact put_perm _ _ _
    have hl1 : L1.length = L.length + 1 := by rw [pL.length_eq]; rfl
    generalize hes : SetTable.insertAt es (SetTable.below t.place (way t.mask (nh P w k) K)) (nh P w k, Value.ref x) = es1 at hins ⊢
    have hs1 : es1.size = L.length + 1 := by rw [← Array.length_toList, hins, ← hl1]; simp [rowsN]
    have htab : TabOk t1 (L1.map fun p => nh P w p.2) := by
      rw [← hL, List.map_append, List.map_cons, List.map_take, List.map_drop]; exact e3
    have nd1 : (L1.map (·.2)).Nodup := (pL.map _).nodup_iff.mpr (List.nodup_cons.mpr ⟨hm, R.nd⟩)
    have hmem : ∀ p ∈ L1, KT P w s.heap p.2 p.1 := fun p m => by
      rcases List.mem_cons.mp (pL.mem_iff.mp m) with z | z
      · subst z; exact hx
      · exact R.tup p z
    refine wpAny_bind (wpAny_storeSet_of ho hd ?_ (by rw [sizeLine_eq, hs1]; omega))
    have sb : Heap.SameBut a s.heap (s.heap.update a (Obj.putSet es1 t1)) := .update _ _ _
    have ho2 := store_at (es' := es1) (t' := t1) ho hd
    have hl2 : w.params.followText "set-order" = true ∨ t1.led = true := R.led.imp id fun z => by rw [e5]; exact z
    by_cases hf : t1.tooFull = true
    · refine wp_if_pos (by simp [hf]) (wpAny_bind ?_)
      have hfull : (L.length + 1) * 5 ≥ t.mask * 3 := by
        unfold SetTable.tooFull at hf
        rw [e9, e4, List.length_map] at hf
        simpa using hf
      have mok := R.tab.mok
      have mok2 := mok
      have fin : ∀ (M : Nat), SetTable.sizeAbove (SetTable.grown (es.size + 1)) - 1 = M → MaskOk M → SetTable.sizeAbove (SetTable.grown (es.size + 1)) ≤ 128 → L1.length * 5 < M * 3 → wpAny (model P w) A (setRelay a (SetTable.grown (es.size + 1))) (fun _ s' => wpAny (model P w) A (pure true) Q E s') E { s with heap := s.heap.update a (Obj.putSet es1 t1) } := fun M h1 h2 h3 h4 =>
        relay_at (s := { s with heap := s.heap.update a (Obj.putSet es1 t1) }) ho2 ⟨hex.1, hex.2.1, hex.2.2⟩ rfl hins (by rw [htab.sz, List.length_map, hs1, hl1]) htab.dm (by rw [e4, hs1]; rcases mok2 with h | h | h <;> rw [h] at hm' ⊢ <;> omega) nd1 (fun p m => (hmem p m).same ho hex sb) (by rw [e6]; exact R.plain) hl2 (by rw [hl1]; omega) h1 h2 h3 h4
          fun h' L' es' ep' t' sb' R' p' => wpAny_pure (q true h' L' es' ep' t' (sb.trans sb') R' (fun z => absurd z hm) fun _ => p'.trans pL)
      rcases mok with h | h | h
      · rw [h] at hfull hm'
        have z : es.size + 1 = 5 := by omega
        rw [z] at fin ⊢
        exact fin 31 (by rw [size_20]) (.inr (.inl rfl)) (by rw [size_20]; omega) (by rw [hl1]; omega)
      · rw [h] at hfull hm'
        have z : es.size + 1 = 19 := by omega
        rw [z] at fin ⊢
        exact fin 127 (by rw [size_76]) (.inr (.inr rfl)) (by rw [size_76]; omega) (by rw [hl1]; omega)
      · rw [h] at hfull; omega
    · refine wp_if_neg (by simp [hf]) (wpAny_pure ?_)
      have hnf : (L.length + 1) * 5 < t.mask * 3 := by
        unfold SetTable.tooFull at hf
        rw [e9, e4, List.length_map] at hf
        simpa using hf
      refine q true _ L1 es1 (ep + 1) t1 sb ⟨⟨_, ho2, ⟨hex.1, hex.2.1, hex.2.2⟩, rfl⟩, hins, htab, nd1, fun p m => (hmem p m).same ho hex sb, by rw [e6]; exact R.plain, hl2, by rw [hl1, e4]; exact hnf, by rw [hl1]; exact fw⟩ (fun z => absurd z hm) fun _ => pL
end
end SetTN
end Px
set_option maxRecDepth 20000
/-! P14: set(..) of tuples, its length, its items in order. -/
namespace Px
open PySem PySem.Spec
open L2
/-- the different keys, each once -/
def dedupK : List NestedKey → List NestedKey
  | [] => []
  | k :: ks => k :: (dedupK ks).filter fun j => decide (j ≠ k)
theorem mem_dedupK : ∀ {ks : List NestedKey} {k : NestedKey}, k ∈ dedupK ks ↔ k ∈ ks
  | [], k => by simp [dedupK]
  | j :: ks, k => by
    simp only [dedupK, List.mem_cons, List.mem_filter, decide_eq_true_eq]
    rw [mem_dedupK (ks := ks)]
    by_cases h : k = j <;> simp [h]
theorem nodup_dedupK : ∀ (ks : List NestedKey), (dedupK ks).Nodup
  | [] => List.nodup_nil
  | j :: ks => by
    simp only [dedupK, List.nodup_cons, List.mem_filter, decide_eq_true_eq]
    exact ⟨fun h => h.2 rfl, (nodup_dedupK ks).filter _⟩
theorem len_sub {α : Type} [DecidableEq α] : ∀ {l m : List α}, l.Nodup → (∀ x ∈ l, x ∈ m) → l.length ≤ m.length
  | [], m, _, _ => Nat.zero_le _
  | a :: l, m, nd, h => by
    have nd' := List.nodup_cons.mp nd
    have ha := h a List.mem_cons_self
    have ih := len_sub (l := l) (m := m.erase a) nd'.2 fun x hx => by
      have hne : x ≠ a := fun e => nd'.1 (e ▸ hx)
      exact (List.mem_erase_of_ne hne).mpr (h x (List.mem_cons_of_mem _ hx))
    have hl := List.length_erase_of_mem ha
    have hp := List.length_pos_of_mem ha
    simp only [List.length_cons]
    omega
/-- what a set holds of the first i items -/
structure GotN (ks : List (Addr × NestedKey)) (i : Nat) (L : List (Addr × NestedKey)) : Prop where
  sub : ∀ p ∈ L, p ∈ ks.take i
  all : ∀ p ∈ ks.take i, p.2 ∈ L.map (·.2)
section
variable {P : Program} {w : World} {A : Around}
theorem set_update_n {I : Addr} {fp wr : List Addr} {G : Array GenState → Array GenState → Prop} {n : Nat} {Pv : Nat → Value → Prop} {St : Nat → Shared → Prop} {R : Result → Shared → Prop} (W : WalksS P w A.in1 I fp wr G n Pv St) (S : Addr) (hS : S ∉ fp)
    (ks : List (Addr × NestedKey)) (hn : n = ks.length) (few : (dedupK (ks.map (·.2))).length < 64) (hPv : ∀ i v, Pv i v → ∃ p, ks[i]? = some p ∧ v = .ref p.1) (h0 : Heap) (hk : ∀ p ∈ ks, KT P w h0 p.2 p.1) (hwr : ∀ b ∈ wr, h0.get? b = none) (hS0 : h0.get? S = none) (hu : A.in1.units + 8 < cLine) :
    ∀ (k i : Nat) (s : Shared), n - i = k → i ≤ n → St i s → (∀ b o, h0.get? b = some o → s.heap.get? b = some o) → (∃ L es ep t, SetTN P w s.heap S L es ep t ∧ GotN ks i L) →
      (∀ (s' : Shared) L es ep t, Moved (S :: wr) G s s' → SetTN P w s'.heap S L es ep t → GotN ks n L → (∀ b o, h0.get? b = some o → s'.heap.get? b = some o) → R (.ok (.ret .none)) s') →
      codeAny (model P w) A (.builtin "set.update.loop" { pos := [.ref S, .ref I] }) R s := by
  intro k
  induction k with
  | zero =>
    intro i s hki hi hst h0s ⟨L, es, ep, t, hT, hG⟩ hR
    have e : i = n := by omega
    subst e
    refine codeAny_builtin PyProof.Rows.F.entry_set_update_loop ?_
    rw [Around.under_plainId PyProof.Rows.F.plain_set_update_loop]
    unfold Builtin.«set.update.loop»
    dsimp only
    refine wpAny_bind (W.done s _ _ hst fun s' m => ?_)
    dsimp only
    have ke : ∀ b o, b ∉ wr → s.heap.get? b = some o → s'.heap.get? b = some o := m.heap
    obtain ⟨o, ho, hx⟩ := hT.ob
    refine wpAny_pure (hR s' L es ep t (m.mono fun b hb => List.mem_cons_of_mem _ hb) ⟨⟨o, ke _ _ (fun hb => hS (W.sub _ hb)) ho, hx⟩, hT.rows, hT.tab, hT.nd, fun p hp => ?_, hT.plain, hT.led, hT.room, hT.few⟩ hG ?_)
    · exact (hk p (List.mem_of_mem_take (hG.sub p hp))).keep fun b o e => ke b o (fun hb => by rw [hwr b hb] at e; cases e) (h0s b o e)
    · exact fun b o e => ke b o (fun hb => by rw [hwr b hb] at e; cases e) (h0s b o e)
  | succ k ih =>
    intro i s hki hi hst h0s ⟨L, es, ep, t, hT, hG⟩ hR
    refine codeAny_builtin PyProof.Rows.F.entry_set_update_loop ?_
    rw [Around.under_plainId PyProof.Rows.F.plain_set_update_loop]
    unfold Builtin.«set.update.loop»
    dsimp only
    refine wpAny_bind (W.item i s _ _ (by omega) hst fun v s1 hv hst1 m => ?_)
    dsimp only
    obtain ⟨p, hp, rfl⟩ := hPv i v hv
    have ke : ∀ b o, b ∉ wr → s.heap.get? b = some o → s1.heap.get? b = some o := m.heap
    have h01 : ∀ b o, h0.get? b = some o → s1.heap.get? b = some o := fun b o e => ke b o (fun hb => by rw [hwr b hb] at e; cases e) (h0s b o e)
    have hpm : p ∈ ks := List.mem_of_getElem? hp
    have hT1 : SetTN P w s1.heap S L es ep t := by
      obtain ⟨o, ho, hx⟩ := hT.ob
      exact ⟨⟨o, ke _ _ (fun hb => hS (W.sub _ hb)) ho, hx⟩, hT.rows, hT.tab, hT.nd, fun q hq => (hk q (List.mem_of_mem_take (hG.sub q hq))).keep h01, hT.plain, hT.led, hT.room, hT.few⟩
    have hp1 := (hk p hpm).keep h01
    refine wpAny_bind (wpAny_holding ?_)
    unfold setAdd
    refine wpAny_holding (wpAny_bind ((nestedKind P w).pyHash hu hp1.nk ?_))
    have hT2 : SetTN P w ({ s1 with toks := s1.toks + (nestedKind P w).draws p.2 } : Shared).heap S L es ep t := hT1
    refine SetTN.add_at hT2 hp1 hu (fun hm => ?_) fun b h' L' es' ep' t' sb hT' e1 e2 => ?_
    · have nd : (p.2 :: L.map (·.2)).Nodup := List.nodup_cons.mpr ⟨hm, hT.nd⟩
      have := len_sub (m := dedupK (ks.map (·.2))) nd fun x hx => by
        rw [mem_dedupK]
        rcases List.mem_cons.mp hx with z | z
        · subst z; exact List.mem_map.mpr ⟨p, hpm, rfl⟩
        · obtain ⟨q, hq, rfl⟩ := List.mem_map.mp z
          exact List.mem_map.mpr ⟨q, List.mem_of_mem_take (hG.sub q hq), rfl⟩
      simp only [List.length_cons, List.length_map] at this
      omega
    · have hSh : ∀ b o, b ≠ S → s1.heap.get? b = some o → h'.get? b = some o := fun b o hb e => by rw [sb.2 b hb]; exact e
      have h02 : ∀ b o, h0.get? b = some o → h'.get? b = some o := fun b o e => hSh b o (fun z => by rw [z, hS0] at e; cases e) (h01 b o e)
      have htk : ks.take (i + 1) = ks.take i ++ [p] := by rw [List.take_add_one, hp]; rfl
      refine wpAny_pure ⟨plainId_quiet PyProof.Rows.F.plain_set_update_loop _, ih (i + 1) _ (by omega) (by omega) ?_ h02 ⟨L', es', ep', t', hT', ?_⟩ fun s' L2 es2 ep2 t2 m2 => hR s' L2 es2 ep2 t2 ?_⟩
      · exact W.frame (i + 1) s1 h' _ hst1 (Nat.le_add_right _ _) fun b hb o e => hSh b o (fun z => hS (z ▸ hb)) e
      · by_cases hm : p.2 ∈ L.map (·.2)
        · rw [e1 hm]
          refine ⟨fun q hq => ?_, fun q hq => ?_⟩
          · rw [htk]; exact List.mem_append_left _ (hG.sub q hq)
          · rw [htk] at hq
            rcases List.mem_append.mp hq with z | z
            · exact hG.all q z
            · have : q = p := by simpa using z
              subst this; exact hm
        · have pe := e2 hm
          refine ⟨fun q hq => ?_, fun q hq => ?_⟩
          · rw [htk]
            rcases List.mem_cons.mp (pe.mem_iff.mp hq) with z | z
            · subst z; simp
            · exact List.mem_append_left _ (hG.sub q z)
          · rw [htk] at hq
            refine ((pe.map (·.2)).mem_iff).mpr ?_
            rcases List.mem_append.mp hq with z | z
            · exact List.mem_cons_of_mem _ (hG.all q z)
            · have : q = p := by simpa using z
              subst this; exact List.mem_cons_self
      · refine Moved.trans W.gtrans ?_ m2
        refine (m.mono (wr' := S :: wr) fun b hb => List.mem_cons_of_mem _ hb).then_heap (Nat.le_add_right _ _) fun b o hb e => ?_
        exact hSh b o (fun z => hb (z ▸ List.mem_cons_self)) e
theorem fresh_n {h : Heap} {a : Addr} (ho : h.get? a = some { cls := .type "set", data := .set #[] 0 (SetTable.fresh 0 0 !w.params.followText "set-order") }) : SetTN P w h a [] #[] 0 (SetTable.fresh 0 0 !w.params.followText "set-order") := by
  have R : SetTR P w h a [] #[] 0 (SetTable.fresh 0 0 !w.params.followText "set-order") := setTR_fresh ho
  exact ⟨R.ob, rfl, R.tab, List.nodup_nil, fun p m => (by cases m), R.plain, R.led, R.room, R.few⟩
theorem call_set_n {s : Shared} {E Q : Value → Shared → Prop} {l : Addr} {items : Array Value} (ks : List (Addr × NestedKey)) (hh : A.handled = none) (hl : s.heap.IsList l items) (hit : items.toList = ks.map fun p => .ref p.1) (hk : ∀ p ∈ ks, KT P w s.heap p.2 p.1)
    (few : (dedupK (ks.map (·.2))).length < 64) (hu : A.units + 11 < cLine)
    (q : ∀ (h' : Heap) (tk : Nat) (L : List (Addr × NestedKey)) es ep t, SetTN P w h' s.heap.objs.size L es ep t → GotN ks ks.length L → (∀ b o, s.heap.get? b = some o → h'.get? b = some o) → Q (.ref s.heap.objs.size) { s with heap := h', toks := tk }) :
    wpAny (model P w) A (call (.type "set") [.ref l]) Q E s := by
  obtain ⟨c, tl, hmro⟩ := F.called_set.mro
  have hmade := F.called_set.made
  have hsub := F.called_set.sub
  have h1 := F.called_set.notType
  have h2 := F.called_set.canCreate
  have hct := F.typeCall_set_1 (.ref l)
  refine wpAny_call (codeAny_of_tree ?_)
  refine wpAny_pure ⟨Code.quiet_builtin _ ?_, codeAny_builtin F.entry_type_call ?_⟩
  · decide +kernel
  rw [Around.under_plain (weight_type_call_type "set" [.ref l] []) rfl]
  unfold Builtin.«type.__call__»
  dsimp only
  refine wp_if_neg (by rw [h1]; exact Bool.false_ne_true) ?_
  refine wp_if_neg (by rw [h2]; exact Bool.false_ne_true) ?_
  refine wpAny_bind (wpAny_of_eq hct (wpAny_bind (wpAny_of_eq hmro ?_)))
  refine wp_if_neg (by simp) ?_
  refine wpAny_bind (wpAny_of_eq hmade ?_)
  dsimp only
  refine wpAny_bind (wpAny_pure (wpAny_bind (wpAny_holding (wpAny_call (codeAny_mono (code_set_led1 (.ref l) (Q₁ := fun v s1 => v = .ref s.heap.objs.size ∧ s1 = { s with heap := s.heap.push { cls := .type "set", data := .set #[] 0 (SetTable.fresh 0 0 !w.params.followText "set-order") } }) (E := fun _ _ => False) ⟨rfl, rfl⟩) fun r s1 hr => ?_)))))
  have hgo : wpAny (model P w) A.in1.in1 (Builtin.«set.__init__» { pos := [.ref s.heap.objs.size, .ref l] }) (fun fin s' => fin = .done (.ret .none) ∧ Q (.ref s.heap.objs.size) s') (fun _ _ => False) { s with heap := s.heap.push { cls := .type "set", data := .set #[] 0 (SetTable.fresh 0 0 !w.params.followText "set-order") } } := by
    have ho : (s.heap.push { cls := .type "set", data := .set #[] 0 (SetTable.fresh 0 0 !w.params.followText "set-order") }).get? s.heap.objs.size = some { cls := .type "set", data := .set #[] 0 (SetTable.fresh 0 0 !w.params.followText "set-order") } := Heap.get?_push_size _ rfl
    obtain ⟨ol, hol, hlc, hln⟩ := hl
    have hlT : ∀ (h : Heap) g d t os, h.get? l = some ol → (⟨h, g, d, t, os⟩ : Shared).TypeIs (.ref l) "list" := fun h g d t os e => ⟨ol, e, hlc⟩
    have hol' := Heap.get?_push_of_some { cls := .type "set", data := .set #[] 0 (SetTable.fresh 0 0 !w.params.followText "set-order") } hol
    unfold Builtin.«set.__init__»
    dsimp only
    refine wpAny_bind (wpAny_ite_true rfl (wpAny_pure ?_))
    refine wpAny_bind ?_
    unfold typeNameOfCut
    refine wpAny_bind ?_
    unfold shownTypeOf
    refine wpAny_bind (wpAny_typeOf (T := "set") ⟨_, ho, rfl⟩ ?_)
    refine wp_if_neg (by decide) (wpAny_pure ?_)
    refine wpAny_pure ?_
    refine wpAny_bind ?_
    unfold checkCount
    dsimp only
    refine wp_if_neg (by simp) (wp_if_neg (by simp) (wp_if_neg (by simp) (wpAny_pure ?_)))
    refine wpAny_bind (wpAny_pure ?_)
    refine wpAny_bind ?_
    unfold setUsed
    refine wpAny_bind (wpAny_setState_of (o := { cls := .type "set", data := .set #[] 0 (SetTable.fresh 0 0 !w.params.followText "set-order") }) ho rfl rfl ?_)
    refine wpAny_pure ?_
    refine wp_if_neg (by simp; rfl) ?_
    refine wpAny_bind ?_
    unfold Builtin.Frozenset.updateFrom
    refine wpAny_bind ?_
    unfold Builtin.Frozenset.isAnySet
    refine wpAny_bind (wpAny_isInstance (hlT _ _ _ _ _ hol') F.sub_list_set ?_)
    refine wpAny_isInstance (hlT _ _ _ _ _ hol') F.sub_list_frozenset ?_
    refine wp_if_neg (by decide) ?_
    refine wpAny_bind (wpAny_typeOf (hlT _ _ _ _ _ hol') ?_)
    refine wp_if_neg (by decide) ?_
    refine wpAny_bind (wpAny_pyIter_list (items := items) ⟨ol, hol', hlc, hln⟩ ?_)
    refine wpAny_bind (wpAny_runValue ?_)
    have hlt := Heap.lt_size hol
    have hne1 : l ≠ s.heap.objs.size := Nat.ne_of_lt hlt
    have hsz : (s.heap.push { cls := .type "set", data := .set #[] 0 (SetTable.fresh 0 0 !w.params.followText "set-order") }).objs.size = s.heap.objs.size + 1 := by rw [Heap.size_push]
    rw [hsz]
    have kp : ∀ b o, s.heap.get? b = some o → ((s.heap.push { cls := .type "set", data := .set #[] 0 (SetTable.fresh 0 0 !w.params.followText "set-order") }).push { cls := .type "list_iterator", data := .fields #[.ref l, .int 0 0] }).get? b = some o := fun b o e => Heap.get?_push_of_some _ (Heap.get?_push_of_some _ e)
    have hisz : items.size = ks.length := by rw [← Array.length_toList, hit, List.length_map]
    refine set_update_n (Walks.toS (Walks.list (by exact hh) (s.heap.objs.size + 1) l (Nat.ne_of_lt (Nat.lt_succ_of_lt hlt)) items)) s.heap.objs.size (by simp only [List.mem_cons, List.not_mem_nil, or_false, not_or]; exact ⟨Nat.ne_of_lt (Nat.lt_succ_self _), Ne.symm hne1⟩) ks hisz few (fun i v hv => ?_) s.heap hk (fun b hb => ?_) ?_ (by show A.in1.in1.in1.units + 8 < cLine; exact hu) items.size 0 _ rfl (Nat.zero_le _) ⟨?_, ?_⟩ kp ⟨[], #[], 0, SetTable.fresh 0 0 !w.params.followText "set-order", ?_, ⟨fun p hp => (by cases hp), fun p hp => (by simp at hp)⟩⟩ fun s' L es ep t m hT hG hk' => ?_
    · have h2 : items.toList[i]? = some v := by rw [Array.getElem?_toList]; exact hv
      rw [hit, List.getElem?_map] at h2
      cases e : ks[i]? with
      | none => rw [e] at h2; cases h2
      | some p => rw [e] at h2; cases h2; exact ⟨p, rfl, rfl⟩
    · have hb : b = s.heap.objs.size + 1 := by simpa using hb
      subst hb
      cases e : s.heap.get? (s.heap.objs.size + 1) with
      | none => rfl
      | some o => exact absurd (Nat.lt_of_succ_lt (Heap.lt_size e)) (Nat.lt_irrefl _)
    · cases e : s.heap.get? s.heap.objs.size with
      | none => rfl
      | some o => exact absurd (Heap.lt_size e) (Nat.lt_irrefl _)
    · refine ⟨{ cls := .type "list_iterator", data := .fields #[.ref l, .int 0 0] }, ?_, rfl, rfl⟩
      have := Heap.get?_push_size (s.heap.push { cls := .type "set", data := .set #[] 0 (SetTable.fresh 0 0 !w.params.followText "set-order") }) (o := { cls := .type "list_iterator", data := .fields #[.ref l, .int 0 0] }) rfl
      rw [hsz] at this
      exact this
    · exact ⟨ol, Heap.get?_push_of_some _ hol', hlc, hln⟩
    · exact fresh_n (Heap.get?_push_of_some _ ho)
    · refine wpAny_pure (wpAny_pure ⟨rfl, ?_⟩)
      have e1 : s' = { s with heap := s'.heap, toks := s'.toks } := by
        have g := m.gens
        have d := m.drawn
        have o := m.os
        cases s'
        simp only at g d o ⊢
        rw [g, d, o]
      rw [e1]
      rw [hisz] at hG
      exact q s'.heap s'.toks L es ep t hT hG hk'
  match r, hr with
  | .error e, hr => exact hr.elim
  | .ok (.ret v), hr =>
    obtain ⟨rfl, rfl⟩ := hr
    have ho : (s.heap.push { cls := .type "set", data := .set #[] 0 (SetTable.fresh 0 0 !w.params.followText "set-order") }).get? s.heap.objs.size = some { cls := .type "set", data := .set #[] 0 (SetTable.fresh 0 0 !w.params.followText "set-order") } := Heap.get?_push_size _ rfl
    refine wpAny_bind (wpAny_isInstance (T := "set") ⟨_, ho, rfl⟩ hsub ?_)
    refine wp_if_neg (by decide) ?_
    refine wpAny_bind (wpAny_holding ?_)
    unfold callSpecial?
    refine wpAny_bind (wpAny_specialOf (T := "set") ⟨_, ho, rfl⟩ F.called_set.init.lookup ?_)
    refine wpAny_holding (wpAny_bind (wpAny_of_eq (F.called_set.init.bind _) ?_))
    refine wpAny_bind (wpAny_call (codeAny_call_builtin F.called_set.init.plain F.entry_set_init (check_set_init_1 ⟨_, ho, rfl⟩ ?_)))
    refine wpAny_mono hgo (fun fin s' h => ?_) fun e s' h => h.elim
    obtain ⟨rfl, hq⟩ := h
    refine wpAny_pure ?_
    exact wp_if_neg (by decide) (wpAny_pure hq)
end
end Px
set_option maxRecDepth 20000
/-! P15: sorted(set(..)), len(set(..)). -/
namespace Px
open PySem PySem.Spec
open L2
/-! ### the order of keys -/
def leK : NestedKey → NestedKey → Bool := W.dataLe false NestedKey.data
def sortSetK (ks : List NestedKey) : List NestedKey := (dedupK ks).mergeSort leK
mutual
theorem toks_inj : ∀ (a b : NestedKey) (r r' : List (Int ⊕ List Nat)), W.alike a.data b.data = true → W.keyToks a.data ++ r = W.keyToks b.data ++ r' → a = b ∧ r = r'
  | .none, .none, r, r', _, e => ⟨rfl, by simpa [NestedKey.data, W.keyToks] using e⟩
  | .num i, .num j, r, r', _, e => by
    simp [NestedKey.data, W.keyToks] at e
    exact ⟨by rw [e.1], e.2⟩
  | .text x, .text y, r, r', _, e => by
    simp [NestedKey.data, W.keyToks] at e
    refine ⟨?_, e.2⟩
    have : x = y := by
      cases x; cases y
      simp at e
      rw [e.1]
    rw [this]
  | .tup ks, .tup ls, r, r', h, e => by
    have h' : W.alikeAll (NestedKey.datas ks) (NestedKey.datas ls) = true := by simpa [NestedKey.data, W.alike] using h
    have e' : W.keyToksAll (NestedKey.datas ks) ++ r = W.keyToksAll (NestedKey.datas ls) ++ r' := by simpa [NestedKey.data, W.keyToks] using e
    obtain ⟨h1, h2⟩ := toksA_inj ks ls r r' h' e'
    exact ⟨by rw [h1], h2⟩
  | .none, .num _, _, _, h, _ => by simp [NestedKey.data, W.alike] at h
  | .none, .text _, _, _, h, _ => by simp [NestedKey.data, W.alike] at h
  | .none, .tup _, _, _, h, _ => by simp [NestedKey.data, W.alike] at h
  | .num _, .none, _, _, h, _ => by simp [NestedKey.data, W.alike] at h
  | .num _, .text _, _, _, h, _ => by simp [NestedKey.data, W.alike] at h
  | .num _, .tup _, _, _, h, _ => by simp [NestedKey.data, W.alike] at h
  | .text _, .none, _, _, h, _ => by simp [NestedKey.data, W.alike] at h
  | .text _, .num _, _, _, h, _ => by simp [NestedKey.data, W.alike] at h
  | .text _, .tup _, _, _, h, _ => by simp [NestedKey.data, W.alike] at h
  | .tup _, .none, _, _, h, _ => by simp [NestedKey.data, W.alike] at h
  | .tup _, .num _, _, _, h, _ => by simp [NestedKey.data, W.alike] at h
  | .tup _, .text _, _, _, h, _ => by simp [NestedKey.data, W.alike] at h
theorem toksA_inj : ∀ (a b : List NestedKey) (r r' : List (Int ⊕ List Nat)), W.alikeAll (NestedKey.datas a) (NestedKey.datas b) = true → W.keyToksAll (NestedKey.datas a) ++ r = W.keyToksAll (NestedKey.datas b) ++ r' → a = b ∧ r = r'
  | [], [], r, r', _, e => ⟨rfl, by simpa [NestedKey.datas, W.keyToksAll] using e⟩
  | [], _ :: _, r, r', _, e => by simp [NestedKey.datas, W.keyToksAll] at e
  | _ :: _, [], r, r', _, e => by simp [NestedKey.datas, W.keyToksAll] at e
  | x :: a, y :: b, r, r', h, e => by
    have h' : W.alike x.data y.data = true ∧ W.alikeAll (NestedKey.datas a) (NestedKey.datas b) = true := by simpa [NestedKey.datas, W.alikeAll] using h
    have e' : W.keyToks x.data ++ (W.keyToksAll (NestedKey.datas a) ++ r) = W.keyToks y.data ++ (W.keyToksAll (NestedKey.datas b) ++ r') := by simpa [NestedKey.datas, W.keyToksAll] using e
    obtain ⟨h1, h2⟩ := toks_inj x y _ _ h'.1 e'
    obtain ⟨h3, h4⟩ := toksA_inj a b _ _ h'.2 h2
    exact ⟨by rw [h1, h3], h4⟩
end
theorem leK_total : W.TotalLe leK := W.sortLe_total (PyProof.Rows.listOrd PyProof.Rows.itemOrd) false fun b => W.keyToks (NestedKey.data b)
theorem leK_anti {a b : NestedKey} (h : W.alike a.data b.data = true) (h1 : leK a b = true) (h2 : leK b a = true) : a = b := by
  have e1 : (PyProof.Rows.listOrd PyProof.Rows.itemOrd).blt (W.keyToks b.data) (W.keyToks a.data) = false := by simpa [leK, W.dataLe, W.sortLe] using h1
  have e2 : (PyProof.Rows.listOrd PyProof.Rows.itemOrd).blt (W.keyToks a.data) (W.keyToks b.data) = false := by simpa [leK, W.dataLe, W.sortLe] using h2
  have e := (PyProof.Rows.listOrd PyProof.Rows.itemOrd).total _ _ e2 e1
  exact (toks_inj a b [] [] h (by rw [List.append_nil, List.append_nil]; exact e)).1
def alikeK (ks : List NestedKey) : Bool := ks.all fun a => ks.all fun b => W.alike a.data b.data
theorem alikeK_at {ks : List NestedKey} (h : alikeK ks = true) {a b : NestedKey} (ha : a ∈ ks) (hb : b ∈ ks) : W.alike a.data b.data = true :=
  List.all_eq_true.mp (List.all_eq_true.mp h a ha) b hb
theorem sortSetK_perm (ks : List NestedKey) : (sortSetK ks).Perm (dedupK ks) := List.mergeSort_perm _ _
theorem mem_sortSetK {ks : List NestedKey} {k : NestedKey} : k ∈ sortSetK ks ↔ k ∈ ks := ((sortSetK_perm ks).mem_iff).trans mem_dedupK
theorem sortSetK_pair (ks : List NestedKey) : (sortSetK ks).Pairwise fun a b => leK a b = true := W.sort_pairwise leK_total _
/-- it is told by its members and its order -/
theorem sortSetK_uniq {ks m : List NestedKey} (h : alikeK ks = true) (nd : m.Nodup) (pw : m.Pairwise fun a b => leK a b = true) (hm : ∀ k, k ∈ m ↔ k ∈ ks) : m = sortSetK ks := by
  refine List.Perm.eq_of_pairwise (le := fun a b => leK a b = true) (fun a b ha hb h1 h2 => leK_anti (alikeK_at h ((hm a).mp ha) (mem_sortSetK.mp hb)) h1 h2) pw (sortSetK_pair ks) ?_
  refine (List.perm_ext_iff_of_nodup nd ?_).mpr fun k => (hm k).trans mem_sortSetK.symm
  exact (sortSetK_perm ks).nodup_iff.mpr (nodup_dedupK ks)
/-! ### a set of tuples, in the state -/
/-- tuples as keys: not too deep, no texts -/
def keyT (d : D) : Option NestedKey := match toKey d with
  | some (.tup ks) => if (NestedKey.tup ks).depth ≤ 7 ∧ pureK (.tup ks) = true then some (.tup ks) else none
  | _ => none
def keysT : List D → Option (List NestedKey)
  | [] => some []
  | d :: l => (keyT d).bind fun k => (keysT l).map fun ks => k :: ks
theorem keyT_of {d : D} {k : NestedKey} (h : keyT d = some k) : d = ofKey k ∧ k.depth ≤ 7 ∧ pureK k = true ∧ ∃ ks, k = .tup ks := by
  unfold keyT at h
  split at h
  · rename_i ks e
    split at h
    · rename_i c
      cases h
      exact ⟨toKey_of _ _ e, c.1, c.2, ks, rfl⟩
    · cases h
  · cases h
theorem keysT_at : ∀ {l : List D} {ks : List NestedKey}, keysT l = some ks → ks.length = l.length ∧ ∀ (i : Nat) (d : D), l[i]? = some d → ∃ k, ks[i]? = some k ∧ keyT d = some k
  | [], ks, h => by cases h; exact ⟨rfl, fun i d e => by simp at e⟩
  | d :: l, ks, h => by
    have h' : ((keyT d).bind fun k => (keysT l).map fun ks => k :: ks) = some ks := h
    cases e : keyT d with
    | none => rw [e] at h'; cases h'
    | some k =>
      rw [e] at h'
      simp only [Option.bind_some] at h'
      cases e2 : keysT l with
      | none => rw [e2] at h'; cases h'
      | some r =>
        rw [e2] at h'
        cases h'
        obtain ⟨h1, h2⟩ := keysT_at e2
        refine ⟨by simp [h1], fun i d' q => ?_⟩
        cases i with
        | zero => simp at q; subst q; exact ⟨k, rfl, e⟩
        | succ i => exact h2 i d' (by simpa using q)
/-- the set object o with the items L -/
structure SetF (P : Program) (w : World) (o : Obj) (L : List (Addr × NestedKey)) (es : Array (Int × Value)) (ep : Nat) (t : SetTable) : Prop where
  ex : o.ExactSet
  dat : o.data = .set es ep t
  rows : es.toList = rowsN P w L
  tab : TabOk t (L.map fun p => nh P w p.2)
  nd : (L.map (·.2)).Nodup
  led : w.params.followText "set-order" = true ∨ t.led = true
  room : L.length * 5 < t.mask * 3
  few : L.length < 64
section
variable {X : Cx} {pins : List (Addr × Obj)} {σ : L2.St} {H : Hp} {s : Shared} {ρ : Rho} {st : Store}
theorem kt_of (I : Inv X pins σ H s) {k : NestedKey} {a : Addr} (h : Rep (zx X) H ρ (ofKey k) (.ref a)) (d : k.depth ≤ 7) (p : pureK k = true) : KT X.prog X.w s.heap k a := ⟨nested_of I k _ _ h rfl, d, p⟩
/-- the result of set(a list of tuples) -/
def rSetN (Z : Wd) : List V → Hp → VK → Prop := fun vs H Q => ∃ ρ st d l ks, StR Z H ρ st ∧ Reps Z H ρ [d] vs ∧ lsD st d = some l ∧ keysT l = some ks ∧ (dedupK ks).length < 64 ∧
  ∀ p o L es ep t, H p = none → SetF Z.P Z.w o L es ep t → (∀ q ∈ L, Rep Z H ρ (ofKey q.2) (.ref q.1)) → (∀ k, k ∈ L.map (·.2) ↔ k ∈ ks) → Q (.ref p) (upd H p (.ext fun h => h.get? p = some o))
theorem take_len {α : Type} (l : List α) : l.take l.length = l := List.take_length
theorem c_setN (hc : X.calm = true) (hu : X.A.units + 64 < cLine) : CallR X (.type "set") (rSetN (zx X)) := by
  intro pins s σ H vs us Q I rv ⟨ρ, st, d, l, ks, hs, r, e1, e2, few, q⟩
  obtain ⟨v, rfl, r1⟩ := reps1 r
  obtain ⟨a, xs, rfl, hq, rx⟩ := r1.ls hs e1
  cases rv with
  | cons ra rn =>
    cases rn
    cases ra
    obtain ⟨its, vx, pl, hz⟩ := I.list hq
    obtain ⟨hl, hk⟩ := keysT_at e2
    -- every item is a reference to a tuple
    have hat : ∀ i : Nat, i < l.length → ∃ b k, xs[i]? = some (.ref b) ∧ its[i]? = some (.ref b) ∧ ks[i]? = some k ∧ Rep (zx X) H ρ (ofKey k) (.ref b) ∧ k.depth ≤ 7 ∧ pureK k = true := fun i hi => by
      obtain ⟨k, k1, k2⟩ := hk i _ (List.getElem?_eq_getElem hi)
      obtain ⟨kd, k3, k4, kk, k5⟩ := keyT_of k2
      obtain ⟨x, x1, x2⟩ := rx.get (List.getElem?_eq_getElem hi)
      rw [kd] at x2
      subst k5
      obtain ⟨b, ys, rfl, _⟩ := id x2
      obtain ⟨u, u1, u2⟩ := Vals.get vx x1
      cases u2
      exact ⟨b, _, x1, u1, k1, x2, k3, k4⟩
    have hxl : xs.length = l.length := rx.len
    have hil : its.length = l.length := by rw [← hxl]; exact (Vals.length vx).symm
    -- the items with their keys
    let bs : List Addr := its.map fun u => match u with
      | .ref b => b
      | _ => 0
    have hbs : ∀ (i : Nat) (b : Addr), its[i]? = some (.ref b) → bs[i]? = some b := fun i b e => by
      show (its.map _)[i]? = _
      rw [List.getElem?_map, e]; rfl
    have hbl : bs.length = l.length := by show (its.map _).length = _; rw [List.length_map, hil]
    have hzip : ∀ (i : Nat) (p : Addr × NestedKey), (bs.zip ks)[i]? = some p → its[i]? = some (.ref p.1) ∧ Rep (zx X) H ρ (ofKey p.2) (.ref p.1) ∧ p.2.depth ≤ 7 ∧ pureK p.2 = true := fun i p e => by
      have hi : i < l.length := by
        have := (List.getElem?_eq_some_iff.mp e).1
        rw [List.length_zip, hbl, hl] at this; omega
      obtain ⟨b, k, _, h1, h2, h3, h4, h5⟩ := hat i hi
      rw [List.getElem?_zip_eq_some] at e
      rw [hbs i b h1, h2] at e
      obtain ⟨e1, e2⟩ := e
      cases e1; cases e2
      exact ⟨h1, h3, h4, h5⟩
    have hzl : (bs.zip ks).length = l.length := by rw [List.length_zip, hbl, hl]; omega
    have hmem : ∀ p ∈ bs.zip ks, Rep (zx X) H ρ (ofKey p.2) (.ref p.1) ∧ p.2.depth ≤ 7 ∧ pureK p.2 = true := fun p m => by
      obtain ⟨i, hi, e⟩ := List.getElem_of_mem m
      exact (hzip i p (by rw [List.getElem?_eq_getElem hi, e])).2
    have hkeys : (bs.zip ks).map (·.2) = ks := by
      refine List.map_snd_zip ?_
      omega
    refine call_set_n (l := a) (items := its.toArray) (bs.zip ks) (I.ok.hd hc) pl.isList ?_ (fun p m => ?_) (by rw [hkeys]; exact few) (by omega) fun h' tk L es ep t hT hG hk' => ?_
    · refine List.ext_getElem? fun i => ?_
      rw [List.getElem?_map]
      by_cases hi : i < l.length
      · have hi' : i < (bs.zip ks).length := by rw [hzl]; exact hi
        rw [List.getElem?_eq_getElem hi']
        have := (hzip i _ (List.getElem?_eq_getElem hi')).1
        simpa using this
      · rw [List.getElem?_eq_none (by simp; omega), List.getElem?_eq_none (by rw [hzl]; omega)]; rfl
    · obtain ⟨h1, h2, h3⟩ := hmem p m
      exact kt_of I h1 h2 h3
    · obtain ⟨o, ho, hex, hd⟩ := hT.ob
      have hp : H s.heap.objs.size = none := I.hok.fresh (Nat.le_refl _)
      have hsub : ∀ p ∈ L, p ∈ bs.zip ks := fun p m => by
        have := hG.sub p m
        rw [take_len] at this; exact this
      refine ⟨.ref s.heap.objs.size, _, I.laid (t' := tk) hk' (Nat.le_refl _) ?_, rfl, q s.heap.objs.size o L es ep t hp ⟨hex, hd, hT.rows, hT.tab, hT.nd, hT.led, hT.room, hT.few⟩ (fun p m => (hmem p (hsub p m)).1) fun k => ⟨fun m => ?_, fun m => ?_⟩⟩
      · exact ⟨ho, ⟨o, ho⟩, fun h1 h2 f c => c _ f⟩
      · obtain ⟨p, hp, rfl⟩ := List.mem_map.mp m
        rw [← hkeys]
        exact List.mem_map.mpr ⟨p, hsub p hp, rfl⟩
      · rw [← hkeys] at m
        obtain ⟨p, hp, rfl⟩ := List.mem_map.mp m
        exact hG.all p (by rw [take_len]; exact hp)
mutual
/-- a key's value, read: no list on the way -/
theorem reads_key (I : Inv X pins σ H s) : ∀ (n : NestedKey) (v : V) (u : Value), Rep (zx X) H ρ (ofKey n) v → RelV v u → Reads s.heap u n.data []
  | .none, v, u, h, r => by
    obtain rfl : v = .non := h
    cases r; exact .none
  | .num i, v, u, h, r => by
    obtain rfl : v = .int i := h
    obtain ⟨t, rfl⟩ := r; exact .int i t
  | .text x, v, u, h, r => by
    obtain rfl : v = .str x := h
    obtain ⟨t, rfl⟩ := r; exact .str x t
  | .tup ks, v, u, ⟨a, xs, e, hq, hr⟩, r => by
    subst e
    cases r
    obtain ⟨its, rv, ⟨o, h1, h2, m, h3⟩, _⟩ := I.tuple (sqT_of hq)
    exact .tuple h1 h2 h3 (by simpa using reads_keys I ks xs its hr rv)
theorem reads_keys (I : Inv X pins σ H s) : ∀ (ns : List NestedKey) (vs : List V) (us : List Value), Reps (zx X) H ρ (ofKeys ns) vs → Vals vs us → ReadsAll s.heap us (NestedKey.datas ns) []
  | [], vs, us, h, r => by
    obtain rfl : vs = [] := h
    cases r; exact .nil
  | n :: ns, vs, us, ⟨x, xr, e, h1, h2⟩, r => by
    subst e
    cases r with
    | cons r1 r2 => exact .cons (reads_key I n x _ h1 r1) (reads_keys I ns xr _ h2 r2)
end
theorem perm_of_map {α β : Type} {f : α → β} : ∀ {m out : List β}, m.Perm out → ∀ L : List α, m = L.map f → ∃ L1 : List α, L1.Perm L ∧ out = L1.map f := by
  intro m out h
  induction h with
  | nil => intro L e; exact ⟨L, .refl _, e⟩
  | cons x h ih =>
    intro L e
    cases L with
    | nil => cases e
    | cons y L =>
      rw [List.map_cons] at e
      injection e with e1 e2
      obtain ⟨L1, p, q⟩ := ih L e2
      exact ⟨y :: L1, .cons _ p, by rw [List.map_cons, q, e1]⟩
  | swap x y l =>
    intro L e
    match L, e with
    | a :: b :: L, e =>
      simp only [List.map_cons, List.cons.injEq] at e
      obtain ⟨rfl, rfl, rfl⟩ := e
      exact ⟨b :: a :: L, .swap _ _ _, rfl⟩
  | trans _ _ ih1 ih2 =>
    intro L e
    obtain ⟨L1, p1, q1⟩ := ih1 L e
    obtain ⟨L2, p2, q2⟩ := ih2 L1 q1
    exact ⟨L2, p2.trans p1, q2⟩
theorem eachIs_map {α β : Type} {R : α → β → Prop} {f : β → α} : ∀ {l : List β}, (∀ b ∈ l, R (f b) b) → W.EachIs R (l.map f) l
  | [], _ => .nil
  | b :: l, h => .cons (h b List.mem_cons_self) (eachIs_map fun c m => h c (List.mem_cons_of_mem _ m))
theorem eachIs_eq {α β : Type} {f : β → α} : ∀ {out : List α} {l : List β}, W.EachIs (fun v b => v = f b) out l → out = l.map f
  | _, _, .nil => rfl
  | _, _, .cons h t => by rw [h, eachIs_eq t]; rfl
/-- the items of a tuple, one at least -/
def someK : NestedKey → Bool
  | .tup (_ :: _) => true
  | _ => false
/-- sorted(..) of such a set -/
def rSortedN (Z : Wd) : List V → Hp → VK → Prop := fun vs H Q => ∃ ρ st a o L es ep t ks, vs = [.ref a] ∧ StR Z H ρ st ∧ H a = some (.ext fun h => h.get? a = some o) ∧ SetF Z.P Z.w o L es ep t ∧ (∀ q ∈ L, Rep Z H ρ (ofKey q.2) (.ref q.1) ∧ q.2.depth ≤ 7) ∧ (∀ k, k ∈ L.map (·.2) ↔ k ∈ ks) ∧ alikeK ks = true ∧ ks.all someK = true ∧
  ∀ p xs, Reps Z H ρ ((sortSetK ks).map ofKey) xs → H p = none → Q (.ref p) (upd H p (.lst xs))
theorem reps_of_keys {Z : Wd} {H : Hp} {ρ : Rho} : ∀ {L : List (Addr × NestedKey)}, (∀ q ∈ L, Rep Z H ρ (ofKey q.2) (.ref q.1)) → Reps Z H ρ ((L.map (·.2)).map ofKey) (L.map fun q => .ref q.1)
  | [], _ => rfl
  | q :: L, h => ⟨.ref q.1, _, rfl, h q List.mem_cons_self, reps_of_keys fun r m => h r (List.mem_cons_of_mem _ m)⟩
theorem vals_refs : ∀ {L : List (Addr × NestedKey)}, Vals (L.map fun q => V.ref q.1) (L.map fun q => Value.ref q.1)
  | [] => .nil
  | q :: L => .cons rfl vals_refs
mutual
theorem depth_data : ∀ (k : NestedKey), k.data.depth ≤ k.depth + 1
  | .none => by simp [NestedKey.data, PyData.depth]
  | .num i => by simp [NestedKey.data, PyData.depth]
  | .text x => by simp [NestedKey.data, PyData.depth]
  | .tup ks => by
    have := depth_datas ks
    simp [NestedKey.data, PyData.depth, NestedKey.depth]
    omega
theorem depth_datas : ∀ (ks : List NestedKey), PyData.depthAll (NestedKey.datas ks) ≤ NestedKey.depthAll ks + 1
  | [] => by simp [NestedKey.datas, PyData.depthAll]
  | k :: ks => by
    have h1 := depth_data k
    have h2 := depth_datas ks
    simp [NestedKey.datas, PyData.depthAll, NestedKey.depthAll]
    omega
end
theorem Inv.any {s' : Shared} (I : Inv X pins σ H s) (h1 : s'.heap = s.heap) (h2 : s'.gens = s.gens) (h3 : s'.os = s.os) : Inv X pins σ H s' := by
  cases s; cases s'
  simp only at h1 h2 h3
  subst h1 h2 h3
  exact ⟨I.ok, I.os, I.bare, I.base, I.loc, I.cell, I.free, I.freeC, I.pin, I.hok, I.len⟩
theorem c_sortedN (hc : X.calm = true) (hu : X.A.units + 64 < cLine) : CallR X (.builtin "sorted") (rSortedN (zx X)) := by
  intro pins s σ H vs us Q I rv ⟨ρ, st, a, o, L, es, ep, t, ks, e, hs, ha, F, hL, hm, hal, hso, q⟩
  subst e
  cases rv with
  | cons ra rn =>
    cases rn
    cases ra
    have ho := (show ObjOk X.prog X.w H s.heap a _ from I.hok a _ ha).1
    have hes : es.toList.map (·.2) = L.map fun q => Value.ref q.1 := by rw [F.rows]; unfold rowsN; rw [List.map_map]; rfl
    have hsz : es.size = L.length := by rw [← Array.length_toList, F.rows]; simp [rowsN]
    have hfit : t.fits es.size = true := by
      have h1 := F.tab.sz
      have h2 := F.room
      have h3 := F.tab.dm
      rw [List.length_map] at h1
      unfold SetTable.fits SetTable.fill
      rw [hsz, h1, h3]; simp; omega
    refine Calls.call_function_entry PyProof.Rows.kind_sorted PyProof.Rows.plain_sorted PyProof.Rows.entry_sorted (PyProof.Rows.args_sorted1 _) ?_
    unfold Builtin.sorted
    refine wpAny_bind ?_
    unfold checkCount
    refine wp_if_neg (by simp) (wp_if_neg (by simp) (wp_if_neg (by simp) (wpAny_pure ?_)))
    refine wpAny_bind (collect_set (by exact I.ok.hd hc) ⟨o, ho, F.ex.1, F.dat⟩ hfit (by have := F.few; rw [hsz]; unfold scanBound; omega) F.tab.ris F.led fun s' out k1 hz g1 o1 pm => ?_)
    rw [hes] at pm
    obtain ⟨L1, p1, rfl⟩ := perm_of_map pm.symm L rfl
    have hl1 : L1.length < 64 := by rw [p1.length_eq]; exact F.few
    refine wpAny_bind (wpAny_newList ?_ (by rw [sizeLine_eq, List.length_map]; omega))
    have hb1 : PyProof.Rows.AllBare s'.gens := by rw [g1]; exact I.bare
    obtain ⟨hp', gn', dr', tk', os'⟩ := s'
    dsimp only at k1 hz g1 o1 hb1 ⊢
    have I1 : Inv X pins σ H { s with heap := hp', toks := tk' } := I.kept (t' := tk') k1
    have old : ∀ b u, hp'.get? b = some u → (hp'.push (PyProof.Rows.seqObj "list" (L1.map fun q => Value.ref q.1).toArray 0)).get? b = some u := fun b u e => Heap.get?_push_of_some _ e
    have hL1 : ∀ q ∈ L1, Rep (zx X) H ρ (ofKey q.2) (.ref q.1) ∧ q.2.depth ≤ 7 := fun q m => hL q (p1.mem_iff.mp m)
    have hkm : ∀ k, k ∈ L1.map (·.2) ↔ k ∈ ks := fun k => ((p1.map _).mem_iff).trans (hm k)
    have hoL : (hp'.push (PyProof.Rows.seqObj "list" (L1.map fun q => Value.ref q.1).toArray 0)).get? hp'.objs.size = some (PyProof.Rows.seqObj "list" (L1.map fun q => Value.ref q.1).toArray 0) := Heap.get?_push_size _ rfl
    refine wpAny_bind (wpAny_holding (W.list_sort_data (β := Addr × NestedKey) (enc := fun q => q.2.data) (R := fun v q => v = .ref q.1) (bs := L1) (vs := L1.map fun q => Value.ref q.1) (n := 0) hoL (eachIs_map fun b m => rfl) (eachIs_map fun b m => ⟨[], ?_, List.not_mem_nil⟩) ?_ ?_ (by rw [sizeLine_eq]; omega) (fun b m => ?_) fun out ol oe => ?_))
    · have I2 : Inv X pins σ H { s with heap := hp'.push (PyProof.Rows.seqObj "list" (L1.map fun q => Value.ref q.1).toArray 0), toks := tk' } := I1.kept (t' := tk') old
      exact reads_key I2 b.2 _ _ (hL1 b m).1 rfl
    · intro d hd d' hd'
      obtain ⟨p, hp, rfl⟩ := List.mem_map.mp hd
      obtain ⟨p', hp', rfl⟩ := List.mem_map.mp hd'
      exact alikeK_at hal ((hkm _).mp (List.mem_map.mpr ⟨p, hp, rfl⟩)) ((hkm _).mp (List.mem_map.mpr ⟨p', hp', rfl⟩))
    · left
      intro d hd
      obtain ⟨p, hp, rfl⟩ := List.mem_map.mp hd
      have := List.all_eq_true.mp hso _ ((hkm _).mp (List.mem_map.mpr ⟨p, hp, rfl⟩))
      unfold someK at this
      split at this
      · rename_i k r e
        rw [e]
        exact ⟨_, _, rfl⟩
      · cases this
    · have h1 := depth_data b.2
      have h2 := (hL1 b m).2
      show X.A.in1.units + 1 + b.2.data.depth < cLine
      show X.A.units + 1 + 1 + b.2.data.depth < cLine
      omega
    · have oe' := eachIs_eq oe
      subst oe'
      obtain ⟨ce, hce⟩ := PyProof.Rows.sortedHeap_at (out := ((L1.mergeSort (W.dataLe false fun q => q.2.data)).map fun q => Value.ref q.1).toArray) hoL
      have hpn : H hp'.objs.size = none := I1.hok.fresh (Nat.le_refl _)
      have hkeep : ∀ b u, s.heap.get? b = some u → (PyProof.Rows.sortedHeap (hp'.push (PyProof.Rows.seqObj "list" (L1.map fun q => Value.ref q.1).toArray 0)) hp'.objs.size (L1.map fun q => Value.ref q.1) ((L1.mergeSort (W.dataLe false fun q => q.2.data)).map fun q => Value.ref q.1).toArray).get? b = some u := fun b u e => by
        have z := Heap.lt_size (k1 b u e)
        rw [PyProof.Rows.sortedHeap_old (Nat.ne_of_lt z) (by rw [PyProof.Rows.size_push']; exact Nat.lt_succ_of_lt z)]
        exact old b u (k1 b u e)
      have hperm := List.mergeSort_perm L1 (W.dataLe false fun q => q.2.data)
      have hkeys : (L1.mergeSort (W.dataLe false fun q => q.2.data)).map (·.2) = sortSetK ks := by
        refine sortSetK_uniq hal ?_ ?_ fun k => ?_
        · exact ((hperm.map (·.2)).nodup_iff).mpr (((p1.map (·.2)).nodup_iff).mpr F.nd)
        · rw [List.pairwise_map]
          exact W.sort_pairwise (W.sortLe_total (PyProof.Rows.listOrd PyProof.Rows.itemOrd) false fun q : Addr × NestedKey => W.keyToks q.2.data) L1
        · exact ((hperm.map (·.2)).mem_iff).trans (hkm k)
      have hR : Reps (zx X) H ρ ((sortSetK ks).map ofKey) ((L1.mergeSort (W.dataLe false fun q => q.2.data)).map fun q => V.ref q.1) := by
        rw [← hkeys]
        exact reps_of_keys fun r m => (hL1 r (hperm.mem_iff.mp m)).1
      refine wpAny_pure ⟨_, rfl, .ref hp'.objs.size, upd H hp'.objs.size (.lst ((L1.mergeSort (W.dataLe false fun q => q.2.data)).map fun q => V.ref q.1)), ?_, rfl, q hp'.objs.size _ hR hpn⟩
      refine Inv.any (I.laid (t' := s.toks) hkeep hz ?_) rfl g1 o1
      refine ⟨?_, ((L1.mergeSort (W.dataLe false fun q => q.2.data)).map fun q => Value.ref q.1), ce, vals_refs, hce⟩
      rw [List.length_map, hperm.length_eq, sizeLine_eq]; omega
end
end Px
set_option maxRecDepth 20000
/-! P16: sets of whole numbers, made of tuples; sorted(set(x)), len(set(x)), sorted(x), list(range(..)), tuple(range(..)). -/
namespace Px
open PySem PySem.Spec
open L2
section
variable {X : Cx} {pins : List (Addr × Obj)} {σ : L2.St} {H : Hp} {s : Shared} {ρ : Rho} {st : Store}
/-- o is a set of the n whole numbers that S tells -/
def SetI (w : World) (o : Obj) (S : Int → Bool) (n : Nat) : Prop := ∀ h a, h.get? a = some o → SetR w h a S n
def rSetI (Z : Wd) : List V → Hp → VK → Prop := fun vs H Q => ∃ ρ st l ns, StR Z H ρ st ∧ Reps Z H ρ [.tup l] vs ∧ intsD l = some ns ∧ ns.length < 1000 ∧
  ∀ p o n, H p = none → SetI Z.w o (fun j => decide (j ∈ ns)) n → Q (.ref p) (upd H p (.ext fun h => h.get? p = some o))
theorem c_setI (hc : X.calm = true) : CallR X (.type "set") (rSetI (zx X)) := by
  intro pins s σ H vs us Q I rv ⟨ρ, st, l, ns, hs, r, e1, hl, q⟩
  obtain ⟨v, rfl, r1⟩ := reps1 r
  obtain ⟨a, xs, rfl, hq, rx⟩ := r1
  rw [intsD_eq e1] at rx
  have ex := reps_ints rx
  subst ex
  cases rv with
  | cons ra rn =>
    cases rn
    cases ra
    obtain ⟨its, vx, pl, hz⟩ := I.tuple (sqT_of hq)
    refine call_set_tupI ns (I.ok.hd hc) (show s.heap.IsTuple a its.toArray from pl) (by simpa using ints_of_vals vx) (by unfold scanBound; omega) fun h' tk c hS _ hk => ?_
    have hp : H s.heap.objs.size = none := I.hok.fresh (Nat.le_refl _)
    obtain ⟨o, es, ep, t, ho, rest⟩ := hS
    refine ⟨.ref s.heap.objs.size, _, I.laid (t' := tk) hk (Nat.le_refl _) ?_, rfl, q s.heap.objs.size o c hp fun h b e => ⟨o, es, ep, t, e, rest⟩⟩
    exact ⟨ho, ⟨o, ho⟩, fun h1 h2 f c => c _ f⟩
def numsK (ns : List Int) : List NestedKey := ns.map .num
theorem alike_nums (ns : List Int) : alikeK (numsK ns) = true := by
  unfold alikeK numsK
  rw [List.all_eq_true]
  intro a ha
  rw [List.all_eq_true]
  intro b hb
  obtain ⟨i, _, rfl⟩ := List.mem_map.mp ha
  obtain ⟨j, _, rfl⟩ := List.mem_map.mp hb
  simp [NestedKey.data, W.alike]
theorem leK_num (i j : Int) : leK (.num i) (.num j) = decide (i ≤ j) := by
  have h := congrFun (congrFun (W.dataLe_int (β := Int) fun i => i) i) j
  exact h
/-- whole numbers in order, each once -/
theorem nums_uniq {ns m : List Int} (pw : m.Pairwise (· < ·)) (h : ∀ k, k ∈ m ↔ k ∈ ns) : numsK m = sortSetK (numsK ns) := by
  refine sortSetK_uniq (alike_nums ns) ?_ ?_ fun k => ?_
  · unfold numsK
    rw [List.nodup_iff_pairwise_ne, List.pairwise_map]
    exact pw.imp fun h e => by cases e; omega
  · unfold numsK
    rw [List.pairwise_map]
    exact pw.imp fun h => by rw [leK_num]; exact decide_eq_true (by omega)
  · unfold numsK
    constructor
    · intro m
      obtain ⟨i, hi, rfl⟩ := List.mem_map.mp m
      exact List.mem_map.mpr ⟨i, (h i).mp hi, rfl⟩
    · intro m
      obtain ⟨i, hi, rfl⟩ := List.mem_map.mp m
      exact List.mem_map.mpr ⟨i, (h i).mpr hi, rfl⟩
theorem ofKey_nums (ns : List Int) : (numsK ns).map ofKey = ns.map D.int := by
  unfold numsK
  rw [List.map_map]; rfl
theorem nodup_nums {ns : List Int} (h : ns.Nodup) : (numsK ns).Nodup := by
  unfold numsK
  rw [List.nodup_iff_pairwise_ne, List.pairwise_map]
  rw [List.nodup_iff_pairwise_ne] at h
  exact h.imp fun h e => h (by cases e; rfl)
/-- how many -/
theorem setI_len {w : World} {h : Heap} {a : Addr} {ns : List Int} {n : Nat} (R : SetR w h a (fun j => decide (j ∈ ns)) n) : n = (dedupK (numsK ns)).length := by
  obtain ⟨o, es, ep, t, _, _, _, _, nd, hm, _, _, en, _, _⟩ := R
  have e1 : n = (numsK (es.toList.map keyOf)).length := by unfold numsK; simp [en]
  rw [e1]
  refine List.Perm.length_eq ((List.perm_ext_iff_of_nodup (nodup_nums nd) (nodup_dedupK _)).mpr fun k => ?_)
  rw [mem_dedupK]
  unfold numsK
  constructor
  · intro m
    obtain ⟨i, hi, rfl⟩ := List.mem_map.mp m
    exact List.mem_map.mpr ⟨i, of_decide_eq_true ((hm i).mpr hi), rfl⟩
  · intro m
    obtain ⟨i, hi, rfl⟩ := List.mem_map.mp m
    exact List.mem_map.mpr ⟨i, (hm i).mp (decide_eq_true hi), rfl⟩
def rSortedI (Z : Wd) : List V → Hp → VK → Prop := fun vs H Q => ∃ ρ st a o ns n, vs = [.ref a] ∧ StR Z H ρ st ∧ H a = some (.ext fun h => h.get? a = some o) ∧ SetI Z.w o (fun j => decide (j ∈ ns)) n ∧ (dedupK (numsK ns)).length < 64 ∧
  ∀ p xs, Reps Z H ρ ((sortSetK (numsK ns)).map ofKey) xs → H p = none → Q (.ref p) (upd H p (.lst xs))
theorem c_sortedI (hc : X.calm = true) : CallR X (.builtin "sorted") (rSortedI (zx X)) := by
  intro pins s σ H vs us Q I rv ⟨ρ, st, a, o, ns, n, e, hs, ha, F, few, q⟩
  subst e
  cases rv with
  | cons ra rn =>
    cases rn
    cases ra
    have ho := (show ObjOk X.prog X.w H s.heap a _ from I.hok a _ ha).1
    have R := F _ _ ho
    have en := setI_len R
    refine sorted_set R (I.ok.hd hc) (by omega) fun s' p out c ms k1 g1 o1 hz hp hi pw hm hn => ?_
    have hu : numsK ms = sortSetK (numsK ns) := nums_uniq pw fun k => by rw [hm k, decide_eq_true_eq]
    have hpn : H p = none := I.hok.fresh hz
    have hR : Reps (zx X) H ρ ((sortSetK (numsK ns)).map ofKey) (ms.map V.int) := by rw [← hu, ofKey_nums]; exact ints_reps
    refine ⟨.ref p, upd H p (.lst (ms.map V.int)), ?_, rfl, q p _ hR hpn⟩
    have J := I.laid (o := .lst (ms.map V.int)) (h' := s'.heap) (t' := s.toks) k1 hz ⟨by rw [List.length_map, sizeLine_eq]; omega, out.toList, c, vals_of_ints hi, by rw [Array.toArray_toList]; exact hp⟩
    exact Inv.any J rfl g1 o1
/-- len(set) -/
def rLenS (Z : Wd) : List V → Hp → VK → Prop := fun vs H Q => ∃ a o, vs = [.ref a] ∧ H a = some (.ext fun h => h.get? a = some o) ∧
  ((∃ ns n, SetI Z.w o (fun j => decide (j ∈ ns)) n ∧ ns.length < 1000 ∧ Q (.int (dedupK (numsK ns)).length) H) ∨ ∃ L es ep t ks, SetF Z.P Z.w o L es ep t ∧ (∀ k, k ∈ L.map (·.2) ↔ k ∈ ks) ∧ Q (.int (dedupK ks).length) H)
theorem c_lenS : CallR X (.builtin "len") (rLenS (zx X)) := by
  intro pins s σ H vs us Q I rv ⟨a, o, e, ha, q⟩
  subst e
  cases rv with
  | cons ra rn =>
    cases rn
    cases ra
    have ho := (show ObjOk X.prog X.w H s.heap a _ from I.hok a _ ha).1
    rcases q with ⟨ns, n, F, hl, q⟩ | ⟨L, es, ep, t, ks, F, hm, q⟩
    · have R := F _ _ ho
      have en := setI_len R
      obtain ⟨o', es, ep, t, ho', hex, hd, _, nd, _, hsb, hf, es', _⟩ := R
      rw [ho] at ho'; cases ho'
      refine call_len_set ho hex hd hf (by unfold scanBound at hsb; omega) ⟨.int es.size, H, I.kept (t' := s.toks + 1 + 1) fun _ _ h => h, ⟨_, rfl⟩, ?_⟩
      rw [es', en]; exact q
    · have hsz : es.size = L.length := by rw [← Array.length_toList, F.rows]; simp [rowsN]
      have few := F.few
      have hfit : t.fits es.size = true := by
        have h1 := F.tab.sz
        have h2 := F.room
        have h3 := F.tab.dm
        rw [List.length_map] at h1
        unfold SetTable.fits SetTable.fill
        rw [hsz, h1, h3]; simp; omega
      refine call_len_set ho F.ex F.dat hfit (by rw [hsz]; omega) ⟨.int es.size, H, I.kept (t' := s.toks + 1 + 1) fun _ _ h => h, ⟨_, rfl⟩, ?_⟩
      have : L.length = (dedupK ks).length := by
        have e1 : L.length = (L.map (·.2)).length := by simp
        rw [e1]
        exact List.Perm.length_eq ((List.perm_ext_iff_of_nodup F.nd (nodup_dedupK _)).mpr fun k => (hm k).trans mem_dedupK.symm)
      rw [hsz, this]; exact q
/-! ### the expressions -/
/-- set(x)'s keys -/
def setKs (st : Store) (x : D) : Option (List NestedKey) := match x with
  | .tup l => match intsD l with
    | some ns => if ns.length < 1000 then some (numsK ns) else none
    | none => none
  | x => match lsD st x with
    | some l => match keysT l with
      | some ks => if (dedupK ks).length < 64 then some ks else none
      | none => none
    | none => none
def sortedSet (st : Store) (x : D) : Option (List D) := match setKs st x with
  | some ks => if (dedupK ks).length < 64 ∧ alikeK ks = true ∧ (isTupD x = true ∨ ks.all someK = true) then some ((sortSetK ks).map ofKey) else none
  | none => none
def lenSet (st : Store) (x : D) : Option D := (setKs st x).map fun ks => .int (dedupK ks).length
def eL1 (f : Store → D → Option (List D)) (m : Ev) : Ev := fun env st => m env st >>= fun p => R.opt (f p.2 p.1) >>= fun l => .ok (.lst l, p.2)
end
section
variable {X : Cx} {E : XK} {pos : Pos}
/-- one of two readings -/
def rEi (r r' : List V → Hp → VK → Prop) : List V → Hp → VK → Prop := fun vs H Q => r vs H Q ∨ r' vs H Q
theorem c_or {c : Value} {r r' : List V → Hp → VK → Prop} (h : CallR X c r) (h' : CallR X c r') : CallR X c (rEi r r') := fun pins s σ H xs us Q I rv q => q.elim (fun q => h pins s σ H xs us Q I rv q) fun q => h' pins s σ H xs us Q I rv q
theorem setKs_of {Z : Wd} {H : Hp} {ρ : Rho} {st : Store} {x : D} {v : V} {ks : List NestedKey} {Q : VK} (hs : StR Z H ρ st) (r : Rep Z H ρ x v) (e : setKs st x = some ks)
    (q1 : isTupD x = true → ∀ p o ns n, ks = numsK ns → ns.length < 1000 → H p = none → SetI Z.w o (fun j => decide (j ∈ ns)) n → Q (.ref p) (upd H p (.ext fun h => h.get? p = some o)))
    (q2 : isTupD x = false → ∀ p o L es ep t, H p = none → SetF Z.P Z.w o L es ep t → (∀ q ∈ L, Rep Z H ρ (ofKey q.2) (.ref q.1)) → (∀ k, k ∈ L.map (·.2) ↔ k ∈ ks) → (∀ k ∈ ks, k.depth ≤ 7) → Q (.ref p) (upd H p (.ext fun h => h.get? p = some o))) : rEi (rSetI Z) (rSetN Z) [v] H Q := by
  have deep : ∀ {l : List D} {ks : List NestedKey}, keysT l = some ks → ∀ k ∈ ks, k.depth ≤ 7 := fun {l ks} h k m => by
    obtain ⟨hl, hk⟩ := keysT_at h
    obtain ⟨i, hi, e⟩ := List.getElem_of_mem m
    obtain ⟨k', h1, h2⟩ := hk i _ (List.getElem?_eq_getElem (by omega))
    rw [List.getElem?_eq_getElem hi, e] at h1
    cases h1
    exact (keyT_of h2).2.1
  unfold setKs at e
  split at e
  · rename_i l
    split at e
    · rename_i ns e1
      split at e
      · rename_i hl
        cases e
        exact .inl ⟨ρ, st, l, ns, hs, .one r, e1, hl, fun p o n hp F => q1 rfl p o ns n rfl hl hp F⟩
      · cases e
    · cases e
  · rename_i x' hx
    split at e
    · rename_i l e1
      split at e
      · rename_i ks' e2
        split at e
        · rename_i few
          cases e
          have ht : isTupD x = false := by
            cases h : isTupD x with
            | false => rfl
            | true => unfold lsD at e1; rw [if_pos h] at e1; cases e1
          exact .inr ⟨ρ, st, x, l, ks, hs, .one r, e1, e2, few, fun p o L es ep t hp F hL hm => q2 ht p o L es ep t hp F hL hm (deep e2)⟩
        · cases e
      · cases e
    · cases e
theorem de_sortedSet {e : Expr} {m : Ev} {p p2 q2 : Pos} (hc : X.calm = true) (hu : X.A.units + 64 < cLine) (hg : Gl X "sorted") (hm : X.mg "sorted" = none) (hg2 : Gl X "set") (hm2 : X.mg "set" = none) (he : DE X E e m) (hs : starEach [e] X.env = (false, eval e X.env) :: starEach [] X.env := by rfl)
    (hs2 : starEach [.Call (.Name "set" p2) [e] [] q2] X.env = (false, eval (.Call (.Name "set" p2) [e] [] q2) X.env) :: starEach [] X.env := by rfl) :
    DE X E (.Call (.Name "sorted" p) [.Call (.Name "set" p2) [e] [] q2] [] pos) (eL1 sortedSet m) :=
  pe_weak (pe_callB (c_or (c_sortedI hc) (c_sortedN hc hu)) hg hm (by rfl) (pa_cons (pe_callTy (c_or (c_setI hc) (c_setN hc hu)) hg2 hm2 (by rfl) (pa_cons he pa_nil hs) (by decide) (by decide) hs (by rfl)) pa_nil hs2) (by decide) (by decide) hs2 (by rfl)) fun σ H Q ⟨env, st, ρ, hen, hst, hp⟩ => ⟨env, st, ρ, hen, hst, PostX.seq hp fun p H1 ρ1 g1 hp1 hs1 v rv => by
    cases et : sortedSet p.2 p.1 with
    | none => simp only [et] at hp1; exact hp1.elim
    | some l =>
      simp only [et] at hp1
      unfold sortedSet at et
      split at et
      · rename_i ks e1
        split at et
        · rename_i cnd
          cases et
          refine setKs_of hs1 rv e1 (fun ht q o ns n en hl hq F => ?_) fun ht q o L es ep t hq F hL hmem dp => ?_
          · have g : Grow H1 (upd H1 q (.ext fun h => h.get? q = some o)) ρ1 ρ1 := .put hq
            have hs2 := hs1.put (o := .ext fun h => h.get? q = some o) hq
            exact .inl ⟨ρ1, p.2, q, o, ns, n, rfl, hs2, upd_same, F, by rw [← en]; exact cnd.1, fun z xs hR hz => q_lst hs2 (fun z H' g2 hs' r => hp1 H' ρ1 (g.trans g2) hs' z r) (by rw [en]; exact hR) hz⟩
          · have g : Grow H1 (upd H1 q (.ext fun h => h.get? q = some o)) ρ1 ρ1 := .put hq
            have hs2 := hs1.put (o := .ext fun h => h.get? q = some o) hq
            have hso : ks.all someK = true := cnd.2.2.elim (fun z => by rw [ht] at z; cases z) id
            exact .inr ⟨ρ1, p.2, q, o, L, es, ep, t, ks, rfl, hs2, upd_same, F, fun r m => ⟨(hL r m).grow g, dp _ ((hmem _).mp (List.mem_map.mpr ⟨r, m, rfl⟩))⟩, hmem, cnd.2.1, hso, fun z xs hR hz => q_lst hs2 (fun z H' g2 hs' r => hp1 H' ρ1 (g.trans g2) hs' z r) hR hz⟩
        · cases et
      · cases et⟩
theorem de_lenSet {e : Expr} {m : Ev} {p p2 q2 : Pos} (hc : X.calm = true) (hu : X.A.units + 64 < cLine) (hg : Gl X "len") (hm : X.mg "len" = none) (hg2 : Gl X "set") (hm2 : X.mg "set" = none) (he : DE X E e m) (hs : starEach [e] X.env = (false, eval e X.env) :: starEach [] X.env := by rfl)
    (hs2 : starEach [.Call (.Name "set" p2) [e] [] q2] X.env = (false, eval (.Call (.Name "set" p2) [e] [] q2) X.env) :: starEach [] X.env := by rfl) :
    DE X E (.Call (.Name "len" p) [.Call (.Name "set" p2) [e] [] q2] [] pos) (eB1 lenSet m) :=
  pe_weak (pe_callB c_lenS hg hm (by rfl) (pa_cons (pe_callTy (c_or (c_setI hc) (c_setN hc hu)) hg2 hm2 (by rfl) (pa_cons he pa_nil hs) (by decide) (by decide) hs (by rfl)) pa_nil hs2) (by decide) (by decide) hs2 (by rfl)) fun σ H Q ⟨env, st, ρ, hen, hst, hp⟩ => ⟨env, st, ρ, hen, hst, PostX.seq hp fun p H1 ρ1 g1 hp1 hs1 v rv => by
    unfold lenSet at hp1
    cases e1 : setKs p.2 p.1 with
    | none => rw [e1] at hp1; exact hp1.elim
    | some ks =>
      rw [e1] at hp1
      have hp1 : PostX (zx X) H1 ρ1 (.ok (.int (dedupK ks).length, p.2)) (BE (zx X) Q) E := hp1
      refine setKs_of hs1 rv e1 (fun ht q o ns n en hl hq F => ?_) fun ht q o L es ep t hq F hL hmem dp => ?_
      · have g : Grow H1 (upd H1 q (.ext fun h => h.get? q = some o)) ρ1 ρ1 := .put hq
        have hs2 := hs1.put (o := .ext fun h => h.get? q = some o) hq
        exact ⟨q, o, rfl, upd_same, .inl ⟨ns, n, F, hl, hp1 _ ρ1 g hs2 _ (by rw [en]; rfl)⟩⟩
      · have g : Grow H1 (upd H1 q (.ext fun h => h.get? q = some o)) ρ1 ρ1 := .put hq
        have hs2 := hs1.put (o := .ext fun h => h.get? q = some o) hq
        exact ⟨q, o, rfl, upd_same, .inr ⟨L, es, ep, t, ks, F, hmem, hp1 _ ρ1 g hs2 _ rfl⟩⟩⟩
/-! ### sorted(a list), sorted(a dict with few whole numbers as keys) -/
def pyK (d : D) : PyData := toPy d
def leD : D → D → Bool := W.dataLe false toPy
def alikeD (l : List D) : Bool := l.all fun a => l.all fun b => W.alike (toPy a) (toPy b)
def someD : D → Bool
  | .tup (_ :: _) => true
  | _ => false
def flatD : D → Bool
  | .tup _ => false
  | .non => false
  | _ => true
def bSorted : Lf := fun st ds => match ds with
  | [x] => match lsD st x with
    | some l => if okDs l = true ∧ l.length ≤ LINE ∧ alikeD l = true ∧ (l.all someD = true ∨ l.all flatD = true) then some (l.mergeSort leD) else none
    | none => match dctD st x with
      | some p => match intsD p.1 with
        | some ns => if ns.length < 64 ∧ (dedupK (numsK ns)).length = ns.length ∧ 0 < ns.length then some ((sortSetK (numsK ns)).map ofKey) else none
        | none => none
      | none => none
  | _ => none
end
end Px
set_option maxRecDepth 20000
/-! P17: sorted, list, tuple of a range. -/
namespace Px
open PySem PySem.Spec
open L2
section
variable {X : Cx} {pins : List (Addr × Obj)} {σ : L2.St} {H : Hp} {s : Shared} {ρ : Rho} {st : Store}
def bSortL : Lf := fun st ds => match ds with
  | [x] => match lsD st x with
    | some l => if okDs l = true ∧ l.length ≤ LINE ∧ alikeD l = true ∧ (l.all someD = true ∨ l.all flatD = true) then some (l.mergeSort leD) else none
    | none => none
  | _ => none
def bSortD : Lf := fun st ds => match ds with
  | [x] => match dctD st x with
    | some p => match intsD p.1 with
      | some ns => if ns.length < 64 ∧ (dedupK (numsK ns)).length = ns.length ∧ 0 < ns.length then some ((sortSetK (numsK ns)).map ofKey) else none
      | none => none
    | none => none
  | _ => none
theorem toPys_map : ∀ l : List D, toPys l = l.map toPy
  | [] => rfl
  | d :: l => by show toPy d :: toPys l = _; rw [toPys_map l]; rfl
theorem depth_at {l : List D} {d : D} (h : d ∈ l) : (toPy d).depth ≤ PyData.depthAll (toPys l) := by
  induction l with
  | nil => cases h
  | cons e l ih =>
    show _ ≤ PyData.depthAll (toPy e :: toPys l)
    simp only [PyData.depthAll]
    rcases List.mem_cons.mp h with rfl | h
    · omega
    · have := ih h; omega
theorem isPy_at : ∀ {l : List D} {d : D}, isPys l = true → d ∈ l → isPy d = true
  | e :: l, d, h, m => by
    have h' : (isPy e && isPys l) = true := h
    rw [Bool.and_eq_true] at h'
    rcases List.mem_cons.mp m with rfl | m
    · exact h'.1
    · exact isPy_at h'.2 m
theorem zip_each {Z : Wd} {H : Hp} {ρ : Rho} : ∀ {l : List D} {xs : List V} {us : List Value}, Reps Z H ρ l xs → Vals xs us → W.EachIs (fun u (b : D × V) => RelV b.2 u ∧ Rep Z H ρ b.1 b.2) us (l.zip xs)
  | [], xs, us, r, v => by
    obtain rfl : xs = [] := r
    cases v; exact .nil
  | d :: l, xs, us, ⟨x, xr, e, h1, h2⟩, v => by
    subst e
    cases v with
    | cons v1 v2 => exact .cons ⟨v1, h1⟩ (zip_each h2 v2)
theorem unzip_each {Z : Wd} {H : Hp} {ρ : Rho} : ∀ {bs : List (D × V)} {us : List Value}, W.EachIs (fun u (b : D × V) => RelV b.2 u ∧ Rep Z H ρ b.1 b.2) us bs → Reps Z H ρ (bs.map (·.1)) (bs.map (·.2)) ∧ Vals (bs.map (·.2)) us
  | [], us, h => by cases h; exact ⟨rfl, .nil⟩
  | b :: bs, us, h => by
    cases h with
    | cons h1 h2 =>
      obtain ⟨r, v⟩ := unzip_each h2
      exact ⟨⟨b.2, _, rfl, h1.2, r⟩, .cons h1.1 v⟩
theorem each_and {α β : Type} {R : α → β → Prop} {S : α → β → Prop} : ∀ {as : List α} {bs : List β}, W.EachIs R as bs → (∀ a b, b ∈ bs → R a b → S a b) → W.EachIs S as bs
  | _, _, .nil, _ => .nil
  | _, _, .cons h t, c => .cons (c _ _ List.mem_cons_self h) (each_and t fun a b m => c a b (List.mem_cons_of_mem _ m))
theorem c_sortL (hu : X.A.units + 64 < cLine) : CallR X (.builtin "sorted") (rN (zx X) bSortL) := by
  intro pins s σ H vs us Q I rv ⟨ρ, st, ds, l', hs, r, e, q⟩
  unfold bSortL at e
  split at e
  · rename_i x
    split at e
    · rename_i l e1
      split at e
      · rename_i cnd
        cases e
        obtain ⟨hok, hlen, hal, hso⟩ := cnd
        obtain ⟨v, rfl, r1⟩ := reps1 r
        obtain ⟨a, xs, rfl, hq, rx⟩ := r1.ls hs e1
        cases rv with
        | cons ra rn =>
          cases rn
          cases ra
          obtain ⟨its, vx, pl, hz⟩ := I.list hq
          have hd60 := okDs_dep hok
          have hpy := okDs_py hok
          have hzl : (l.zip xs).map Prod.fst = l := List.map_fst_zip (by rw [rx.len]; omega)
          have hmem : ∀ b ∈ l.zip xs, b.1 ∈ l := fun b m => (List.of_mem_zip m).1
          have henc : (l.zip xs).map (fun b => toPy b.1) = l.map toPy := by
            have e0 : (fun b : D × V => toPy b.1) = toPy ∘ Prod.fst := rfl
            rw [e0, ← List.map_map, hzl]
          refine W.sorted_data (β := D × V) (enc := fun b => toPy b.1) (R := fun u b => RelV b.2 u ∧ Rep (zx X) H ρ b.1 b.2) (vs := its) (bs := l.zip xs) pl.isList (zip_each rx vx) (each_and (zip_each rx vx) fun u b m h => ?_) ?_ ?_ ?_ (fun b m => ?_) fun out ol oe => ?_
          · exact Dp.reads I _ _ _ (Rep.dp (isPy_at hpy (hmem b m)) h.2) h.1
          · rw [henc]
            intro d hd d' hd'
            obtain ⟨y, hy, rfl⟩ := List.mem_map.mp hd
            obtain ⟨y', hy', rfl⟩ := List.mem_map.mp hd'
            exact List.all_eq_true.mp (List.all_eq_true.mp hal y hy) y' hy'
          · rw [henc]
            rcases hso with hso | hso
            · left
              intro d hd
              obtain ⟨y, hy, rfl⟩ := List.mem_map.mp hd
              have h := List.all_eq_true.mp hso y hy
              unfold someD at h
              split at h
              · exact ⟨_, _, rfl⟩
              · cases h
            · right
              intro d hd
              obtain ⟨y, hy, rfl⟩ := List.mem_map.mp hd
              have h := List.all_eq_true.mp hso y hy
              cases y <;> first | (cases h; done) | (refine ⟨?_, ?_⟩ <;> simp [toPy])
          · rw [sizeLine_eq, List.length_zip]
            have : LINE = 16777216 := rfl
            omega
          · have h1 := depth_at (hmem b m)
            show X.A.units + 2 + (toPy b.1).depth < cLine
            omega
          · obtain ⟨r2, v2⟩ := unzip_each oe
            have hfst : ((l.zip xs).mergeSort (W.dataLe false fun b => toPy b.1)).map Prod.fst = l.mergeSort leD := by
              have := W.sort_maps (r := W.dataLe false fun b : D × V => toPy b.1) (s := leD) Prod.fst (l := l.zip xs) fun a _ b _ => rfl
              rw [this, hzl]
            have r2' : Reps (zx X) H ρ (((l.zip xs).mergeSort (W.dataLe false fun b => toPy b.1)).map Prod.fst) (((l.zip xs).mergeSort (W.dataLe false fun b => toPy b.1)).map Prod.snd) := r2
            rw [hfst] at r2'
            have hpn : H (s.heap.objs.size + 1) = none := I.hok.fresh (Nat.le_succ _)
            obtain ⟨c, hc⟩ := PyProof.Rows.sortedAll_at s.heap its out.toArray
            refine ⟨.ref (s.heap.objs.size + 1), _, I.laid (t' := s.toks) (fun b u e => PyProof.Rows.sortedAll_old e) (Nat.le_succ _) ?_, rfl, q _ _ r2' hpn⟩
            refine ⟨?_, out, c, v2, hc⟩
            rw [r2'.len, (List.mergeSort_perm _ _).length_eq, sizeLine_eq]
            exact hlen
      · cases e
    · cases e
  · cases e
theorem c_sortD (hc : X.calm = true) : CallR X (.builtin "sorted") (rN (zx X) bSortD) := CallR.weak (call_sortedDI hc) fun vs H Q ⟨ρ, st, ds, l', hs, r, e, q⟩ => by
  unfold bSortD at e
  split at e
  · rename_i x
    split at e
    · rename_i p e1
      split at e
      · rename_i ns e2
        split at e
        · rename_i cnd
          cases e
          obtain ⟨h64, hdd, hpos⟩ := cnd
          obtain ⟨v, rfl, r1⟩ := reps1 r
          obtain ⟨a, rfl, hd⟩ := r1.dict hs e1
          have ek := intsD_eq e2
          rcases hd with ⟨kvs, ha, ek2, rv⟩ | ⟨o, es, ep, xs, vvs, _, _, _, _, _, _, _, _, _, _, hrk, _⟩
          · have hmap : ∀ (kvs : List (Key × V)) (ns : List Int), kvs.map (fun p => keyD p.1) = ns.map D.int → kvs.map (fun x => x.1) = ns.map Sum.inl := by
              intro kvs
              induction kvs with
              | nil => intro ns h; cases ns with
                | nil => rfl
                | cons _ _ => cases h
              | cons kv kvs ih =>
                intro ns h
                cases ns with
                | nil => cases h
                | cons n ns =>
                  simp only [List.map_cons, List.cons.injEq] at h ⊢
                  refine ⟨?_, ih ns h.2⟩
                  have h1 := h.1
                  cases hk : kv.1 with
                  | inl i => rw [hk] at h1; simp only [keyD] at h1; cases h1; rfl
                  | inr y => rw [hk] at h1; simp only [keyD] at h1; cases h1
            refine ⟨a, kvs, ns, rfl, .inl ha, hmap kvs ns (by rw [← ek2, ek]), h64, fun ys p pm pw hp => ?_⟩
            have hnd : ns.Nodup := by
              have hl : (dedupK (numsK ns)).length = (numsK ns).length := by rw [hdd]; unfold numsK; simp
              have hsub : ∀ ks : List NestedKey, (dedupK ks).length ≤ ks.length := by
                intro ks
                induction ks with
                | nil => exact Nat.le_refl _
                | cons k ks ih =>
                  simp only [dedupK, List.length_cons]
                  have := List.length_filter_le (fun j => decide (j ≠ k)) (dedupK ks)
                  omega
              have hnk : ∀ ks : List NestedKey, (dedupK ks).length = ks.length → ks.Nodup := by
                intro ks
                induction ks with
                | nil => intro _; exact List.nodup_nil
                | cons k ks ih =>
                  intro h
                  simp only [dedupK, List.length_cons] at h
                  have h1 := List.length_filter_le (fun j => decide (j ≠ k)) (dedupK ks)
                  have h2 := hsub ks
                  have h3 : (dedupK ks).length = ks.length := by omega
                  refine List.nodup_cons.mpr ⟨fun m => ?_, ih h3⟩
                  have m' := mem_dedupK.mpr m
                  have h4 : ((dedupK ks).filter fun j => decide (j ≠ k)).length < (dedupK ks).length := by
                    refine List.length_filter_lt_length_iff_exists.mpr ⟨k, m', ?_⟩
                    simp
                  omega
              have := hnk _ hl
              unfold numsK at this
              rw [List.nodup_iff_pairwise_ne, List.pairwise_map] at this
              rw [List.nodup_iff_pairwise_ne]
              exact this.imp fun h e => h (by rw [e])
            have hys : ys.Nodup := pm.nodup_iff.mpr hnd
            have pw2 : ys.Pairwise (· < ·) := by
              rw [List.nodup_iff_pairwise_ne] at hys
              exact (pw.and hys).imp fun h => by omega
            have hu : numsK ys = sortSetK (numsK ns) := nums_uniq pw2 fun k => pm.mem_iff
            exact q p _ (by rw [← hu, ofKey_nums]; exact ints_reps) hp
          · exfalso
            rw [ek] at hrk
            cases ns with
            | nil => exact absurd hpos (by simp)
            | cons n ns =>
              obtain ⟨x, r, e, h1, _⟩ := hrk
              cases xs with
              | nil => cases e
              | cons y ys =>
                rw [List.map_cons] at e
                injection e with e _
                rw [← e] at h1
                cases h1
        · cases e
      · cases e
    · cases e
  · cases e
end
end Px
set_option maxRecDepth 20000
/-! P18: append, dicts with whole numbers or texts as keys: {}, dict(d), dict(pairs), update, != {}. -/
namespace Px
open PySem PySem.Spec
open L2
section
variable {X : Cx} {E : XK} {pos : Pos}
/-! ### xs.append(e) -/
def dApp (x d : D) (st : Store) : Option Store := match x with
  | .mref n => match st[n]? with
    | some (.lst l) => if l.length < LINE then some (st.set n (.lst (l ++ [d]))) else none
    | _ => none
  | _ => none
def lstAt (st : Store) (x : D) : Bool := match x with
  | .mref n => match st[n]? with
    | some (.lst _) => true
    | _ => false
  | _ => false
def eApp (o a : Ev) : Ev := fun env st => o env st >>= fun p => if lstAt p.2 p.1 = true then a env p.2 >>= fun q => R.opt (dApp p.1 q.1 q.2) >>= fun s => .ok (.non, s) else .stuck
theorem de_app {o e : Expr} {mo me : Ev} {apos : Pos} (ho : DE X E o mo) (he : DE X E e me) (h1 : attributeBase o "append" X.env (eval o X.env) = eval o X.env := by rfl)
    (h2 : ((((backTo pos (starEach [e] X.env)).all fun x => !x.1) && (backToKw pos (keywordEach [] X.env)).all fun x => x.1.isSome) && decide (([e].length + ([] : List Keyword).length + if ([] : List Keyword).isEmpty = true then 0 else 1) < 30)) = true := by rfl)
    (h3 : (apos.endLine == pos.line) = true := by rfl) (h4 : starEach [e] X.env = (false, eval e X.env) :: starEach [] X.env := by rfl) (h5 : ((backTo pos (starEach [] X.env)).any fun x => x.1) = false := by rfl) :
    DE X E (.Call (.Attribute o "append" apos) [e] [] pos) (eApp mo me) :=
  pe_weak (pe_bm F.plainAttrs_list F.slot_list_append F.type_list_append mt_append ho (pa_cons he pa_nil h4) h1 h2 h3 h4 h5) fun σ H Q ⟨env, st, ρ, hen, hst, hp⟩ => ⟨env, st, ρ, hen, hst, PostX.seq hp fun p H1 ρ1 g1 hp1 hs1 v rv => by
    split at hp1
    · rename_i hl
      unfold lstAt at hl
      split at hl
      · rename_i x n e1
        split at hl
        · rename_i l e2
          obtain ⟨a, xs, ea, hq, r⟩ := hs1.lst e2
          rw [e1] at rv
          obtain ⟨b, rfl, eb⟩ := id rv
          rw [ea] at eb; cases eb
          refine ⟨.inl ⟨rfl, xs, .of hq⟩, env, p.2, ρ1, hen.grow g1, hs1, ?_⟩
          have hp1 : PostX (zx X) H1 ρ1 (me env p.2 >>= fun q => R.opt (dApp p.1 q.1 q.2) >>= fun s => .ok (.non, s)) (BE (zx X) Q) E := hp1
          refine PostX.seq hp1 fun q H2 ρ2 g2 hp2 hs2 u ru => ?_
          rw [e1] at hp2
          cases e3 : dApp (.mref n) q.1 q.2 with
          | none => simp only [e3] at hp2; exact hp2.elim
          | some s =>
            simp only [e3] at hp2
            unfold dApp at e3
            dsimp only at e3
            split at e3
            · rename_i l2 e4
              split at e3
              · rename_i hlen
                cases e3
                obtain ⟨a2, xs2, ea2, hq2, r2⟩ := hs2.lst e4
                have ea3 := g2.pre n a ea
                rw [ea2] at ea3; cases ea3
                refine ⟨a, xs2, u, rfl, rfl, hq2, by rw [r2.len, line_eq]; exact hlen, ?_⟩
                have g3 : Grow H2 (upd H2 a (.lst (xs2 ++ [u]))) ρ2 ρ2 := .write (List.mem_of_getElem? ea2) trivial
                exact hp2 _ ρ2 g3 (hs2.write ea2 trivial ⟨_, upd_same, (r2.grow g3).append (.one (ru.grow g3))⟩) _ rfl
              · cases e3
            · cases e3
        · cases hl
      · cases hl
    · exact hp1.elim⟩
/-! ### dicts -/
def leafs (ks : List D) : Bool := ks.all isLeaf
theorem dict_dK {Z : Wd} {H : Hp} {ρ : Rho} {a : Addr} {ks : List D} {vs : List D} (h : DictC Z H a ks (Reps Z H ρ vs) (Reps Z H ρ ks)) (hl : leafs ks = true) : ∃ kvs : List (Key × V), H a = some (.dK kvs) ∧ ks = kvs.map (fun p => keyD p.1) ∧ Reps Z H ρ vs (kvs.map (·.2)) := by
  rcases h with ⟨kvs, ha, e, r⟩ | ⟨o, es, ep, xs, vvs, _, _, _, _, _, _, _, _, _, _, hrk, e, ne⟩
  · exact ⟨kvs, ha, e, r⟩
  · exfalso
    cases xs with
    | nil => exact ne rfl
    | cons x xs =>
      rw [e] at hrk hl
      obtain ⟨y, r, e2, q, _⟩ := hrk
      have q : Rep Z H ρ (ofKey x.1) y := q
      simp only [List.map_cons, List.cons.injEq] at e2
      obtain ⟨rfl, _⟩ := e2
      have hl' : (isLeaf (ofKey x.1) && leafs (xs.map fun x => ofKey x.1)) = true := hl
      rw [Bool.and_eq_true] at hl'
      cases q2 : x.1 with
      | none => rw [q2] at hl'; cases hl'.1
      | num i => rw [q2] at q; cases q
      | text z => rw [q2] at q; cases q
      | tup z => rw [q2] at hl'; cases hl'.1
def dMerge : List D × List D → List D → List D → List D × List D
  | p, k :: ks, v :: vs => dMerge (dSet p.1 p.2 k v) ks vs
  | p, _, _ => p
theorem nd_put {kvs : List (Key × V)} {k : Key} {v : V} (h : (kvs.map (·.1)).Nodup) : ((putK kvs k v).map (·.1)).Nodup := by
  by_cases hk : k ∈ kvs.map (·.1)
  · unfold putK
    have : (kvs.any fun kv => decide (kv.1 = k)) = true := by
      obtain ⟨p, hp, e⟩ := List.mem_map.mp hk
      exact List.any_eq_true.mpr ⟨p, hp, decide_eq_true e⟩
    rw [if_pos this, List.map_map]
    have e : ((fun x : Key × V => x.1) ∘ fun kv : Key × V => if kv.1 = k then (kv.1, v) else kv) = fun x => x.1 := by
      funext x
      simp only [Function.comp]
      split <;> rfl
    rw [e]; exact h
  · unfold putK
    have : ¬ (kvs.any fun kv => decide (kv.1 = k)) = true := fun z => by
      obtain ⟨p, hp, e⟩ := List.any_eq_true.mp z
      exact hk (List.mem_map.mpr ⟨p, hp, of_decide_eq_true e⟩)
    rw [if_neg this, List.map_append]
    refine List.nodup_append.mpr ⟨h, by simp, fun a ha b hb => ?_⟩
    have hb : b = k := by simpa using hb
    subst hb
    rintro rfl
    exact hk ha
theorem merge_leaf {Z : Wd} {H : Hp} {ρ : Rho} : ∀ (more : List (Key × V)) (kvs : List (Key × V)) (vs ws : List D), (kvs.map (·.1)).Nodup → Reps Z H ρ vs (kvs.map (·.2)) → Reps Z H ρ ws (more.map (·.2)) →
    (dMerge (kvs.map (fun p => keyD p.1), vs) (more.map fun p => keyD p.1) ws).1 = (mergeK kvs more).map (fun p => keyD p.1) ∧ Reps Z H ρ (dMerge (kvs.map (fun p => keyD p.1), vs) (more.map fun p => keyD p.1) ws).2 ((mergeK kvs more).map (·.2))
  | [], kvs, vs, ws, _, r, _ => ⟨rfl, r⟩
  | m :: more, kvs, vs, [], _, _, r => by cases (show (m :: more).map (·.2) = [] from r)
  | m :: more, kvs, vs, w :: ws, hn, r, ⟨x, xr, e, h1, h2⟩ => by
    simp only [List.map_cons, List.cons.injEq] at e
    obtain ⟨rfl, rfl⟩ := e
    obtain ⟨i1, i2⟩ := set_leaf m.1 h1 kvs vs hn r
    have e1 : dMerge (kvs.map (fun p => keyD p.1), vs) ((m :: more).map fun p => keyD p.1) (w :: ws) = dMerge ((putK kvs m.1 m.2).map (fun p => keyD p.1), (dSet (kvs.map fun p => keyD p.1) vs (keyD m.1) w).2) (more.map fun p => keyD p.1) ws := by
      rw [← i1]; rfl
    rw [e1]
    exact merge_leaf more (putK kvs m.1 m.2) _ ws (nd_put hn) i2 h2
/-- what dict(x) gives: keys, values -/
abbrev Df := Store → List D → Option (List D × List D)
def rDN (Z : Wd) (f : Df) : List V → Hp → VK → Prop := fun vs H Q => ∃ ρ st ds q, StR Z H ρ st ∧ Reps Z H ρ ds vs ∧ f st ds = some q ∧ ∀ p (kvs : List (Key × V)), q.1 = kvs.map (fun p => keyD p.1) → Reps Z H ρ q.2 (kvs.map (·.2)) → H p = none → Q (.ref p) (upd H p (.dK kvs))
def eD (f : Df) (a : Av) : Ev := fun env st => a env st >>= fun p => R.opt (f p.2 p.1) >>= fun q => .ok (.dct q.1 q.2, p.2)
def eDN (f : Df) (a : Av) : Ev := fun env st => a env st >>= fun p => R.opt (f p.2 p.1) >>= fun q => .ok (.mref p.2.length, p.2 ++ [.dct q.1 q.2])
/-- a new dict that may not change, that may -/
theorem q_dct {Z : Wd} {H : Hp} {ρ : Rho} {st : Store} {ks vs : List D} {kvs : List (Key × V)} {p : Addr} {Q : VK} (hs : StR Z H ρ st) (q : ∀ z H', Grow H H' ρ ρ → StR Z H' ρ st → Rep Z H' ρ (.dct ks vs) z → Q z H') (e : ks = kvs.map (fun p => keyD p.1)) (r : Reps Z H ρ vs (kvs.map (·.2))) (hp : H p = none) : Q (.ref p) (upd H p (.dK kvs)) := by
  have g : Grow H (upd H p (.dK kvs)) ρ ρ := .put hp
  refine q _ _ g (hs.put hp) ⟨p, rfl, fun m => ?_, .inl ⟨kvs, upd_same, e, r.grow g⟩⟩
  rcases m with m | m
  · exact hs.tracked (.inl m) hp
  · exact hs.tracked (.inr m) hp
theorem q_dctN {Z : Wd} {H : Hp} {ρ : Rho} {st : Store} {ks vs : List D} {kvs : List (Key × V)} {p : Addr} {Q : VK} (hs : StR Z H ρ st) (q : ∀ z H' ρ', Grow H H' ρ ρ' → StR Z H' ρ' (st ++ [.dct ks vs]) → Rep Z H' ρ' (.mref st.length) z → Q z H') (e : ks = kvs.map (fun p => keyD p.1)) (r : Reps Z H ρ vs (kvs.map (·.2))) (hp : H p = none) : Q (.ref p) (upd H p (.dK kvs)) :=
  q _ _ (ρ.push p) (.putM hp) (hs.putM hp (.inl ⟨kvs, upd_same, e, r.grow (.putM hp)⟩)) ⟨p, rfl, by show (ρ.own ++ [p])[st.length]? = _; rw [hs.len, List.getElem?_append_right (Nat.le_refl _)]; simp⟩
def bDcopy : Df := fun st ds => match ds with
  | [x] => match dctD st x with
    | some p => if leafs p.1 = true then some p else none
    | none => none
  | _ => none
theorem c_dcopy : CallR X (.type "dict") (rDN (zx X) bDcopy) := CallR.weak call_dictD fun vs H Q ⟨ρ, st, ds, q', hs, r, e, q⟩ => by
  unfold bDcopy at e
  split at e
  · rename_i x
    split at e
    · rename_i p e1
      split at e
      · rename_i hl
        cases e
        obtain ⟨v, rfl, r1⟩ := reps1 r
        obtain ⟨a, rfl, hd⟩ := r1.dict hs e1
        obtain ⟨kvs, ha, ek, rv⟩ := dict_dK hd hl
        exact ⟨a, kvs, rfl, .inl ha, fun p hp => q p kvs ek rv hp⟩
      · cases e
    · cases e
  · cases e
/-- a list of pairs -/
def pairsD : List D → Option (List D × List D)
  | [] => some ([], [])
  | .tup [k, v] :: l => if isLeaf k = true then (pairsD l).map fun p => (k :: p.1, v :: p.2) else none
  | _ :: _ => none
def bDpairs : Df := fun st ds => match ds with
  | [x] => match lsD st x with
    | some l => (pairsD l).map fun p => dMerge ([], []) p.1 p.2
    | none => none
  | _ => none
theorem pairs_of {Z : Wd} {H : Hp} {ρ : Rho} : ∀ {l : List D} {xs : List V} {p : List D × List D}, Reps Z H ρ l xs → pairsD l = some p → ∃ (ps : List Addr) (kvs : List (Key × V)), xs = ps.map V.ref ∧ Paired (fun p kv => SqT Z.K H p [kV kv.1, kv.2]) ps kvs ∧ p.1 = kvs.map (fun p => keyD p.1) ∧ Reps Z H ρ p.2 (kvs.map (·.2))
  | [], xs, p, r, e => by
    cases e
    exact ⟨[], [], r, .nil, rfl, rfl⟩
  | d :: l, xs, p, ⟨x, xr, ex, h1, h2⟩, e => by
    unfold pairsD at e
    split at e
    · cases ‹_ :: _ = []›
    · rename_i k v l' eq
      injection eq with e1 e2
      subst e1 e2
      split at e
      · rename_i hk
        cases e3 : pairsD l with
        | none => rw [e3] at e; cases e
        | some p' =>
          rw [e3] at e
          cases e
          obtain ⟨ps, kvs, i1, i2, i3, i4⟩ := pairs_of h2 e3
          obtain ⟨a, ys, rfl, hq, r⟩ := h1
          obtain ⟨y1, r1, rfl, q1, r2⟩ := r
          obtain ⟨y2, rfl, q2⟩ := reps1 r2
          obtain ⟨key, ek, ey⟩ : ∃ key : Key, k = keyD key ∧ y1 = kV key := by
            cases k with
            | int i => exact ⟨.inl i, rfl, q1⟩
            | str z => exact ⟨.inr z, rfl, q1⟩
            | _ => cases hk
          subst ey ek
          exact ⟨a :: ps, (key, y2) :: kvs, by rw [ex, i1]; rfl, .cons (sqT_of hq) i2, by rw [List.map_cons, ← i3], y2, _, rfl, q2, i4⟩
      · cases e
    · cases e
theorem c_dpairs (hc : X.calm = true) : CallR X (.type "dict") (rDN (zx X) bDpairs) := CallR.weak (call_dictP hc) fun vs H Q ⟨ρ, st, ds, q', hs, r, e, q⟩ => by
  unfold bDpairs at e
  split at e
  · rename_i x
    split at e
    · rename_i l e1
      cases e2 : pairsD l with
      | none => rw [e2] at e; cases e
      | some p =>
        rw [e2] at e
        cases e
        obtain ⟨v, rfl, r1⟩ := reps1 r
        obtain ⟨a, xs, rfl, hq, rx⟩ := r1.ls hs e1
        obtain ⟨ps, kvs, rfl, i2, i3, i4⟩ := pairs_of rx e2
        obtain ⟨m1, m2⟩ := merge_leaf kvs [] [] p.2 List.nodup_nil rfl i4
        rw [List.map_nil, ← i3] at m1 m2
        exact ⟨a, ps, kvs, rfl, hq, i2, fun z hz => q z _ m1 m2 hz⟩
    · cases e
  · cases e
theorem tCB_D {f : Df} {m : Av} {σ : L2.St} {H : Hp} {Q : VK} (h : tE (zx X) E (eD f m) σ H Q) : tCB (rDN (zx X) f) (tA (zx X) E m) σ H Q := by
  obtain ⟨env, st, ρ, he, hst, hp⟩ := h
  refine ⟨env, st, ρ, he, hst, PostX.seq hp fun p H1 ρ1 g1 hp1 hs1 vs rv => ?_⟩
  cases e : f p.2 p.1 with
  | none => simp only [e] at hp1; exact hp1.elim
  | some q =>
    simp only [e] at hp1
    exact ⟨ρ1, p.2, p.1, q, hs1, rv, e, fun z kvs ek r hq => q_dct hs1 (fun z H' g hs' r => hp1 H' ρ1 g hs' z r) ek r hq⟩
theorem tCB_DN {f : Df} {m : Av} {σ : L2.St} {H : Hp} {Q : VK} (h : tE (zx X) E (eDN f m) σ H Q) : tCB (rDN (zx X) f) (tA (zx X) E m) σ H Q := by
  obtain ⟨env, st, ρ, he, hst, hp⟩ := h
  refine ⟨env, st, ρ, he, hst, PostX.seq hp fun p H1 ρ1 g1 hp1 hs1 vs rv => ?_⟩
  cases e : f p.2 p.1 with
  | none => simp only [e] at hp1; exact hp1.elim
  | some q =>
    simp only [e] at hp1
    exact ⟨ρ1, p.2, p.1, q, hs1, rv, e, fun z kvs ek r hq => q_dctN (Q := Q) hs1 (fun z H' ρ' g hs' r => hp1 H' ρ' g hs' z r) ek r hq⟩
theorem de_dct {p : Pos} {e : Expr} {m : Av} {f : Df} (c : CallR X (.type "dict") (rDN (zx X) f)) (hg : Gl X "dict") (hm : X.mg "dict" = none) (ha : DA X E [e] m) (he : starEach [e] X.env = (false, eval e X.env) :: starEach [] X.env := by rfl) (hpl : (backTo pos (starEach [] X.env)).any (·.1) = false := by rfl) :
    DE X E (.Call (.Name "dict" p) [e] [] pos) (eD f m) := pe_weak (pe_callTy c hg hm (by rfl) ha (by decide) (by decide) he hpl) fun _ _ _ h => tCB_D h
theorem de_dctN {p : Pos} {e : Expr} {m : Av} {f : Df} (c : CallR X (.type "dict") (rDN (zx X) f)) (hg : Gl X "dict") (hm : X.mg "dict" = none) (ha : DA X E [e] m) (he : starEach [e] X.env = (false, eval e X.env) :: starEach [] X.env := by rfl) (hpl : (backTo pos (starEach [] X.env)).any (·.1) = false := by rfl) :
    DE X E (.Call (.Name "dict" p) [e] [] pos) (eDN f m) := pe_weak (pe_callTy c hg hm (by rfl) ha (by decide) (by decide) he hpl) fun _ _ _ h => tCB_DN h
/-- {} -/
def eDE : Ev := fun _ st => .ok (.dct [] [], st)
def eDEN : Ev := fun _ st => .ok (.mref st.length, st ++ [.dct [] []])
theorem de_dE : DE X E (.Dict [] [] pos) eDE := pe_weak pe_dnewK fun σ H Q ⟨env, st, ρ, he, hs, hp⟩ => fun p hq => q_dct (kvs := []) hs (fun z H' g hs' r => hp H' ρ g hs' z r) rfl rfl hq
theorem de_dEN : DE X E (.Dict [] [] pos) eDEN := pe_weak pe_dnewK fun σ H Q ⟨env, st, ρ, he, hs, hp⟩ => fun p hq => q_dctN (kvs := []) (Q := Q) hs (fun z H' ρ' g hs' r => hp H' ρ' g hs' z r) rfl rfl hq
/-- a dict that is not empty, compared with {} -/
def dNeE : F2 := fun st x y => match dctD st x, y with
  | some p, .dct [] [] => if leafs p.1 = true then some (.bl (!p.1.isEmpty)) else none
  | _, _ => none
theorem o_neE (hu : X.A.units + 64 < cLine) : OpR X (compareOp .NotEq) (rD (zx X) dNeE) := opR_of fun {pins s σ H ρ st x y v u d xv yv Q} I hs h1 r1 h2 r2 e q => by
  unfold dNeE at e
  split at e
  · rename_i p e1
    split at e
    · rename_i hl
      cases e
      obtain ⟨a, rfl, hd⟩ := h1.dict hs e1
      obtain ⟨kvs, ha, ek, rv⟩ := dict_dK hd hl
      obtain ⟨b, rfl, hd2⟩ := h2.dict hs (p := ([], [])) rfl
      obtain ⟨kvs2, hb, ek2, rv2⟩ := dict_dK hd2 rfl
      have e0 : kvs2 = [] := by cases kvs2 with
        | nil => rfl
        | cons _ _ => cases ek2
      subst e0
      cases r1; cases r2
      obtain ⟨z1, y1, us, kv1, dd1⟩ := dk_of I.hok ha
      obtain ⟨z2, y2, us2, kv2, dd2⟩ := dk_of I.hok hb
      cases kv2
      have hl1 : us.length = kvs.length := kv1.length.symm
      refine W.keq_ne (r := true) y1 y2 dd1 dd2 (by omega) (fun hz => ?_) ?_
      · have : us = [] := List.eq_nil_of_length_eq_zero hz
        subst this
        exact .nil
      · refine ⟨.bl (!p.1.isEmpty), H, I, ?_, q _ H .refl hs rfl⟩
        show Value.bool _ = Value.bool _
        rw [ek]
        cases kvs with
        | nil => rw [hl1]; rfl
        | cons _ _ => rw [hl1]; rfl
    · cases e
  · cases e
/-! ### d.update(e) -/
def notRef (n : Nat) : D → Bool
  | .mref m => m != n
  | _ => true
def dUpd (x y : D) (st : Store) : Option Store := match x with
  | .mref n => match st[n]? with
    | some (.dct ks vs) => match dctD st y with
      | some p => if leafs ks = true ∧ leafs p.1 = true ∧ ks.length + p.1.length ≤ LINE ∧ notRef n y = true then some (st.set n (.dct (dMerge (ks, vs) p.1 p.2).1 (dMerge (ks, vs) p.1 p.2).2)) else none
      | none => none
    | _ => none
  | _ => none
def dctAt (st : Store) (x : D) : Bool := match x with
  | .mref n => match st[n]? with
    | some (.dct ks _) => leafs ks
    | _ => false
  | _ => false
def eUpd (o a : Ev) : Ev := fun env st => o env st >>= fun p => if dctAt p.2 p.1 = true then a env p.2 >>= fun q => R.opt (dUpd p.1 q.1 q.2) >>= fun s => .ok (.non, s) else .stuck
def rUpd (Z : Wd) : V → List V → Hp → VK → Prop := fun x vs H Q => ∃ ρ st d y st', StR Z H ρ st ∧ Rep Z H ρ d x ∧ Reps Z H ρ [y] vs ∧ dUpd d y st = some st' ∧ ∀ H', Grow H H' ρ ρ → StR Z H' ρ st' → Q .non H'
theorem mt_upd : MtM X "dict.update" (rUpd (zx X)) := by
  intro pins s σ H x xs v us Q I rx rv ⟨ρ, st, d, y, st', hs, rd, ry, e, q⟩
  obtain ⟨yv, rfl, r1⟩ := reps1 ry
  unfold dUpd at e
  split at e
  · rename_i n
    split at e
    · rename_i ks vs e1
      split at e
      · rename_i p e2
        split at e
        · rename_i cnd
          cases e
          obtain ⟨hl1, hl2, hlen, hne⟩ := cnd
          obtain ⟨a, ea, ra⟩ := hs.at_ n _ e1
          obtain ⟨a', rfl, ea'⟩ := rd
          rw [ea] at ea'; cases ea'
          cases rx
          obtain ⟨b, rfl, hd⟩ := r1.dict hs e2
          cases rv with
          | cons rb rn =>
            cases rn
            cases rb
            obtain ⟨kvs, ha, ek, rk⟩ := dict_dK ra hl1
            obtain ⟨kvs2, hb, ek2, rk2⟩ := dict_dK hd hl2
            obtain ⟨z1, y1, us1, kv1, dd1⟩ := dk_of I.hok ha
            obtain ⟨z2, y2, us2, kv2, dd2⟩ := dk_of I.hok hb
            have hap : a ∈ ρ.own := List.mem_of_getElem? ea
            have hab : a ≠ b := by
              rintro rfl
              cases y with
              | mref m =>
                obtain ⟨c, ec, em⟩ := r1
                cases ec
                obtain ⟨h1, g1⟩ := List.getElem?_eq_some_iff.mp em
                obtain ⟨h2, g2⟩ := List.getElem?_eq_some_iff.mp ea
                have hne' : (m != n) = true := hne
                have : m = n := (List.getElem_inj hs.nd).mp (g1.trans g2.symm)
                subst this
                simp at hne'
              | dct k w =>
                obtain ⟨c, ec, nm, _⟩ := r1
                cases ec
                exact nm (.inl hap)
              | _ => cases e2
            have hz : kvs.length + kvs2.length ≤ LINE := by
              rw [ek, ek2, List.length_map, List.length_map] at hlen; exact hlen
            have hnd : (kvs.map (·.1)).Nodup := by
              rw [kv1.keys]; obtain ⟨_, _, _, _, _, _, _, _, hn⟩ := dd1; exact hn
            have dd1' := dd1
            obtain ⟨oa, _, _, hoa, hoc, _⟩ := dd1'
            refine call_meetsIn F.slot_dict_update ⟨oa, hoa, hoc.1⟩ F.entry_dict_update (F.args_dict_update_2 _ _) (meets_dict_update (mixKind X.prog X.w) a b hab y2) ?_
            refine ⟨us1, us2, dd1, dd2, by rw [line_eq, ← kv1.length, ← kv2.length]; exact hz, fun h' d1 d2 sb => ?_⟩
            obtain ⟨m1, m2⟩ := merge_leaf kvs2 kvs vs p.2 hnd rk rk2
            rw [← ek, ← ek2] at m1 m2
            have he : ∃ q, h'.get? a = some q := let ⟨q, _, _, hq, _⟩ := d1; ⟨q, hq⟩
            have hzz : (mergeK kvs kvs2).length ≤ sizeLine := by
              have := length_mergeK kvs2 kvs
              rw [line_eq]; omega
            have g : Grow H (upd H a (.dK (mergeK kvs kvs2))) ρ ρ := .write hap trivial
            refine ⟨.non, _, d_write (t' := s.toks) I (by rw [ha]; trivial) sb he (dk_new hzz y1 (KV.merge kv2 kv1) d1), rfl, q _ g (hs.write ea trivial (.inl ⟨_, upd_same, m1, m2.grow g⟩))⟩
        · cases e
      · cases e
    · cases e
  · cases e
theorem de_upd {o e : Expr} {mo me : Ev} {apos : Pos} (ho : DE X E o mo) (he : DE X E e me) (h1 : attributeBase o "update" X.env (eval o X.env) = eval o X.env := by rfl)
    (h2 : ((((backTo pos (starEach [e] X.env)).all fun x => !x.1) && (backToKw pos (keywordEach [] X.env)).all fun x => x.1.isSome) && decide (([e].length + ([] : List Keyword).length + if ([] : List Keyword).isEmpty = true then 0 else 1) < 30)) = true := by rfl)
    (h3 : (apos.endLine == pos.line) = true := by rfl) (h4 : starEach [e] X.env = (false, eval e X.env) :: starEach [] X.env := by rfl) (h5 : ((backTo pos (starEach [] X.env)).any fun x => x.1) = false := by rfl) :
    DE X E (.Call (.Attribute o "update" apos) [e] [] pos) (eUpd mo me) :=
  pe_weak (pe_bm F.plainAttrs_dict F.slot_dict_update F.type_dict_update mt_upd ho (pa_cons he pa_nil h4) h1 h2 h3 h4 h5) fun σ H Q ⟨env, st, ρ, hen, hst, hp⟩ => ⟨env, st, ρ, hen, hst, PostX.seq hp fun p H1 ρ1 g1 hp1 hs1 v rv => by
    split at hp1
    · rename_i hl
      have hd : ∃ n ks vs, p.1 = .mref n ∧ p.2[n]? = some (.dct ks vs) ∧ leafs ks = true := by
        unfold dctAt at hl
        split at hl
        · rename_i x n e1
          split at hl
          · rename_i ks vs e2; exact ⟨n, ks, vs, e1, e2, hl⟩
          · cases hl
        · cases hl
      obtain ⟨n, ks, vs, e1, e2, hlf⟩ := hd
      rw [e1] at rv
      have rv' := rv
      obtain ⟨b, rfl, eb⟩ := rv'
      obtain ⟨a, ea, ra⟩ := hs1.at_ n _ e2
      rw [ea] at eb; cases eb
      obtain ⟨kvs, ha, _, _⟩ := dict_dK ra hlf
      refine ⟨.inr (.inr (.inl ⟨rfl, .inl ⟨kvs, ha⟩⟩)), env, p.2, ρ1, hen.grow g1, hs1, PostX.seq hp1 fun q H2 ρ2 g2 hp2 hs2 u ru => ?_⟩
      rw [e1] at hp2
      cases e3 : dUpd (.mref n) q.1 q.2 with
      | none => simp only [e3] at hp2; exact hp2.elim
      | some s =>
        simp only [e3] at hp2
        exact ⟨ρ2, q.2, .mref n, q.1, s, hs2, rv.grow g2, .one ru, e3, fun H' g hs' => hp2 H' ρ2 g hs' _ rfl⟩
    · exact hp1.elim⟩
end
end Px
set_option maxRecDepth 20000
/-! P19: enumerate over lists and tuples; list(range(..)), tuple(range(..)). -/
namespace Px
open PySem PySem.Spec
open L2
theorem wp_both {A : Around} {E : Value → Shared → Prop} {s : Shared} {α : Type} {M : Model} {c : Prop} [Decidable c] {x y : Sem α} {Q : α → Shared → Prop} (h1 : wpAny M A x Q E s) (h2 : wpAny M A y Q E s) : wpAny M A (if c then x else y) Q E s := by
  split <;> assumption
theorem meets_en1 (v : Addr) (items : Array Value) : Meets (Builtin.«enumerate.__new__» { pos := [.type "enumerate", .ref v] }) fun _ R s =>
    s.heap.IsTuple v items ∧ R (.ok (.ret (.ref (s.heap.push { cls := .type "tuple_iterator", data := .fields #[.ref v, .int 0 0] }).objs.size))) { s with heap := (s.heap.push { cls := .type "tuple_iterator", data := .fields #[.ref v, .int 0 0] }).push { cls := .type "enumerate", data := .fields #[.none, .bool false, .ref s.heap.objs.size, rawInt 0, .none, .none] } } := by
  refine Meets.of_wp fun prog w A R s ⟨ht, hR⟩ => ?_
  unfold Builtin.«enumerate.__new__»
  refine wpAny_bind ?_
  unfold Builtin.SmallTypes.newClass
  refine wpAny_bind (wpAny_pure ?_)
  refine wp_if_neg (by decide) ?_
  refine wpAny_bind (wpAny_of_eq sub_enumerate ?_)
  refine wp_if_neg (by decide) (wpAny_pure ?_)
  refine wp_if_pos (by decide) ?_
  refine wpAny_bind ?_
  unfold Builtin.SmallTypes.calledThroughType
  refine wpAny_bind (wpAny_stack_any fun stk => ?_)
  refine wpAny_pure ?_
  dsimp only
  have fin : wpAny (model prog w) A.in1 (do
      let x ← pyIter (.ref v)
      let y ← Builtin.SmallTypes.newRecord (.type "enumerate") (Builtin.SmallTypes.ownedTupleFields ++ [x, rawInt 0, .none, .none])
      ret y) (fun fin s' => ∃ v, fin = Fin.done (Flow.ret v) ∧ R (Except.ok (Flow.ret v)) s') (fun e s' => R (Except.error e) s') s := by
    refine wpAny_bind (wpAny_pyIter_tuple ht ?_)
    refine wpAny_bind ?_
    unfold Builtin.SmallTypes.newRecord
    dsimp only
    unfold newObj
    dsimp only
    refine wp_if_neg (show ¬ (6 > sizeLine + 2) by rw [sizeLine_eq]; decide) ?_
    unfold newObjAsIs
    refine wpAny_bind (wpAny_alloc' ?_)
    refine wpAny_pure ?_
    exact wpAny_pure ⟨_, rfl, hR⟩
  refine wp_both ?_ ?_
  · refine wpAny_bind (wpAny_of_eq (a := (Value.ref v, none)) (by rfl) ?_)
    exact fin
  · refine wpAny_bind (wpAny_of_eq (a := (Value.ref v, none)) (by rfl) ?_)
    exact fin
theorem call_en_tup {prog : Program} {w : World} {A : Around} {E Q : Value → Shared → Prop} {s : Shared} {t : Addr} {items : Array Value} (ht : s.heap.IsTuple t items)
    (q : ∀ h', IsEnum h' (s.heap.objs.size + 1) s.heap.objs.size 0 .none → h'.IsTupleIter s.heap.objs.size t 0 → h'.objs.size = s.heap.objs.size + 2 → (∀ b o, s.heap.get? b = some o → h'.get? b = some o) → Q (.ref (s.heap.objs.size + 1)) { s with heap := h' }) :
    wpAny (model prog w) A (call (.type "enumerate") [.ref t]) Q E s := by
  have hsz : (s.heap.push { cls := .type "tuple_iterator", data := .fields #[.ref t, .int 0 0] }).objs.size = s.heap.objs.size + 1 := by rw [Heap.size_push]
  have h1 := Heap.get?_push_size s.heap (o := { cls := .type "tuple_iterator", data := .fields #[.ref t, .int 0 0] }) rfl
  have h2 := Heap.get?_push_size (s.heap.push { cls := .type "tuple_iterator", data := .fields #[.ref t, .int 0 0] }) (o := { cls := .type "enumerate", data := .fields #[.none, .bool false, .ref s.heap.objs.size, rawInt 0, .none, .none] }) rfl
  rw [hsz] at h2
  refine callType_new F.called_enumerate (by decide) (F.typeCall_enumerate_1 _) (F.newCall_enumerate_1 _) (fun obj => F.args_object_init_2 _ _) F.entry_enumerate_new (meets_en1 t items) ⟨ht, ?_⟩
  rw [hsz]
  refine ⟨⟨_, h2, rfl⟩, q _ h2 ⟨_, Heap.get?_push_of_some _ h1, rfl, rfl⟩ (by rw [Heap.size_push, hsz]) fun b o e => Heap.get?_push_of_some _ (Heap.get?_push_of_some _ e)⟩
def IteT (K : PySem.W.Frag) (a : Addr) : It where
  go := fun i H => ∃ xs x, SqT K H a xs ∧ xs[i]? = some x
  yld := fun i H v H' => ∃ T x, v = .ref T ∧ H T = none ∧ H' = upd H T (.tup [.int (i : Nat), x]) ∧ ∀ xs, SqT K H a xs → xs[i]? = some x
  stop := fun i H => ∃ xs, SqT K H a xs ∧ xs.length = i
structure TnE (a e it : Addr) (i : Nat) (h : Heap) : Prop where
  en : ∃ old, IsEnum h e it (i : Nat) old
  ti : h.IsTupleIter it a i
theorem turn_enumT {P : Program} {w : World} {K : PySem.W.Frag} {elts : List Expr} {kk : Nat} {tpos : Pos} (a e it : Addr) (h1 : e ≠ it) (h2 : a ≠ it) (h3 : e ≠ a) :
    Turn P w K (.Tuple elts kk tpos) (IteT K a) [e, it] e (TnE a e it) where
  mem := List.mem_cons_self
  obj := fun i h ⟨⟨old, he⟩, hi⟩ b hb => by
    rcases List.mem_cons.mp hb with rfl | hb
    · exact ⟨_, he, fun v => by simp⟩
    · have : b = it := by simpa using hb
      subst this
      obtain ⟨o, e1, e2, e3⟩ := hi
      exact ⟨o, e1, fun v => by rw [e3]; simp⟩
  keep := fun i h h' ⟨⟨old, he⟩, ⟨o, e1, e2, e3⟩⟩ c => ⟨⟨old, c e List.mem_cons_self _ he⟩, o, c it (by simp) _ e1, e2, e3⟩
  self := fun A i s Q E ⟨⟨old, he⟩, _⟩ q => wpAny_pyIter_enum he q
  item := by
    rintro X rfl rfl rfl hc i pins s σ H E I fp ⟨⟨old, he⟩, hi⟩ ⟨xs, x, hq, hx⟩
    obtain ⟨its, rv, pl, hz⟩ := I.tuple hq
    have hlen : i < its.toArray.size := by
      have := (List.getElem?_eq_some_iff.mp hx).1
      rw [List.size_toArray, ← Vals.length rv]; exact this
    have D := Draws.tuple (prog := X.prog) (w := X.w) (A := X.A.in1) (by exact I.ok.hd hc) it a h2 its.toArray
    have W := WalksT.enumerateD D e h1 (by simp only [List.mem_cons, List.not_mem_nil, or_false, not_or]; exact ⟨h1, h3⟩) (by simp)
    refine W.item i s _ _ hlen ⟨⟨old, he⟩, hi, pl⟩ fun T vals h' tk ⟨t, y, hy, ev⟩ hT hTup mid kp => ?_
    refine ⟨.ref T, rfl, ?_⟩
    refine W.go elts kk tpos i T _ _ _ mid fun h'' st2 kp2 => ?_
    obtain ⟨⟨old2, he2⟩, hi2, _⟩ := st2
    have nT : T ∉ [e, it] := W.apart i T h' mid
    have hyv : ∃ u, its[i]? = some u ∧ RelV x u := by
      obtain ⟨u, u1, u2⟩ := Vals.get rv hx
      exact ⟨u, u1, u2⟩
    obtain ⟨u, u1, u2⟩ := hyv
    have eu : y = u := by
      have : its.toArray[i]? = some y := hy
      rw [List.getElem?_toArray, u1] at this
      cases this; rfl
    subst eu
    have hTn : H T = none := I.hok.fresh hT
    have J := I.turnedNew (h' := h'') (t' := tk) (ch := [e, it]) (T := T) (ob := .tup [.int (i : Nat), x]) (fun b o nb eb => kp2 b o nb (kp b o nb eb)) fp hT ⟨by rw [sizeLine_eq]; simp, vals.toList, ?_, ?_⟩
    · refine ⟨.ref T, _, J, rfl, ⟨T, x, rfl, hTn, rfl, fun ys hys => ?_⟩, ⟨⟨old2, he2⟩, hi2⟩, fun b hb => ?_⟩
      · rw [← I.tuple_inj hq hys]; exact hx
      · have hbT : b ≠ T := fun z => nT (z ▸ hb)
        rw [upd_ne hbT]; exact (fp b hb).1
    · rw [ev]
      exact .cons ⟨t, rfl⟩ (.cons u2 .nil)
    · rw [Array.toArray_toList]
      obtain ⟨o, o1, o2, n, o3⟩ := hTup
      exact ⟨o, kp2 T o nT o1, o2, n, o3⟩
  done := by
    rintro X rfl rfl rfl hc i pins s σ H E I fp ⟨⟨old, he⟩, hi⟩ ⟨xs, hq, hl⟩
    obtain ⟨its, rv, pl, hz⟩ := I.tuple hq
    have D := Draws.tuple (prog := X.prog) (w := X.w) (A := X.A.in1) (by exact I.ok.hd hc) it a h2 its.toArray
    have W := WalksT.enumerateD D e h1 (by simp only [List.mem_cons, List.not_mem_nil, or_false, not_or]; exact ⟨h1, h3⟩) (by simp)
    have hn : its.toArray.size = i := by rw [List.size_toArray, ← Vals.length rv]; exact hl
    rw [hn] at W
    refine W.done s _ _ ⟨⟨old, he⟩, hi, pl⟩ fun h' tk kp => ⟨rfl, ?_⟩
    exact I.turnedL (t' := tk) kp fp
section
variable {X : Cx} {E : XK} {pos : Pos}
/-- enumerate(a list or tuple) -/
theorem pi_en {e : Expr} {ta : TA} {p pos tpos : Pos} {elts : List Expr} {kk : Nat} (hg : Gl X "enumerate") (hm : X.mg "enumerate" = none) (he : PA X [e] ta) (hs : starEach [e] X.env = (false, eval e X.env) :: starEach [] X.env := by rfl) (hpl : (backTo pos (starEach [] X.env)).any (·.1) = false := by rfl) :
    PI X (.Tuple elts kk tpos) (.Call (.Name "enumerate" p) [e] [] pos) (fun σ H R => ta σ H fun vs H1 => ∃ a, vs = [.ref a] ∧ (((∃ xs, SqL X.K H1 a xs) ∧ R (Ite X.K a) H1) ∨ ((∃ xs, SqT X.K H1 a xs) ∧ R (IteT X.K a) H1))) := by
  refine ⟨fun pins s σ H R I h => ?_⟩
  refine PyProof.Rows.Call_ (ld_blt I hg hm PyProof.Rows.boot_enumerate ?_ (by decide) (by decide)) (by rfl)
  refine PyProof.Rows.callWith_type1 (thn (he.run pos pins s σ H _ I h) fun us s1 hh => ?_) hs hpl
  obtain ⟨vs, H1, I1, r1, a, e1, q⟩ := hh
  subst e1
  cases r1 with
  | cons ra rn =>
    cases rn
    cases ra
    have hn1 : H1 s1.heap.objs.size = none := I1.hok.fresh (Nat.le_refl _)
    have hn2 : H1 (s1.heap.objs.size + 1) = none := I1.hok.fresh (Nat.le_succ _)
    rcases q with ⟨⟨xs, hq⟩, q⟩ | ⟨⟨xs, hq⟩, q⟩
    · obtain ⟨its, rv, pl, hz⟩ := I1.list hq
      refine call_enumerate_list (items := its.toArray) pl.isList fun h' en ti hsz kp => ?_
      have I2 : Inv X pins σ H1 { s1 with heap := h' } := I1.kept (t' := s1.toks) kp
      refine wpAny_pyIter_enum en ?_
      refine ⟨s1.heap.objs.size + 1, [s1.heap.objs.size + 1, s1.heap.objs.size], _, _, H1, rfl, I2, turn_enum a _ s1.heap.objs.size, ⟨⟨_, en⟩, ti, Nat.succ_ne_self _⟩, fun b hb => ?_, q⟩
      rcases List.mem_cons.mp hb with rfl | hb
      · exact I1.fpOk (Nat.le_succ _) hn2
      · obtain rfl : b = s1.heap.objs.size := by simpa using hb
        exact I1.fpOk (Nat.le_refl _) hn1
    · obtain ⟨its, rv, pl, hz⟩ := I1.tuple hq
      obtain ⟨o, ho, _⟩ := id pl
      have hlt := Heap.lt_size ho
      refine call_en_tup (items := its.toArray) (show s1.heap.IsTuple a its.toArray from pl) fun h' en ti hsz kp => ?_
      have I2 : Inv X pins σ H1 { s1 with heap := h' } := I1.kept (t' := s1.toks) kp
      refine wpAny_pyIter_enum en ?_
      refine ⟨s1.heap.objs.size + 1, [s1.heap.objs.size + 1, s1.heap.objs.size], _, _, H1, rfl, I2, turn_enumT a _ s1.heap.objs.size (Nat.succ_ne_self _) (Nat.ne_of_lt hlt) (Ne.symm (Nat.ne_of_lt (Nat.lt_succ_of_lt hlt))), ⟨⟨_, en⟩, ti⟩, fun b hb => ?_, q⟩
      rcases List.mem_cons.mp hb with rfl | hb
      · exact I1.fpOk (Nat.le_succ _) hn2
      · obtain rfl : b = s1.heap.objs.size := by simpa using hb
        exact I1.fpOk (Nat.le_refl _) hn1
def enumD : Nat → List D → List D
  | _, [] => []
  | i, d :: l => .tup [.int i, d] :: enumD (i + 1) l
theorem enumD_at : ∀ (l : List D) (k i : Nat), (enumD k l)[i]? = (l[i]?).map fun d => .tup [.int (k + i : Nat), d]
  | [], k, i => by simp [enumD]
  | d :: l, k, 0 => by simp [enumD]
  | d :: l, k, i + 1 => by
    show (enumD (k + 1) l)[i]? = _
    rw [enumD_at l (k + 1) i, show k + 1 + i = k + (i + 1) by omega]
    simp
theorem enumD_len : ∀ (l : List D) (k : Nat), (enumD k l).length = l.length
  | [], k => rfl
  | d :: l, k => by simp [enumD, enumD_len l (k + 1)]
def iEn (m : Ev) : Iv := fun env st => m env st >>= fun p => match seqS p.2 p.1 with
  | some q => .ok ((enumD 0 q.1, q.2), p.2)
  | none => .stuck
theorem en_item {Z : Wd} {H1 : Hp} {ρ1 : Rho} {T : Addr} {i : Nat} {x : V} {d : D} (hT : H1 T = none) (hs : ∃ st, StR Z H1 ρ1 st) (r : Rep Z H1 ρ1 d x) : Grow H1 (upd H1 T (.tup [.int i, x])) ρ1 ρ1 ∧ (∀ st, StR Z H1 ρ1 st → StR Z (upd H1 T (.tup [.int i, x])) ρ1 st) ∧ Rep Z (upd H1 T (.tup [.int i, x])) ρ1 (.tup [.int i, d]) (.ref T) := by
  have g : Grow H1 (upd H1 T (.tup [.int i, x])) ρ1 ρ1 := .put hT
  refine ⟨g, fun st h => h.put hT, T, _, rfl, .inl ⟨.inl upd_same, fun m => ?_⟩, .int i, _, rfl, rfl, .one (r.grow g)⟩
  obtain ⟨st, h⟩ := hs
  exact h.tracked m hT
theorem ite_d {Z : Wd} {H : Hp} {ρ : Rho} {a : Addr} {l : List D} {s : Src} (h : ∀ H1 ρ1 st1, Wide H H1 ρ ρ1 → StR Z H1 ρ1 st1 → chk s st1 = true → ∃ xs, SqL Z.K H1 a xs ∧ Reps Z H1 ρ1 l xs) : ItD Z (Ite Z.K a) H ρ s (enumD 0 l) := by
  intro i H1 ρ1 st1 w hs ck
  obtain ⟨xs, hq, r⟩ := h H1 ρ1 st1 w hs ck
  refine ⟨fun d e => ?_, fun hl => ⟨xs, hq, by rw [r.len, ← enumD_len l 0]; exact Nat.le_of_eq hl⟩⟩
  rw [enumD_at] at e
  cases e0 : l[i]? with
  | none => rw [e0] at e; cases e
  | some d0 =>
    rw [e0] at e
    simp only [Option.map_some, Nat.zero_add, Option.some.injEq] at e
    subst e
    obtain ⟨x, e1, r1⟩ := r.get e0
    refine ⟨⟨xs, x, hq, e1⟩, fun v H2 ⟨T, y, ev, hT, eH, hy⟩ => ?_⟩
    have := hy xs hq
    rw [e1] at this
    cases this
    subst ev eH
    exact en_item hT ⟨st1, hs⟩ r1
theorem iteT_d {Z : Wd} {H : Hp} {ρ : Rho} {a : Addr} {l : List D} {s : Src} (h : ∀ H1 ρ1 st1, Wide H H1 ρ ρ1 → StR Z H1 ρ1 st1 → chk s st1 = true → ∃ xs, SqT Z.K H1 a xs ∧ Reps Z H1 ρ1 l xs) : ItD Z (IteT Z.K a) H ρ s (enumD 0 l) := by
  intro i H1 ρ1 st1 w hs ck
  obtain ⟨xs, hq, r⟩ := h H1 ρ1 st1 w hs ck
  refine ⟨fun d e => ?_, fun hl => ⟨xs, hq, by rw [r.len, ← enumD_len l 0]; exact hl⟩⟩
  rw [enumD_at] at e
  cases e0 : l[i]? with
  | none => rw [e0] at e; cases e
  | some d0 =>
    rw [e0] at e
    simp only [Option.map_some, Nat.zero_add, Option.some.injEq] at e
    subst e
    obtain ⟨x, e1, r1⟩ := r.get e0
    refine ⟨⟨xs, x, hq, e1⟩, fun v H2 ⟨T, y, ev, hT, eH, hy⟩ => ?_⟩
    have := hy xs hq
    rw [e1] at this
    cases this
    subst ev eH
    exact en_item hT ⟨st1, hs⟩ r1
theorem di_en {e : Expr} {m : Ev} {p pos tpos : Pos} {elts : List Expr} {kk : Nat} (hg : Gl X "enumerate") (hm : X.mg "enumerate" = none) (he : DE X E e m) (hs : starEach [e] X.env = (false, eval e X.env) :: starEach [] X.env := by rfl) (hpl : (backTo pos (starEach [] X.env)).any (·.1) = false := by rfl) :
    DI X E (.Tuple elts kk tpos) (.Call (.Name "enumerate" p) [e] [] pos) (iEn m) := by
  refine ⟨_, pi_en hg hm (pa_cons he pa_nil hs) hs hpl, fun σ H R env st ρ he hst hp => ⟨env, st, ρ, he, hst, PostX.seq hp fun p H1 ρ1 g1 hp1 hs1 v rv => ?_⟩⟩
  cases e1 : seqS p.2 p.1 with
  | none => rw [e1] at hp1; exact hp1.elim
  | some q =>
    rw [e1] at hp1
    have hp2 := hp1 H1 ρ1 .refl hs1
    obtain ⟨a, rfl, hl⟩ := seq_lasts hs1 rv e1
    have ck := chk_now e1
    refine ⟨a, rfl, ?_⟩
    rcases hl with hl | hl
    · obtain ⟨xs, hq, _⟩ := hl H1 ρ1 p.2 (Grow.refl.wide) hs1 ck
      exact .inl ⟨⟨xs, hq⟩, hp2 _ (ite_d hl)⟩
    · obtain ⟨xs, hq, _⟩ := hl H1 ρ1 p.2 (Grow.refl.wide) hs1 ck
      exact .inr ⟨⟨xs, hq⟩, hp2 _ (iteT_d hl)⟩
/-! ### list(range(..)), tuple(range(..)) -/
def rgOkB (a b : Int) : Bool := decide (-4611686018427387904 ≤ a ∧ a < 4611686018427387904 ∧ -4611686018427387904 ≤ b ∧ b < 4611686018427387904 ∧ (b - a).toNat ≤ 16777216)
theorem rgOk_of {a b : Int} (h : rgOkB a b = true) : RgOk a b := by
  have h := of_decide_eq_true h
  exact ⟨by omega, by omega, by omega, by omega, by omega⟩
theorem reps_rng {Z : Wd} {H : Hp} {ρ : Rho} (a b : Int) : Reps Z H ρ (rngL a b) (rgV a b) := by
  unfold rngL rgV
  induction (List.range (b - a).toNat) with
  | nil => exact rfl
  | cons n l ih => exact ⟨_, _, rfl, rfl, ih⟩
def rg1 (m : Ev) : DEnv → Store → R ((Int × Int) × Store) := fun env st => m env st >>= fun p => match p.1 with
  | .int n => if rgOkB 0 n = true then .ok ((0, n), p.2) else .stuck
  | _ => .stuck
def rg2 (a b : Ev) : DEnv → Store → R ((Int × Int) × Store) := fun env st => a env st >>= fun p => b env p.2 >>= fun q => match p.1, q.1 with
  | .int i, .int j => if rgOkB i j = true then .ok ((i, j), q.2) else .stuck
  | _, _ => .stuck
abbrev Rv := DEnv → Store → R ((Int × Int) × Store)
def eLRg (m : Rv) : Ev := fun env st => m env st >>= fun q => .ok (.lst (rngL q.1.1 q.1.2), q.2)
def eTRg (m : Rv) : Ev := fun env st => m env st >>= fun q => .ok (.tup (rngL q.1.1 q.1.2), q.2)
def eLRgN (m : Rv) : Ev := fun env st => m env st >>= fun q => .ok (.mref q.2.length, q.2 ++ [.lst (rngL q.1.1 q.1.2)])
def BR (Z : Wd) (Q : Int → Int → Hp → Prop) : (Int × Int) × Store → Hp → Rho → Prop := fun p H' ρ' => StR Z H' ρ' p.2 → RgOk p.1.1 p.1.2 → Q p.1.1 p.1.2 H'
def tR (Z : Wd) (E : XK) (m : Rv) : L2.St → Hp → (Int → Int → Hp → Prop) → Prop := fun σ H Q => ∃ env st ρ, EnvR Z H ρ env σ ∧ StR Z H ρ st ∧ PostX Z H ρ (m env st) (BR Z Q) E
abbrev DR (X : Cx) (E : XK) (e : Expr) (m : Rv) : Prop := PRg X e (tR (zx X) E m)
theorem dr_1 {a : Expr} {ma : Ev} {p pos : Pos} (hg : Gl X "range") (hm : X.mg "range" = none) (ha : DE X E a ma) (hs : starEach [a] X.env = (false, eval a X.env) :: starEach [] X.env := by rfl) : DR X E (.Call (.Name "range" p) [a] [] pos) (rg1 ma) :=
  fun pins s σ H Q I ⟨env, st, ρ, he, hst, hp⟩ => prg_1 hg hm ha hs pins s σ H Q I ⟨env, st, ρ, he, hst, PostX.seq hp fun p H1 ρ1 g1 hp1 hs1 v rv => by
    split at hp1
    · rename_i n e
      split at hp1
      · rename_i ho
        rw [e] at rv
        exact ⟨n, rv, hp1 H1 ρ1 .refl hs1 (rgOk_of ho)⟩
      · exact hp1.elim
    · exact hp1.elim⟩
theorem dr_2 {a b : Expr} {ma mb : Ev} {p pos : Pos} (hg : Gl X "range") (hm : X.mg "range" = none) (ha : DE X E a ma) (hb : DE X E b mb) (hs : starEach [a, b] X.env = (false, eval a X.env) :: starEach [b] X.env := by rfl) (hs2 : starEach [b] X.env = (false, eval b X.env) :: starEach [] X.env := by rfl) (hpl : ((backTo pos (starEach [b] X.env)).any fun x => x.1) = false := by rfl) :
    DR X E (.Call (.Name "range" p) [a, b] [] pos) (rg2 ma mb) :=
  fun pins s σ H Q I ⟨env, st, ρ, he, hst, hp⟩ => prg_2 hg hm ha hb hs hs2 hpl pins s σ H Q I ⟨env, st, ρ, he, hst, PostX.seq hp fun p H1 ρ1 g1 hp1 hs1 v rv => ⟨env, p.2, ρ1, he.grow g1, hs1, PostX.seq hp1 fun q H2 ρ2 g2 hp2 hs2 u ru => by
    split at hp2
    · rename_i i j e1 e2
      split at hp2
      · rename_i ho
        rw [e1] at rv
        rw [e2] at ru
        exact ⟨i, j, rv, ru, hp2 H2 ρ2 .refl hs2 (rgOk_of ho)⟩
      · exact hp2.elim
    · exact hp2.elim⟩⟩
theorem de_lRg {e : Expr} {m : Rv} {p : Pos} (hc : X.calm = true) (hg : Gl X "list") (hm : X.mg "list" = none) (h : DR X E e m) (hs : starEach [e] X.env = (false, eval e X.env) :: starEach [] X.env := by rfl) : DE X E (.Call (.Name "list" p) [e] [] pos) (eLRg m) :=
  pe_weak (pe_listRg hc hg hm h hs) fun σ H Q ⟨env, st, ρ, he, hst, hp⟩ => ⟨env, st, ρ, he, hst, PostX.seq hp fun q H1 ρ1 g1 hp1 hs1 ho => ⟨ho, fun z hz => q_lst hs1 (fun y H' g hs' r => hp1 H' ρ1 g hs' y r) (reps_rng _ _) hz⟩⟩
theorem de_lRgN {e : Expr} {m : Rv} {p : Pos} (hc : X.calm = true) (hg : Gl X "list") (hm : X.mg "list" = none) (h : DR X E e m) (hs : starEach [e] X.env = (false, eval e X.env) :: starEach [] X.env := by rfl) : DE X E (.Call (.Name "list" p) [e] [] pos) (eLRgN m) :=
  pe_weak (pe_listRg hc hg hm h hs) fun σ H Q ⟨env, st, ρ, he, hst, hp⟩ => ⟨env, st, ρ, he, hst, PostX.seq hp fun q H1 ρ1 g1 hp1 hs1 ho => ⟨ho, fun z hz => q_newL (Q := Q) hs1 (fun y H' ρ' g hs' r => hp1 H' ρ' g hs' y r) (reps_rng _ _) hz⟩⟩
theorem de_tRg {e : Expr} {m : Rv} {p : Pos} (hc : X.calm = true) (hg : Gl X "tuple") (hm : X.mg "tuple" = none) (h : DR X E e m) (hs : starEach [e] X.env = (false, eval e X.env) :: starEach [] X.env := by rfl) : DE X E (.Call (.Name "tuple" p) [e] [] pos) (eTRg m) :=
  pe_weak (pe_tupRg hc hg hm h hs) fun σ H Q ⟨env, st, ρ, he, hst, hp⟩ => ⟨env, st, ρ, he, hst, PostX.seq hp fun q H1 ρ1 g1 hp1 hs1 ho => ⟨ho, fun z hz => q_tup hs1 (fun y H' g hs' r => hp1 H' ρ1 g hs' y r) (reps_rng _ _) hz⟩⟩
/-! ### sorted: of a list or of a dict with few whole numbers as keys -/
def bSort : Lf := fun st ds => match bSortL st ds with
  | some l => some l
  | none => bSortD st ds
theorem c_sort (hc : X.calm = true) (hu : X.A.units + 64 < cLine) : CallR X (.builtin "sorted") (rN (zx X) bSort) :=
  CallR.weak (c_or (c_sortL hu) (c_sortD hc)) fun vs H Q ⟨ρ, st, ds, l, hs, r, e, q⟩ => by
    unfold bSort at e
    cases e1 : bSortL st ds with
    | some l' => rw [e1] at e; cases e; exact .inl ⟨ρ, st, ds, l, hs, r, e1, q⟩
    | none => rw [e1] at e; exact .inr ⟨ρ, st, ds, l, hs, r, e, q⟩
end
end Px
set_option maxRecDepth 20000
/-! P20: instances: made by their class, their fields written; raise that is never met. -/
namespace Px
open PySem PySem.Spec
open L2
section
variable {X : Cx} {E : XK} {pos : Pos}
/-- a statement that is never met -/
def sNever : Sm := fun _ _ => .stuck
theorem ds_never {s : Stmt} : DS X E s sNever := ⟨fun pins s σ H U I ⟨env, st, ρ, he, hs, hp⟩ => hp.elim⟩
def setFD (f : Str) (d : D) : List Str → List D → List Str × List D
  | n :: ns, v :: vs => if n = f then (n :: ns, d :: vs) else (n :: (setFD f d ns vs).1, v :: (setFD f d ns vs).2)
  | _, _ => ([f], [d])
theorem setFD_of {Z : Wd} {H : Hp} {ρ : Rho} {f : Str} {d : D} {v : V} (r : Rep Z H ρ d v) : ∀ (fs : List (Str × V)) (vs : List D), Reps Z H ρ vs (fs.map (·.2)) → (putF f v fs).map (·.1) = (setFD f d (fs.map (·.1)) vs).1 ∧ Reps Z H ρ (setFD f d (fs.map (·.1)) vs).2 ((putF f v fs).map (·.2))
  | [], vs, h => by
    obtain rfl : vs = [] := Reps.nil h
    exact ⟨rfl, .one r⟩
  | p :: fs, [], h => by cases (show (p :: fs).map (·.2) = [] from h)
  | p :: fs, w :: vs, ⟨x, xr, e, h1, h2⟩ => by
    simp only [List.map_cons, List.cons.injEq] at e
    obtain ⟨rfl, rfl⟩ := e
    obtain ⟨g, y⟩ := p
    rw [putF.eq_2]
    by_cases q : g = f
    · subst q
      rw [if_pos rfl]
      have e : setFD g d (((g, y) :: fs).map (·.1)) (w :: vs) = (g :: fs.map (·.1), d :: vs) := by
        show (if g = g then _ else _) = _
        rw [if_pos rfl]
      rw [e]
      exact ⟨rfl, v, _, rfl, r, h2⟩
    · rw [if_neg q]
      obtain ⟨i1, i2⟩ := setFD_of r fs vs h2
      have e : setFD f d (((g, y) :: fs).map (·.1)) (w :: vs) = (g :: (setFD f d (fs.map (·.1)) vs).1, w :: (setFD f d (fs.map (·.1)) vs).2) := by
        show (if g = f then _ else _) = _
        rw [if_neg q]
      rw [e]
      exact ⟨by rw [List.map_cons, i1], y, _, rfl, h1, i2⟩
def dFSet (c f : Str) (x d : D) (st : Store) : Option Store := match x with
  | .mref n => match st[n]? with
    | some (.ins c' ns vs) => if c' = c ∧ ns.length < 1000 then some (st.set n (.ins c (setFD f d ns vs).1 (setFD f d ns vs).2)) else none
    | _ => none
  | _ => none
/-- o.f = e -/
def sFSet (c f : Str) (o e : Ev) : Sm := fun env st => e env st >>= fun p => o env p.2 >>= fun q => R.opt (dFSet c f q.1 p.1 q.2) >>= fun s => .ok (.nx, env, s)
theorem ds_fset {c f : Str} {o e : Expr} {mo me : Ev} {pos' : Pos} (hc : Cls X.K (He.ga X.K c)) (hn : NoAttr X.K (He.ga X.K c) f) (ho : DE X E o mo) (he : DE X E e me) (hs : swapsWith e (some (o.Attribute f pos')) pos.line X.env = pure false := by rfl) :
    DS X E (.Assign [.Attribute o f pos'] e pos) (sFSet c f mo me) :=
  ps_weak (ps_fld ho he hs) fun U σ H ⟨env, st, ρ, hen, hst, hp⟩ => ⟨env, st, ρ, hen, hst, PostX.seq hp fun p H1 ρ1 g1 hp1 hs1 v rv => ⟨env, p.2, ρ1, hen.grow g1, hs1, PostX.seq hp1 fun q H2 ρ2 g2 hp2 hs2 u ru => by
    cases e1 : dFSet c f q.1 p.1 q.2 with
    | none => simp only [e1] at hp2; exact hp2.elim
    | some s =>
      simp only [e1] at hp2
      unfold dFSet at e1
      split at e1
      · rename_i x n ex
        split at e1
        · rename_i c' ns vs e2
          split at e1
          · rename_i cnd
            obtain ⟨rfl, hl⟩ := cnd
            cases e1
            obtain ⟨a, ea, dx, fs, hq, en, r⟩ := hs2.at_ n _ e2
            rw [ex] at ru
            obtain ⟨b, rfl, eb⟩ := ru
            rw [ea] at eb; cases eb
            have rv2 := rv.grow g2
            obtain ⟨i1, i2⟩ := setFD_of (f := f) rv2 fs vs r
            have g : Grow H2 (upd H2 a (.ins (He.ga X.K c') dx (putF f v fs))) ρ2 ρ2 := .write (List.mem_of_getElem? ea) trivial
            refine ⟨a, _, dx, fs, rfl, hq, hc, hn, by rw [← en, List.length_map] at hl; exact hl, ?_⟩
            exact hp2 _ ρ2 g (hs2.write ea trivial ⟨dx, _, upd_same, by rw [← en, i1], by rw [← en]; exact i2.grow g⟩) σ (((hen.grow g1).grow g2).grow g)
          · cases e1
        · cases e1
      · cases e1⟩⟩
end
/-! ### making an instance -/
/-- behind a call that changes nothing of what was there -/
theorem back_kp {Z : Wd} {H H' : Hp} {ρ : Rho} {st : Store} (hs : StR Z H ρ st) (kp : ∀ a o, NT o → H a = some o → H' a = some o) (was : ∀ a, H a ≠ none → H' a ≠ none) (tb : TabX Z H') : Grow H H' ρ ρ ∧ StR Z H' ρ st := by
  have g2 : Grow H H' ρ ρ := ⟨fun _ _ h => h, fun a o e nt _ => kp a o nt e, fun _ h => .inl h, was, fun a _ h => by
    cases e : H a with
    | none => rw [e] at h; exact h.elim
    | some o =>
      rw [e] at h
      rw [kp a o (mut_nt h) e]; exact h, rfl⟩
  refine ⟨g2, hs.same g2 (fun a m => ?_) tb⟩
  cases e : H a with
  | none => exact absurd e (hs.tracked (.inl m))
  | some o =>
    have := hs.mt a (.inl m)
    rw [e] at this
    rw [kp a o (mut_nt this) e]
/-- what __init__ leaves -/
def madeI (c : Str) : Option MObj → R D
  | some (.ins c' ns vs) => if c' = c ∧ stills vs = true then .ok (.ins c ns vs) else .stuck
  | _ => .stuck
def R.made (c : Str) : R (D × Store) → R D
  | .ok (.non, st) => madeI c st[0]?
  | .ok _ => .stuck
  | .exn e st => .exn e st
  | .stuck => .stuck
def mI (c : Str) (n : Nat) (b : Sm) : Pf := fun ds => R.made c (R.out (b (env0 n (.mref 0 :: ds)) [.ins c [] []]))
/-- __init__'s promise: n arguments behind self -/
def spI (Z : Wd) (c : Str) (n : Nat) (f : Pf) : Sp := fun vs H Q E => vs.length = n + 1 ∧ ∃ a dx us ds av, vs = .ref a :: us ∧ a ∉ av ∧ H a = some (.ins (He.ga Z.K c) dx []) ∧ (∀ b ∈ av, Mut (H b)) ∧ TabX Z H ∧ Reps Z H ⟨[a], av⟩ ds us ∧
  PostX Z H ⟨[a], av⟩ (f ds) (fun d H' ρ' => ∀ a', a' = a → TabX Z H' → (∀ ρo : Rho, (∀ b ∈ ρo, b ∈ av) → Rep Z H' ρo d (.ref a')) → Q .non H') E
section
variable {P : Program} {w : World} {K : PySem.W.Frag} {mg : Str → Option Value} {base : Heap}
theorem fnI {c x qual : Str} {ar : Arguments} {body : List Stmt} {scope : Scope} {f : Addr} {fd : FuncData} {N ps : List Str} {k n : Nat} {m : Sm} {dvs : List V} {kws : List (Str × V)} (F : FunD K x qual ar body scope dvs kws f fd) (sc : FnScope N ps scope) (hn : ps.length = n + 1)
    (hm : ∀ (cdv : Value) (A : Around) (outer : List Env) (s : Shared) (H : Hp) (E : XK), Room k (A.deeper (PyProof.Rows.envOfC qual scope s.heap.objs.size f cdv)) → DSs (cxOf (CX P w) P w K mg base N qual scope f cdv A outer s H E) E body m) :
    FnOk P w K mg base (CX P w) (k + 1) f fd ps (spI ⟨P, w, K⟩ c n (mI c N.length m)) :=
  F.ok sc (fun vs H Q E h => by rw [h.1, hn]) fun cdv A outer s H vs Q E hr h => ⟨_, hm cdv A outer s H E hr, by
    obtain ⟨_, a, dx, us, ds, av, rfl, na, ha, ht, tb, r, hp⟩ := h
    have hr0 : Reps ⟨P, w, K⟩ H ⟨[a], av⟩ (.mref 0 :: ds) (.ref a :: us) := ⟨.ref a, us, rfl, ⟨a, rfl, rfl⟩, r⟩
    refine ⟨env0 N.length (.mref 0 :: ds), [.ins c [] []], ⟨[a], av⟩, env0_r hr0 N, ?_, out_bs ?_⟩
    · refine ⟨rfl, by simp, fun i o e => ?_, ht, tb⟩
      cases i with
      | zero => simp at e; subst e; exact ⟨a, rfl, dx, [], ha, rfl, rfl⟩
      | succ i => simp at e
    · unfold mI at hp
      generalize R.out (m (env0 N.length (.mref 0 :: ds)) [.ins c [] []]) = r1 at hp ⊢
      match r1, hp with
      | .stuck, hp => exact hp
      | .exn e st, hp => exact hp
      | .ok (d, st), hp =>
        cases d with
        | non =>
          have hp : PostX ⟨P, w, K⟩ H ⟨[a], av⟩ (madeI c st[0]?) (fun d H' ρ' => ∀ a', a' = a → TabX ⟨P, w, K⟩ H' → (∀ ρo : Rho, (∀ b ∈ ρo, b ∈ av) → Rep ⟨P, w, K⟩ H' ρo d (.ref a')) → Q .non H') E := hp
          unfold madeI at hp
          split at hp
          · rename_i c' ns vs e1
            split at hp
            · rename_i cnd
              obtain ⟨rfl, hst⟩ := cnd
              intro H' ρ' g hs v rv
              obtain rfl : v = .non := rv
              obtain ⟨b, eb, dx', fs, hq, en, rf⟩ := hs.at_ 0 _ e1
              have e2 := g.pre 0 a rfl
              rw [eb] at e2; cases e2
              refine hp H' ρ' g a rfl hs.tb fun ρo ho => ⟨a, dx', fs, rfl, fun z => na (ho a z), hq, en, rf.fewer (fun x m => ?_) hst⟩
              right; rw [g.av]; exact ho x m
            · exact hp.elim
          · exact hp.elim
        | _ => exact hp.elim⟩
end
/-- C(..) -/
def eMake (f : Pf) (a : Av) : Ev := fun env st => a env st >>= fun p => if stills p.1 = true then R.land p.2 (f p.1) else .stuck
section
variable {X : Cx} {E : XK} {pos : Pos}
theorem de_make {CX : CXT} {c : Str} {k n : Nat} {f : Addr} {fd : FuncData} {ps : List Str} {g : Pf} {p : Pos} {e : Expr} {es : List Expr} {m : Av} (hM : Mk X.K (He.ga X.K c) f) (F : FnOk X.prog X.w X.K X.mg X.base CX k f fd ps (spI (zx X) c n g)) (hr : Room (k + 1) X.A) (hg : Gl X c) (hm : X.mg c = some (.ref (He.ga X.K c))) (hb : Binds X.K fd ps []) (hx : Passes CX X E)
    (ha : DA X E (e :: es) m) (hn : ∀ env st p, m env st = .ok p → p.1.length = n) (hdb : (c == ("__debug__" : Str)) = false := by decide) (he : starEach (e :: es) X.env = (false, eval e X.env) :: starEach es X.env := by rfl) (hpl : (backTo pos (starEach es X.env)).any (·.1) = false := by rfl) :
    DE X E (.Call (.Name c p) (e :: es) [] pos) (eMake g m) :=
  pe_weak (pe_make hM F hr hg hm hb .nil hx ha hdb he hpl) fun σ H Q ⟨env, st, ρ, hen, hst, hp⟩ => by
    have hn' := hn env st
    unfold eMake at hp
    refine ⟨env, st, ρ, hen, hst, ?_⟩
    cases e1 : m env st with
    | stuck => rw [e1] at hp; exact hp.elim
    | exn x s => rw [e1] at hp; exact hp
    | ok q =>
      have hl := hn' q e1
      rw [e1] at hp
      have hp : PostX (zx X) H ρ (if stills q.1 = true then R.land q.2 (g q.1) else .stuck) (BE (zx X) Q) E := hp
      split at hp
      · rename_i hst2
        intro H1 ρ1 g1 hs1 vs rv x dx hx1 hdx hne
        rw [List.append_nil]
        have hp1 := hp.grow g1
        have kp1 : ∀ b o, H1 b = some o → upd (upd H1 dx (.own x)) x (.ins (He.ga X.K c) dx []) b = some o := fun b o eb => by
          rw [upd_ne (fun z => by rw [z, hx1] at eb; cases eb), upd_ne (fun z => by rw [z, hdx] at eb; cases eb)]; exact eb
        have hav : x ∉ ρ1.own ++ ρ1.av := fun m => by
          rcases List.mem_append.mp m with m | m
          · exact hs1.tracked (.inl m) hx1
          · exact hs1.tracked (.inr m) hx1
        have was1 : ∀ b, H1 b ≠ none → upd (upd H1 dx (.own x)) x (.ins (He.ga X.K c) dx []) b ≠ none := fun b eb => by
          rw [upd_ne (fun z => eb (by rw [z]; exact hx1)), upd_ne (fun z => eb (by rw [z]; exact hdx))]; exact eb
        have tb1 : TabX (zx X) (upd (upd H1 dx (.own x)) x (.ins (He.ga X.K c) dx [])) := fun z m cc P e => (hs1.tb z m cc P e).ext kp1
        obtain ⟨gk, sk⟩ := back_kp hs1 (fun b o _ eb => kp1 b o eb) was1 tb1
        have wd : Wide H1 (upd (upd H1 dx (.own x)) x (.ins (He.ga X.K c) dx [])) ρ1 ⟨ρ1.own, x :: ρ1.av⟩ := ⟨fun _ _ h => h, fun b o eb _ _ => kp1 b o eb, fun b m => by
          rcases m with m | m
          · exact .inl (.inl m)
          · rcases List.mem_cons.mp m with rfl | m
            · exact .inr hx1
            · exact .inl (.inr m)⟩
        have rv2 : Reps (zx X) (upd (upd H1 dx (.own x)) x (.ins (He.ga X.K c) dx [])) ⟨[x], ρ1.own ++ ρ1.av⟩ q.1 vs := (rv.wide wd).fewer (fun b m => by
          rcases m with m | m
          · right
            obtain rfl : b = x := by simpa using m
            exact List.mem_cons_self
          · rcases List.mem_append.mp m with m | m
            · exact .inl m
            · exact .inr (List.mem_cons_of_mem _ m)) hst2
        refine ⟨by rw [List.length_cons, rv.len, hl], x, dx, vs, q.1, ρ1.own ++ ρ1.av, rfl, hav, upd_same, fun b m => sk.mt b (List.mem_append.mp m), sk.tb, rv2, ?_⟩
        have kp2 : ∀ {H2 : Hp} {ρ2 : Rho}, Grow (upd (upd H1 dx (.own x)) x (.ins (He.ga X.K c) dx [])) H2 ⟨[x], ρ1.own ++ ρ1.av⟩ ρ2 → ∀ b o, NT o → H1 b = some o → H2 b = some o := fun g2 b o nt eb => g2.keep b o (kp1 b o eb) nt fun m => by
          obtain rfl : b = x := by simpa using m
          rw [hx1] at eb; cases eb
        cases ef : g q.1 with
        | stuck => rw [ef] at hp1; exact hp1.elim
        | exn z s =>
          rw [ef] at hp1
          have hp1 : PostX (zx X) H1 ρ1 (if hards z.vs = true then .exn z q.2 else .stuck) (BE (zx X) Q) E := hp1
          split at hp1
          · rename_i hz
            intro cv dz H2 ρ2 g2 hs2 ⟨ec, d, fs, e3, e4, e5, r5⟩
            obtain ⟨g3, hs3⟩ := back_kp hs1 (kp2 g2) (fun b eb => g2.was b (was1 b eb)) hs2.tb
            exact hp1 cv dz H2 ρ1 g3 hs3 ⟨ec, d, fs, e3, e4, e5, r5.hard hs3.mt hz⟩
          · exact hp1.elim
        | ok d =>
          rw [ef] at hp1
          intro H2 ρ2 g2 a' ea tb rd
          subst ea
          obtain ⟨g3, hs3⟩ := back_kp hs1 (kp2 g2) (fun b eb => g2.was b (was1 b eb)) tb
          exact ⟨rfl, hp1 H2 ρ1 g3 hs3 _ (rd ρ1 fun b m => List.mem_append.mpr m)⟩
      · exact hp.elim
end
end Px
/-! P21: the rules in the form that the printed derivations use. -/
namespace Px
open PySem PySem.Spec
open L2
/-- what every block of a def knows -/
structure Kx (X : Cx) (k : Nat) : Prop where
  hr : Room k X.A
  nd : X.N.Nodup
  calm : X.calm = true
theorem Kx.hu {X : Cx} {k : Nat} (h : Kx X k) : X.A.units + 64 < cLine := by have := h.hr.un; omega
theorem Kx.blk {X : Cx} {k : Nat} (h : Kx X k) {s : Shared} {H : Hp} {sc : Scope} {ce : Env} {fp : List Addr} : Kx (X.blk s H sc ce fp) k := ⟨h.hr, h.nd, h.calm⟩
/-- a def that may be called -/
structure CalP (P : Program) (w : World) (K : PySem.W.Frag) (mg : Str → Option Value) (base : Heap) (x : Str) (k n : Nat) (g : Pf) : Prop where
  ex : ∃ f fd ps, FnOk P w K mg base (CX P w) k f fd ps (spP ⟨P, w, K⟩ n g) ∧ mg x = some (.ref f) ∧ PySem.W.keepIn K (.ref f) = true ∧ Binds K fd ps []
structure CalM (P : Program) (w : World) (K : PySem.W.Frag) (mg : Str → Option Value) (base : Heap) (x : Str) (k n : Nat) (g : Fv) : Prop where
  ex : ∃ f fd ps, FnOk P w K mg base (CX P w) k f fd ps (spD ⟨P, w, K⟩ n g) ∧ mg x = some (.ref f) ∧ PySem.W.keepIn K (.ref f) = true ∧ Binds K fd ps []
structure CalI (P : Program) (w : World) (K : PySem.W.Frag) (mg : Str → Option Value) (base : Heap) (x : Str) (k n : Nat) (g : Pf) : Prop where
  ex : ∃ f fd ps, FnOk P w K mg base (CX P w) k f fd ps (spI ⟨P, w, K⟩ x n g) ∧ mg x = some (.ref (He.ga K x)) ∧ Mk K (He.ga K x) f ∧ Binds K fd ps []
section
variable {X : Cx} {E : XK} {pos : Pos} {kk : Nat}
theorem de_P {x : Str} {k n : Nat} {g : Pf} {p : Pos} {e : Expr} {es : List Expr} {m : Av} (h : Kx X kk) (hp : Passes (CX X.prog X.w) X E) (c : CalP X.prog X.w X.K X.mg X.base x k n g) (hk : k ≤ kk) (ha : DA X E (e :: es) m) (hn : ∀ env st p, m env st = .ok p → p.1.length = n) (hg : Gl X x := by rfl)
    (hdb : (x == ("__debug__" : Str)) = false := by decide) (he : starEach (e :: es) X.env = (false, eval e X.env) :: starEach es X.env := by rfl) (hpl : (backTo pos (starEach es X.env)).any (·.1) = false := by rfl) : DE X E (.Call (.Name x p) (e :: es) [] pos) (eCallP g m) := by
  obtain ⟨f, fd, ps, F, hm, hk2, hb⟩ := c.ex
  exact de_callP F (h.hr.mono hk) hg hm hk2 hb hp ha hn hdb he hpl
theorem de_M {x : Str} {k n : Nat} {g : Fv} {p : Pos} {e : Expr} {es : List Expr} {m : Av} (h : Kx X kk) (hp : Passes (CX X.prog X.w) X E) (c : CalM X.prog X.w X.K X.mg X.base x k n g) (hk : k ≤ kk) (ha : DA X E (e :: es) m) (hn : ∀ env st p, m env st = .ok p → p.1.length = n) (hg : Gl X x := by rfl)
    (hdb : (x == ("__debug__" : Str)) = false := by decide) (he : starEach (e :: es) X.env = (false, eval e X.env) :: starEach es X.env := by rfl) (hpl : (backTo pos (starEach es X.env)).any (·.1) = false := by rfl) : DE X E (.Call (.Name x p) (e :: es) [] pos) (eCall g m) := by
  obtain ⟨f, fd, ps, F, hm, hk2, hb⟩ := c.ex
  exact de_call F (h.hr.mono hk) hg hm hk2 hb hp ha hn hdb he hpl
theorem de_I {x : Str} {k n : Nat} {g : Pf} {p : Pos} {e : Expr} {es : List Expr} {m : Av} (h : Kx X kk) (hp : Passes (CX X.prog X.w) X E) (c : CalI X.prog X.w X.K X.mg X.base x k n g) (hk : k + 1 ≤ kk) (ha : DA X E (e :: es) m) (hn : ∀ env st p, m env st = .ok p → p.1.length = n) (hg : Gl X x := by rfl)
    (hdb : (x == ("__debug__" : Str)) = false := by decide) (he : starEach (e :: es) X.env = (false, eval e X.env) :: starEach es X.env := by rfl) (hpl : (backTo pos (starEach es X.env)).any (·.1) = false := by rfl) : DE X E (.Call (.Name x p) (e :: es) [] pos) (eMake g m) := by
  obtain ⟨f, fd, ps, F, hm, hM, hb⟩ := c.ex
  exact de_make hM F (h.hr.mono hk) hg hm hb hp ha hn hdb he hpl
/-- a module's whole number -/
theorem de_gint {x : Str} {i : Int} (h : ∃ t, X.mg x = some (.int i t)) (hg : Gl X x := by rfl) (hd : (x == ("__debug__" : Str)) = false := by decide) : DE X E (.Name x pos) (eC (.int i)) := by
  obtain ⟨t, ht⟩ := h
  exact de_glob hg ht (v := .int i) ⟨t, rfl⟩ (fun _ _ _ => rfl) hd
end
section
variable {P : Program} {w : World} {K : PySem.W.Frag} {mg : Str → Option Value} {base : Heap}
/-- a def of the text -/
structure DefF (K : PySem.W.Frag) (mg : Str → Option Value) (x : Str) (st : Stmt) : Prop where
  ex : ∃ f fd, FunD K x x (defArgs st) (defBody st) (defScope st) [] [] f fd ∧ mg x = some (.ref f)
/-- what binds its arguments -/
def BindsBy (x : Str) (st : Stmt) (ps : List Str) : Prop := ∀ (kV doc pm : Value) (an : Option Addr) (cdv ct : Value) (us : List Value), us.length = ps.length → bindArgs (PySem.W.fnOf x x (defArgs st) (defBody st) (defScope st) .none kV doc pm an cdv ct) { pos := us } = pure (ps.zip us)
theorem cal_P {x : Str} {st : Stmt} {N ps : List Str} {k : Nat} {m : Sm} (F : DefF K mg x st) (sc : FnScope N ps (defScope st)) (hb : BindsBy x st ps)
    (hm : ∀ (f : Addr) (cdv : Value) (A : Around) (outer : List Env) (s : Shared) (H : Hp) (E : XK), Kx (cxOf (CX P w) P w K mg base N x (defScope st) f cdv A outer s H E) k → Passes (CX P w) (cxOf (CX P w) P w K mg base N x (defScope st) f cdv A outer s H E) E →
      PassesOwn (model P w) (cxOf (CX P w) P w K mg base N x (defScope st) f cdv A outer s H E).A (cxOf (CX P w) P w K mg base N x (defScope st) f cdv A outer s H E).env (cxOf (CX P w) P w K mg base N x (defScope st) f cdv A outer s H E).xe → DSs (cxOf (CX P w) P w K mg base N x (defScope st) f cdv A outer s H E) E (defBody st) m) :
    CalP P w K mg base x (k + 1) ps.length (mP N.length m) := by
  obtain ⟨f, fd, F, hm2⟩ := F.ex
  refine ⟨f, fd, ps, fnP F sc fun cdv A outer s H E hr => ?_, hm2, F.kp, F.bindsN hb⟩
  exact hm f cdv A outer s H E ⟨hr, sc.nd, rfl⟩ (passC rfl rfl rfl rfl) (passes_of rfl)
theorem cal_M {x : Str} {st : Stmt} {N ps : List Str} {k : Nat} {m : Sm} (F : DefF K mg x st) (sc : FnScope N ps (defScope st)) (hb : BindsBy x st ps)
    (hm : ∀ (f : Addr) (cdv : Value) (A : Around) (outer : List Env) (s : Shared) (H : Hp) (E : XK), Kx (cxOf (CX P w) P w K mg base N x (defScope st) f cdv A outer s H E) k → Passes (CX P w) (cxOf (CX P w) P w K mg base N x (defScope st) f cdv A outer s H E) E →
      PassesOwn (model P w) (cxOf (CX P w) P w K mg base N x (defScope st) f cdv A outer s H E).A (cxOf (CX P w) P w K mg base N x (defScope st) f cdv A outer s H E).env (cxOf (CX P w) P w K mg base N x (defScope st) f cdv A outer s H E).xe → DSs (cxOf (CX P w) P w K mg base N x (defScope st) f cdv A outer s H E) E (defBody st) m) :
    CalM P w K mg base x (k + 1) ps.length (mM N.length m) := by
  obtain ⟨f, fd, F, hm2⟩ := F.ex
  refine ⟨f, fd, ps, fnM F sc fun cdv A outer s H E hr => ?_, hm2, F.kp, F.bindsN hb⟩
  exact hm f cdv A outer s H E ⟨hr, sc.nd, rfl⟩ (passC rfl rfl rfl rfl) (passes_of rfl)
/-- __init__ of an own class -/
structure DefI (K : PySem.W.Frag) (mg : Str → Option Value) (c qual : Str) (st : Stmt) : Prop where
  ex : ∃ f fd, FunD K "__init__" qual (defArgs st) (defBody st) (defScope st) [] [] f fd ∧ mg c = some (.ref (He.ga K c)) ∧ Mk K (He.ga K c) f
def BindsI (qual : Str) (st : Stmt) (ps : List Str) : Prop := ∀ (kV doc pm : Value) (an : Option Addr) (cdv ct : Value) (us : List Value), us.length = ps.length → bindArgs (PySem.W.fnOf "__init__" qual (defArgs st) (defBody st) (defScope st) .none kV doc pm an cdv ct) { pos := us } = pure (ps.zip us)
theorem cal_I {c qual : Str} {st : Stmt} {N ps : List Str} {k n : Nat} {m : Sm} (F : DefI K mg c qual st) (sc : FnScope N ps (defScope st)) (hl : ps.length = n + 1) (hb : BindsI qual st ps)
    (hm : ∀ (f : Addr) (cdv : Value) (A : Around) (outer : List Env) (s : Shared) (H : Hp) (E : XK), Kx (cxOf (CX P w) P w K mg base N qual (defScope st) f cdv A outer s H E) k → Passes (CX P w) (cxOf (CX P w) P w K mg base N qual (defScope st) f cdv A outer s H E) E →
      PassesOwn (model P w) (cxOf (CX P w) P w K mg base N qual (defScope st) f cdv A outer s H E).A (cxOf (CX P w) P w K mg base N qual (defScope st) f cdv A outer s H E).env (cxOf (CX P w) P w K mg base N qual (defScope st) f cdv A outer s H E).xe → DSs (cxOf (CX P w) P w K mg base N qual (defScope st) f cdv A outer s H E) E (defBody st) m) :
    CalI P w K mg base c (k + 1) n (mI c N.length m) := by
  obtain ⟨f, fd, F, hm2, hM⟩ := F.ex
  refine ⟨f, fd, ps, fnI F sc hl fun cdv A outer s H E hr => ?_, hm2, hM, F.bindsN hb⟩
  exact hm f cdv A outer s H E ⟨hr, sc.nd, rfl⟩ (passC rfl rfl rfl rfl) (passes_of rfl)
end
section
variable {X : Cx} {E : XK} {pos : Pos}
theorem ds_par3 {i j l : Nat} {x y z : Str} {a b c : Expr} {m : Av} {px py pz pt : Pos} {kt k2 : Nat} {pt2 : Pos} (hc : X.calm = true) (hN : X.N.Nodup) (hi : X.N[i]? = some x) (hj : X.N[j]? = some y) (hk : X.N[l]? = some z) (hij : i ≠ j) (hik : i ≠ l) (hjk : j ≠ l)
    (hx : X.env.scope.names.lookup x = some .local) (hy : X.env.scope.names.lookup y = some .local) (hz : X.env.scope.names.lookup z = some .local) (ha : DA X E [a, b, c] m)
    (hsw : swappedStores [.Tuple [.Name x px, .Name y py, .Name z pz] kt pt] (.Tuple [a, b, c] k2 pt2) X.env = pure (some [x, y, z])) (hs : swapsWithSole [.Tuple [.Name x px, .Name y py, .Name z pz] kt pt] (.Tuple [a, b, c] k2 pt2) pos.line X.env = pure false := by rfl) :
    DS X E (.Assign [.Tuple [.Name x px, .Name y py, .Name z pz] kt pt] (.Tuple [a, b, c] k2 pt2) pos) (sPar3 i j l m) :=
  ps_weak (ps_par3 hc hN hi hj hk hij hik hjk hx hy hz ha hsw hs) fun U σ H ⟨env, st, ρ, he, hst, hp⟩ => ⟨env, st, ρ, he, hst, PostX.seq hp fun p H1 ρ1 g1 hp1 hs1 vs rv => by
    split at hp1
    · rename_i dx dy dz e
      rw [e] at rv
      obtain ⟨u, r, rfl, r1, v, r2, rfl, h2, w, r3, rfl, h3, e3⟩ := rv
      have e3 : r3 = [] := e3
      subst e3
      exact ⟨u, v, w, rfl, hp1 H1 ρ1 .refl hs1 _ ((((he.grow g1).put i r1).put j h2).put l h3)⟩
    · exact hp1.elim⟩
end
end Px
/-! P22: the law itself. -/
namespace Px
open PySem PySem.Spec
open L2
/-- a def that raises nothing, among those that let nothing through -/
theorem fn_calm {P : Program} {w : World} {K : PySem.W.Frag} {mg : Str → Option Value} {base : Heap} {k : Nat} {f : Addr} {fd : FuncData} {ps : List Str} {sp : Sp} (F : FnOk P w K mg base (CX P w) k f fd ps sp) : FnOk P w K mg base CX0 k f fd ps (fun vs H Q _ => sp vs H Q noE) where
  len := fun vs H Q E h => F.len vs H Q noE h
  run := fun A outer s H args us vs Q E hr he hb hv h => codeAny_mono (F.run A outer s H args us vs Q noE hr he hb hv h) fun r s' q => by
    match r, q with
    | .ok (.ret u), q => exact q
    | .error e, q =>
      obtain ⟨a, B, H', cls, d, h1, h2, h3, h4, h5, h6, h7, h8⟩ := (q : CX P w outer H s noE e s')
      exact h8.elim
theorem law_sp {Z : Wd} {m : Pf} {H : Hp} {a : Addr} {ns : List Int} (tb : TabX Z H) (h : SqL Z.K H a (ns.map V.int)) (e : m [.scr ns] = .ok (.bl true)) : spP Z 1 m [.ref a] H (fun v _ => v = .bl true) noE := by
  refine ⟨rfl, [.scr ns], .none, rfl, fun b q => absurd q (by simp [Rho.none]), tb, .one ⟨a, rfl, ?_⟩, ?_⟩
  · rcases h with h | h
    · exact .inl ⟨h, Rho.not_none a⟩
    · exact .inr (.inr h)
  · rw [e]
    intro H' ρ' g _ _ _ v rv
    exact rv
/-- the law's def -/
def LawFn (P : Program) (w : World) (K : PySem.W.Frag) (mg : Str → Option Value) (k : Nat) (m : Pf) : Prop := ∃ f fd, mg "law" = some (.ref f) ∧ (∀ (s : Shared) (u : Value), BindsTo s fd { pos := [u] } [("script", u)]) ∧ ∀ base : Heap, FnOk P w K mg base (CX P w) k f fd ["script"] (spP ⟨P, w, K⟩ 1 m)
theorem cal_L {P : Program} {w : World} {K : PySem.W.Frag} {mg : Str → Option Value} {st : Stmt} {N : List Str} {k : Nat} {m : Sm} (F : DefF K mg "law" st) (sc : FnScope N ["script"] (defScope st)) (hb : BindsBy "law" st ["script"])
    (hm : ∀ (base : Heap) (f : Addr) (cdv : Value) (A : Around) (outer : List Env) (s : Shared) (H : Hp) (E : XK), Kx (cxOf (CX P w) P w K mg base N "law" (defScope st) f cdv A outer s H E) k → Passes (CX P w) (cxOf (CX P w) P w K mg base N "law" (defScope st) f cdv A outer s H E) E →
      PassesOwn (model P w) (cxOf (CX P w) P w K mg base N "law" (defScope st) f cdv A outer s H E).A (cxOf (CX P w) P w K mg base N "law" (defScope st) f cdv A outer s H E).env (cxOf (CX P w) P w K mg base N "law" (defScope st) f cdv A outer s H E).xe → DSs (cxOf (CX P w) P w K mg base N "law" (defScope st) f cdv A outer s H E) E (defBody st) m) :
    LawFn P w K mg (k + 1) (mP N.length m) := by
  obtain ⟨f, fd, F, hm2⟩ := F.ex
  refine ⟨f, fd, hm2, fun s u => F.bindsA (ps := ["script"]) hb s [u] rfl, fun base => fnP F sc fun cdv A outer s H E hr => ?_⟩
  exact hm base f cdv A outer s H E ⟨hr, sc.nd, rfl⟩ (passC rfl rfl rfl rfl) (passes_of rfl)
end Px
/-! P23: sorted(xs, key=lambda x: (f(x), x)), f len or sum. -/
namespace Px
open PySem PySem.Spec
open L2
/-! ### the lambda made -/
section
variable {X : Cx} {pins : List (Addr × Obj)} {σ : L2.St} {H : Hp} {s : Shared}
/-- a lambda's making: the table is written, or it stays -/
theorem lam_new {c P : Addr} {q : Str} {params : Arguments} {body : Expr} {scope : Scope} {pos : Pos} {E : Value → Shared → Prop} {Q : Value → Shared → Prop} (I : Inv X pins σ H s) (B : LamX.TabB X.base X.mg c P) (code : X.env.code = .ref c)
    (eq : q = X.env.qual ++ "<lambda>") (T : LamX.TabS H P q) (dflt : defaultsOf params X.env = ([], [])) (free : ∀ y ∈ scope.names, y.2 = .free → ∃ c, X.env.cells.lookup y.1 = some c)
    (go : ∀ (f c1 : Addr) (pm ctv : Value) (H1 : Hp) (s1 : Shared), Inv X pins σ H1 s1 → (H1 = H ∨ ∃ ps more, H P = some (.tbl ps) ∧ H c1 = none ∧ H1 = upd (upd H P (.tbl (ps ++ more))) c1 (LamX.CodeO c1 q)) → LamX.TabS H1 P q →
      s1.heap.get? f = some (PySem.W.kla_obj "<lambda>" q params body scope (cloFrom X.env.cells scope.names []) pm c1 ctv) → H1 f = none → (∀ b o, s.heap.get? b = some o → b ≠ f) → H1 c1 = some (LamX.CodeO c1 q) → Q (.ref f) s1) :
    wpAny (model X.prog X.w) X.A (eval (.Lambda params body scope pos) X.env) Q E s := by
  subst eq
  obtain ⟨rows, atP, wf, named⟩ := T
  have heapP := I.hok P _ atP
  have older : ∀ {g : Addr}, s.heap.objs.size ≤ g → ∀ b o, s.heap.get? b = some o → b ≠ g := fun le b o e z => by
    subst z
    exact absurd (Heap.lt_size e) (Nat.not_lt.mpr le)
  refine PySem.W.kla_eval dflt ?_
  match hit : codeAmong pos rows.toList with
  | some cv =>
    obtain ⟨c1, rfl, known⟩ := named pos cv hit
    refine PySem.W.kla_makeFunctionHit (P := P) (c := c) (mg := X.mg) (ps := rows) (closure_ok free) I.ok.glob (I.mod.glob.keeps I.bk) code (B.code.keeps I.bk) heapP wf hit (B.bm.keeps I.bk) fun ctv g tk ext size => ?_
    refine go g.objs.size c1 _ ctv H _ (I.kept fun b o e => Heap.get?_push_of_some _ (ext b o e)) (.inl rfl) ⟨rows, atP, wf, named⟩ (Heap.get?_push_size _ rfl) (I.hok.fresh size) (older size) known
  | none =>
    refine PySem.W.kla_makeFunction (P := P) (c := c) (mg := X.mg) (ps := rows) (closure_ok free) I.ok.glob (I.mod.glob.keeps I.bk) code (B.code.keeps I.bk) heapP wf hit B.gP (B.bm.keeps I.bk) fun c1 ctv g tk ext low high rec' tab => ?_
    obtain ⟨_, oc, ov, ot, e0, oc1, oc2, oc3⟩ := rec'
    cases e0
    have size := Nat.le_trans low (Nat.le_of_lt high)
    have newC : H c1 = none := I.hok.fresh low
    have apart : P ≠ c1 := fun z => by rw [z, newC] at atP; cases atP
    have J := LamX.inv_table (P := P) (c := c1) (more := #[rawInt pos.line, rawInt pos.col, .ref c1]) (t' := tk) (h' := g.push (PySem.W.kla_obj "<lambda>" (X.env.qual ++ "<lambda>") params body scope (cloFrom X.env.cells scope.names []) ((X.mg "__name__").getD .none) c1 ctv)) I atP
      (fun b o ne e => Heap.get?_push_of_some _ (ext b o ne e)) (Heap.get?_push_of_some _ tab) low ⟨oc, ov, ot, Heap.get?_push_of_some _ oc1, oc2, oc3⟩
    refine go g.objs.size c1 _ ctv _ _ J (.inr ⟨rows, _, atP, newC, rfl⟩) ⟨_, by rw [upd_ne apart, upd_same], ?_, fun p cv h => ?_⟩ (Heap.get?_push_size _ rfl) ?_ (older size) upd_same
    · have e : (rows ++ #[rawInt pos.line, rawInt pos.col, Value.ref c1]).toList = rows.toList ++ [rawInt pos.line, rawInt pos.col, .ref c1] := by simp
      rw [e]
      exact PySem.TriplesOk_snoc _ _ _ _ wf
    · have e : (rows ++ #[rawInt pos.line, rawInt pos.col, Value.ref c1]).toList = rows.toList ++ [rawInt pos.line, rawInt pos.col, .ref c1] := by simp
      rw [e] at h
      rcases LamX.among_app _ wf h with h | h
      · obtain ⟨c2, e1, e2⟩ := named p cv h
        refine ⟨c2, e1, ?_⟩
        rw [upd_ne (fun z => by rw [z, newC] at e2; cases e2), upd_ne (fun z => by rw [z, atP] at e2; exact LamX.codeO_ne _ (Option.some.inj e2).symm)]
        exact e2
      · exact ⟨c1, h, upd_same⟩
    · rw [upd_ne (Nat.ne_of_gt high), upd_ne (fun z => ?_)]
      · exact I.hok.fresh size
      · have h1 := Heap.lt_size heapP
        rw [← z] at h1
        exact absurd h1 (Nat.not_lt.mpr size)
end
/-! ### the lambda called -/
/-- the lambda's scope: one parameter, a built-in -/
structure KeyScope (x fn : Str) (scope : Scope) : Prop where
  kind : scope.kind = .function
  co : scope.isCoroutine = false
  gen : scope.isGenerator = false
  nocell : ∀ y ∈ scope.names, y.2 ≠ .cell
  nofree : ∀ y ∈ scope.names, y.2 = .free → False
  par : scope.names.lookup x = some .local
  glo : scope.names.lookup fn = some .globalImplicit
  dx : (x == ("__debug__" : Str)) = false
  df : (fn == ("__debug__" : Str)) = false
  nf : fn ≠ "__name__"
section
variable {P : Program} {w : World} {A : Around}
theorem lam_turn {mg mb : Str → Option Value} {s : Shared} {f a : Addr} {q x fn : Str} {id : String} {params : Arguments} {scope : Scope} {clo : List (Str × Addr)} {pm cdv ctv : Value} {k : Nat} {p1 p2 p3 p4 p5 : Pos} {n : Int} {d : PyData} (S : KeyScope x fn scope) (deep : A.depth < recursionLimit)
    (hf : s.heap.get? f = some { cls := .type "function", data := .func (PySem.W.kla_fn "<lambda>" q params (.Tuple [.Call (.Name fn p1) [.Name x p2] [] p3, .Name x p4] k p5) scope clo pm cdv ctv) }) (hc : s.heap.CodeRec cdv q) (hm : s.heap.Ns mainGlobals mg) (hmf : mg fn = none) (hb : s.heap.Ns builtinsNs mb) (hbf : mb fn = some (.builtin id)) (lim : s.heap.NoLimit)
    (hbind : bindArgs (PySem.W.kla_fn "<lambda>" q params (.Tuple [.Call (.Name fn p1) [.Name x p2] [] p3, .Name x p4] k p5) scope clo pm cdv ctv) ⟨[.ref a], []⟩ = pure [(x, .ref a)])
    (rd : Reads s.heap (.ref a) d [])
    (call1 : ∀ (h : Heap) (tk : Nat) (A : Around) (Q : Value → Shared → Prop) (E : Value → Shared → Prop), (∀ b o, s.heap.get? b = some o → h.get? b = some o) → (∀ t tk', Q (.int n t) { s with heap := h, toks := tk' }) → wpAny (model P w) A (PySem.call (.builtin id) [.ref a]) Q E { s with heap := h, toks := tk }) :
    wpAny (model P w) A (PySem.call (.ref f) [.ref a]) (PySem.W.KeyPure (.tuple [.int n, d]) s) (fun _ _ => False) s := by
  have run : codeAny (model P w) A (.call (.ref f) ⟨[.ref a], []⟩) (fun r s2 => match r with
      | .ok (.ret u) => PySem.W.KeyPure (.tuple [.int n, d]) s u s2
      | _ => False) s := by
    refine PySem.W.kla_callFunE deep hf rfl S.co S.gen rfl hc ?_
    rw [hbind]
    refine wpAny_pure (wpAny_newFunctionEnv S.nocell (fun y hy => ?_) (fun h1 ns same => ⟨lim.fresh _ same, ?_⟩) S.kind)
    · have : y = (x, .ref a) := by simpa using hy
      rw [this]; exact S.par
    have kp : ∀ b o, s.heap.get? b = some o → h1.get? b = some o := fun b o e => same.extBut b o (Nat.ne_of_lt (Heap.lt_size e)) (Heap.get?_push_of_some _ e)
    refine PySem.W.kla_codeExpr ?_
    have vx : ∀ (h2 : Heap) (tk : Nat) (pp : Pos) (A : Around) (Q : Value → Shared → Prop) (E : Value → Shared → Prop), (∀ b o, h1.get? b = some o → h2.get? b = some o) → Q (.ref a) { s with heap := h2, toks := tk } → wpAny (model P w) A (eval (.Name x pp) (newEnv scope s.heap.objs.size mainGlobals clo (q ++ ".<locals>.") (some f) cdv none builtinsNs)) Q E { s with heap := h2, toks := tk } :=
      fun h2 tk pp A Q E k2 q2 => wpAny_Name (wpAny_loadName_local S.kind S.par (ns.keeps k2) (by simp) q2) S.dx
    refine PyProof.Rows.Tuple_ (Calls.spliced_cons (PyProof.Rows.Call_Name1 ?_))
    refine Calls.Name_function_global S.kind S.glo (Calls.loadGlobal_builtin (hm.keeps kp) hmf (hb.keeps kp) hbf ?_) S.df
    refine callWith_builtin1 (vx _ _ _ _ _ _ (fun _ _ e => e) (call1 _ _ _ _ _ kp fun t tk' => ?_))
    refine Calls.spliced_cons (vx _ _ _ _ _ _ (fun _ _ e => e) (Calls.spliced_nil (wpAny_newTuple ⟨_, _, rfl, fun b o e => Heap.get?_push_of_some _ (kp b o e), ?_⟩ (by rw [sizeLine_eq]; simp))))
    have r2 : Reads (h1.push { cls := .type "tuple", data := .seq [Value.int n t, Value.ref a].toArray }) (.ref a) d [] := PyProof.Rows.Reads.keeps (fun b o e => Heap.get?_push_of_some _ (kp b o e)) rd
    exact .tuple (Heap.get?_push_size _ rfl) rfl rfl (.cons (as := []) (bs := []) (.int n t) (.cons (as := []) (bs := []) r2 .nil))
  refine wpAny_call (codeAny_mono run fun r s2 h => ?_)
  match r, h with
  | .ok (.ret u), h => exact h
end
end Px
/-! P24: sorted(xs, key=lambda x: (f(x), x)) over data. -/
namespace Px
open PySem PySem.Spec
open L2
mutual
/-- no list in it -/
def noL : D → Bool
  | .tup l => noLs l
  | .lst _ => false
  | .non => true
  | .bl _ => true
  | .int _ => true
  | .str _ => true
  | _ => false
def noLs : List D → Bool
  | [] => true
  | d :: l => noL d && noLs l
end
mutual
theorem noL_reads {h : Heap} : ∀ (d : D) (v : Value) (as : List Addr), noL d = true → Reads h v (toPy d) as → as = []
  | .tup l, v, as, q, r => by
    cases r with
    | tuple _ _ _ ra => exact noLs_reads l _ _ q ra
  | .non, v, as, _, r => by cases r; rfl
  | .bl _, v, as, _, r => by cases r; rfl
  | .int _, v, as, _, r => by cases r; rfl
  | .str _, v, as, _, r => by cases r; rfl
theorem noLs_reads {h : Heap} : ∀ (l : List D) (vs : List Value) (as : List Addr), noLs l = true → ReadsAll h vs (toPys l) as → as = []
  | [], vs, as, _, r => by
    have r : ReadsAll h vs [] as := r
    cases r; rfl
  | d :: l, vs, as, q, r => by
    have q' : (noL d && noLs l) = true := q
    rw [Bool.and_eq_true] at q'
    have r : ReadsAll h vs (toPy d :: toPys l) as := r
    cases r with
    | cons r1 r2 => rw [noL_reads d _ _ q'.1 r1, noLs_reads l _ _ q'.2 r2]; rfl
end
/-- a tuple's number by a built-in -/
abbrev Kn := List D → Option Int
def KnOk (kn : Kn) (id : String) : Prop := ∀ (P : Program) (w : World) (s : Shared) (a : Addr) (l : List D) (n : Int) (A : Around) (Q : Value → Shared → Prop) (E : Value → Shared → Prop), kn l = some n → l.length ≤ LINE → Reads s.heap (.ref a) (.tuple (toPys l)) [] → (∀ t tk, Q (.int n t) { s with toks := tk }) → wpAny (model P w) A (PySem.call (.builtin id) [.ref a]) Q E s
def kLen : Kn := fun l => some l.length
theorem kLen_ok : KnOk kLen "len" := by
  intro P w s a l n A Q E h hl r q
  cases h
  cases r with
  | tuple e1 e2 e3 ra =>
    rename_i o vs m
    have hlen : vs.size = l.length := by
      have := ra.lenAny
      rw [toPys_map, List.length_map] at this
      simpa using this
    have hLINE : LINE = 16777216 := rfl
    have := q (s.toks + 1) (s.toks + 1 + 1)
    rw [← hlen] at this
    exact PyProof.Rows.len_tuple ⟨o, e1, e2, m, e3⟩ (by omega) this
/-- the key: the number, then the tuple -/
def keyKn (kn : Kn) : D → PyData
  | .tup l => .tuple [.int ((kn l).getD 0), toPy (.tup l)]
  | _ => .none
def keyOk1 (kn : Kn) : D → Bool
  | .tup l => (kn l).isSome && decide (l.length ≤ LINE) && noLs l
  | _ => false
def leK1 (kn : Kn) : D → D → Bool := W.dataLe false (keyKn kn)
def sortK (kn : Kn) (st : Store) (d : D) : Option (List D) := match lsD st d with
  | some l => if okDs l = true ∧ l.length ≤ LINE ∧ l.all (keyOk1 kn) = true ∧ (l.all fun a => l.all fun b => W.alike (keyKn kn a) (keyKn kn b)) = true then some (l.mergeSort (leK1 kn)) else none
  | none => none
/-- no two defs have one table -/
def tabsApart (K : PySem.W.Frag) : Bool := lamNames.all fun x => lamNames.all fun y => x == y || (match PySem.W.tabIn K x, PySem.W.tabIn K y with
  | some p, some q => !decide (p.2 = q.2)
  | _, _ => true)
theorem apart_of {K : PySem.W.Frag} (h : tabsApart K = true) {x y : Str} (hx : x ∈ lamNames) (hy : y ∈ lamNames) {c P c' : Addr} (e1 : PySem.W.tabIn K x = some (c, P)) (e2 : PySem.W.tabIn K y = some (c', P)) : x = y := by
  unfold tabsApart at h
  have h1 := List.all_eq_true.mp (List.all_eq_true.mp h x hx) y hy
  rw [e1, e2] at h1
  simpa using h1
/-- a def that makes lambdas: its code object, its table -/
structure LamD (K : PySem.W.Frag) (mg : Str → Option Value) (base : Heap) (x : Str) (cdv : Value) : Prop where
  ex : ∃ c P, PySem.W.tabIn K x = some (c, P) ∧ LamX.TabB base mg c P ∧ cdv = .ref c
  nm : x ∈ lamNames
  ap : tabsApart K = true
theorem upd2_grow {Z : Wd} {H : Hp} {ρ : Rho} {st : Store} {P c : Addr} {ps ps' : Array Value} {o : HO} (hs : StR Z H ρ st) (hP : H P = some (.tbl ps)) (hc : H c = none) (tb : TabX Z (upd (upd H P (.tbl ps')) c o)) :
    Grow H (upd (upd H P (.tbl ps')) c o) ρ ρ ∧ StR Z (upd (upd H P (.tbl ps')) c o) ρ st := by
  have at_ : ∀ b u, H b = some u → NT u → upd (upd H P (.tbl ps')) c o b = some u := fun b u e nt => by
    rw [upd_ne (fun z => by rw [z, hc] at e; cases e), upd_ne (fun z => by rw [z, hP] at e; exact nt ps (Option.some.inj e).symm)]; exact e
  have g : Grow H (upd (upd H P (.tbl ps')) c o) ρ ρ := ⟨fun _ _ h => h, fun a u e nt _ => at_ a u e nt, fun _ h => .inl h, fun b h => by
    by_cases z : b = c
    · rw [z, upd_same]; simp
    · rw [upd_ne z]
      by_cases z2 : b = P
      · rw [z2, upd_same]; simp
      · rw [upd_ne z2]; exact h, fun a _ h => by
    cases e : H a with
    | none => rw [e] at h; exact h.elim
    | some u =>
      rw [e] at h
      rw [at_ a u e (mut_nt h)]; exact h, rfl⟩
  refine ⟨g, hs.same g (fun a m => ?_) tb⟩
  cases e : H a with
  | none => exact absurd e (hs.tracked (.inl m))
  | some u =>
    have := hs.mt a (.inl m)
    rw [e] at this
    exact at_ a u e (mut_nt this)
section
variable {X : Cx} {E : XK} {pos : Pos}
theorem de_sortK {x0 x fn : Str} {id : String} {kn : Kn} {kk : Nat} {e : Expr} {m : Ev} {params : Arguments} {scope : Scope} {k : Nat} {p p1 p2 p3 p4 p5 lpos kpos : Pos} (hr : Room kk X.A) (L : LamD X.K X.mg X.base x0 X.env.code) (hq : X.env.qual = x0 ++ ".<locals>.") (hg : Gl X "sorted") (hm : X.mg "sorted" = none) (hmf : X.mg fn = none) (hbf : bootBuiltins fn = some (.builtin id)) (hkn : KnOk kn id) (S : KeyScope x fn scope) (he : DE X E e m)
    (hdef : defaultsOf params X.env = ([], []) := by rfl)
    (hbind : ∀ (q : Str) (cl : List (Str × Addr)) (pm cv ctv v : Value), bindArgs (PySem.W.kla_fn "<lambda>" q params (.Tuple [.Call (.Name fn p1) [.Name x p2] [] p3, .Name x p4] k p5) scope cl pm cv ctv) ⟨[v], []⟩ = pure [(x, v)] := by intros; rfl)
    (na : backTo pos (starEach [e] X.env) = [(false, eval e X.env)] := by rfl) :
    DE X E (.Call (.Name "sorted" p) [e] [⟨some "key", .Lambda params (.Tuple [.Call (.Name fn p1) [.Name x p2] [] p3, .Name x p4] k p5) scope lpos, kpos⟩] pos) (eL1 (sortK kn) m) := by
  refine ⟨fun pins s σ H Q I ⟨env, st, ρ, hen, hst, hp⟩ => ?_⟩
  refine wpAny_Call_Name_kw (ld_blt I hg hm (by rfl) ?_ (by decide) (by decide))
  refine PyProof.Rows.callWith_kw ?_ (by rw [na]; rfl) (by rw [na]; rfl) (by rfl) (by rfl)
  rw [na]
  refine Calls.spliced_cons (thn (he.go (k := fun p => R.opt (sortK kn p.2 p.1) >>= fun l => (R.ok (D.lst l, p.2) : R (D × Store))) I hen hst hp) fun u s1 ⟨xv, H1, ρ1, pr, I1, r1, g1, he1, hs1, rv, hp1⟩ => Calls.spliced_nil ?_)
  obtain ⟨d, st1⟩ := pr
  simp only at hs1 rv hp1
  cases e1 : sortK kn st1 d with
  | none => rw [e1] at hp1; exact hp1.elim
  | some lo =>
  rw [e1] at hp1
  have hp1 : PostX (zx X) H1 ρ1 (.ok (.lst lo, st1)) (BE (zx X) Q) E := hp1
  unfold sortK at e1
  split at e1
  · rename_i l el
    split at e1
    · rename_i cnd
      cases e1
      obtain ⟨hok, hlen, hkey, hal⟩ := cnd
      obtain ⟨c, P, et, B, hcode⟩ := L.ex
      have T := hs1.tb x0 L.nm c P et
      rw [← hq] at T
      show wpAny _ _ (evalAll [do let v ← eval (.Lambda params (.Tuple [.Call (.Name fn p1) [.Name x p2] [] p3, .Name x p4] k p5) scope lpos) X.env; standAt pos; pure v]) _ _ s1
      refine wpAny_evalAll_cons (wpAny_bind (lam_new I1 B hcode rfl T hdef (fun y hy e => (S.nofree y hy e).elim) fun f c1 pm ctv H2 s2 I2 hH T2 hf nf old hc1 => wpAny_bind (wpAny_standAt (wpAny_pure (wpAny_evalAll_nil ?_)))))
      show wpAny (model X.prog X.w) X.A (PySem.call (.builtin "sorted") [u] [(Str.ofString "key", .ref f)]) _ _ s2
      have step : Grow H1 H2 ρ1 ρ1 ∧ StR (zx X) H2 ρ1 st1 := by
        rcases hH with e | ⟨ps, more, hP, hn, e⟩
        · subst e; exact ⟨.refl, hs1⟩
        · subst e
          refine upd2_grow hs1 hP hn fun y hy c' P' e' => ?_
          by_cases z : P' = P
          · subst z
            have := apart_of L.ap hy L.nm e' et
            subst this
            rw [← hq]; exact T2
          · obtain ⟨ps', a1, a2, a3⟩ := hs1.tb y hy c' P' e'
            have nP : P' ≠ c1 := fun z => by rw [z, hn] at a1; cases a1
            refine ⟨ps', by rw [upd_ne nP, upd_ne z]; exact a1, a2, fun pp cv h => ?_⟩
            obtain ⟨c2, b1, b2⟩ := a3 pp cv h
            refine ⟨c2, b1, ?_⟩
            rw [upd_ne (fun z => by rw [z, hn] at b2; cases b2), upd_ne (fun z => by rw [z, hP] at b2; exact LamX.codeO_ne _ (Option.some.inj b2).symm)]
            exact b2
      obtain ⟨g2, hs2⟩ := step
      have rv2 := rv.grow g2
      obtain ⟨a, xs, rfl, hsq, rx⟩ := rv2.ls hs2 el
      obtain rfl : u = .ref a := r1
      obtain ⟨its, vx, pl, hz⟩ := I2.list hsq
      have hd60 := okDs_dep hok
      have hpy := okDs_py hok
      have hzl : (l.zip xs).map Prod.fst = l := List.map_fst_zip (by rw [rx.len]; omega)
      have hmem : ∀ b ∈ l.zip xs, b.1 ∈ l := fun b m => (List.of_mem_zip m).1
      have henc : (l.zip xs).map (fun b => keyKn kn b.1) = l.map (keyKn kn) := by
        have e0 : (fun b : D × V => keyKn kn b.1) = keyKn kn ∘ Prod.fst := rfl
        rw [e0, ← List.map_map, hzl]
      have hu := hr.un
      have hdp := hr.dp
      have kd : ∀ y ∈ l, ∃ ys n, y = .tup ys ∧ kn ys = some n ∧ ys.length ≤ LINE ∧ noLs ys = true := fun y hy => by
        have h := List.all_eq_true.mp hkey y hy
        unfold keyOk1 at h
        split at h
        · rename_i ys
          rw [Bool.and_eq_true, Bool.and_eq_true, Option.isSome_iff_exists] at h
          obtain ⟨⟨⟨n, h1⟩, h2⟩, h3⟩ := h
          exact ⟨ys, n, rfl, h1, of_decide_eq_true h2, h3⟩
        · cases h
      obtain ⟨⟨oc, ov, ot, oc1, oc2, oc3⟩, _, _⟩ := I2.hok c1 _ hc1
      obtain ⟨mb, hb1, hb2⟩ := I2.mod.blt
      refine PySem.W.sorted_key_data (β := D × V) (b := false) (k := fun b => keyKn kn b.1) (R := fun u b => RelV b.2 u ∧ Rep (zx X) H2 ρ1 b.1 b.2) (vs := its) (bs := l.zip xs) pl.isList (zip_each rx vx) ?_ ?_ ?_ (fun b m => ?_) (PyProof.Rows.ksk_s1 _ _) (fun y => PyProof.Rows.ksk_l1 _ _) (fun y => PyProof.Rows.ksk_t1 _ _) (fun v b hR hb h tk kp => ?_) fun out ol h' tk kp fresh hD hlo oe => ?_
      · rw [henc]
        intro d hd d' hd'
        obtain ⟨y, hy, rfl⟩ := List.mem_map.mp hd
        obtain ⟨y', hy', rfl⟩ := List.mem_map.mp hd'
        exact List.all_eq_true.mp (List.all_eq_true.mp hal y hy) y' hy'
      · rw [henc]
        left
        intro d hd
        obtain ⟨y, hy, rfl⟩ := List.mem_map.mp hd
        obtain ⟨ys, n, rfl, _⟩ := kd y hy
        exact ⟨_, _, rfl⟩
      · rw [sizeLine_eq, List.length_zip]
        have : LINE = 16777216 := rfl
        omega
      · obtain ⟨ys, n, e, _⟩ := kd b.1 (hmem b m)
        have h1 := depth_at (hmem b m)
        have h2 : (keyKn kn b.1).depth ≤ (toPy b.1).depth + 1 := by
          rw [e]
          show (PyData.tuple [.int ((kn ys).getD 0), toPy (.tup ys)]).depth ≤ _
          simp only [PyData.depth, PyData.depthAll]
          omega
        show X.A.units + 2 + (keyKn kn b.1).depth < cLine
        omega
      · obtain ⟨ys, n, e, hn, hl, hnl⟩ := kd b.1 (hmem b hb)
        obtain ⟨rb, rp⟩ := hR
        rw [e] at rp
        obtain ⟨as, rd⟩ := Dp.reads I2 _ _ v (Rep.dp (by rw [← e]; exact isPy_at hpy (hmem b hb)) rp) rb
        have ras : as = [] := noL_reads (.tup ys) v as hnl rd
        subst ras
        obtain ⟨ta, txs, etx, _⟩ := rp
        rw [etx] at rb
        obtain rfl : v = .ref ta := rb
        have ek : keyKn kn b.1 = .tuple [.int n, toPy (.tup ys)] := by rw [e]; show PyData.tuple [.int ((kn ys).getD 0), _] = _; rw [hn]; rfl
        show wpAny _ _ _ (PySem.W.KeyPure (keyKn kn b.1) _) _ _
        rw [ek]
        refine lam_turn (A := X.A.in1.in1) (s := { s2 with heap := h, toks := tk }) S (show X.A.depth < recursionLimit by omega) (kp _ _ hf) ⟨c1, oc, ov, ot, rfl, kp _ _ oc1, oc2, oc3⟩ ((I2.mod.glob.keeps I2.bk).keeps kp) hmf ((hb1.keeps I2.bk).keeps kp) ((hb2 fn S.nf).trans hbf) (I2.nolimit.keeps kp) (hbind _ _ _ _ _ _) (PyProof.Rows.Reads.keeps kp rd) fun h3 tk3 A3 Q3 E3 kp3 q3 => ?_
        refine hkn _ _ { s2 with heap := h3, toks := tk3 } ta ys n A3 Q3 E3 hn hl (PyProof.Rows.Reads.keeps (fun b o e => kp3 _ _ (kp _ _ e)) rd) fun t tk' => q3 t tk'
      · obtain ⟨r2, v2⟩ := unzip_each oe
        have hfst : ((l.zip xs).mergeSort (W.dataLe false fun b => keyKn kn b.1)).map Prod.fst = l.mergeSort (leK1 kn) := by
          have := W.sort_maps (r := W.dataLe false fun b : D × V => keyKn kn b.1) (s := leK1 kn) Prod.fst (l := l.zip xs) fun a _ b _ => rfl
          rw [this, hzl]
        have r2' : Reps (zx X) H2 ρ1 (((l.zip xs).mergeSort (W.dataLe false fun b => keyKn kn b.1)).map Prod.fst) (((l.zip xs).mergeSort (W.dataLe false fun b => keyKn kn b.1)).map Prod.snd) := r2
        rw [hfst] at r2'
        have hpn : H2 (s2.heap.objs.size + 1) = none := I2.hok.fresh (Nat.le_succ _)
        refine ⟨.ref (s2.heap.objs.size + 1), _, I2.laid (t' := tk) kp (Nat.le_succ _) ?_, rfl, q_lst hs2 (fun z H' g hs' r => hp1 H' ρ1 (g2.trans g) hs' z r) r2' hpn⟩
        refine ⟨?_, out, ol, v2, hD⟩
        rw [r2'.len, (List.mergeSort_perm _ _).length_eq, sizeLine_eq]
        exact hlen
    · cases e1
  · cases e1
end
end Px
/-! P25: xs.pop(); dicts with tuples as keys: displays, dict(pairs), update, list(d). -/
namespace Px
open PySem PySem.Spec
open L2
/-! ### xs.pop() -/
def dPop (x : D) (st : Store) : Option (D × Store) := match x with
  | .mref n => match st[n]? with
    | some (.lst l) => match l.getLast? with
      | some d => some (d, st.set n (.lst l.dropLast))
      | none => none
    | _ => none
  | _ => none
def ePop (o : Ev) : Ev := fun env st => o env st >>= fun p => R.opt (dPop p.1 p.2)
section
variable {X : Cx} {E : XK} {pos : Pos}
theorem de_pop {o : Expr} {mo : Ev} {apos : Pos} (ho : DE X E o mo) (h1 : attributeBase o "pop" X.env (eval o X.env) = eval o X.env := by rfl) (h3 : (apos.endLine == pos.line) = true := by rfl) : DE X E (.Call (.Attribute o "pop" apos) [] [] pos) (ePop mo) :=
  pe_weak (pe_bm0 F.plainAttrs_list F.slot_list_pop F.type_list_pop mt_pop ho h1 h3) fun σ H Q ⟨env, st, ρ, hen, hst, hp⟩ => ⟨env, st, ρ, hen, hst, PostX.seq hp fun p H1 ρ1 g1 hp1 hs1 v rv => by
    cases e : dPop p.1 p.2 with
    | none => rw [e] at hp1; exact hp1.elim
    | some q =>
      rw [e] at hp1
      unfold dPop at e
      split at e
      · rename_i n e1
        split at e
        · rename_i l e2
          split at e
          · rename_i d e3
            cases e
            obtain ⟨a, xs, ea, hq, r⟩ := hs1.lst e2
            rw [e1] at rv
            obtain ⟨b, rfl, eb⟩ := id rv
            rw [ea] at eb; cases eb
            rw [List.getLast?_eq_getElem?] at e3
            obtain ⟨y, hy, ry⟩ := r.get e3
            rw [← r.len] at hy
            refine ⟨.inl ⟨rfl, xs, .of hq⟩, a, xs, y, rfl, rfl, hq, hy, ?_⟩
            have g : Grow H1 (upd H1 a (.lst xs.dropLast)) ρ1 ρ1 := .write (List.mem_of_getElem? ea) trivial
            have r2 : Reps (zx X) H1 ρ1 l.dropLast xs.dropLast := by
              rw [List.dropLast_eq_take, List.dropLast_eq_take, r.len]
              exact r.take _
            exact hp1 _ ρ1 g (hs1.write ea trivial ⟨_, upd_same, r2.grow g⟩) y (ry.grow g)
          · cases e
        · cases e
      · cases e⟩
end
/-! ### tuples as keys -/
def tupKs : List D → Option (List NestedKey)
  | [] => some []
  | d :: l => match tupKey d, tupKs l with
    | some n, some ns => some (n :: ns)
    | _, _ => none
theorem tupKs_of : ∀ {l : List D} {ns : List NestedKey}, tupKs l = some ns → l = ns.map ofKey ∧ ∀ n ∈ ns, n.depth ≤ 8 ∧ ∃ ks, n = .tup ks
  | [], ns, h => by cases h; exact ⟨rfl, fun n m => by cases m⟩
  | d :: l, ns, h => by
    unfold tupKs at h
    split at h
    · rename_i n ns' e1 e2
      cases h
      obtain ⟨a, b⟩ := tupKs_of e2
      obtain ⟨c1, c2, _, c3⟩ := tupKey_of e1
      refine ⟨by rw [a, List.map_cons, ← c1], fun m hm => ?_⟩
      rcases List.mem_cons.mp hm with rfl | hm
      · exact ⟨c2, c3⟩
      · exact b m hm
    · cases h
theorem tupKs_sort : ∀ {l : List D} {ns : List NestedKey}, tupKs l = some ns → sortOk l (.tup []) = true
  | [], _, _ => rfl
  | d :: l, ns, h => by
    unfold tupKs at h
    split at h
    · rename_i n ns' e1 e2
      show (isLeaf d == isLeaf (.tup [])) = true
      rw [(tupKey_of e1).2.2.1]; rfl
    · cases h
theorem atKey_none {xs : NX} {n : NestedKey} (h : n ∉ xs.map (·.1)) : atKey xs n = none := by
  induction xs with
  | nil => rfl
  | cons x xs ih =>
    rw [List.map_cons, List.mem_cons, not_or] at h
    have := ih h.2
    unfold atKey at this ⊢
    simp only [List.find?_cons] at this ⊢
    have hne : ¬ x.1 = n := fun e => h.1 e.symm
    simp [hne] at this ⊢
    exact this
theorem stH_nodup {xs : NX} {n : NestedKey} {b : Addr} {u : Value} (h : (xs.map (·.1)).Nodup) : ((storedH xs n b u).map (·.1)).Nodup := by
  by_cases m : n ∈ xs.map (·.1)
  · unfold storedH
    split
    · rw [List.map_map]
      have e : ((fun x : NestedKey × Addr × Value => x.1) ∘ putAt n u) = fun x => x.1 := by
        funext x
        simp only [Function.comp]
        unfold putAt
        split <;> rfl
      rw [e]; exact h
    · rename_i z
      exfalso
      apply z
      obtain ⟨x, hx, e⟩ := List.mem_map.mp m
      unfold atKey
      have : (xs.find? fun x => decide (x.1 = n)).isSome = true := by
        rw [List.find?_isSome]
        exact ⟨x, hx, decide_eq_true e⟩
      simpa using this
  · rw [storedH_new (atKey_none m), List.map_append]
    refine List.nodup_append.mpr ⟨h, by simp, fun a ha c hc => ?_⟩
    have : c = n := by simpa using hc
    subst this
    rintro rfl
    exact m ha
/-- what stands in a dict with tuples as keys -/
structure TupC (Z : Wd) (H : Hp) (ρ : Rho) (xs : NX) (ks vs : List D) : Prop where
  nd : (xs.map (·.1)).Nodup
  vals : ∃ vvs, Vals vvs (xs.map (·.2.2)) ∧ Reps Z H ρ vs vvs
  keys : Reps Z H ρ (xs.map fun x => ofKey x.1) (xs.map fun x => .ref x.2.1)
  eq : ks = xs.map fun x => ofKey x.1
  dep : ∀ x ∈ xs, x.1.depth ≤ 8
theorem TupC.grow {Z : Wd} {H H' : Hp} {ρ ρ' : Rho} {xs : NX} {ks vs : List D} (h : TupC Z H ρ xs ks vs) (g : Grow H H' ρ ρ') : TupC Z H' ρ' xs ks vs := ⟨h.nd, let ⟨v, a, b⟩ := h.vals; ⟨v, a, b.grow g⟩, h.keys.grow g, h.eq, h.dep⟩
theorem merge_tup {Z : Wd} {H : Hp} {ρ : Rho} : ∀ (more xs : NX) (ks vs ws kd : List D), TupC Z H ρ xs ks vs → (∃ wvs, Vals wvs (more.map (·.2.2)) ∧ Reps Z H ρ ws wvs) → Reps Z H ρ (more.map fun x => ofKey x.1) (more.map fun x => .ref x.2.1) → kd = more.map (fun x => ofKey x.1) → (∀ x ∈ more, x.1.depth ≤ 8) →
    TupC Z H ρ (storedAllH xs more) (dMerge (ks, vs) kd ws).1 (dMerge (ks, vs) kd ws).2
  | [], xs, ks, vs, ws, kd, h, _, _, e, _ => by subst e; exact h
  | m :: more, xs, ks, vs, ws, kd, h, ⟨wvs, hv, hr⟩, hk, e, hd => by
    subst e
    cases hv with
    | @cons v' _ wvs' _ rv rt =>
      cases ws with
      | nil => cases (show (v' :: wvs') = [] from hr)
      | cons w ws =>
        obtain ⟨y, r', e, h1, h2⟩ := hr
        simp only [List.cons.injEq] at e
        obtain ⟨rfl, rfl⟩ := e
        obtain ⟨y2, r2, e2, k1, k2⟩ := hk
        simp only [List.map_cons, List.cons.injEq] at e2
        obtain ⟨rfl, rfl⟩ := e2
        obtain ⟨vvs, hvv, hvr⟩ := h.vals
        obtain ⟨i1, i2, i3, i4⟩ := set_tup m.1 k1 h1 rv xs vs vvs h.nd hvv hvr h.keys
        rw [← h.eq] at i1 i2
        have step : TupC Z H ρ (storedH xs m.1 m.2.1 m.2.2) (dSet ks vs (ofKey m.1) w).1 (dSet ks vs (ofKey m.1) w).2 := ⟨stH_nodup h.nd, i2, i3, i1, fun x hx => by
          rcases i4 x hx with e | ⟨z, hz, e⟩
          · rw [e]; exact hd m List.mem_cons_self
          · rw [e]; exact h.dep z hz⟩
        exact merge_tup more (storedH xs m.1 m.2.1 m.2.2) _ _ ws _ step ⟨_, rt, h2⟩ k2 rfl fun x hx => hd x (List.mem_cons_of_mem _ hx)
theorem TupC.nil {Z : Wd} {H : Hp} {ρ : Rho} : TupC Z H ρ [] [] [] := ⟨List.nodup_nil, ⟨[], .nil, rfl⟩, rfl, rfl, fun _ h => by cases h⟩
theorem storedAll_ne {more xs : NX} (h : more ≠ [] ∨ xs ≠ []) : storedAllH xs more ≠ [] := by
  induction more generalizing xs with
  | nil => rcases h with h | h; exact absurd rfl h; exact h
  | cons m more ih => exact ih (.inr (stH_ne xs m.1 m.2.1 m.2.2))
/-- a dict object that holds it -/
def DictAt (Z : Wd) (o : Obj) (xs : NX) : Prop := ∃ es ep, o.ExactDict ∧ o.data = .dict es ep ∧ es.toList = xs.map (entryOfKey (nestedKind Z.P Z.w)) ∧ xs.length ≤ sizeLine
theorem dictC_of {Z : Wd} {H : Hp} {ρ : Rho} {a : Addr} {o : Obj} {xs : NX} {ks vs : List D} (ha : H a = some (.ext fun h => h.get? a = some o)) (d : DictAt Z o xs) (h : TupC Z H ρ xs ks vs) (hs : (a == sysModules) = false) (ne : xs ≠ []) : DictC Z H a ks (Reps Z H ρ vs) (Reps Z H ρ ks) := by
  obtain ⟨es, ep, d1, d2, d3, d4⟩ := d
  obtain ⟨vvs, v1, v2⟩ := h.vals
  exact .inr ⟨o, es, ep, xs, vvs, ha, d1, d2, d3, h.nd, hs, d4, h.dep, v1, v2, by rw [h.eq]; exact h.keys, h.eq, ne⟩
theorem q_dctT {Z : Wd} {H : Hp} {ρ : Rho} {st : Store} {o : Obj} {xs : NX} {ks vs : List D} {p : Addr} {Q : VK} (hs : StR Z H ρ st) (q : ∀ z H', Grow H H' ρ ρ → StR Z H' ρ st → Rep Z H' ρ (.dct ks vs) z → Q z H') (d : DictAt Z o xs) (h : TupC Z H ρ xs ks vs) (hm : (p == sysModules) = false) (ne : xs ≠ []) (hp : H p = none) :
    Q (.ref p) (upd H p (.ext fun h => h.get? p = some o)) :=
  q _ _ (.put hp) (hs.put hp) ⟨p, rfl, hs.out hp, dictC_of upd_same d (h.grow (.put hp)) hm ne⟩
theorem q_dctTN {Z : Wd} {H : Hp} {ρ : Rho} {st : Store} {o : Obj} {xs : NX} {ks vs : List D} {p : Addr} {Q : VK} (hs : StR Z H ρ st) (q : ∀ z H' ρ', Grow H H' ρ ρ' → StR Z H' ρ' (st ++ [.dct ks vs]) → Rep Z H' ρ' (.mref st.length) z → Q z H') (d : DictAt Z o xs) (h : TupC Z H ρ xs ks vs) (hm : (p == sysModules) = false) (ne : xs ≠ []) (hp : H p = none) :
    Q (.ref p) (upd H p (.ext fun h => h.get? p = some o)) :=
  q _ _ (ρ.push p) (.putM hp) (hs.putM hp (dictC_of upd_same d (h.grow (.putM hp)) hm ne)) ⟨p, rfl, by show (ρ.own ++ [p])[st.length]? = _; rw [hs.len, List.getElem?_append_right (Nat.le_refl _)]; simp⟩
section
variable {X : Cx} {pins : List (Addr × Obj)} {σ : L2.St} {H : Hp} {s : Shared} {ρ : Rho} {st : Store}
/-- keys in the state -/
theorem keys_in (I : Inv X pins σ H s) {xs : NX} (hk : Reps (zx X) H ρ (xs.map fun x => ofKey x.1) (xs.map fun x => .ref x.2.1)) (hd : ∀ x ∈ xs, x.1.depth ≤ 8) : ∀ x ∈ xs, (nestedKind X.prog X.w).is s.heap x.1 x.2.1 := by
  induction xs with
  | nil => intro x h; cases h
  | cons y ys ih =>
    obtain ⟨z, r, e, h1, h2⟩ := hk
    simp only [List.map_cons, List.cons.injEq] at e
    obtain ⟨rfl, rfl⟩ := e
    intro x hx
    rcases List.mem_cons.mp hx with rfl | hx
    · exact ⟨nested_of I x.1 _ _ h1 rfl, hd x List.mem_cons_self⟩
    · exact ih h2 (fun z hz => hd z (List.mem_cons_of_mem _ hz)) x hx
theorem is_keep {P : Program} {w : World} {h h' : Heap} {k : NestedKey} {a : Addr} (x : (nestedKind P w).is h k a) (c : ∀ b o, h.get? b = some o → o.cls = .type "tuple" → h'.get? b = some o) : (nestedKind P w).is h' k a := ⟨nested_keep c x.1, x.2⟩
end
/-! ### dict([(t, v), ..]) -/
/-- a list of pairs, the first ones tuples -/
def pairsT : List D → Option (List D × List D)
  | [] => some ([], [])
  | .tup [k, v] :: l => match tupKey k with
    | some _ => (pairsT l).map fun p => (k :: p.1, v :: p.2)
    | none => none
  | _ :: _ => none
def bDpairsT : Df := fun st ds => match ds with
  | [x] => match lsD st x with
    | some l => match pairsT l with
      | some p => if p.1 ≠ [] ∧ l.length ≤ LINE then some (dMerge ([], []) p.1 p.2) else none
      | none => none
    | none => none
  | _ => none
def rDT (Z : Wd) (f : Df) : List V → Hp → VK → Prop := fun vs H Q => ∃ ρ st ds q, StR Z H ρ st ∧ Reps Z H ρ ds vs ∧ f st ds = some q ∧ ∀ p o xs, DictAt Z o xs → TupC Z H ρ xs q.1 q.2 → (p == sysModules) = false → xs ≠ [] → H p = none → Q (.ref p) (upd H p (.ext fun h => h.get? p = some o))
section
variable {X : Cx} {pins : List (Addr × Obj)} {σ : L2.St} {H : Hp} {s : Shared} {ρ : Rho} {st : Store}
theorem pairsT_of (I : Inv X pins σ H s) : ∀ {l : List D} {xs : List V} {us : List Value} {p : List D × List D}, Reps (zx X) H ρ l xs → Vals xs us → pairsT l = some p → ∃ (more : NX) (Ts : List Addr), us = Ts.map Value.ref ∧ more.length = Ts.length ∧ (∀ (j : Nat) (T : Addr) (m : NestedKey × Addr × Value), Ts[j]? = some T → more[j]? = some m → PairAt s.heap T (.ref m.2.1) m.2.2) ∧
    (∃ wvs, Vals wvs (more.map (·.2.2)) ∧ Reps (zx X) H ρ p.2 wvs) ∧ Reps (zx X) H ρ (more.map fun x => ofKey x.1) (more.map fun x => .ref x.2.1) ∧ p.1 = more.map (fun x => ofKey x.1) ∧ (∀ x ∈ more, x.1.depth ≤ 8)
  | [], xs, us, p, r, v, e => by
    obtain rfl : xs = [] := r
    cases v
    cases e
    exact ⟨[], [], rfl, rfl, fun j T m h => by simp at h, ⟨[], .nil, rfl⟩, rfl, rfl, fun x h => by cases h⟩
  | d :: l, xs, us, p, ⟨x, xr, ex, h1, h2⟩, v, e => by
    subst ex
    cases v with
    | @cons _ u _ us' v1 v2 =>
      unfold pairsT at e
      split at e
      · rename_i z; cases z
      · rename_i k w l' e0
        cases e0
        split at e
        · rename_i n en
          cases e2 : pairsT l with
          | none => rw [e2] at e; cases e
          | some p' =>
            rw [e2] at e
            cases e
            obtain ⟨more, Ts, i1, i2, i3, ⟨wvs, i4, i5⟩, i6, i7, i8⟩ := pairsT_of I h2 v2 e2
            obtain ⟨T, ys, rfl, hq, ry⟩ := h1
            obtain rfl : u = .ref T := v1
            obtain ⟨kv, r1, rfl, rk, wv, r2, rfl, rw', rn⟩ := ry
            obtain rfl : r2 = [] := rn
            obtain ⟨its, vx, pl, _⟩ := I.tuple (sqT_of hq)
            cases vx with
            | @cons _ ku _ _ vk vx =>
              cases vx with
              | @cons _ wu _ _ vw vx =>
                cases vx
                obtain ⟨c1, c2, _, ks, c3⟩ := tupKey_of en
                rw [c1, c3] at rk
                obtain ⟨b, eb⟩ := rep_ref_tup (l := ofKeys ks) rk
                subst eb
                obtain rfl : ku = .ref b := vk
                refine ⟨(n, b, wu) :: more, T :: Ts, by rw [i1]; rfl, by simp [i2], fun j T' m' hT hm => ?_, ⟨wv :: wvs, .cons vw i4, _, _, rfl, rw', i5⟩, ⟨_, _, rfl, by rw [c3]; exact rk, i6⟩, by show k :: p'.1 = _; rw [i7, List.map_cons, ← c1], fun y hy => ?_⟩
                · cases j with
                  | zero =>
                    simp only [List.getElem?_cons_zero, Option.some.injEq] at hT hm
                    subst hT hm
                    exact .inl pl
                  | succ j => exact i3 j T' m' (by simpa using hT) (by simpa using hm)
                · rcases List.mem_cons.mp hy with rfl | hy
                  · exact c2
                  · exact i8 y hy
        · cases e
      · cases e
theorem c_dpairsT (hc : X.calm = true) (hu : X.A.units + 64 < cLine) : CallR X (.type "dict") (rDT (zx X) bDpairsT) := by
  intro pins s σ H vs us Q I rv ⟨ρ, st, ds, q', hs, r, e, q⟩
  unfold bDpairsT at e
  split at e
  · rename_i x
    split at e
    · rename_i l e1
      split at e
      · rename_i p e2
        split at e
        · rename_i cnd
          cases e
          obtain ⟨hne, hlen⟩ := cnd
          obtain ⟨v, rfl, r1⟩ := reps1 r
          obtain ⟨a, xs, rfl, hq, rx⟩ := r1.ls hs e1
          cases rv with
          | cons ra rn =>
            cases rn
            cases ra
            obtain ⟨its, vx, ⟨lo, ln, pl1, pl2, pl3, pl4⟩, hz⟩ := I.list hq
            obtain ⟨more, Ts, i1, i2, i3, i4, i6, i7, i8⟩ := pairsT_of I rx vx e2
            have hpr : PairItems s.heap its.toArray (fun j => Ts.getD j 0) (more.map fun m => (Value.ref m.2.1, m.2.2)) := by
              refine ⟨by rw [i1]; simp [i2], fun j k v hj => ?_⟩
              rw [List.getElem?_map] at hj
              cases em : more[j]? with
              | none => rw [em] at hj; cases hj
              | some m =>
                rw [em] at hj
                cases hj
                have hlt : j < Ts.length := by rw [← i2]; exact (List.getElem?_eq_some_iff.mp em).1
                have eT : Ts[j]? = some Ts[j] := List.getElem?_eq_getElem hlt
                refine ⟨?_, ?_⟩
                · rw [i1]; simp [eT, List.getD]
                · have := i3 j _ m eT em
                  simpa [List.getD, eT] using this
            have hlm : (more.map fun m => (Value.ref m.2.1, m.2.2)).length = more.length := List.length_map ..
            have hml : more.length ≤ LINE := by
              have h1 := vx.length
              have h2 := rx.len
              rw [i1, List.length_map] at h1
              omega
            refine call_dict_pairsH (knd := nestedKind X.prog X.w) (ps := more) (PairArg.list a its.toArray (fun j => Ts.getD j 0) (more.map fun m => (Value.ref m.2.1, m.2.2))) (I.ok.hd hc) (show X.A.units + 1 + 1 + 8 < cLine by omega) ⟨⟨lo, ln, pl1, pl2, pl3, pl4⟩, hpr⟩ ⟨hlm.symm, fun i key v h => ?_⟩ (fun h' hk x hx => ?_) (by rw [hlm, sizeLine_eq]; exact hml) fun h' tk hd hk => ?_
            · have h : (more.map fun m => (Value.ref m.2.1, m.2.2))[i]? = some (key, v) := h
              rw [List.getElem?_map] at h
              cases em : more[i]? with
              | none => rw [em] at h; cases h
              | some m => rw [em] at h; cases h; exact ⟨m.1, m.2.1, rfl, rfl⟩
            · exact is_keep (keys_in I i6 i8 x hx) fun b o e _ => hk b o (Nat.ne_of_lt (Heap.lt_size e)) (by simp) e
            · have T := merge_tup more [] [] [] p.2 p.1 TupC.nil i4 i6 i7 i8
              have hm : (s.heap.objs.size == sysModules) = false := beq_eq_false_iff_ne.mpr (Nat.ne_of_gt I.big)
              obtain ⟨o, es, ep, ho, d1, d2, d3, _, _⟩ := hd
              have hpn : H s.heap.objs.size = none := I.hok.fresh (Nat.le_refl _)
              have hsz : (storedAllH [] more).length ≤ sizeLine := by
                have := storedAllH_length more ([] : NX)
                rw [sizeLine_eq]; simp only [List.length_nil] at this; have : LINE = 16777216 := rfl; omega
              have hmne : more ≠ [] := by
                rintro rfl
                exact hne i7
              exact ⟨.ref s.heap.objs.size, _, I.laid (t' := tk) (o := .ext fun h => h.get? s.heap.objs.size = some o) (fun b o e => hk b o (by simp) e) (Nat.le_refl _) ⟨ho, ⟨o, ho⟩, fun h1 h2 p sm => sm _ p⟩, rfl, q _ o (storedAllH [] more) ⟨es, ep, d1, d2, d3, hsz⟩ T hm (storedAll_ne (.inl hmne)) hpn⟩
        · cases e
      · cases e
    · cases e
  · cases e
end
end Px
/-! P26: {t: c}; list(d); d.update(e), tuples as keys. -/
namespace Px
open PySem PySem.Spec
open L2
/-! ### {x: c}, x a local that holds a tuple -/
def eDisp1 (i : Nat) (c : D) : Ev := fun env st => match env[i]? with
  | some (some k) => if (tupKey k).isSome = true then .ok (.mref st.length, st ++ [.dct [k] [c]]) else .stuck
  | _ => .stuck
section
variable {X : Cx} {E : XK} {pos : Pos}
theorem de_disp1 {i : Nat} {x : Str} {v : Expr} {cv : V} {c : D} {p1 : Pos} (hu : X.A.units + 64 < cLine) (hN : X.N[i]? = some x) (hv : Vis X.env.scope x) (hc : PE X v (tC cv)) (rc : ∀ Z H ρ, Rep Z H ρ c cv) (hd : (x == ("__debug__" : Str)) = false := by decide) (hcd : (x == ("__classdict__" : Str)) = false := by decide) :
    DE X E (.Dict [some (.Name x p1)] [v] pos) (eDisp1 i c) := by
  refine ⟨fun pins s σ H Q I ⟨env, st, ρ, hen, hst, hp⟩ => ?_⟩
  unfold eDisp1 at hp
  split at hp
  · rename_i k ek
    split at hp
    · rename_i hk
      obtain ⟨n, en⟩ := Option.isSome_iff_exists.mp hk
      obtain ⟨kv, ekv, rk⟩ := hen.at_ i k ek
      obtain ⟨c1, c2, _, ks, c3⟩ := tupKey_of en
      have rk2 := rk
      rw [c1, c3] at rk2
      obtain ⟨b, eb⟩ := rep_ref_tup (l := ofKeys ks) rk2
      subst eb
      have hn := I.hok.fresh (Nat.le_refl s.heap.objs.size)
      have I1 := I.laid (a := s.heap.objs.size) (o := .dK []) (h' := s.heap.push { cls := .type "dict", data := .dict #[] }) (t' := s.toks) (fun _ _ q => Heap.get?_push_of_some _ q) (Nat.le_refl _) (dk_empty s.heap I.big)
      have shape : (evalEachOpt [some (.Name x p1)] X.env).zip ((evalEach [v] X.env).map fun v => do let x ← v; standAt pos; pure x) = (pairTrees [some (.Name x p1)] [v] X.env pos).map fun p => (some p.1, p.2) := rfl
      rw [arm_eval_Dict, shape, dictDisplay_pairs _ (by simp [pairTrees]) (by simp [pairTrees])]
      refine wpAny_bind (wpAny_standAt (wpAny_bind (wpAny_subDictH (knd := nestedKind X.prog X.w) (show X.A.units + 8 < cLine by omega) (by simp [pairTrees]) ?_)))
      refine thn ((pps_cons (pe_var (pos := p1) (i := i) hN hv hd hcd) hc pps_nil).run pins _ σ _ (fun ps H2 => ps = [(.ref b, cv)] ∧ H2 = upd H s.heap.objs.size (.dK [])) I1 ⟨.ref b, ekv, rfl, rfl⟩) fun ws s2 ⟨ps, H2, I2, rel, e1, e2⟩ => ?_
      subst e1 e2
      cases rel with
      | @cons _ w1 _ _ rw1 rel =>
        cases rel
        obtain ⟨u1, u2⟩ := w1
        obtain ⟨ru1, ru2⟩ := rw1
        obtain rfl : u1 = .ref b := ru1
        have rkx : Reps (zx X) H ρ (([(n, b, u2)] : NX).map fun x => ofKey x.1) ([(n, b, u2)].map fun x => .ref x.2.1) := ⟨_, _, rfl, (by show Rep (zx X) H ρ (ofKey n) (.ref b); rw [← c1]; exact rk), rfl⟩
        have dep : ∀ y ∈ ([(n, b, u2)] : NX), y.1.depth ≤ 8 := fun y hy => by
          have : y = (n, b, u2) := by simpa using hy
          rw [this]; exact c2
        have is2 := keys_in I2 (rkx.grow (.put hn : Grow H _ ρ ρ)) dep (n, b, u2) List.mem_cons_self
        obtain ⟨z, hd0, vs0, r0, dd⟩ := dk_of I2.hok (show upd H s.heap.objs.size (.dK []) s.heap.objs.size = some (.dK []) from upd_same)
        cases r0
        obtain ⟨o0, es0, ep0, h0, x0, d0, p0, l0, n0⟩ := dd
        have hes : es0.toList = [] := by
          generalize es0.toList = el at l0
          cases l0; rfl
        refine ⟨[(n, b, u2)], ⟨rfl, rfl, is2, trivial⟩, ⟨o0, es0, ep0, h0, x0, d0, by rw [hes]; rfl, (fun y hy => by cases hy), List.nodup_nil⟩, fun h' tk hd' hs' => ?_⟩
        have e1 : storedAllH ([] : NX) [(n, b, u2)] = [(n, b, u2)] := by simp [storedAllH, storedH, atKey]
        rw [e1] at hd'
        obtain ⟨o, es, ep, ho, d1, d2, d3, _, _⟩ := hd'
        have J := d_write (t' := tk) (ob := .ext fun h => h.get? s.heap.objs.size = some o) I2 (by rw [upd_same]; trivial) hs' ⟨o, ho⟩ ⟨ho, ⟨o, ho⟩, fun h1 h2 pp sm => sm _ pp⟩
        rw [upd_upd] at J
        refine wpAny_pure ⟨.ref s.heap.objs.size, _, J, rfl, ?_⟩
        exact q_dctTN hst (fun z H' ρ' g hs' r => hp H' ρ' g hs' z r) ⟨es, ep, d1, d2, d3, by rw [sizeLine_eq]; simp⟩ ⟨by simp, ⟨[cv], .cons ru2 .nil, _, _, rfl, rc _ _ _, rfl⟩, rkx, by rw [c1]; rfl, dep⟩ hd0 (by simp) hn
    · exact hp.elim
  · exact hp.elim
end
/-! ### list(d) -/
def bListD : Lf := fun st ds => match ds with
  | [x] => match dctD st x with
    | some p => if (tupKs p.1).isSome = true ∨ leafs p.1 = true then some p.1 else none
    | none => none
  | _ => none
section
variable {X : Cx} {E : XK} {pos : Pos}
theorem c_listD (hc : X.calm = true) : CallR X (.type "list") (rN (zx X) bListD) := by
  intro pins s σ H vs us Q I rv ⟨ρ, st, ds, l', hs, r, e, q⟩
  unfold bListD at e
  split at e
  · rename_i x
    split at e
    · rename_i p e1
      split at e
      · rename_i cnd
        cases e
        obtain ⟨v, rfl, r1⟩ := reps1 r
        obtain ⟨a, rfl, hd⟩ := r1.dict hs e1
        rcases hd with ⟨kvs, ha, ek, rv'⟩ | ⟨o, es, ep, xs, vvs, ha, x1, x2, x3, x4, x5, x6, x7, x8, rv', rk, ek, ne⟩
        · refine call_list_dK hc pins s σ H _ us Q I rv ⟨a, kvs, rfl, ha, fun z hz => q z _ ?_ hz⟩
          rw [ek]
          clear ek ha rv'
          induction kvs with
          | nil => exact rfl
          | cons kv kvs ih =>
            refine ⟨_, _, rfl, ?_, ih⟩
            obtain ⟨k0, w0⟩ := kv
            show Rep (zx X) H ρ (keyD k0) (kV k0)
            cases k0 with
            | inl i => exact rfl
            | inr y => exact rfl
        · cases rv with
          | cons ra rn =>
            cases rn
            cases ra
            have ho : s.heap.get? a = some o := (I.hok a _ ha).1
            have hes : es.size = xs.length := by
              have := congrArg List.length x3
              simpa using this
            refine PySem.W.kdl_call (KdlSrc.rawDict (d := a) (es := es) (ep := ep) x5) (I.ok.hd hc) ⟨o, ho, x1, x2⟩ (by rw [hes]; exact x6) fun h' tk acc c keep hS hacc => ?_
            have hvals : Vals (xs.map fun x => V.ref x.2.1) acc.toList := by
              have el : acc.toList.length = acc.size := by simp
              refine vals_of_at (by rw [List.length_map, el, hacc.1, hes]) fun j y u h1 h2 => ?_
              rw [Array.getElem?_toList] at h2
              obtain ⟨hi, hu⟩ := hacc.2 j u h2
              rw [List.getElem?_map] at h1
              cases ex : xs[j]? with
              | none => rw [ex] at h1; cases h1
              | some z =>
                rw [ex] at h1
                cases h1
                have h3 : es.toList[j]? = some (entryOfKey (nestedKind X.prog X.w) z) := by
                  rw [x3, List.getElem?_map, ex]; rfl
                rw [Array.getElem?_toList, Array.getElem?_eq_getElem hi] at h3
                rw [hu, Option.some.inj h3]
                exact rfl
            refine ⟨.ref s.heap.objs.size, _, I.laid (t' := tk) keep (Nat.le_refl _) ?_, rfl, q _ _ rk (I.hok.fresh (Nat.le_refl _))⟩
            refine ⟨by rw [List.length_map]; exact x6, acc.toList, c, hvals, ?_⟩
            rw [Array.toArray_toList]; exact hS
      · cases e
    · cases e
  · cases e
end
/-! ### d.update(e) -/
mutual
/-- whole numbers and tuples of such -/
def intK : NestedKey → Bool
  | .num _ => true
  | .tup ks => intKs ks
  | _ => false
def intKs : List NestedKey → Bool
  | [] => true
  | k :: ks => intK k && intKs ks
end
mutual
def hashP : NestedKey → Int
  | .num i => hashInt i
  | .tup ks => reduceHash (Builtin.Tuple.tupleHashOf (hashPs ks))
  | _ => 0
def hashPs : List NestedKey → List Int
  | [] => []
  | k :: ks => hashP k :: hashPs ks
end
mutual
theorem hashP_eq (w : World) : ∀ k : NestedKey, intK k = true → k.hash w = hashP k
  | .num i, _ => by simp only [NestedKey.hash, hashP]
  | .tup ks, h => by simp only [NestedKey.hash, hashP]; rw [hashPs_eq w ks h]
theorem hashPs_eq (w : World) : ∀ ks : List NestedKey, intKs ks = true → NestedKey.hashes w ks = hashPs ks
  | [], _ => by simp only [NestedKey.hashes, hashPs]
  | k :: ks, h => by
    have h' : (intK k && intKs ks) = true := h
    rw [Bool.and_eq_true] at h'
    simp only [NestedKey.hashes, hashPs]
    rw [hashP_eq w k h'.1, hashPs_eq w ks h'.2]
end
/-- no two of them have one hash -/
def apartK (ns : List NestedKey) : Bool := ns.all intK && decide ((ns.map hashP).Nodup)
def dUpdT (x y : D) (st : Store) : Option Store := match x with
  | .mref n => match st[n]? with
    | some (.dct ks vs) => match dctD st y with
      | some p => match tupKs ks, tupKs p.1 with
        | some _, some ms => if ks.length + p.1.length ≤ LINE ∧ notRef n y = true ∧ (ks ≠ [] ∨ (p.1 ≠ [] ∧ apartK ms = true)) then some (st.set n (.dct (dMerge (ks, vs) p.1 p.2).1 (dMerge (ks, vs) p.1 p.2).2)) else none
        | _, _ => none
      | none => none
    | _ => none
  | _ => none
def dUpd2 (x y : D) (st : Store) : Option Store := match dUpd x y st with
  | some s => some s
  | none => dUpdT x y st
def dctAt2 (st : Store) (x : D) : Bool := match x with
  | .mref n => match st[n]? with
    | some (.dct _ _) => true
    | _ => false
  | _ => false
def eUpd2 (o a : Ev) : Ev := fun env st => o env st >>= fun p => if dctAt2 p.2 p.1 = true then a env p.2 >>= fun q => R.opt (dUpd2 p.1 q.1 q.2) >>= fun s => .ok (.non, s) else .stuck
section
variable {X : Cx} {E : XK} {pos : Pos}
theorem updT_run (hu : X.A.units + 64 < cLine) {pins : List (Addr × Obj)} {s : Shared} {σ : L2.St} {H : Hp} {ρ : Rho} {st st' : Store} {d y : D} {v yv : V} {u yu : Value} {Q : VK} (I : Inv X pins σ H s) (hs : StR (zx X) H ρ st) (rd : Rep (zx X) H ρ d v) (ru : RelV v u) (ry : Rep (zx X) H ρ y yv) (ryu : RelV yv yu) (e : dUpdT d y st = some st')
    (q : ∀ H', Grow H H' ρ ρ → StR (zx X) H' ρ st' → Q .non H') : wpAny (model X.prog X.w) X.A (PySem.call (.builtin "dict.update") [u, yu]) (EP X pins σ Q) X.xe s := by
  unfold dUpdT at e
  split at e
  · rename_i n
    split at e
    · rename_i ks vs e1
      split at e
      · rename_i p e2
        split at e
        · rename_i ns ms t1 t2
          split at e
          · rename_i cnd
            cases e
            obtain ⟨hlen, hne, hap⟩ := cnd
            obtain ⟨a, ea, ra⟩ := hs.at_ n _ e1
            obtain ⟨a', rfl, ea'⟩ := rd
            rw [ea] at ea'; cases ea'
            obtain rfl : u = .ref a := ru
            obtain ⟨b, rfl, hd⟩ := ry.dict hs e2
            obtain rfl : yu = .ref b := ryu
            have ra : DictC (zx X) H a ks (Reps (zx X) H ρ vs) (Reps (zx X) H ρ ks) := ra
            obtain ⟨xs, vvs, x1, x2, x3, x4, dx, sx, lx, px, mx⟩ := dict_tup I ra (k := .tup []) (n := .tup []) rfl (tupKs_sort t1)
            obtain ⟨ys, wvs, y1, y2, y3, y4, dy, sy, ly, py, my⟩ := dict_tup I hd (k := .tup []) (n := .tup []) rfl (tupKs_sort t2)
            have hap1 : a ∈ ρ.own := List.mem_of_getElem? ea
            have hab : a ≠ b := by
              rintro rfl
              cases y with
              | mref m =>
                obtain ⟨c, ec, em⟩ := ry
                cases ec
                obtain ⟨h1, g1⟩ := List.getElem?_eq_some_iff.mp em
                obtain ⟨h2, g2⟩ := List.getElem?_eq_some_iff.mp ea
                have hne' : (m != n) = true := hne
                have : m = n := (List.getElem_inj hs.nd).mp (g1.trans g2.symm)
                subst this
                simp at hne'
              | dct k w =>
                obtain ⟨c, ec, nm, _⟩ := ry
                cases ec
                exact nm (.inl hap1)
              | _ => cases e2
            have hyk := keys_in I y4 py
            have hapart : xs ≠ [] ∨ ((∀ x ∈ ys, s.TypeIs (.ref x.2.1) "tuple") ∧ (ys.map fun x => (nestedKind X.prog X.w).hash x.1).Nodup) := by
              rcases hap with hap | ⟨_, hap⟩
              · left
                rintro rfl
                exact hap (by rw [x1]; rfl)
              · right
                refine ⟨fun x hx => ?_, ?_⟩
                · obtain ⟨_, hms⟩ := tupKs_of t2
                  exact typeIs_tup (hyk x hx).1
                · unfold apartK at hap
                  rw [Bool.and_eq_true, List.all_eq_true] at hap
                  have hnd := of_decide_eq_true hap.2
                  have ems : ms = ys.map (·.1) := by
                    obtain ⟨f1, _⟩ := tupKs_of t2
                    have f2 : ms.map ofKey = (ys.map (·.1)).map ofKey := by rw [← f1, y1, List.map_map]; rfl
                    have inj : ∀ (l l' : List NestedKey), l.map ofKey = l'.map ofKey → l = l' := by
                      intro l
                      induction l with
                      | nil => intro l' h; cases l' with
                        | nil => rfl
                        | cons _ _ => cases h
                      | cons k l ih => intro l' h; cases l' with
                        | nil => cases h
                        | cons k' l' =>
                          rw [List.map_cons, List.map_cons] at h
                          injection h with h1 h2
                          rw [ih l' h2]
                          congr 1
                          have := keq_of k k'
                          rw [h1] at this
                          have h3 := keq_of k' k'
                          rw [h3] at this
                          simpa using this.symm
                    exact inj _ _ f2
                  have e3 : (ys.map fun x => (nestedKind X.prog X.w).hash x.1) = ms.map hashP := by
                    rw [ems, List.map_map]
                    refine List.map_congr_left fun x hx => ?_
                    exact hashP_eq X.w x.1 (hap.1 x.1 (by rw [ems]; exact List.mem_map.mpr ⟨x, hx, rfl⟩))
                  rw [e3]; exact hnd
            have hxy : xs.length + ys.length ≤ LINE := by
              rw [x1, y1, List.length_map, List.length_map] at hlen; exact hlen
            refine call_update_dictH (knd := nestedKind X.prog X.w) (show X.A.units + 1 + 8 < cLine by omega) hab sy dx dy hapart (by rw [sizeLine_eq]; exact hxy) fun h' d1 d2 sb => ?_
            obtain ⟨o, es, ep, ho, z1, z2, z3, _, z5⟩ := d1
            have T := merge_tup ys xs ks vs p.2 p.1 ⟨dx.nodup, ⟨vvs, x2, x3⟩, x4, x1, px⟩ ⟨wvs, y2, y3⟩ y4 y1 py
            have g : Grow H (upd H a (.ext fun h => h.get? a = some o)) ρ ρ := .write hap1 trivial
            have hsz : (storedAllH xs ys).length ≤ sizeLine := by
              have := storedAllH_length ys xs
              rw [sizeLine_eq]; have : LINE = 16777216 := rfl; omega
            have ne : storedAllH xs ys ≠ [] := by
              refine storedAll_ne ?_
              rcases hap with hap | ⟨hap, _⟩
              · right; rintro rfl; exact hap (by rw [x1]; rfl)
              · left; rintro rfl; exact hap (by rw [y1]; rfl)
            have J := d_write (t' := s.toks) (ob := .ext fun h => h.get? a = some o) I mx sb ⟨o, ho⟩ ⟨ho, ⟨o, ho⟩, fun h1 h2 pp sm => sm _ pp⟩
            exact ⟨.non, _, J, rfl, q _ g (hs.write ea trivial (dictC_of upd_same ⟨es, ep, z1, z2, z3, hsz⟩ (T.grow g) sx ne))⟩
          · cases e
        · cases e
      · cases e
    · cases e
  · cases e
theorem dictC_type {s : Shared} {pins : List (Addr × Obj)} {σ : L2.St} {H : Hp} {ρ : Rho} {a : Addr} {ks vs : List D} (I : Inv X pins σ H s) (h : DictC (zx X) H a ks (Reps (zx X) H ρ vs) (Reps (zx X) H ρ ks)) : ∃ o, s.heap.get? a = some o ∧ o.ExactDict := by
  rcases h with ⟨kvs, ha, _⟩ | ⟨o, es, ep, xs, vvs, ha, x1, _⟩
  · obtain ⟨_, _, us, _, dd⟩ := dk_of I.hok ha
    obtain ⟨o, _, _, ho, hx, _⟩ := dd
    exact ⟨o, ho, hx⟩
  · exact ⟨o, (I.hok a _ ha).1, x1⟩
theorem de_upd2 {o e : Expr} {mo me : Ev} {apos : Pos} (hu : X.A.units + 64 < cLine) (ho : DE X E o mo) (he : DE X E e me) (h1 : attributeBase o "update" X.env (eval o X.env) = eval o X.env := by rfl) (h3 : (apos.endLine == pos.line) = true := by rfl) (h4 : backTo pos (starEach [e] X.env) = [(false, eval e X.env)] := by rfl) :
    DE X E (.Call (.Attribute o "update" apos) [e] [] pos) (eUpd2 mo me) := by
  refine ⟨fun pins s σ H Q I ⟨env, st, ρ, hen, hst, hp⟩ => ?_⟩
  refine wpAny_Call_method1_late h1 h3 h4 (thn (ho.go (k := fun p => if dctAt2 p.2 p.1 = true then me env p.2 >>= fun q => R.opt (dUpd2 p.1 q.1 q.2) >>= fun s => (R.ok (D.non, s) : R (D × Store)) else .stuck) I hen hst hp) fun v s1 ⟨xv, H1, ρ1, p, I1, r1, g1, he1, hs1, rv, hp1⟩ => ?_)
  split at hp1
  · rename_i hl
    unfold dctAt2 at hl
    split at hl
    · rename_i x0 n e1
      split at hl
      · rename_i ks vs e2
        have rv0 := rv
        rw [e1] at rv0
        obtain ⟨a, rfl, ea⟩ := rv0
        obtain ⟨b, eb, ra⟩ := hs1.at_ n _ e2
        rw [ea] at eb; cases eb
        obtain rfl : v = .ref a := r1
        obtain ⟨ob, hob, hex⟩ := dictC_type I1 (ρ := ρ1) (vs := vs) ra
        refine ⟨"dict", "dict.update", F.plainAttrs_dict, F.slot_dict_update, F.type_dict_update, ⟨ob, hob, hex.1⟩, fun c ec => by cases ec; exact ⟨ob, hob, hex.2.1⟩, ?_⟩
        refine Calls.callWith_builtin rfl (Calls.evalArgs_plain (Calls.spliced_cons (thn (he.go (k := fun q => R.opt (dUpd2 p.1 q.1 q.2) >>= fun s => (R.ok (D.non, s) : R (D × Store))) I1 he1 hs1 hp1) fun w s2 ⟨wv, H2, ρ2, q, I2, r2, g2, he2, hs2, rw2, hp2⟩ => Calls.spliced_nil ?_)))
        show wpAny (model X.prog X.w) X.A (PySem.call (.builtin "dict.update") [.ref a, w]) _ _ s2
        have rv2 := rv.grow g2
        cases e3 : dUpd2 p.1 q.1 q.2 with
        | none => rw [e3] at hp2; exact hp2.elim
        | some st3 =>
          rw [e3] at hp2
          have hp2 : PostX (zx X) H2 ρ2 (.ok (.non, st3)) (BE (zx X) Q) E := hp2
          unfold dUpd2 at e3
          split at e3
          · rename_i st4 e4
            cases e3
            exact mt_upd pins s2 σ H2 (.ref a) [wv] (.ref a) [w] Q I2 rfl (.cons r2 .nil) ⟨ρ2, q.2, p.1, q.1, _, hs2, rv2, .one rw2, e4, fun H' g hs' => hp2 H' ρ2 g hs' _ rfl⟩
          · exact updT_run hu I2 hs2 rv2 rfl rw2 r2 e3 fun H' g hs' => hp2 H' ρ2 g hs' _ rfl
      · cases hl
    · cases hl
  · exact hp1.elim
end
end Px
/-! P27: what the printed derivations and the law's end use of P23-P26. -/
namespace Px
open PySem PySem.Spec
open L2
/-! ### dict([..]), leaf keys or tuples; list(x) -/
def bDp2 : Df := fun st ds => match bDpairs st ds with
  | some q => some q
  | none => bDpairsT st ds
def rD2 (Z : Wd) : List V → Hp → VK → Prop := rEi (rDN Z bDpairs) (rDT Z bDpairsT)
def bList2 : Lf := fun st ds => match bSeq st ds with
  | some l => some l
  | none => bListD st ds
section
variable {X : Cx} {E : XK} {pos : Pos}
theorem c_list2 (hc : X.calm = true) : CallR X (.type "list") (rN (zx X) bList2) :=
  CallR.weak (c_or c_list (c_listD hc)) fun vs H Q ⟨ρ, st, ds, l, hs, r, e, q⟩ => by
    unfold bList2 at e
    cases e1 : bSeq st ds with
    | some l' => rw [e1] at e; cases e; exact .inl ⟨ρ, st, ds, _, hs, r, e1, q⟩
    | none => rw [e1] at e; exact .inr ⟨ρ, st, ds, l, hs, r, e, q⟩
theorem c_dp2 (hc : X.calm = true) (hu : X.A.units + 64 < cLine) : CallR X (.type "dict") (rD2 (zx X)) := c_or (c_dpairs hc) (c_dpairsT hc hu)
theorem de_dp2 {p : Pos} {e : Expr} {m : Av} (hc : X.calm = true) (hu : X.A.units + 64 < cLine) (hg : Gl X "dict") (hm : X.mg "dict" = none) (ha : DA X E [e] m) (he : starEach [e] X.env = (false, eval e X.env) :: starEach [] X.env := by rfl) (hpl : (backTo pos (starEach [] X.env)).any (·.1) = false := by rfl) :
    DE X E (.Call (.Name "dict" p) [e] [] pos) (eD bDp2 m) := pe_weak (pe_callTy (c_dp2 hc hu) hg hm (by rfl) ha (by decide) (by decide) he hpl) fun σ H Q h => by
  obtain ⟨env, st, ρ, he, hst, hp⟩ := h
  refine ⟨env, st, ρ, he, hst, PostX.seq hp fun p H1 ρ1 g1 hp1 hs1 vs rv => ?_⟩
  cases e : bDp2 p.2 p.1 with
  | none => simp only [e] at hp1; exact hp1.elim
  | some q =>
    simp only [e] at hp1
    unfold bDp2 at e
    split at e
    · rename_i q2 e2
      cases e
      exact .inl ⟨ρ1, p.2, p.1, _, hs1, rv, e2, fun z kvs ek r hq => q_dct hs1 (fun z H' g hs' r => hp1 H' ρ1 g hs' z r) ek r hq⟩
    · exact .inr ⟨ρ1, p.2, p.1, q, hs1, rv, e, fun z o xs d T hm ne hz => q_dctT hs1 (fun z H' g hs' r => hp1 H' ρ1 g hs' z r) d T hm ne hz⟩
theorem de_dp2N {p : Pos} {e : Expr} {m : Av} (hc : X.calm = true) (hu : X.A.units + 64 < cLine) (hg : Gl X "dict") (hm : X.mg "dict" = none) (ha : DA X E [e] m) (he : starEach [e] X.env = (false, eval e X.env) :: starEach [] X.env := by rfl) (hpl : (backTo pos (starEach [] X.env)).any (·.1) = false := by rfl) :
    DE X E (.Call (.Name "dict" p) [e] [] pos) (eDN bDp2 m) := pe_weak (pe_callTy (c_dp2 hc hu) hg hm (by rfl) ha (by decide) (by decide) he hpl) fun σ H Q h => by
  obtain ⟨env, st, ρ, he, hst, hp⟩ := h
  refine ⟨env, st, ρ, he, hst, PostX.seq hp fun p H1 ρ1 g1 hp1 hs1 vs rv => ?_⟩
  cases e : bDp2 p.2 p.1 with
  | none => simp only [e] at hp1; exact hp1.elim
  | some q =>
    simp only [e] at hp1
    unfold bDp2 at e
    split at e
    · rename_i q2 e2
      cases e
      exact .inl ⟨ρ1, p.2, p.1, _, hs1, rv, e2, fun z kvs ek r hq => q_dctN (Q := Q) hs1 (fun z H' ρ' g hs' r => hp1 H' ρ' g hs' z r) ek r hq⟩
    · exact .inr ⟨ρ1, p.2, p.1, q, hs1, rv, e, fun z o xs d T hm ne hz => q_dctTN (Q := Q) hs1 (fun z H' ρ' g hs' r => hp1 H' ρ' g hs' z r) d T hm ne hz⟩
end
/-! ### a def that makes lambdas -/
/-- what is known of it -/
structure LamB (K : PySem.W.Frag) (mg : Str → Option Value) (base : Heap) (x : Str) : Prop where
  tab : ∃ c P, PySem.W.tabIn K x = some (c, P) ∧ LamX.TabB base mg c P
  ns : ∀ f, mg x = some (.ref f) → PySem.W.nsIn K mainGlobals x = some (some (.ref f))
  nm : x ∈ lamNames
  ap : tabsApart K = true
section
variable {P : Program} {w : World} {K : PySem.W.Frag} {mg : Str → Option Value} {base : Heap}
theorem LamB.to {x qual : Str} {f : Addr} {oc : Value} {od : Option Addr} {osl : Array (Option Value)} {fd : FuncData} (L : LamB K mg base x) (hm : mg x = some (.ref f)) (lk : K.lookup f = some ⟨oc, od, .func fd, osl⟩) : LamD K mg base x fd.code := by
  obtain ⟨c, Pt, e, B⟩ := L.tab
  refine ⟨⟨c, Pt, e, B, ?_⟩, L.nm, L.ap⟩
  have h := e
  unfold PySem.W.tabIn at h
  rw [L.ns f hm] at h
  simp only [lk] at h
  split at h
  · rename_i c' ec
    rw [ec]
    split at h
    · split at h
      · cases h; rfl
      · cases h
    · cases h
  · cases h
theorem cal_PL {x : Str} {st : Stmt} {N ps : List Str} {k : Nat} {m : Sm} (F : DefF K mg x st) (L : LamB K mg base x) (sc : FnScope N ps (defScope st)) (hb : BindsBy x st ps)
    (hm : ∀ (f : Addr) (cdv : Value) (A : Around) (outer : List Env) (s : Shared) (H : Hp) (E : XK), Kx (cxOf (CX P w) P w K mg base N x (defScope st) f cdv A outer s H E) k → Passes (CX P w) (cxOf (CX P w) P w K mg base N x (defScope st) f cdv A outer s H E) E →
      PassesOwn (model P w) (cxOf (CX P w) P w K mg base N x (defScope st) f cdv A outer s H E).A (cxOf (CX P w) P w K mg base N x (defScope st) f cdv A outer s H E).env (cxOf (CX P w) P w K mg base N x (defScope st) f cdv A outer s H E).xe → LamD K mg base x cdv → DSs (cxOf (CX P w) P w K mg base N x (defScope st) f cdv A outer s H E) E (defBody st) m) :
    CalP P w K mg base x (k + 1) ps.length (mP N.length m) := by
  obtain ⟨f, fd, F, hm2⟩ := F.ex
  refine ⟨f, fd, ps, ?_, hm2, F.kp, F.bindsN hb⟩
  obtain ⟨oc, od, dV, kV, doc, pm, an, cdv, ct, osl, rfl, lk, hcd, _, _⟩ := F.ex
  have LD := L.to (qual := x) hm2 lk
  exact fn_of lk hcd sc (fun vs H Q E h => h.1) fun A outer s H vs Q E hr h => ⟨_, hm f cdv A outer s H E ⟨hr, sc.nd, rfl⟩ (passC rfl rfl rfl rfl) (passes_of rfl) LD, by
    obtain ⟨hn, ds, ρ, ho, ht, tb, r, hp⟩ := h
    exact ⟨env0 N.length ds, [], ρ, env0_r r N, ⟨by rw [ho]; rfl, by rw [ho]; exact List.nodup_nil, fun n o e => by simp at e, ht, tb⟩, out_bs (off_be ho ht hp)⟩⟩
end
/-! ### the law's end, with tables -/
/-- what K must say of the tables: those of the defs in the list are told, the others' are not -/
def lamSay (pres : List Str) (K : PySem.W.Frag) : Bool := tabsApart K && lamNames.all fun x => if pres.contains x = true then decide (PySem.W.tabIn K x = some (He.cT K (x, none))) else decide (PySem.W.tabIn K x = none)
theorem lamSay_in {pres : List Str} {K : PySem.W.Frag} (h : lamSay pres K = true) {x : Str} (hx : x ∈ lamNames) (hp : pres.contains x = true) : PySem.W.tabIn K x = some (He.cT K (x, none)) := by
  unfold lamSay at h
  rw [Bool.and_eq_true, List.all_eq_true] at h
  have := h.2 x hx
  rw [if_pos hp] at this
  exact of_decide_eq_true this
theorem lamSay_out {pres : List Str} {K : PySem.W.Frag} (h : lamSay pres K = true) {x : Str} (hx : x ∈ lamNames) (hp : ¬ pres.contains x = true) : PySem.W.tabIn K x = none := by
  unfold lamSay at h
  rw [Bool.and_eq_true, List.all_eq_true] at h
  have := h.2 x hx
  rw [if_neg hp] at this
  exact of_decide_eq_true this
theorem lamSay_ap {pres : List Str} {K : PySem.W.Frag} (h : lamSay pres K = true) : tabsApart K = true := by
  unfold lamSay at h
  rw [Bool.and_eq_true] at h
  exact h.1
/-- at the start all tables are empty -/
theorem tabX_start {Z : Wd} {H : Hp} {pres : List Str} (h : lamSay pres Z.K = true) (hT : ∀ x ∈ pres, H (He.cT Z.K (x, none)).2 = some (.tbl #[])) : TabX Z H := by
  intro x hx c P e
  by_cases hp : pres.contains x = true
  · rw [lamSay_in h hx hp] at e
    have e := Option.some.inj e
    have := hT x (List.contains_iff_mem.mp hp)
    rw [e] at this
    exact LamX.TabS.nil this
  · rw [lamSay_out h hx hp] at e; cases e
theorem lamB_of {K : PySem.W.Frag} {mg : Str → Option Value} {base : Heap} {pres : List Str} (h : lamSay pres K = true) {x : Str} (hx : x ∈ lamNames) (hp : pres.contains x = true) (hB : ∀ y ∈ pres, LamX.TabB base mg (He.cT K (y, none)).1 (He.cT K (y, none)).2) (ns : ∀ f, mg x = some (.ref f) → PySem.W.nsIn K mainGlobals x = some (some (.ref f))) : LamB K mg base x :=
  ⟨⟨_, _, lamSay_in h hx hp, hB x (List.contains_iff_mem.mp hp)⟩, ns, hx, lamSay_ap h⟩
/-- the law's def, base among what is asked -/
def LawFn2 (P : Program) (w : World) (K : PySem.W.Frag) (mg : Str → Option Value) (G : Heap → Prop) (k : Nat) (m : Pf) : Prop := ∃ f fd, mg "law" = some (.ref f) ∧ (∀ (s : Shared) (u : Value), BindsTo s fd { pos := [u] } [("script", u)]) ∧ ∀ base : Heap, G base → FnOk P w K mg base (CX P w) k f fd ["script"] (spP ⟨P, w, K⟩ 1 m)
theorem cal_L2 {P : Program} {w : World} {K : PySem.W.Frag} {mg : Str → Option Value} {G : Heap → Prop} {st : Stmt} {N : List Str} {k : Nat} {m : Sm} (F : DefF K mg "law" st) (sc : FnScope N ["script"] (defScope st)) (hb : BindsBy "law" st ["script"])
    (hm : ∀ (base : Heap), G base → ∀ (f : Addr) (cdv : Value) (A : Around) (outer : List Env) (s : Shared) (H : Hp) (E : XK), Kx (cxOf (CX P w) P w K mg base N "law" (defScope st) f cdv A outer s H E) k → Passes (CX P w) (cxOf (CX P w) P w K mg base N "law" (defScope st) f cdv A outer s H E) E →
      PassesOwn (model P w) (cxOf (CX P w) P w K mg base N "law" (defScope st) f cdv A outer s H E).A (cxOf (CX P w) P w K mg base N "law" (defScope st) f cdv A outer s H E).env (cxOf (CX P w) P w K mg base N "law" (defScope st) f cdv A outer s H E).xe → DSs (cxOf (CX P w) P w K mg base N "law" (defScope st) f cdv A outer s H E) E (defBody st) m) :
    LawFn2 P w K mg G (k + 1) (mP N.length m) := by
  obtain ⟨f, fd, F, hm2⟩ := F.ex
  refine ⟨f, fd, hm2, fun s u => F.bindsA (ps := ["script"]) hb s [u] rfl, fun base g => fnP F sc fun cdv A outer s H E hr => ?_⟩
  exact hm base g f cdv A outer s H E ⟨hr, sc.nd, rfl⟩ (passC rfl rfl rfl rfl) (passes_of rfl)
/-- the end of a law's row with tables -/
theorem walk_tab {l : PySem.W.OpenLaw} {n k : Nat} {q : Program} {loose : List Str} {XP : (Str → Option Value) → Heap → Prop} {YP : World → Heap → Prop} {d : DefRec} {CX : CXT} {x : Str} (hn : l.most = some n) (hn2 : n ≤ sizeLine) (hdf : d.params.defaults = []) (hr : Room k callerA)
    (F : ∀ (w : World) (mg : Str → Option Value) (fa : Addr) (h : Heap), YP w h → h.Ns mainGlobals mg → mg d.name = some (.ref fa) → ∃ (K : PySem.W.Frag) (fd : FuncData) (cs : List (Addr × Addr)) (sp : Sp), K.In h ∧ (∀ p ∈ cs, h.get? p.2 = some { cls := .none, data := .fields #[] }) ∧ (∀ p ∈ cs, K.lookup p.2 = none) ∧ (∀ p ∈ cs, PySem.W.CodeHd h p.1 p.2) ∧
      (∀ (s : Shared) (u : Value), BindsTo s fd ⟨[u], []⟩ [(x, u)]) ∧ (∀ (H : Hp) (a : Addr) (ns : List Int), ns.length ≤ n → (∀ p ∈ cs, H p.2 = some (.tbl #[])) → SqL K H a (ns.map V.int) → sp [.ref a] H (fun v _ => v = .bl true) fun _ _ _ => False) ∧
      ∀ base : Heap, K.In base → base.Ns mainGlobals mg → (∀ p ∈ cs, LamX.TabB base mg p.1 p.2) → FnOk l.prog w K mg base CX k fa fd [x] sp)
    (hCX : ∀ (H : Hp) (s : Shared) (e : Value) (s' : Shared), CX [] H s (fun _ _ _ => False) e s' → False) : PySem.W.WalkO q loose XP YP l.row.toRowW d [] (fun f vs => PySem.call f vs) := by
  refine Att.attach_call hn hdf fun w s₀ s₁ mg mb fa o pm cd doc a vs ns G Y ho hd hcd hmg hobj hints hlen hg => ?_
  obtain ⟨K, fd, cs, sp, k1, k2, k3, k4, k5, k6, k7⟩ := F w mg fa _ Y G.T.g hmg
  exact LamX.law_callTs k1 G.T.g G.T.b G.T.builtins G.T.nolimit hg k2 k3 k4 G.T.bmain hobj hints (Nat.le_trans hlen hn2) hr k7 k5 (fun H hH hS => k6 H a ns hlen hH hS) fun H e s' => hCX H s₁ e s'
end Px
/-! L0: mirrors in plain Lean: what gives what. -/
namespace Px
open PySem PySem.Spec
/-- it ends well, with P -/
def R.Gives {α : Type} (r : R α) (P : α → Prop) : Prop := ∃ a, r = .ok a ∧ P a
namespace R.Gives
variable {α β : Type} {r : R α} {P Q : α → Prop}
theorem ok {a : α} (h : P a) : (R.ok a).Gives P := ⟨a, rfl, h⟩
theorem bind {k : α → R β} {Q : β → Prop} (h : r.Gives P) (c : ∀ a, P a → (k a).Gives Q) : (r >>= k).Gives Q := by
  obtain ⟨a, rfl, p⟩ := h
  exact c a p
theorem imp (h : r.Gives P) (c : ∀ a, P a → Q a) : r.Gives Q := let ⟨a, e, p⟩ := h; ⟨a, e, c a p⟩
theorem of_eq {a : α} (h : r = .ok a) (p : P a) : r.Gives P := ⟨a, h, p⟩
end R.Gives
/-! ### numbers -/
theorem okD_int (i : Int) : okD (.int i) = true := by simp [okD, isPy, toPy, PyData.depth]
theorem notNone_int (i : Int) : notNone (.int i) = true := rfl
theorem lt_int (i j : Int) : W.dataLt (.int i) (.int j) = decide (i < j) := by
  have h := congrFun (congrFun (W.dataLe_int (β := Int) fun i => i) j) i
  have h2 : W.dataLe false (fun i : Int => PyData.int i) j i = !W.dataLt (.int i) (.int j) := by rw [W.dataLe_eq]; rfl
  rw [h2] at h
  have h3 : W.dataLt (.int i) (.int j) = !decide (j ≤ i) := by rw [← h]; simp
  rw [h3]
  by_cases q : i < j <;> simp [q] <;> omega
theorem eqv_int (i j : Int) : PyData.eqv (.int i) (.int j) = decide (i = j) := by
  simp [PyData.eqv]; rfl
theorem alike_int (i j : Int) : W.alike (.int i) (.int j) = true := by simp [W.alike]
section
variable (st : Store) (i j : Int)
@[simp] theorem dGt_int : dGt st (.int i) (.int j) = some (.bl (decide (j < i))) := by
  simp only [dGt, dGtB, rd, okD_int, toPy, alike_int, notNone_int, and_self, if_true, lt_int, Option.map_some]
@[simp] theorem dLt_int : dLt st (.int i) (.int j) = some (.bl (decide (i < j))) := by
  simp only [dLt, dLtB, rd, okD_int, toPy, alike_int, notNone_int, and_self, if_true, lt_int, Option.map_some]
@[simp] theorem dLe_int : dLe st (.int i) (.int j) = some (.bl (decide (i ≤ j))) := by
  simp only [dLe, dGtB, rd, okD_int, toPy, alike_int, notNone_int, and_self, if_true, lt_int, Option.map_some]
  congr 2
  by_cases q : j < i <;> simp [q] <;> omega
@[simp] theorem dGe_int : dGe st (.int i) (.int j) = some (.bl (decide (j ≤ i))) := by
  simp only [dGe, dLtB, rd, okD_int, toPy, alike_int, notNone_int, and_self, if_true, lt_int, Option.map_some]
  congr 2
  by_cases q : i < j <;> simp [q] <;> omega
@[simp] theorem dEq_int : dEq st (.int i) (.int j) = some (.bl (decide (i = j))) := by
  simp only [dEq, dEqB, rd, okD_int, toPy, and_self, if_true, eqv_int, Option.map_some]
@[simp] theorem dNe_int : dNe st (.int i) (.int j) = some (.bl (!decide (i = j))) := by
  simp only [dNe, dEqB, rd, okD_int, toPy, and_self, if_true, eqv_int, Option.map_some]
@[simp] theorem dAdd_int : dAdd st (.int i) (.int j) = some (.int (i + j)) := rfl
@[simp] theorem dSub_int : dSub st (.int i) (.int j) = some (.int (i - j)) := rfl
end
/-! ### what a mirror gives, from the left -/
section
variable {env : DEnv} {st : Store}
theorem g_v {i : Nat} {d : D} {Q : D × Store → Prop} (h : env[i]? = some (some d)) (q : Q (d, st)) : (eV i env st).Gives Q := by
  unfold eV; rw [h]; exact ⟨_, rfl, q⟩
theorem g_c {d : D} {Q : D × Store → Prop} (q : Q (d, st)) : (eC d env st).Gives Q := ⟨_, rfl, q⟩
theorem g_bind {α β : Type} {r : R α} {k : α → R β} {Q : β → Prop} (h : r.Gives fun a => (k a).Gives Q) : (r >>= k).Gives Q := h.bind fun _ q => q
theorem g_opt {α β : Type} {o : Option α} {k : α → R β} {Q : β → Prop} (h : ∃ d, o = some d ∧ (k d).Gives Q) : (R.opt o >>= k).Gives Q := by
  obtain ⟨d, rfl, q⟩ := h; exact q
theorem g_ok {α : Type} {a : α} {Q : α → Prop} (q : Q a) : (R.ok a).Gives Q := ⟨_, rfl, q⟩
theorem g_op2 {f : F2} {a b : Ev} {Q : D × Store → Prop} (h : (a env st).Gives fun p => (b env p.2).Gives fun q => ∃ d, f q.2 p.1 q.1 = some d ∧ Q (d, q.2)) : (eOp2 f a b env st).Gives Q :=
  g_bind (h.imp fun p h => g_bind (h.imp fun q ⟨d, e, z⟩ => g_opt ⟨d, e, g_ok z⟩))
theorem g_B {f : Bf} {a : Av} {Q : D × Store → Prop} (h : (a env st).Gives fun p => ∃ d, f p.2 p.1 = some d ∧ Q (d, p.2)) : (eB f a env st).Gives Q := g_bind (h.imp fun p ⟨d, e, z⟩ => g_opt ⟨d, e, g_ok z⟩)
theorem g_L {f : Lf} {a : Av} {Q : D × Store → Prop} (h : (a env st).Gives fun p => ∃ d, f p.2 p.1 = some d ∧ Q (.lst d, p.2)) : (eL f a env st).Gives Q := g_bind (h.imp fun p ⟨d, e, z⟩ => g_opt ⟨d, e, g_ok z⟩)
theorem g_B1 {f : Store → D → Option D} {a : Ev} {Q : D × Store → Prop} (h : (a env st).Gives fun p => ∃ d, f p.2 p.1 = some d ∧ Q (d, p.2)) : (eB1 f a env st).Gives Q := g_bind (h.imp fun p ⟨d, e, z⟩ => g_opt ⟨d, e, g_ok z⟩)
theorem g_L1 {f : Store → D → Option (List D)} {a : Ev} {Q : D × Store → Prop} (h : (a env st).Gives fun p => ∃ d, f p.2 p.1 = some d ∧ Q (.lst d, p.2)) : (eL1 f a env st).Gives Q := g_bind (h.imp fun p ⟨d, e, z⟩ => g_opt ⟨d, e, g_ok z⟩)
theorem g_D {f : Df} {a : Av} {Q : D × Store → Prop} (h : (a env st).Gives fun p => ∃ d, f p.2 p.1 = some d ∧ Q (.dct d.1 d.2, p.2)) : (eD f a env st).Gives Q := g_bind (h.imp fun p ⟨d, e, z⟩ => g_opt ⟨d, e, g_ok z⟩)
theorem g_DN {f : Df} {a : Av} {Q : D × Store → Prop} (h : (a env st).Gives fun p => ∃ d, f p.2 p.1 = some d ∧ Q (.mref p.2.length, p.2 ++ [.dct d.1 d.2])) : (eDN f a env st).Gives Q := g_bind (h.imp fun p ⟨d, e, z⟩ => g_opt ⟨d, e, g_ok z⟩)
theorem g_nil {Q : List D × Store → Prop} (q : Q ([], st)) : (aNil env st).Gives Q := g_ok q
theorem g_cons {a : Ev} {r : Av} {Q : List D × Store → Prop} (h : (a env st).Gives fun p => (r env p.2).Gives fun q => Q (p.1 :: q.1, q.2)) : (aCons a r env st).Gives Q := g_bind (h.imp fun p h => g_bind (h.imp fun q z => g_ok z))
theorem g_tup {a : Av} {Q : D × Store → Prop} (h : (a env st).Gives fun p => p.1.length ≤ LINE ∧ Q (.tup p.1, p.2)) : (eTup a env st).Gives Q := g_bind (h.imp fun p z => by rw [if_pos z.1]; exact g_ok z.2)
theorem g_lst {a : Av} {Q : D × Store → Prop} (h : (a env st).Gives fun p => p.1.length ≤ LINE ∧ Q (.lst p.1, p.2)) : (eLst a env st).Gives Q := g_bind (h.imp fun p z => by rw [if_pos z.1]; exact g_ok z.2)
theorem g_newL {a : Av} {Q : D × Store → Prop} (h : (a env st).Gives fun p => p.1.length ≤ LINE ∧ Q (.mref p.2.length, p.2 ++ [.lst p.1])) : (eNewL a env st).Gives Q := g_bind (h.imp fun p z => by rw [if_pos z.1]; exact g_ok z.2)
theorem g_call {f : Fv} {a : Av} {Q : D × Store → Prop} (h : (a env st).Gives fun p => (f p.1 p.2).Gives Q) : (eCall f a env st).Gives Q := g_bind h
theorem g_callP {f : Pf} {a : Av} {Q : D × Store → Prop} (h : (a env st).Gives fun p => ∃ d, callP f p.2 p.1 = .ok d ∧ Q (d, p.2)) : (eCallP f a env st).Gives Q := g_bind (h.imp fun p ⟨d, e, z⟩ => by rw [e]; exact g_ok z)
theorem g_make {f : Pf} {a : Av} {Q : D × Store → Prop} (h : (a env st).Gives fun p => stills p.1 = true ∧ ∃ d, f p.1 = .ok d ∧ Q (d, p.2)) : (eMake f a env st).Gives Q := g_bind (h.imp fun p ⟨s, d, e, z⟩ => by rw [if_pos s, e]; exact g_ok z)
theorem g_fld {c f : Str} {a : Ev} {Q : D × Store → Prop} (h : (a env st).Gives fun p => ∃ d, dFld c f p.2 p.1 = some d ∧ Q (d, p.2)) : (eFld c f a env st).Gives Q := g_bind (h.imp fun p ⟨d, e, z⟩ => g_opt ⟨d, e, g_ok z⟩)
theorem g_neg {a : Ev} {Q : D × Store → Prop} (h : (a env st).Gives fun p => ∃ i, p.1 = .int i ∧ Q (.int (-i), p.2)) : (eNeg a env st).Gives Q := g_bind (h.imp fun p ⟨i, e, z⟩ => by rw [e]; exact g_ok z)
theorem g_tV {m : Ev} {Q : Bool × Store → Prop} (h : (m env st).Gives fun p => ∃ b, p.1 = .bl b ∧ Q (b, p.2)) : (tV m env st).Gives Q := g_bind (h.imp fun p ⟨b, e, z⟩ => by rw [e]; exact g_ok z)
theorem g_ite {α : Type} {c : Prop} [Decidable c] {x y : R α} {Q : α → Prop} (h1 : c → x.Gives Q) (h2 : ¬ c → y.Gives Q) : (if c then x else y).Gives Q := by
  split
  · exact h1 ‹_›
  · exact h2 ‹_›
theorem g_tAnd {a b : Tv} {Q : Bool × Store → Prop} (h : (a env st).Gives fun p => (p.1 = true → (b env p.2).Gives Q) ∧ (p.1 = false → Q (false, p.2))) : (tAnd a b env st).Gives Q :=
  g_bind (h.imp fun p z => g_ite z.1 fun n => g_ok (z.2 (by simpa using n)))
theorem g_tOr {a b : Tv} {Q : Bool × Store → Prop} (h : (a env st).Gives fun p => (p.1 = true → Q (true, p.2)) ∧ (p.1 = false → (b env p.2).Gives Q)) : (tOr a b env st).Gives Q :=
  g_bind (h.imp fun p z => g_ite (fun n => g_ok (z.1 n)) fun n => z.2 (by simpa using n))
theorem g_tNot {a : Tv} {Q : Bool × Store → Prop} (h : (a env st).Gives fun p => Q (!p.1, p.2)) : (tNot a env st).Gives Q := g_bind (h.imp fun p z => g_ok z)
theorem g_tYes {Q : Bool × Store → Prop} (q : Q (true, st)) : (tYesV env st).Gives Q := g_ok q
theorem g_And {a b : Ev} {Q : D × Store → Prop} (h : (a env st).Gives fun p => ∃ c, p.1 = .bl c ∧ (c = true → (b env p.2).Gives Q) ∧ (c = false → Q (.bl false, p.2))) : (eAnd a b env st).Gives Q :=
  g_bind (h.imp fun p ⟨c, e, z⟩ => by rw [e]; exact g_ite z.1 fun n => g_ok (z.2 (by simpa using n)))
theorem g_Or {a b : Ev} {Q : D × Store → Prop} (h : (a env st).Gives fun p => ∃ c, p.1 = .bl c ∧ (c = true → Q (.bl true, p.2)) ∧ (c = false → (b env p.2).Gives Q)) : (eOr a b env st).Gives Q :=
  g_bind (h.imp fun p ⟨c, e, z⟩ => by rw [e]; exact g_ite (fun n => g_ok (z.1 n)) fun n => z.2 (by simpa using n))
theorem g_Not {a : Ev} {Q : D × Store → Prop} (h : (a env st).Gives fun p => ∃ c, p.1 = .bl c ∧ Q (.bl (!c), p.2)) : (eNot a env st).Gives Q := g_bind (h.imp fun p ⟨c, e, z⟩ => by rw [e]; exact g_ok z)
theorem g_If {t : Tv} {a b : Ev} {Q : D × Store → Prop} (h : (t env st).Gives fun p => (p.1 = true → (a env p.2).Gives Q) ∧ (p.1 = false → (b env p.2).Gives Q)) : (eIf t a b env st).Gives Q :=
  g_bind (h.imp fun p z => g_ite z.1 fun n => z.2 (by simpa using n))
theorem g_Chain {g f : F2} {a b c : Ev} {Q : D × Store → Prop} (h : (a env st).Gives fun p => (b env p.2).Gives fun q => ∃ k, g q.2 p.1 q.1 = some (.bl k) ∧ (k = true → (c env q.2).Gives fun r => ∃ d, f r.2 q.1 r.1 = some d ∧ Q (d, r.2)) ∧ (k = false → Q (.bl false, q.2))) : (eChain g f a b c env st).Gives Q :=
  g_bind (h.imp fun p h => g_bind (h.imp fun q ⟨k, e, z⟩ => g_opt ⟨_, e, g_ite (fun n => g_bind ((z.1 n).imp fun r ⟨d, e2, y⟩ => g_opt ⟨d, e2, g_ok y⟩)) fun n => g_ok (z.2 (by simpa using n))⟩))
theorem g_App {o a : Ev} {Q : D × Store → Prop} (h : (o env st).Gives fun p => lstAt p.2 p.1 = true ∧ (a env p.2).Gives fun q => ∃ s, dApp p.1 q.1 q.2 = some s ∧ Q (.non, s)) : (eApp o a env st).Gives Q :=
  g_bind (h.imp fun p z => by rw [if_pos z.1]; exact g_bind (z.2.imp fun q ⟨s, e, y⟩ => g_opt ⟨s, e, g_ok y⟩))
theorem g_Upd {o a : Ev} {Q : D × Store → Prop} (h : (o env st).Gives fun p => dctAt p.2 p.1 = true ∧ (a env p.2).Gives fun q => ∃ s, dUpd p.1 q.1 q.2 = some s ∧ Q (.non, s)) : (eUpd o a env st).Gives Q :=
  g_bind (h.imp fun p z => by rw [if_pos z.1]; exact g_bind (z.2.imp fun q ⟨s, e, y⟩ => g_opt ⟨s, e, g_ok y⟩))
theorem g_Rev {a : Ev} {Q : D × Store → Prop} (h : (a env st).Gives fun p => ∃ d, dRev p.2 p.1 = some d ∧ Q (d, p.2)) : (eRev a env st).Gives Q := g_bind (h.imp fun p ⟨d, e, z⟩ => g_opt ⟨d, e, g_ok z⟩)
theorem g_DE {Q : D × Store → Prop} (q : Q (.dct [] [], st)) : (eDE env st).Gives Q := g_ok q
theorem g_DEN {Q : D × Store → Prop} (q : Q (.mref st.length, st ++ [.dct [] []])) : (eDEN env st).Gives Q := g_ok q
theorem g_rg1 {m : Ev} {Q : (Int × Int) × Store → Prop} (h : (m env st).Gives fun p => ∃ n, p.1 = .int n ∧ rgOkB 0 n = true ∧ Q ((0, n), p.2)) : (rg1 m env st).Gives Q := g_bind (h.imp fun p ⟨n, e, z, y⟩ => by rw [e]; exact g_ite (fun _ => g_ok y) fun c => absurd z c)
theorem g_LRg {m : Rv} {Q : D × Store → Prop} (h : (m env st).Gives fun q => Q (.lst (rngL q.1.1 q.1.2), q.2)) : (eLRg m env st).Gives Q := g_bind (h.imp fun _ z => g_ok z)
theorem g_TRg {m : Rv} {Q : D × Store → Prop} (h : (m env st).Gives fun q => Q (.tup (rngL q.1.1 q.1.2), q.2)) : (eTRg m env st).Gives Q := g_bind (h.imp fun _ z => g_ok z)
theorem g_Nil {Q : SOut × DEnv × Store → Prop} (q : Q (.nx, env, st)) : (sNil env st).Gives Q := g_ok q
/-- where a statement's end leads on -/
def nxt (b : Sm) (Q : SOut × DEnv × Store → Prop) : SOut × DEnv × Store → Prop
  | (.nx, e, s) => (b e s).Gives Q
  | p => Q p
theorem g_Seq {a b : Sm} {Q : SOut × DEnv × Store → Prop} (h : (a env st).Gives (nxt b Q)) : (sSeq a b env st).Gives Q := g_bind (h.imp fun ⟨o, e, s⟩ z => by
  cases o with
  | nx => exact z
  | bk => exact g_ok z
  | ct => exact g_ok z
  | rt d => exact g_ok z)
theorem g_Ret {m : Ev} {Q : SOut × DEnv × Store → Prop} (h : (m env st).Gives fun p => Q (.rt p.1, env, p.2)) : (sRet m env st).Gives Q := g_bind (h.imp fun _ z => g_ok z)
theorem g_Expr {m : Ev} {Q : SOut × DEnv × Store → Prop} (h : (m env st).Gives fun p => Q (.nx, env, p.2)) : (sExpr m env st).Gives Q := g_bind (h.imp fun _ z => g_ok z)
theorem g_sIf {c : Tv} {a b : Sm} {Q : SOut × DEnv × Store → Prop} (h : (c env st).Gives fun p => (p.1 = true → (a env p.2).Gives Q) ∧ (p.1 = false → (b env p.2).Gives Q)) : (sIf c a b env st).Gives Q :=
  g_bind (h.imp fun p z => g_ite z.1 fun n => z.2 (by simpa using n))
theorem g_Asg {m : Ev} {i : Nat} {Q : SOut × DEnv × Store → Prop} (h : (m env st).Gives fun p => Q (.nx, env.set i (some p.1), p.2)) : (sAsg m (gV i) env st).Gives Q := g_bind (h.imp fun _ z => g_ok z)
theorem g_Sub {m a b : Ev} {Q : SOut × DEnv × Store → Prop} (h : (m env st).Gives fun p => (a env p.2).Gives fun q => (b env q.2).Gives fun r => ∃ s, dPut q.1 r.1 p.1 r.2 = some s ∧ Q (.nx, env, s)) : (sAsg m (Px.gSub a b) env st).Gives Q :=
  g_bind (h.imp fun p h => g_bind (g_bind (h.imp fun q h => g_bind (h.imp fun r ⟨s, e, z⟩ => g_opt ⟨s, e, g_ok (g_ok z)⟩))))
theorem g_Par {i j : Nat} {a : Av} {Q : SOut × DEnv × Store → Prop} (h : (a env st).Gives fun p => ∃ x y, p.1 = [x, y] ∧ Q (.nx, (env.set i (some x)).set j (some y), p.2)) : (sPar i j a env st).Gives Q := g_bind (h.imp fun p ⟨x, y, e, z⟩ => by rw [e]; exact g_ok z)
theorem g_Par3 {i j l : Nat} {a : Av} {Q : SOut × DEnv × Store → Prop} (h : (a env st).Gives fun p => ∃ x y z, p.1 = [x, y, z] ∧ Q (.nx, ((env.set i (some x)).set j (some y)).set l (some z), p.2)) : (sPar3 i j l a env st).Gives Q := g_bind (h.imp fun p ⟨x, y, z, e, w⟩ => by rw [e]; exact g_ok w)
theorem g_FSet {c f : Str} {o e : Ev} {Q : SOut × DEnv × Store → Prop} (h : (e env st).Gives fun p => (o env p.2).Gives fun q => ∃ s, dFSet c f q.1 p.1 q.2 = some s ∧ Q (.nx, env, s)) : (sFSet c f o e env st).Gives Q :=
  g_bind (h.imp fun p h => g_bind (h.imp fun q ⟨s, e, z⟩ => g_opt ⟨s, e, g_ok z⟩))
theorem g_Comp {m : Iv} {vs : List Nat} {g : Cv} {t : Tv} {e : Ev} {Q : D × Store → Prop} (h : (compF m vs g t e env st).Gives fun q => Q (.lst q.1, q.2)) : (eComp m vs g t e env st).Gives Q := g_bind (h.imp fun _ z => g_ok z)
end
/-! ### the row of draws -/
/-- the first object that may change is the row of draws -/
def RowL (st : Store) (ns : List Int) (i s c : Int) : Prop := st[0]? = some (.lst [.scr ns, .int i, .int s, .int c])
def RowOk (st : Store) : Prop := ∃ ns i s c, RowL st ns i s c ∧ 0 ≤ i
/-- the row may have gone on, the rest is as it was -/
structure Turned (st st' : Store) : Prop where
  row : RowOk st'
  len : st'.length = st.length
  same : ∀ n, n ≠ 0 → st'[n]? = st[n]?
theorem Turned.trans {a b c : Store} (h : Turned a b) (k : Turned b c) : Turned a c := ⟨k.row, k.len.trans h.len, fun n hn => (k.same n hn).trans (h.same n hn)⟩
theorem Turned.refl {a : Store} (h : RowOk a) : Turned a a := ⟨h, rfl, fun _ _ => rfl⟩
theorem row_ix {st : Store} {l : List D} {k : Int} {d : D} (h : st[0]? = some (.lst l)) (e : L2.atI l k = some d) : dIx st (.mref 0) (.int k) = some d := by
  simp only [dIx, seqD, h, e]
theorem row_put {st : Store} {l : List D} {k : Int} {j : Nat} {d : D} (h : st[0]? = some (.lst l)) (e : L2.ixN l.length k = some j) : dPut (.mref 0) (.int k) d st = some (st.set 0 (.lst (l.set j d))) := by
  simp only [dPut, h, e]
theorem set_row {st : Store} {l : List D} {o : MObj} (h : st[0]? = some (.lst l)) : (st.set 0 o)[0]? = some o := by
  have : 0 < st.length := (List.getElem?_eq_some_iff.mp h).1
  rw [List.getElem?_set_self this]
theorem set_other {st : Store} {o : MObj} {n : Nat} (h : n ≠ 0) : (st.set 0 o)[n]? = st[n]? := by rw [List.getElem?_set_ne (Ne.symm h)]
end Px
/-! L1: comprehensions and loops in plain Lean. -/
namespace Px
open PySem PySem.Spec
theorem gives_eq {α : Type} {r : R α} {a : α} (h : r.Gives fun x => x = a) : r = .ok a := by
  obtain ⟨x, e, rfl⟩ := h; exact e
/-- nothing is changed meanwhile -/
theorem compN_pure {g : Cv} {t : Tv} {e : Ev} {s : Src} {env : DEnv} {st : Store} (hc : chk s st = true) (ts : D → Bool) (es : D → D) : ∀ l : List D, (∀ d ∈ l, ∃ env', g d env = some env' ∧ t env' st = .ok (ts d, st) ∧ (ts d = true → e env' st = .ok (es d, st))) → compN g t e s l env st = .ok ((l.filter ts).map es, st)
  | [], _ => by unfold compN; rw [if_pos hc]; rfl
  | d :: l, h => by
    obtain ⟨env', h1, h2, h3⟩ := h d List.mem_cons_self
    have ih := compN_pure hc ts es l fun x m => h x (List.mem_cons_of_mem _ m)
    unfold compN
    rw [if_pos hc, h1]
    simp only [h2, R.calm_ok, R.ok_bind]
    by_cases q : ts d = true
    · rw [if_pos q, h3 q]
      simp only [R.calm_ok, R.ok_bind]
      rw [ih]
      simp [List.filter, q]
    · rw [if_neg q, ih]
      simp [List.filter, q]
/-- the tests change the store, within I: the result is of some of the items -/
theorem compN_some {g : Cv} {t : Tv} {e : Ev} {s : Src} {env : DEnv} {I : Store → Prop} (es : D → D) (hI : ∀ st, I st → chk s st = true) : ∀ (l : List D) (st : Store), I st → (∀ d ∈ l, ∃ env', g d env = some env' ∧ ∀ st, I st → (t env' st).Gives fun p => I p.2 ∧ (p.1 = true → e env' p.2 = .ok (es d, p.2))) →
    (compN g t e s l env st).Gives fun q => I q.2 ∧ ∃ sub : List D, sub.Sublist l ∧ q.1 = sub.map es
  | [], st, hs, _ => by unfold compN; rw [if_pos (hI st hs)]; exact g_ok ⟨hs, [], .slnil, rfl⟩
  | d :: l, st, hs, h => by
    obtain ⟨env', h1, h2⟩ := h d List.mem_cons_self
    have ih := fun st hs => compN_some (es := es) hI l st hs fun x m => h x (List.mem_cons_of_mem _ m)
    obtain ⟨⟨b, st1⟩, e1, i1, h3⟩ := h2 st hs
    unfold compN
    rw [if_pos (hI st hs), h1]
    simp only [e1, R.calm_ok, R.ok_bind]
    obtain ⟨⟨r, st2⟩, e2, i2, sub, hsub, e3⟩ := ih st1 i1
    simp only at e3
    by_cases q : b = true
    · rw [if_pos q, h3 q]
      simp only [R.calm_ok, R.ok_bind]
      rw [e2]
      exact g_ok ⟨i2, d :: sub, hsub.cons₂ d, by simp [e3]⟩
    · rw [if_neg q, e2]
      exact g_ok ⟨i2, sub, hsub.cons d, e3⟩
section
variable {env : DEnv} {st : Store} {vs : List Nat} {g : Cv} {t : Tv} {e : Ev}
theorem compF_of {m : Iv} {l : List D} {s : Src} {st1 : Store} {Q : List D × Store → Prop} (h : m env st = .ok ((l, s), st1)) (h2 : (compN g t e s l (wipeE env vs) st1).Gives fun q => q.1.length ≤ LINE ∧ Q q) : (compF m vs g t e env st).Gives Q := by
  obtain ⟨q, e1, e2, e3⟩ := h2
  unfold compF
  rw [h]
  simp only [R.ok_bind, e1, R.calm_ok]
  rw [if_pos e2]
  exact g_ok e3
/-- [e for d in x if c], nothing changed meanwhile -/
theorem g_compS {m : Ev} {Q : D × Store → Prop} (h : (m env st).Gives fun p => ∃ q, seqS p.2 p.1 = some q ∧ ∃ ts es, (∀ d ∈ q.1, ∃ env', g d (wipeE env vs) = some env' ∧ (t env' p.2).Gives (fun r => r = (ts d, p.2)) ∧ (ts d = true → (e env' p.2).Gives fun r => r = (es d, p.2))) ∧ ((q.1.filter ts).map es).length ≤ LINE ∧ Q (.lst ((q.1.filter ts).map es), p.2)) :
    (eComp (iSeq m) vs g t e env st).Gives Q := by
  obtain ⟨p, e1, q, e2, ts, es, h1, h2, h3⟩ := h
  refine g_Comp (compF_of (l := q.1) (s := q.2) (st1 := p.2) ?_ ?_)
  · unfold iSeq
    rw [e1]
    simp only [R.ok_bind, e2]
  · refine ⟨_, compN_pure (chk_now e2) ts es q.1 fun d hd => ?_, h2, h3⟩
    obtain ⟨env', g1, g2, g3⟩ := h1 d hd
    exact ⟨env', g1, gives_eq g2, fun z => gives_eq (g3 z)⟩
/-- [e for k in range(n) if c], nothing changed meanwhile -/
theorem g_compR {a : Ev} {Q : D × Store → Prop} (h : (a env st).Gives fun p => ∃ n, p.1 = .int n ∧ (-4611686018427387904 ≤ n ∧ n < 4611686018427387904) ∧ ∃ ts es, (∀ d ∈ rngL 0 n, ∃ env', g d (wipeE env vs) = some env' ∧ (t env' p.2).Gives (fun r => r = (ts d, p.2)) ∧ (ts d = true → (e env' p.2).Gives fun r => r = (es d, p.2))) ∧ (((rngL 0 n).filter ts).map es).length ≤ LINE ∧ Q (.lst (((rngL 0 n).filter ts).map es), p.2)) :
    (eComp (iRng (aCons a aNil)) vs g t e env st).Gives Q := by
  obtain ⟨p, e1, n, e2, hb, ts, es, h1, h2, h3⟩ := h
  refine g_Comp (compF_of (l := rngL 0 n) (s := none) (st1 := p.2) ?_ ?_)
  · unfold iRng aCons aNil
    rw [e1]
    simp only [R.ok_bind, e2]
    rw [if_pos (by omega)]
  · refine ⟨_, compN_pure rfl ts es _ fun d hd => ?_, h2, h3⟩
    obtain ⟨env', g1, g2, g3⟩ := h1 d hd
    exact ⟨env', g1, gives_eq g2, fun z => gives_eq (g3 z)⟩
/-- [k for k in range(n) if c], the store goes on within I -/
theorem g_compRI {a : Ev} {I : Store → Prop} {Q : D × Store → Prop} (h : (a env st).Gives fun p => ∃ n, p.1 = .int n ∧ (-4611686018427387904 ≤ n ∧ n < 4611686018427387904) ∧ n.toNat ≤ LINE ∧ I p.2 ∧ (∀ d ∈ rngL 0 n, ∃ env', g d (wipeE env vs) = some env' ∧ ∀ st, I st → (t env' st).Gives fun r => I r.2 ∧ (r.1 = true → e env' r.2 = .ok (d, r.2))) ∧
    ∀ (sub : List D) (st' : Store), I st' → sub.Sublist (rngL 0 n) → Q (.lst sub, st')) : (eComp (iRng (aCons a aNil)) vs g t e env st).Gives Q := by
  obtain ⟨p, e1, n, e2, hb, hl, hI, h1, h2⟩ := h
  refine g_Comp (compF_of (l := rngL 0 n) (s := none) (st1 := p.2) ?_ ?_)
  · unfold iRng aCons aNil
    rw [e1]
    simp only [R.ok_bind, e2]
    rw [if_pos (by omega)]
  · refine (compN_some (I := I) (es := id) (fun _ _ => rfl) (rngL 0 n) p.2 hI fun d hd => ?_).imp fun q ⟨i2, sub, hs, e3⟩ => ?_
    · obtain ⟨env', g1, g2⟩ := h1 d hd
      exact ⟨env', g1, g2⟩
    · have e4 : q.1 = sub := by rw [e3, List.map_id]
      refine ⟨?_, ?_⟩
      · rw [e4]
        have := hs.length_le
        unfold rngL at this
        rw [List.length_map, List.length_range] at this
        omega
      · have := h2 sub q.2 i2 hs
        rw [← e4] at this
        exact this
end
/-! ### whole numbers in tuples -/
abbrev intsT (l : List Int) : D := .tup (l.map .int)
/-- 0 .. n-1 -/
def upto (n : Int) : List Int := (List.range n.toNat).map Int.ofNat
theorem rngL_ints (n : Int) : rngL 0 n = (upto n).map D.int := by
  unfold rngL upto
  rw [List.map_map]
  simp
theorem mem_upto {n k : Int} : k ∈ upto n ↔ 0 ≤ k ∧ k < n := by
  unfold upto
  rw [List.mem_map]
  constructor
  · rintro ⟨a, h, rfl⟩
    rw [List.mem_range] at h
    have : (Int.ofNat a) = (a : Int) := rfl
    omega
  · intro h
    exact ⟨k.toNat, by rw [List.mem_range]; omega, by have : Int.ofNat k.toNat = (k.toNat : Int) := rfl; omega⟩
theorem upto_pair (n : Int) : (upto n).Pairwise (· < ·) := by
  unfold upto
  rw [List.pairwise_map]
  exact List.pairwise_lt_range.imp fun h => by have := h; simp; omega
theorem toPys_ints : ∀ l : List Int, toPys (l.map D.int) = l.map PyData.int
  | [] => rfl
  | i :: l => by show toPy (.int i) :: toPys (l.map D.int) = _; rw [toPys_ints l]; rfl
theorem isPys_ints : ∀ l : List Int, isPys (l.map D.int) = true
  | [] => rfl
  | i :: l => by show (isPy (.int i) && isPys (l.map D.int)) = true; rw [isPys_ints l]; rfl
theorem depth_ints : ∀ l : List Int, PyData.depthAll (l.map PyData.int) = 0
  | [] => by simp [PyData.depthAll]
  | i :: l => by simp [PyData.depthAll, PyData.depth, depth_ints l]
theorem okDs_ints (l : List Int) : okDs (l.map D.int) = true := by
  unfold okDs
  rw [isPys_ints, toPys_ints, depth_ints]; rfl
theorem any_ints (i : Int) : ∀ l : List Int, ((l.map D.int).any fun z => PyData.eqv (toPy z) (toPy (.int i))) = decide (i ∈ l)
  | [] => by simp
  | j :: l => by
    rw [List.map_cons, List.any_cons, any_ints i l]
    show (PyData.eqv (.int j) (.int i) || _) = _
    rw [eqv_int]
    by_cases q : i = j
    · subst q; simp
    · have : ¬ j = i := fun e => q e.symm
      simp [q, this]
theorem dIn_ints {st : Store} {i : Int} {y : D} {l : List Int} (h : seqD st y = some (l.map .int)) : dIn st (.int i) y = some (.bl (decide (i ∈ l))) := by
  unfold dIn dInB
  rw [h]
  simp only [okDs_ints, rd, okD_int, and_self, if_true, Option.map_some]
  rw [any_ints]
theorem dNotIn_ints {st : Store} {i : Int} {y : D} {l : List Int} (h : seqD st y = some (l.map .int)) : dNotIn st (.int i) y = some (.bl (!decide (i ∈ l))) := by
  unfold dNotIn dInB
  rw [h]
  simp only [okDs_ints, rd, okD_int, and_self, if_true, Option.map_some]
  rw [any_ints]
theorem sub_ints {sub : List D} {l : List Int} (h : sub.Sublist (l.map D.int)) : ∃ l' : List Int, l'.Sublist l ∧ sub = l'.map D.int := by
  obtain ⟨l', h1, h2⟩ := List.sublist_map_iff.mp h
  exact ⟨l', h1, h2⟩
/-! ### for -/
/-- where one turn's end leads on -/
def turnTo (I : List D → DEnv → Store → Prop) (Q : SOut × DEnv × Store → Prop) (l : List D) : SOut × DEnv × Store → Prop
  | (.nx, e, s) => I l e s
  | (.ct, e, s) => I l e s
  | (.bk, e, s) => Q (.nx, e, s)
  | (.rt d, e, s) => Q (.rt d, e, s)
theorem forN_gives {g : Gv} {b : Sm} {s : Src} {I : List D → DEnv → Store → Prop} {Q : SOut × DEnv × Store → Prop} (step : ∀ d l env st, I (d :: l) env st → chk s st = true ∧ (g d env st).Gives fun p => (b p.1 p.2).Gives (turnTo I Q l)) (fin : ∀ env st, I [] env st → chk s st = true ∧ Q (.nx, env, st)) :
    ∀ l env st, I l env st → (forN g b s l env st).Gives Q := by
  intro l
  induction l with
  | nil =>
    intro env st h
    obtain ⟨h1, h2⟩ := fin env st h
    unfold forN; rw [if_pos h1]; exact g_ok h2
  | cons d l ih =>
    intro env st h
    obtain ⟨h1, h2⟩ := step d l env st h
    unfold forN; rw [if_pos h1]
    refine g_bind (h2.imp fun p h => g_bind (h.imp fun q h => ?_))
    obtain ⟨o, e, s'⟩ := q
    cases o with
    | nx => exact ih _ _ h
    | ct => exact ih _ _ h
    | bk => exact g_ok h
    | rt d => exact g_ok h
theorem g_For {m : Iv} {g : Gv} {b : Sm} {env : DEnv} {st : Store} {Q : SOut × DEnv × Store → Prop} (h : (m env st).Gives fun p => (forN g b p.1.2 p.1.1 env p.2).Gives Q) : (sFor m g b env st).Gives Q := g_bind h
theorem g_iSeq {m : Ev} {env : DEnv} {st : Store} {Q : (List D × Src) × Store → Prop} (h : (m env st).Gives fun p => ∃ q, seqS p.2 p.1 = some q ∧ Q (q, p.2)) : (iSeq m env st).Gives Q := g_bind (h.imp fun p ⟨q, e, z⟩ => by rw [e]; exact g_ok z)
theorem g_iRng {a : Ev} {env : DEnv} {st : Store} {Q : (List D × Src) × Store → Prop} (h : (a env st).Gives fun p => ∃ n, p.1 = .int n ∧ (-4611686018427387904 ≤ n ∧ n < 4611686018427387904) ∧ Q ((rngL 0 n, none), p.2)) : (iRng (aCons a aNil) env st).Gives Q := by
  obtain ⟨p, e1, n, e2, hb, z⟩ := h
  unfold iRng aCons aNil
  rw [e1]
  simp only [R.ok_bind, e2]
  rw [if_pos (by omega)]
  exact g_ok z
theorem g_iEn {m : Ev} {env : DEnv} {st : Store} {Q : (List D × Src) × Store → Prop} (h : (m env st).Gives fun p => ∃ q, seqS p.2 p.1 = some q ∧ Q ((enumD 0 q.1, q.2), p.2)) : (iEn m env st).Gives Q := g_bind (h.imp fun p ⟨q, e, z⟩ => by rw [e]; exact g_ok z)
/-- targets -/
theorem g_gV {i : Nat} {d : D} {env : DEnv} {st : Store} {Q : DEnv × Store → Prop} (q : Q (env.set i (some d), st)) : (gV i d env st).Gives Q := g_ok q
theorem g_gTup2 {i j : Nat} {x y : D} {env : DEnv} {st : Store} {Q : DEnv × Store → Prop} (q : Q ((env.set i (some x)).set j (some y), st)) : (Px.gTup 2 (gAnd (gV i) (gAnd (gV j) gNo)) (.tup [x, y]) env st).Gives Q := g_ok q
theorem g_gTup3 {i j k : Nat} {x y z : D} {env : DEnv} {st : Store} {Q : DEnv × Store → Prop} (q : Q (((env.set i (some x)).set j (some y)).set k (some z), st)) : (Px.gTup 3 (gAnd (gV i) (gAnd (gV j) (gAnd (gV k) gNo))) (.tup [x, y, z]) env st).Gives Q := g_ok q
theorem g_gTup4 {i j k l : Nat} {x y z w : D} {env : DEnv} {st : Store} {Q : DEnv × Store → Prop} (q : Q ((((env.set i (some x)).set j (some y)).set k (some z)).set l (some w), st)) : (Px.gTup 4 (gAnd (gV i) (gAnd (gV j) (gAnd (gV k) (gAnd (gV l) gNo)))) (.tup [x, y, z, w]) env st).Gives Q := g_ok q
theorem g_AsgT {m : Ev} {g : Gv} {env : DEnv} {st : Store} {Q : SOut × DEnv × Store → Prop} (h : (m env st).Gives fun p => (g p.1 env p.2).Gives fun q => Q (.nx, q.1, q.2)) : (sAsg m g env st).Gives Q := g_bind (h.imp fun p h => g_bind (h.imp fun q z => g_ok z))
/-! ### while: a measure falls -/
theorem while_gives {c : Tv} {b : Sm} {I : Nat → DEnv → Store → Prop} {Q : SOut × DEnv × Store → Prop} (step : ∀ m env st, I m env st → (c env st).Gives fun p => (p.1 = true → (b env p.2).Gives fun q => match q with
    | (.nx, e, s) => ∃ m', m' < m ∧ I m' e s
    | (.ct, e, s) => ∃ m', m' < m ∧ I m' e s
    | (.bk, e, s) => Q (.nx, e, s)
    | (.rt d, e, s) => Q (.rt d, e, s)) ∧ (p.1 = false → Q (.nx, env, p.2))) : ∀ n m env st, m < n → I m env st → (whileN n c b env st).Gives Q := by
  intro n
  induction n with
  | zero => intro m env st h; omega
  | succ n ih =>
    intro m env st hm h
    unfold whileN
    refine g_bind ((step m env st h).imp fun p z => g_ite (fun hc => g_bind ((z.1 hc).imp fun q y => ?_)) fun hc => g_ok (z.2 (by simpa using hc)))
    obtain ⟨o, e, s'⟩ := q
    cases o with
    | nx => obtain ⟨m', h1, h2⟩ := y; exact ih m' _ _ (by omega) h2
    | ct => obtain ⟨m', h1, h2⟩ := y; exact ih m' _ _ (by omega) h2
    | bk => exact g_ok y
    | rt d => exact g_ok y
/-! ### defs -/
theorem mP_of {n : Nat} {b : Sm} {ds : List D} {d : D} (h : (b (env0 n ds) []).Gives fun p => match p with
    | (.rt x, _, s) => rd s x = d
    | (.nx, _, _) => d = .non
    | _ => False) (hs : still d = true) : mP n b ds = .ok d := by
  obtain ⟨⟨o, e, s⟩, e1, z⟩ := h
  unfold mP
  rw [e1]
  cases o with
  | nx => simp only at z; subst z; rfl
  | rt x =>
    simp only at z
    show (if still (rd s x) = true then R.ok (rd s x) else .stuck) = _
    rw [z, if_pos hs]
  | bk => exact z.elim
  | ct => exact z.elim
theorem mM_of {n : Nat} {b : Sm} {ds : List D} {st : Store} {Q : D × Store → Prop} (h : (b (env0 n ds) st).Gives fun p => match p with
    | (.rt x, _, s) => Q (x, s)
    | (.nx, _, s) => Q (.non, s)
    | _ => False) : (mM n b ds st).Gives Q := by
  obtain ⟨⟨o, e, s⟩, e1, z⟩ := h
  unfold mM
  rw [e1]
  cases o with
  | nx => exact g_ok z
  | rt x => exact g_ok z
  | bk => exact z.elim
  | ct => exact z.elim
/-- a call whose arguments are still -/
theorem callP_of {f : Pf} {st : Store} {ds : List D} {d : D} (hs : stills ds = true) (h : f ds = .ok d) : callP f st ds = .ok d := by
  unfold callP; rw [if_pos hs, h]
theorem callP_rd {f : Pf} {st : Store} {ds : List D} {d : D} (hs : stills (ds.map (rd st)) = true) (h : f (ds.map (rd st)) = .ok d) (hd : hard d = true) : callP f st ds = .ok d := by
  unfold callP
  split
  · rename_i q
    have e : ds.map (rd st) = ds := by
      clear h hs
      induction ds with
      | nil => rfl
      | cons x l ih =>
        have q' : (still x && stills l) = true := q
        rw [Bool.and_eq_true] at q'
        rw [List.map_cons, ih q'.2]
        cases x with
        | mref n => cases q'.1
        | _ => rfl
    rw [e] at h; exact h
  · first
      | (rw [if_pos hs, h]; simp [hd])
      | (rw [h]; simp [hd])
end Px
/-! L2x: tuples of whole numbers in order; sorted and sorted(set(..)) of them. -/
namespace Px
open PySem PySem.Spec
theorem lt_tup (x y : List Int) : W.dataLt (toPy (intsT x)) (toPy (intsT y)) = decide (x < y) := by
  show W.dataLt (.tuple (toPys (x.map D.int))) (.tuple (toPys (y.map D.int))) = _
  rw [toPys_ints, toPys_ints, W.dataLt_tuple]
  exact W.dataLt_ints x y
theorem okD_tup (x : List Int) : okD (intsT x) = true := by
  show (isPys (x.map D.int) && decide ((PyData.tuple (toPys (x.map D.int))).depth ≤ 60)) = true
  rw [isPys_ints, toPys_ints]
  simp [PyData.depth, depth_ints]
theorem alike_tup (x y : List Int) : W.alike (toPy (intsT x)) (toPy (intsT y)) = true := by
  show W.alike (.tuple (toPys (x.map D.int))) (.tuple (toPys (y.map D.int))) = true
  rw [toPys_ints, toPys_ints]
  simp only [W.alike]
  exact W.alike_ints x y
theorem dLt_tup (st : Store) (x y : List Int) : dLt st (intsT x) (intsT y) = some (.bl (decide (x < y))) := by
  have h : dLtB st (intsT x) (intsT y) = some (decide (x < y)) := by
    unfold dLtB
    have e : ∀ z : List Int, rd st (intsT z) = intsT z := fun _ => rfl
    rw [e, e, if_pos ⟨okD_tup x, okD_tup y, alike_tup x y, rfl⟩, lt_tup]
  unfold dLt
  rw [h]; rfl
theorem eqv_ints : ∀ (x y : List Int), PyData.eqvAll (x.map PyData.int) (y.map PyData.int) = decide (x = y)
  | [], [] => by simp [PyData.eqvAll]
  | [], _ :: _ => by simp [PyData.eqvAll]
  | _ :: _, [] => by simp [PyData.eqvAll]
  | i :: x, j :: y => by
    have h := eqv_ints x y
    rw [List.map_cons, List.map_cons]
    have e : PyData.eqvAll (.int i :: x.map PyData.int) (.int j :: y.map PyData.int) = (PyData.eqv (.int i) (.int j) && PyData.eqvAll (x.map PyData.int) (y.map PyData.int)) := by simp [PyData.eqvAll]
    rw [e, eqv_int, h]
    by_cases q : i = j <;> by_cases q2 : x = y <;> simp [q, q2]
theorem eqv_tup (x y : List Int) : PyData.eqv (toPy (intsT x)) (toPy (intsT y)) = decide (x = y) := by
  show PyData.eqv (.tuple (toPys (x.map D.int))) (.tuple (toPys (y.map D.int))) = _
  rw [toPys_ints, toPys_ints]
  have e : PyData.eqv (.tuple (x.map PyData.int)) (.tuple (y.map PyData.int)) = PyData.eqvAll (x.map PyData.int) (y.map PyData.int) := by simp [PyData.eqv]
  rw [e, eqv_ints]
theorem dEq_tup (st : Store) (x y : List Int) : dEq st (intsT x) (intsT y) = some (.bl (decide (x = y))) := by
  have h : dEqB st (intsT x) (intsT y) = some (decide (x = y)) := by
    unfold dEqB
    have e : ∀ z : List Int, rd st (intsT z) = intsT z := fun _ => rfl
    rw [e, e, if_pos ⟨okD_tup x, okD_tup y⟩, eqv_tup]
  unfold dEq
  rw [h]; rfl
theorem dNe_tup (st : Store) (x y : List Int) : dNe st (intsT x) (intsT y) = some (.bl (!decide (x = y))) := by
  have h : dEqB st (intsT x) (intsT y) = some (decide (x = y)) := by
    unfold dEqB
    have e : ∀ z : List Int, rd st (intsT z) = intsT z := fun _ => rfl
    rw [e, e, if_pos ⟨okD_tup x, okD_tup y⟩, eqv_tup]
  unfold dNe
  rw [h]; rfl
/-! ### keys -/
abbrev keyL (l : List Int) : NestedKey := .tup (numsK l)
theorem ofKeys_nums : ∀ l : List Int, ofKeys (numsK l) = l.map D.int
  | [] => rfl
  | i :: l => by show D.int i :: ofKeys (numsK l) = _; rw [ofKeys_nums l]; rfl
theorem ofKey_L (l : List Int) : ofKey (keyL l) = intsT l := by
  show D.tup (ofKeys (numsK l)) = _
  rw [ofKeys_nums]
theorem toKeys_ints : ∀ l : List Int, toKeys (l.map D.int) = some (numsK l)
  | [] => by simp [toKeys, numsK]
  | i :: l => by
    rw [List.map_cons]
    simp only [toKeys, toKey, toKeys_ints l]
    rfl
theorem toKey_L (l : List Int) : toKey (intsT l) = some (keyL l) := by
  show (toKeys (l.map D.int)).map NestedKey.tup = _
  rw [toKeys_ints]; rfl
theorem depth_L (l : List Int) : (keyL l).depth = 1 := by
  have h : ∀ l : List Int, NestedKey.depthAll (numsK l) = 0 := by
    intro l
    induction l with
    | nil => simp [numsK, NestedKey.depthAll]
    | cons i l ih =>
      have e : numsK (i :: l) = .num i :: numsK l := rfl
      rw [e]
      simp [NestedKey.depthAll, NestedKey.depth, ih]
  simp [NestedKey.depth, h]
theorem pure_L : ∀ l : List Int, pureKs (numsK l) = true
  | [] => rfl
  | i :: l => by show (pureK (.num i) && pureKs (numsK l)) = true; rw [pure_L l]; rfl
theorem keyT_L (l : List Int) : keyT (intsT l) = some (keyL l) := by
  unfold keyT
  rw [toKey_L]
  simp only
  rw [if_pos ⟨by rw [depth_L]; omega, pure_L l⟩]
theorem keysT_L : ∀ L : List (List Int), keysT (L.map intsT) = some (L.map keyL)
  | [] => rfl
  | l :: L => by
    show ((keyT (intsT l)).bind fun k => (keysT (L.map intsT)).map fun ks => k :: ks) = _
    rw [keyT_L, keysT_L L]; rfl
theorem data_L (l : List Int) : (keyL l).data = toPy (intsT l) := by rw [← ofKey_L, toPy_of]
theorem keyL_inj {x y : List Int} (h : keyL x = keyL y) : x = y := by
  have := congrArg ofKey h
  rw [ofKey_L, ofKey_L] at this
  injection this with h
  have h2 : ∀ (x y : List Int), x.map D.int = y.map D.int → x = y := by
    intro x
    induction x with
    | nil => intro y h; cases y with
      | nil => rfl
      | cons _ _ => cases h
    | cons a x ih => intro y h; cases y with
      | nil => cases h
      | cons b y =>
        rw [List.map_cons, List.map_cons] at h
        injection h with h1 h2
        injection h1 with h1
        rw [h1, ih y h2]
  exact h2 x y h
theorem leK_L (x y : List Int) : leK (keyL x) (keyL y) = !decide (y < x) := by
  have h : W.dataLe false NestedKey.data (keyL x) (keyL y) = !W.dataLt (keyL y).data (keyL x).data := by rw [W.dataLe_eq]; rfl
  show W.dataLe false NestedKey.data (keyL x) (keyL y) = _
  rw [h, data_L, data_L, lt_tup]
theorem alike_L (L : List (List Int)) : alikeK (L.map keyL) = true := by
  unfold alikeK
  rw [List.all_eq_true]
  intro a ha
  rw [List.all_eq_true]
  intro b hb
  obtain ⟨x, _, rfl⟩ := List.mem_map.mp ha
  obtain ⟨y, _, rfl⟩ := List.mem_map.mp hb
  rw [data_L, data_L]
  exact alike_tup x y
/-- sorted(set(tuples of numbers)) -/
theorem sortedSet_L {st : Store} {d : D} {L : List (List Int)} (hd : lsD st d = some (L.map intsT)) (ht : isTupD d = false) (few : (dedupK (L.map keyL)).length < 64) (ne : ∀ x ∈ L, x ≠ []) : ∃ M : List (List Int), sortedSet st d = some (M.map intsT) ∧ M.Pairwise (· < ·) ∧ ∀ x, x ∈ M ↔ x ∈ L := by
  have hks : setKs st d = some (L.map keyL) := by
    unfold setKs
    split
    · cases ht
    · rw [hd]
      simp only [keysT_L]
      rw [if_pos few]
  have hsome : (L.map keyL).all someK = true := by
    rw [List.all_eq_true]
    intro k hk
    obtain ⟨x, hx, rfl⟩ := List.mem_map.mp hk
    have := ne x hx
    cases x with
    | nil => exact absurd rfl this
    | cons a x => rfl
  have hal := alike_L L
  -- the keys as lists
  have hex : ∀ ks : List NestedKey, (∀ k ∈ ks, k ∈ L.map keyL) → ∃ M : List (List Int), ks = M.map keyL := by
    intro ks
    induction ks with
    | nil => intro _; exact ⟨[], rfl⟩
    | cons k ks ih =>
      intro h
      obtain ⟨M, e⟩ := ih fun j m => h j (List.mem_cons_of_mem _ m)
      obtain ⟨x, _, e2⟩ := List.mem_map.mp (h k List.mem_cons_self)
      exact ⟨x :: M, by rw [List.map_cons, e2, e]⟩
  obtain ⟨M, eM⟩ := hex (sortSetK (L.map keyL)) fun k m => mem_sortSetK.mp m
  refine ⟨M, ?_, ?_, fun x => ?_⟩
  · unfold sortedSet
    rw [hks]
    simp only
    rw [if_pos ⟨few, hal, .inr hsome⟩, eM, List.map_map]
    congr 1
    exact List.map_congr_left fun x _ => ofKey_L x
  · have pw := sortSetK_pair (L.map keyL)
    have nd : (sortSetK (L.map keyL)).Nodup := (sortSetK_perm _).nodup_iff.mpr (nodup_dedupK _)
    rw [eM, List.pairwise_map] at pw
    rw [eM, List.nodup_iff_pairwise_ne, List.pairwise_map] at nd
    refine (pw.and nd).imp fun {a b} h => ?_
    have h1 := h.1
    rw [leK_L] at h1
    have h2 : ¬ b < a := by simpa using h1
    exact Std.lt_of_le_of_ne h2 fun e => h.2 (by rw [e])
  · have h1 : keyL x ∈ sortSetK (L.map keyL) ↔ keyL x ∈ L.map keyL := mem_sortSetK
    have h2 : ∀ N : List (List Int), keyL x ∈ N.map keyL ↔ x ∈ N := fun N => by
      rw [List.mem_map]
      constructor
      · rintro ⟨y, hy, e⟩; rw [← keyL_inj e]; exact hy
      · intro h; exact ⟨x, h, rfl⟩
    rw [eM, h2, h2] at h1
    exact h1
theorem dedup_le : ∀ ks : List NestedKey, (dedupK ks).length ≤ ks.length
  | [] => Nat.le_refl _
  | k :: ks => by
    simp only [dedupK, List.length_cons]
    have := List.length_filter_le (fun j => decide (j ≠ k)) (dedupK ks)
    have := dedup_le ks
    omega
/-! ### sorted -/
def leL (x y : List Int) : Bool := !decide (y < x)
theorem leD_L (x y : List Int) : leD (intsT x) (intsT y) = leL x y := by
  have h : leD (intsT x) (intsT y) = !W.dataLt (toPy (intsT y)) (toPy (intsT x)) := by unfold leD; rw [W.dataLe_eq]; rfl
  rw [h, lt_tup]; rfl
theorem leD_int (i j : Int) : leD (.int i) (.int j) = decide (i ≤ j) := by
  have h : leD (.int i) (.int j) = !W.dataLt (.int j) (.int i) := by unfold leD; rw [W.dataLe_eq]; rfl
  rw [h, lt_int]
  by_cases q : j < i <;> simp [q] <;> omega
theorem okDs_tups : ∀ L : List (List Int), okDs (L.map intsT) = true := by
  intro L
  have h1 : isPys (L.map intsT) = true := by
    induction L with
    | nil => rfl
    | cons x L ih =>
      show (isPy (intsT x) && isPys (L.map intsT)) = true
      rw [ih]
      show (isPys (x.map D.int) && true) = true
      rw [isPys_ints]; rfl
  have h2 : PyData.depthAll (toPys (L.map intsT)) ≤ 59 := by
    have h3 : PyData.depthAll (toPys (L.map intsT)) ≤ 1 := by
      clear h1
      induction L with
      | nil => simp [toPys, PyData.depthAll]
      | cons x L ih =>
        rw [List.map_cons]
        show PyData.depthAll (toPy (intsT x) :: toPys (L.map intsT)) ≤ 1
        simp only [PyData.depthAll]
        have e : (toPy (intsT x)).depth = 1 := by
          show (PyData.tuple (toPys (x.map D.int))).depth = 1
          rw [toPys_ints]
          simp [PyData.depth, depth_ints]
        rw [e]; omega
    omega
  unfold okDs
  rw [h1]
  simp [h2]
theorem bSort_L {st : Store} {d : D} {L : List (List Int)} (hd : lsD st d = some (L.map intsT)) (hl : L.length ≤ LINE) (ne : ∀ x ∈ L, x ≠ []) : bSort st [d] = some ((L.mergeSort leL).map intsT) := by
  have hs : (L.map intsT).all someD = true := by
    rw [List.all_eq_true]
    intro k hk
    obtain ⟨x, hx, rfl⟩ := List.mem_map.mp hk
    have := ne x hx
    cases x with
    | nil => exact absurd rfl this
    | cons a x => rfl
  have ha : alikeD (L.map intsT) = true := by
    unfold alikeD
    rw [List.all_eq_true]
    intro a ha
    rw [List.all_eq_true]
    intro b hb
    obtain ⟨x, _, rfl⟩ := List.mem_map.mp ha
    obtain ⟨y, _, rfl⟩ := List.mem_map.mp hb
    exact alike_tup x y
  have h : bSortL st [d] = some ((L.mergeSort leL).map intsT) := by
    unfold bSortL
    dsimp only
    rw [hd]
    simp only
    rw [if_pos ⟨okDs_tups L, by rw [List.length_map]; exact hl, ha, .inl hs⟩]
    congr 1
    exact (W.sort_maps (r := leL) (s := leD) intsT fun a _ b _ => (leD_L a b).symm).symm
  unfold bSort
  rw [h]
theorem bSort_ints {st : Store} {d : D} {l : List Int} (hd : lsD st d = some (l.map .int)) (hl : l.length ≤ LINE) : bSort st [d] = some ((l.mergeSort fun i j => decide (i ≤ j)).map .int) := by
  have hs : (l.map D.int).all flatD = true := by
    rw [List.all_eq_true]
    intro k hk
    obtain ⟨x, hx, rfl⟩ := List.mem_map.mp hk
    rfl
  have ha : alikeD (l.map D.int) = true := by
    unfold alikeD
    rw [List.all_eq_true]
    intro a ha
    rw [List.all_eq_true]
    intro b hb
    obtain ⟨x, _, rfl⟩ := List.mem_map.mp ha
    obtain ⟨y, _, rfl⟩ := List.mem_map.mp hb
    exact alike_int x y
  have h : bSortL st [d] = some ((l.mergeSort fun i j => decide (i ≤ j)).map .int) := by
    unfold bSortL
    dsimp only
    rw [hd]
    simp only
    rw [if_pos ⟨okDs_ints l, by rw [List.length_map]; exact hl, ha, .inr hs⟩]
    congr 1
    exact (W.sort_maps (r := fun i j => decide (i ≤ j)) (s := leD) D.int fun a _ b _ => (leD_int a b).symm).symm
  unfold bSort
  rw [h]
theorem intsD_map : ∀ l : List Int, intsD (l.map D.int) = some l
  | [] => rfl
  | i :: l => by
    show (intsD (l.map D.int)).map (fun r => i :: r) = _
    rw [intsD_map l]; rfl
/-- in order, each once -/
theorem exists_ordI (l : List Int) : ∃ m : List Int, m.Pairwise (· < ·) ∧ ∀ k, k ∈ m ↔ k ∈ l := by
  have h : ∀ s : List Int, s.Pairwise (· ≤ ·) → ∃ m : List Int, m.Pairwise (· < ·) ∧ (∀ k, k ∈ m ↔ k ∈ s) := by
    intro s
    induction s with
    | nil => intro _; exact ⟨[], .nil, fun k => .rfl⟩
    | cons i s ih =>
      intro h
      rw [List.pairwise_cons] at h
      obtain ⟨m, h1, h2⟩ := ih h.2
      by_cases q : i ∈ s
      · exact ⟨m, h1, fun k => by
          rw [h2, List.mem_cons]
          constructor
          · exact .inr
          · rintro (rfl | z)
            · exact q
            · exact z⟩
      · refine ⟨i :: m, List.pairwise_cons.mpr ⟨fun k hk => ?_, h1⟩, fun k => by rw [List.mem_cons, List.mem_cons, h2]⟩
        have hk2 := (h2 k).mp hk
        have h3 := h.1 k hk2
        have : i ≠ k := fun e => q (e ▸ hk2)
        omega
  have hs : (l.mergeSort fun i j => decide (i ≤ j)).Pairwise (· ≤ ·) := by
    have := List.pairwise_mergeSort (le := fun i j : Int => decide (i ≤ j)) (fun a b c h1 h2 => by simp at *; omega) (fun a b => by simp; omega) l
    exact this.imp fun h => by simpa using h
  obtain ⟨m, h1, h2⟩ := h _ hs
  exact ⟨m, h1, fun k => by rw [h2, List.mem_mergeSort]⟩
/-- sorted(set(a tuple of numbers)) -/
theorem sortedSet_I (st : Store) (l : List Int) (hl : l.length < 1000) (few : ∀ m : List Int, m.Nodup → (∀ k ∈ m, k ∈ l) → m.length < 64) : ∃ M : List Int, sortedSet st (intsT l) = some (M.map .int) ∧ M.Pairwise (· < ·) ∧ ∀ k, k ∈ M ↔ k ∈ l := by
  obtain ⟨M, h1, h2⟩ := exists_ordI l
  have hu : numsK M = sortSetK (numsK l) := nums_uniq h1 h2
  have nd : M.Nodup := by
    rw [List.nodup_iff_pairwise_ne]
    exact h1.imp fun h => by omega
  have hlen : (dedupK (numsK l)).length < 64 := by
    rw [← (sortSetK_perm (numsK l)).length_eq, ← hu]
    unfold numsK
    rw [List.length_map]
    exact few M nd fun k m => (h2 k).mp m
  refine ⟨M, ?_, h1, h2⟩
  have hks : setKs st (intsT l) = some (numsK l) := by
    show (match intsD (l.map D.int) with
      | some ns => if ns.length < 1000 then some (numsK ns) else none
      | none => none) = _
    rw [intsD_map]
    simp only
    rw [if_pos hl]
  unfold sortedSet
  rw [hks]
  simp only
  rw [if_pos ⟨hlen, alike_nums l, .inl rfl⟩, ← hu, ofKey_nums]
end Px
/-! L1b: typed rows: comprehensions and for over L.map f. -/
namespace Px
open PySem PySem.Spec
theorem compN_map {α : Type} {g : Cv} {t : Tv} {e : Ev} {s : Src} {env : DEnv} {st : Store} (f : α → D) (hc : chk s st = true) (ts : α → Bool) (es : α → D) : ∀ L : List α, (∀ a ∈ L, ∃ env', g (f a) env = some env' ∧ (t env' st).Gives (fun r => r = (ts a, st)) ∧ (ts a = true → (e env' st).Gives fun r => r = (es a, st))) → compN g t e s (L.map f) env st = .ok ((L.filter ts).map es, st)
  | [], _ => by rw [List.map_nil]; unfold compN; rw [if_pos hc]; rfl
  | d :: l, h => by
    obtain ⟨env', h1, h2, h3⟩ := h d List.mem_cons_self
    have h2 := gives_eq h2
    have ih := compN_map f hc ts es l fun x m => h x (List.mem_cons_of_mem _ m)
    rw [List.map_cons]
    unfold compN
    rw [if_pos hc, h1]
    simp only [h2, R.calm_ok, R.ok_bind]
    by_cases q : ts d = true
    · rw [if_pos q, gives_eq (h3 q)]
      simp only [R.calm_ok, R.ok_bind]
      rw [ih]
      simp [List.filter, q]
    · rw [if_neg q, ih]
      simp [List.filter, q]
section
variable {α : Type} {m : Ev} {vs : List Nat} {g : Cv} {t : Tv} {e : Ev} {env : DEnv} {st : Store} {Q : D × Store → Prop}
theorem g_compM (f : α → D) (L : List α) (ts : α → Bool) (es : α → D) (h : (m env st).Gives fun p => ∃ s, seqS p.2 p.1 = some (L.map f, s) ∧ (∀ a ∈ L, ∃ env', g (f a) (wipeE env vs) = some env' ∧ (t env' p.2).Gives (fun r => r = (ts a, p.2)) ∧ (ts a = true → (e env' p.2).Gives fun r => r = (es a, p.2))) ∧ L.length ≤ LINE ∧ Q (.lst ((L.filter ts).map es), p.2)) : (eComp (iSeq m) vs g t e env st).Gives Q := by
  obtain ⟨p, e1, s, e2, h1, h2, h3⟩ := h
  refine g_Comp (compF_of (l := L.map f) (s := s) (st1 := p.2) ?_ ?_)
  · unfold iSeq; rw [e1]; simp only [R.ok_bind, e2]
  · refine ⟨_, compN_map f (chk_now e2) ts es L h1, ?_, h3⟩
    rw [List.length_map]; exact Nat.le_trans (List.length_filter_le _ _) h2
theorem g_compA (f : α → D) (L : List α) (es : α → D) (h : (m env st).Gives fun p => ∃ s, seqS p.2 p.1 = some (L.map f, s) ∧ (∀ a ∈ L, ∃ env', g (f a) (wipeE env vs) = some env' ∧ (e env' p.2).Gives fun r => r = (es a, p.2)) ∧ L.length ≤ LINE ∧ Q (.lst (L.map es), p.2)) : (eComp (iSeq m) vs g tYesV e env st).Gives Q := by
  refine g_compM f L (fun _ => true) es (h.imp fun p ⟨s, h1, h2, h3, h4⟩ => ⟨s, h1, fun a ha => ?_, h3, ?_⟩)
  · obtain ⟨env', g1, g2⟩ := h2 a ha
    exact ⟨env', g1, g_tYes rfl, fun _ => g2⟩
  · rw [List.filter_eq_self.mpr (fun _ _ => rfl)]; exact h4
theorem g_compMR {a : Ev} (ts : Int → Bool) (es : Int → D) (h : (a env st).Gives fun p => ∃ n, p.1 = .int n ∧ (-4611686018427387904 ≤ n ∧ n < 4611686018427387904) ∧ (∀ k ∈ upto n, ∃ env', g (.int k) (wipeE env vs) = some env' ∧ (t env' p.2).Gives (fun r => r = (ts k, p.2)) ∧ (ts k = true → (e env' p.2).Gives fun r => r = (es k, p.2))) ∧ n.toNat ≤ LINE ∧ Q (.lst (((upto n).filter ts).map es), p.2)) : (eComp (iRng (aCons a aNil)) vs g t e env st).Gives Q := by
  obtain ⟨p, e1, n, e2, hb, h1, h2, h3⟩ := h
  refine g_Comp (compF_of (l := rngL 0 n) (s := none) (st1 := p.2) ?_ ?_)
  · unfold iRng aCons aNil
    rw [e1]
    simp only [R.ok_bind, e2]
    rw [if_pos (by omega)]
  · refine ⟨((((upto n).filter ts).map es), p.2), ?_, ?_, h3⟩
    · rw [rngL_ints]; exact compN_map D.int rfl ts es (upto n) h1
    · show (((upto n).filter ts).map es).length ≤ LINE
      rw [List.length_map]
      refine Nat.le_trans (List.length_filter_le _ _) ?_
      unfold upto
      rw [List.length_map, List.length_range]; exact h2
theorem g_compAR {a : Ev} (es : Int → D) (h : (a env st).Gives fun p => ∃ n, p.1 = .int n ∧ (-4611686018427387904 ≤ n ∧ n < 4611686018427387904) ∧ (∀ k ∈ upto n, ∃ env', g (.int k) (wipeE env vs) = some env' ∧ (e env' p.2).Gives fun r => r = (es k, p.2)) ∧ n.toNat ≤ LINE ∧ Q (.lst ((upto n).map es), p.2)) : (eComp (iRng (aCons a aNil)) vs g tYesV e env st).Gives Q := by
  refine g_compMR (fun _ => true) es (h.imp fun p ⟨n, h1, h2, h3, h4, h5⟩ => ⟨n, h1, h2, fun k hk => ?_, h4, ?_⟩)
  · obtain ⟨env', g1, g2⟩ := h3 k hk
    exact ⟨env', g1, g_tYes rfl, fun _ => g2⟩
  · rw [List.filter_eq_self.mpr (fun _ _ => rfl)]; exact h5
end
/-- where one turn's end leads on; done: what is behind it -/
def turnM {α : Type} (I : List α → DEnv → Store → Prop) (Q : SOut × DEnv × Store → Prop) (done : List α) : SOut × DEnv × Store → Prop
  | (.nx, e, s) => I done e s
  | (.ct, e, s) => I done e s
  | (.bk, e, s) => Q (.nx, e, s)
  | (.rt d, e, s) => Q (.rt d, e, s)
theorem forL_gives {α : Type} (f : α → D) {g : Gv} {b : Sm} {s : Src} {I : List α → DEnv → Store → Prop} {Q : SOut × DEnv × Store → Prop} (L : List α) {env : DEnv} {st : Store} (h0 : I [] env st) (step : ∀ done a rest, L = done ++ a :: rest → ∀ env st, I done env st → chk s st = true ∧ (g (f a) env st).Gives fun p => (b p.1 p.2).Gives (turnM I Q (done ++ [a])))
    (fin : ∀ env st, I L env st → chk s st = true ∧ Q (.nx, env, st)) : (forN g b s (L.map f) env st).Gives Q := by
  refine forN_gives (I := fun r env st => ∃ done rest, L = done ++ rest ∧ r = rest.map f ∧ I done env st) (fun d l env st h => ?_) (fun env st h => ?_) _ env st ⟨[], L, rfl, rfl, h0⟩
  · obtain ⟨done, rest, e1, e2, h⟩ := h
    cases rest with
    | nil => cases e2
    | cons a rest =>
      rw [List.map_cons] at e2
      injection e2 with e2 e3
      subst e2
      obtain ⟨c, w⟩ := step done a rest e1 env st h
      refine ⟨c, w.imp fun p w => w.imp fun q w => ?_⟩
      have e4 : L = (done ++ [a]) ++ rest := by rw [e1]; simp
      obtain ⟨o, e, s'⟩ := q
      cases o with
      | nx => exact ⟨done ++ [a], rest, e4, e3, w⟩
      | ct => exact ⟨done ++ [a], rest, e4, e3, w⟩
      | bk => exact w
      | rt d => exact w
  · obtain ⟨done, rest, e1, e2, h⟩ := h
    have : rest = [] := by
      cases rest with
      | nil => rfl
      | cons _ _ => cases e2
    subst this
    rw [List.append_nil] at e1
    subst e1
    exact fin env st h
/-- as one row: the iterable is L.map f and may not change -/
theorem g_ForL {α : Type} (f : α → D) (L : List α) {m : Iv} {g : Gv} {b : Sm} {env : DEnv} {st : Store} (I : List α → DEnv → Store → Prop) {Q : SOut × DEnv × Store → Prop} (hm : (m env st).Gives fun p => p.1.1 = L.map f ∧ p.1.2 = none ∧ I [] env p.2) (step : ∀ done a rest, L = done ++ a :: rest → ∀ env st, I done env st → (g (f a) env st).Gives fun p => (b p.1 p.2).Gives (turnM I Q (done ++ [a])))
    (fin : ∀ env st, I L env st → Q (.nx, env, st)) : (sFor m g b env st).Gives Q := by
  refine g_For (hm.imp fun p ⟨e1, e2, h⟩ => ?_)
  rw [e1, e2]
  exact forL_gives f L h (fun done a rest e env st h => ⟨rfl, step done a rest e env st h⟩) fun env st h => ⟨rfl, fin env st h⟩
end Px
/-! L1c: dicts with whole numbers as keys and as values. -/
namespace Px
open PySem PySem.Spec
abbrev intsL (l : List Int) : List D := l.map D.int
abbrev dctI (ks vs : List Int) : D := .dct (intsL ks) (intsL vs)
theorem keq_int (i j : Int) : keq (.int i) (.int j) = decide (i = j) := eqv_int i j
theorem look_ints (k : Int) : ∀ (S : List Int) (vs : List D), vs.length = S.length → (dLook (intsL S) vs (.int k)).isSome = decide (k ∈ S)
  | [], vs, h => by
    cases vs with
    | nil => rfl
    | cons _ _ => cases h
  | i :: S, [], h => by cases h
  | i :: S, v :: vs, h => by
    have ih := look_ints k S vs (by simpa using h)
    show (if keq (.int i) (.int k) = true then some v else dLook (intsL S) vs (.int k)).isSome = _
    rw [keq_int]
    by_cases q : i = k
    · subst q; simp
    · have q2 : ¬ k = i := fun e => q e.symm
      simp only [q, decide_false, Bool.false_eq_true, if_false, ih, List.mem_cons, q2, false_or]
theorem sortOk_ints (S : List Int) (k : Int) : sortOk (intsL S) (.int k) = true := by cases S <;> rfl
theorem dIn_dct {st : Store} {y : D} {S : List Int} {vs : List D} {k : Int} (h1 : seqD st y = none) (h2 : dctD st y = some (intsL S, vs)) (hl : vs.length = S.length) : dIn st (.int k) y = some (.bl (decide (k ∈ S))) := by
  unfold dIn dInB
  rw [h1]
  simp only [h2]
  rw [if_pos ⟨rfl, sortOk_ints S k⟩, look_ints k S vs hl]; rfl
theorem dNotIn_dct {st : Store} {y : D} {S : List Int} {vs : List D} {k : Int} (h1 : seqD st y = none) (h2 : dctD st y = some (intsL S, vs)) (hl : vs.length = S.length) : dNotIn st (.int k) y = some (.bl (!decide (k ∈ S))) := by
  unfold dNotIn dInB
  rw [h1]
  simp only [h2]
  rw [if_pos ⟨rfl, sortOk_ints S k⟩, look_ints k S vs hl]; rfl
def addOne (S : List Int) (k : Int) : List Int := if k ∈ S then S else S ++ [k]
def addAll (S : List Int) : List Int → List Int
  | [] => S
  | k :: T => addAll (addOne S k) T
theorem mem_addOne {S : List Int} {k j : Int} : j ∈ addOne S k ↔ j ∈ S ∨ j = k := by
  unfold addOne
  split
  · constructor
    · exact .inl
    · rintro (h | rfl) <;> assumption
  · simp
theorem mem_addAll {j : Int} : ∀ {T S : List Int}, j ∈ addAll S T ↔ j ∈ S ∨ j ∈ T
  | [], S => by simp [addAll]
  | k :: T, S => by
    show j ∈ addAll (addOne S k) T ↔ _
    rw [mem_addAll, mem_addOne, List.mem_cons, or_assoc]
theorem nodup_addOne {S : List Int} {k : Int} (h : S.Nodup) : (addOne S k).Nodup := by
  unfold addOne
  split
  · exact h
  · refine List.nodup_append.mpr ⟨h, by simp, fun a ha b hb => ?_⟩
    have : b = k := by simpa using hb
    subst this
    rintro rfl
    contradiction
theorem nodup_addAll : ∀ {T S : List Int}, S.Nodup → (addAll S T).Nodup
  | [], _, h => h
  | k :: T, S, h => nodup_addAll (T := T) (nodup_addOne h)
theorem len_addOne {S : List Int} {k : Int} : S.length ≤ (addOne S k).length ∧ (addOne S k).length ≤ S.length + 1 := by
  unfold addOne
  split
  · omega
  · simp
theorem len_addAll : ∀ {T S : List Int}, S.length ≤ (addAll S T).length ∧ (addAll S T).length ≤ S.length + T.length
  | [], S => by simp [addAll]
  | k :: T, S => by
    have h := len_addAll (T := T) (S := addOne S k)
    have h2 := len_addOne (S := S) (k := k)
    show _ ≤ (addAll (addOne S k) T).length ∧ (addAll (addOne S k) T).length ≤ _
    simp only [List.length_cons]
    omega
theorem addAll_more {S T : List Int} (hS : S.Nodup) {k : Int} (hk : k ∈ T) (hn : k ∉ S) : S.length < (addAll S T).length := by
  have h1 : (k :: S).length ≤ (addAll S T).length := List.Nodup.length_le_of_subset (List.nodup_cons.mpr ⟨hn, hS⟩) fun j hj => by
    rcases List.mem_cons.mp hj with rfl | hj
    · exact mem_addAll.mpr (.inr hk)
    · exact mem_addAll.mpr (.inl hj)
  exact h1
theorem set_ints (k t : Int) : ∀ (S ws : List Int), ws.length = S.length → ∃ ws', dSet (intsL S) (intsL ws) (.int k) (.int t) = (intsL (addOne S k), intsL ws') ∧ ws'.length = (addOne S k).length
  | [], [], _ => ⟨[t], rfl, rfl⟩
  | [], _ :: _, h => by cases h
  | _ :: _, [], h => by cases h
  | i :: S, w :: ws, h => by
    have h' : ws.length = S.length := by simpa using h
    by_cases q : i = k
    · subst q
      refine ⟨t :: ws, ?_, ?_⟩
      · show (if keq (.int i) (.int i) = true then (D.int i :: intsL S, D.int t :: intsL ws) else _) = _
        rw [keq_int, if_pos (by simp)]
        unfold addOne
        rw [if_pos List.mem_cons_self]; rfl
      · unfold addOne
        rw [if_pos List.mem_cons_self]; simpa using h'
    · obtain ⟨ws', e, hl⟩ := set_ints k t S ws h'
      have e2 : addOne (i :: S) k = i :: addOne S k := by
        have q2 : ¬ k = i := fun e => q e.symm
        unfold addOne
        by_cases q3 : k ∈ S
        · rw [if_pos q3, if_pos (List.mem_cons_of_mem _ q3)]
        · rw [if_neg q3, if_neg (by simp [q2, q3])]; rfl
      refine ⟨w :: ws', ?_, by rw [e2]; simp [hl]⟩
      show (if keq (.int i) (.int k) = true then (D.int i :: intsL S, D.int t :: intsL ws) else (D.int i :: (dSet (intsL S) (intsL ws) (.int k) (.int t)).1, D.int w :: (dSet (intsL S) (intsL ws) (.int k) (.int t)).2)) = _
      rw [keq_int, if_neg (by simp [q]), e, e2]; rfl
theorem merge_ints : ∀ (T us S ws : List Int), us.length = T.length → ws.length = S.length → ∃ ws', dMerge (intsL S, intsL ws) (intsL T) (intsL us) = (intsL (addAll S T), intsL ws') ∧ ws'.length = (addAll S T).length
  | [], [], S, ws, _, h => ⟨ws, rfl, h⟩
  | [], _ :: _, _, _, h, _ => by cases h
  | _ :: _, [], _, _, h, _ => by cases h
  | k :: T, t :: us, S, ws, h, h2 => by
    obtain ⟨ws1, e1, l1⟩ := set_ints k t S ws h2
    obtain ⟨ws2, e2, l2⟩ := merge_ints T us (addOne S k) ws1 (by simpa using h) l1
    refine ⟨ws2, ?_, l2⟩
    show dMerge (dSet (intsL S) (intsL ws) (.int k) (.int t)) (intsL T) (intsL us) = _
    rw [e1]; exact e2
theorem leafs_ints : ∀ S : List Int, leafs (intsL S) = true
  | [] => rfl
  | i :: S => by show (true && leafs (intsL S)) = true; rw [leafs_ints S]; rfl
theorem stillsL (l : List Int) : stills (intsL l) = true := stills_of_py _ (isPys_ints l)
theorem still_dctI (S ws : List Int) : still (dctI S ws) = true := by
  show (stills (intsL S) && stills (intsL ws)) = true
  rw [stillsL, stillsL]; rfl
theorem pairs_ints (t : Int) : ∀ T : List Int, pairsD (T.map fun k => .tup [.int k, .int t]) = some (intsL T, intsL (T.map fun _ => t))
  | [] => rfl
  | k :: T => by
    rw [List.map_cons]
    show (if isLeaf (.int k) = true then (pairsD (T.map fun k => .tup [.int k, .int t])).map fun p => (D.int k :: p.1, D.int t :: p.2) else none) = _
    rw [pairs_ints t T]; rfl
/-- dict([(k, t) for k in T]) -/
theorem dpairs_ints (st : Store) (t : Int) (T : List Int) : ∃ ws, bDpairs st [.lst (T.map fun k => .tup [.int k, .int t])] = some (intsL (addAll [] T), intsL ws) ∧ ws.length = (addAll [] T).length := by
  obtain ⟨ws, e, h⟩ := merge_ints T (T.map fun _ => t) [] [] (by simp) rfl
  refine ⟨ws, ?_, h⟩
  show (pairsD (T.map fun k => .tup [.int k, .int t])).map (fun p => dMerge ([], []) p.1 p.2) = _
  rw [pairs_ints]
  exact congrArg some e
theorem upd_ints {st : Store} {n : Nat} {y : D} {S ws T us : List Int} (h : st[n]? = some (.dct (intsL S) (intsL ws))) (hy : dctD st y = some (intsL T, intsL us)) (hn : notRef n y = true) (h1 : ws.length = S.length) (h2 : us.length = T.length) (hl : S.length + T.length ≤ 1000) :
    ∃ ws', dUpd (.mref n) y st = some (st.set n (.dct (intsL (addAll S T)) (intsL ws'))) ∧ ws'.length = (addAll S T).length := by
  obtain ⟨ws', e, h3⟩ := merge_ints T us S ws h2 h1
  refine ⟨ws', ?_, h3⟩
  have hLINE : LINE = 16777216 := rfl
  unfold dUpd
  simp only [h, hy]
  rw [if_pos ⟨leafs_ints S, leafs_ints T, by simp only [List.length_map]; omega, hn⟩, e]
end Px
/-! V0: what a mirror gives, its parts apart. -/
namespace Px
open PySem PySem.Spec
def R.G2 {α β : Type} (r : R (α × β)) (Q : α → β → Prop) : Prop := ∃ a b, r = .ok (a, b) ∧ Q a b
def R.G3 (r : R (SOut × DEnv × Store)) (Q : SOut → DEnv → Store → Prop) : Prop := ∃ o e s, r = .ok (o, e, s) ∧ Q o e s
def OG {α : Type} (o : Option α) (Q : α → Prop) : Prop := ∃ d, o = some d ∧ Q d
def IsB (d : D) (Q : Bool → Prop) : Prop := ∃ b, d = .bl b ∧ Q b
def IsI (d : D) (Q : Int → Prop) : Prop := ∃ i, d = .int i ∧ Q i
/-- a test's both ways -/
def Two (b : Bool) (A B : Prop) : Prop := (b = true → A) ∧ (b = false → B)
theorem two_t {A B : Prop} (h : A) : Two true A B := ⟨fun _ => h, fun e => (by cases e)⟩
theorem two_f {A B : Prop} (h : B) : Two false A B := ⟨fun e => (by cases e), fun _ => h⟩
theorem two_n {b : Bool} {A B : Prop} (h : Two b B A) : Two (!b) A B := ⟨fun e => h.2 (by simpa using e), fun e => h.1 (by simpa using e)⟩
theorem two_d {c : Prop} [Decidable c] {A B : Prop} (h1 : c → A) (h2 : ¬ c → B) : Two (decide c) A B := ⟨fun e => h1 (of_decide_eq_true e), fun e => h2 (of_decide_eq_false e)⟩
theorem two_y {c : Prop} [Decidable c] {A B : Prop} (h : c) (h1 : A) : Two (decide c) A B := two_d (fun _ => h1) fun n => absurd h n
theorem two_no {c : Prop} [Decidable c] {A B : Prop} (h : ¬ c) (h1 : B) : Two (decide c) A B := two_d (fun n => absurd n h) fun _ => h1
theorem two_of {b : Bool} {A B : Prop} (h1 : b = true → A) (h2 : b = false → B) : Two b A B := ⟨h1, h2⟩
theorem two_if {α : Type} {b : Bool} {x y : R α} {P : R α → Prop} (h : Two b (P x) (P y)) : P (if b = true then x else y) := by
  cases b with
  | true => exact h.1 rfl
  | false => exact h.2 rfl
theorem og {α : Type} {o : Option α} {d : α} {Q : α → Prop} (h : o = some d) (q : Q d) : OG o Q := ⟨d, h, q⟩
theorem v_len {l : List D} {P : Prop} (h : Nat.ble l.length LINE = true) (p : P) : l.length ≤ LINE ∧ P := ⟨Nat.le_of_ble_eq_true h, p⟩
theorem isB {b : Bool} {Q : Bool → Prop} (q : Q b) : IsB (.bl b) Q := ⟨b, rfl, q⟩
theorem isI {i : Int} {Q : Int → Prop} (q : Q i) : IsI (.int i) Q := ⟨i, rfl, q⟩
section
variable {α β γ : Type}
theorem g2_ok {a : α} {b : β} {Q : α → β → Prop} (q : Q a b) : (R.ok (a, b)).G2 Q := ⟨a, b, rfl, q⟩
theorem g3_ok {o : SOut} {e : DEnv} {s : Store} {Q : SOut → DEnv → Store → Prop} (q : Q o e s) : (R.ok (o, e, s)).G3 Q := ⟨o, e, s, rfl, q⟩
theorem g2_eq {r : R (α × β)} {a : α} {b : β} {Q : α → β → Prop} (h : r = .ok (a, b)) (q : Q a b) : r.G2 Q := ⟨a, b, h, q⟩
theorem R.G2.imp {r : R (α × β)} {P Q : α → β → Prop} (h : r.G2 P) (c : ∀ a b, P a b → Q a b) : r.G2 Q := let ⟨a, b, e, p⟩ := h; ⟨a, b, e, c a b p⟩
theorem R.G3.imp {r : R (SOut × DEnv × Store)} {P Q : SOut → DEnv → Store → Prop} (h : r.G3 P) (c : ∀ o e s, P o e s → Q o e s) : r.G3 Q := let ⟨o, e, s, z, p⟩ := h; ⟨o, e, s, z, c o e s p⟩
theorem R.Gives.two {r : R (α × β)} {P : α × β → Prop} (h : r.Gives P) : r.G2 fun a b => P (a, b) := let ⟨(a, b), e, p⟩ := h; ⟨a, b, e, p⟩
theorem R.G2.gives {r : R (α × β)} {P : α × β → Prop} (h : r.G2 fun a b => P (a, b)) : r.Gives P := let ⟨a, b, e, p⟩ := h; ⟨(a, b), e, p⟩
theorem R.G3.gives {r : R (SOut × DEnv × Store)} {P : SOut × DEnv × Store → Prop} (h : r.G3 fun o e s => P (o, e, s)) : r.Gives P := let ⟨o, e', s, e, p⟩ := h; ⟨(o, e', s), e, p⟩
theorem R.Gives.three {r : R (SOut × DEnv × Store)} {P : SOut × DEnv × Store → Prop} (h : r.Gives P) : r.G3 fun o e s => P (o, e, s) := let ⟨(o, e', s), e, p⟩ := h; ⟨o, e', s, e, p⟩
theorem g2_bind {r : R (α × β)} {k : α × β → R γ} {P : R γ → Prop} (h : r.G2 fun a b => P (k (a, b))) : P (r >>= k) := by
  obtain ⟨a, b, rfl, q⟩ := h; exact q
theorem g3_bind {r : R (SOut × DEnv × Store)} {k : SOut × DEnv × Store → R γ} {P : R γ → Prop} (h : r.G3 fun o e s => P (k (o, e, s))) : P (r >>= k) := by
  obtain ⟨a, b, c, rfl, q⟩ := h; exact q
theorem gives_bind {r : R α} {k : α → R γ} {P : R γ → Prop} (h : r.Gives fun a => P (k a)) : P (r >>= k) := by
  obtain ⟨a, rfl, q⟩ := h; exact q
theorem og_bind {o : Option α} {k : α → R γ} {P : R γ → Prop} (h : OG o fun d => P (k d)) : P (R.opt o >>= k) := by
  obtain ⟨d, rfl, q⟩ := h; exact q
end
section
variable {env : DEnv} {st : Store} {Q : D → Store → Prop} {QA : List D → Store → Prop} {QB : Bool → Store → Prop} {QS : SOut → DEnv → Store → Prop}
theorem v_v {i : Nat} {d : D} (h : env[i]? = some (some d)) (q : Q d st) : (eV i env st).G2 Q := by unfold eV; rw [h]; exact g2_ok q
theorem v_c {d : D} (q : Q d st) : (eC d env st).G2 Q := g2_ok q
theorem v_op2 {f : F2} {a b : Ev} (h : (a env st).G2 fun x s => (b env s).G2 fun y s => OG (f s x y) fun d => Q d s) : (eOp2 f a b env st).G2 Q :=
  g2_bind (P := fun r => r.G2 Q) (h.imp fun x s h => g2_bind (P := fun r => r.G2 Q) (h.imp fun y s h => og_bind (P := fun r => r.G2 Q) (let ⟨d, e, q⟩ := h; ⟨d, e, g2_ok q⟩)))
theorem v_B {f : Bf} {a : Av} (h : (a env st).G2 fun l s => OG (f s l) fun d => Q d s) : (eB f a env st).G2 Q :=
  g2_bind (P := fun r => r.G2 Q) (h.imp fun x s h => og_bind (P := fun r => r.G2 Q) (let ⟨d, e, q⟩ := h; ⟨d, e, g2_ok q⟩))
theorem v_L {f : Lf} {a : Av} (h : (a env st).G2 fun l s => OG (f s l) fun d => Q (.lst d) s) : (eL f a env st).G2 Q :=
  g2_bind (P := fun r => r.G2 Q) (h.imp fun x s h => og_bind (P := fun r => r.G2 Q) (let ⟨d, e, q⟩ := h; ⟨d, e, g2_ok q⟩))
theorem v_LN {f : Lf} {a : Av} (h : (a env st).G2 fun l s => OG (f s l) fun d => Q (.mref s.length) (s ++ [.lst d])) : (eLN f a env st).G2 Q :=
  g2_bind (P := fun r => r.G2 Q) (h.imp fun x s h => og_bind (P := fun r => r.G2 Q) (let ⟨d, e, q⟩ := h; ⟨d, e, g2_ok q⟩))
theorem v_B1 {f : Store → D → Option D} {a : Ev} (h : (a env st).G2 fun x s => OG (f s x) fun d => Q d s) : (eB1 f a env st).G2 Q :=
  g2_bind (P := fun r => r.G2 Q) (h.imp fun x s h => og_bind (P := fun r => r.G2 Q) (let ⟨d, e, q⟩ := h; ⟨d, e, g2_ok q⟩))
theorem v_L1 {f : Store → D → Option (List D)} {a : Ev} (h : (a env st).G2 fun x s => OG (f s x) fun d => Q (.lst d) s) : (eL1 f a env st).G2 Q :=
  g2_bind (P := fun r => r.G2 Q) (h.imp fun x s h => og_bind (P := fun r => r.G2 Q) (let ⟨d, e, q⟩ := h; ⟨d, e, g2_ok q⟩))
theorem v_D {f : Df} {a : Av} (h : (a env st).G2 fun l s => OG (f s l) fun d => Q (.dct d.1 d.2) s) : (eD f a env st).G2 Q :=
  g2_bind (P := fun r => r.G2 Q) (h.imp fun x s h => og_bind (P := fun r => r.G2 Q) (let ⟨d, e, q⟩ := h; ⟨d, e, g2_ok q⟩))
theorem v_DN {f : Df} {a : Av} (h : (a env st).G2 fun l s => OG (f s l) fun d => Q (.mref s.length) (s ++ [.dct d.1 d.2])) : (eDN f a env st).G2 Q :=
  g2_bind (P := fun r => r.G2 Q) (h.imp fun x s h => og_bind (P := fun r => r.G2 Q) (let ⟨d, e, q⟩ := h; ⟨d, e, g2_ok q⟩))
theorem v_nil (q : QA [] st) : (aNil env st).G2 QA := g2_ok q
theorem v_cons {a : Ev} {r : Av} (h : (a env st).G2 fun x s => (r env s).G2 fun l s => QA (x :: l) s) : (aCons a r env st).G2 QA :=
  g2_bind (P := fun r => r.G2 QA) (h.imp fun x s h => g2_bind (P := fun r => r.G2 QA) (h.imp fun y s h => g2_ok h))
theorem v_tup {a : Av} (h : (a env st).G2 fun l s => l.length ≤ LINE ∧ Q (.tup l) s) : (eTup a env st).G2 Q := g2_bind (P := fun r => r.G2 Q) (h.imp fun x s h => by
  show R.G2 (if x.length ≤ LINE then _ else _) Q
  rw [if_pos h.1]; exact g2_ok h.2)
theorem v_lst {a : Av} (h : (a env st).G2 fun l s => l.length ≤ LINE ∧ Q (.lst l) s) : (eLst a env st).G2 Q := g2_bind (P := fun r => r.G2 Q) (h.imp fun x s h => by
  show R.G2 (if x.length ≤ LINE then _ else _) Q
  rw [if_pos h.1]; exact g2_ok h.2)
theorem v_newL {a : Av} (h : (a env st).G2 fun l s => l.length ≤ LINE ∧ Q (.mref s.length) (s ++ [.lst l])) : (eNewL a env st).G2 Q := g2_bind (P := fun r => r.G2 Q) (h.imp fun x s h => by
  show R.G2 (if x.length ≤ LINE then _ else _) Q
  rw [if_pos h.1]; exact g2_ok h.2)
theorem v_call {f : Fv} {a : Av} (h : (a env st).G2 fun l s => (f l s).G2 Q) : (eCall f a env st).G2 Q := g2_bind (P := fun r => r.G2 Q) h
theorem v_callP {f : Pf} {a : Av} (h : (a env st).G2 fun l s => (callP f s l).Gives fun d => Q d s) : (eCallP f a env st).G2 Q := g2_bind (P := fun r => r.G2 Q) (h.imp fun x s h => by
  obtain ⟨d, e, q⟩ := h
  show R.G2 (R.land s (callP f s x)) Q
  rw [e]; exact g2_ok q)
theorem v_make {f : Pf} {a : Av} (h : (a env st).G2 fun l s => stills l = true ∧ (f l).Gives fun d => Q d s) : (eMake f a env st).G2 Q := g2_bind (P := fun r => r.G2 Q) (h.imp fun x s h => by
  obtain ⟨hs, d, e, q⟩ := h
  show R.G2 (if stills x = true then R.land s (f x) else .stuck) Q
  rw [if_pos hs, e]; exact g2_ok q)
theorem v_fld {c f : Str} {a : Ev} (h : (a env st).G2 fun x s => OG (dFld c f s x) fun d => Q d s) : (eFld c f a env st).G2 Q :=
  g2_bind (P := fun r => r.G2 Q) (h.imp fun x s h => og_bind (P := fun r => r.G2 Q) (let ⟨d, e, q⟩ := h; ⟨d, e, g2_ok q⟩))
theorem v_neg {a : Ev} (h : (a env st).G2 fun x s => IsI x fun i => Q (.int (-i)) s) : (eNeg a env st).G2 Q := g2_bind (P := fun r => r.G2 Q) (h.imp fun x s h => by
  obtain ⟨i, rfl, q⟩ := h; exact g2_ok q)
theorem v_Rev {a : Ev} (h : (a env st).G2 fun x s => OG (dRev s x) fun d => Q d s) : (eRev a env st).G2 Q :=
  g2_bind (P := fun r => r.G2 Q) (h.imp fun x s h => og_bind (P := fun r => r.G2 Q) (let ⟨d, e, q⟩ := h; ⟨d, e, g2_ok q⟩))
/-- a slice -/
theorem v_oN {QO : Option Int → Store → Prop} (q : QO none st) : (oNone env st).G2 QO := g2_ok q
theorem v_oS {m : Ev} {QO : Option Int → Store → Prop} (h : (m env st).G2 fun x s => IsI x fun i => QO (some i) s) : (oSome m env st).G2 QO := g2_bind (P := fun r => r.G2 QO) (h.imp fun x s h => by
  obtain ⟨i, rfl, q⟩ := h; exact g2_ok q)
theorem v_cut {a : Ev} {lo hi : Ov} (h : (a env st).G2 fun x s => (lo env s).G2 fun l s => (hi env s).G2 fun h s => OG (dCut s x l h) fun d => Q d s) : (eCut a lo hi env st).G2 Q :=
  g2_bind (P := fun r => r.G2 Q) (h.imp fun x s h => g2_bind (P := fun r => r.G2 Q) (h.imp fun l s h => g2_bind (P := fun r => r.G2 Q) (h.imp fun y s h => og_bind (P := fun r => r.G2 Q) (let ⟨d, e, q⟩ := h; ⟨d, e, g2_ok q⟩))))
theorem v_And {a b : Ev} (h : (a env st).G2 fun x s => IsB x fun c => Two c ((b env s).G2 Q) (Q (.bl false) s)) : (eAnd a b env st).G2 Q := g2_bind (P := fun r => r.G2 Q) (h.imp fun x s h => by
  obtain ⟨c, rfl, q⟩ := h
  exact two_if (P := fun r => r.G2 Q) ⟨q.1, fun e => g2_ok (q.2 e)⟩)
theorem v_Or {a b : Ev} (h : (a env st).G2 fun x s => IsB x fun c => Two c (Q (.bl true) s) ((b env s).G2 Q)) : (eOr a b env st).G2 Q := g2_bind (P := fun r => r.G2 Q) (h.imp fun x s h => by
  obtain ⟨c, rfl, q⟩ := h
  exact two_if (P := fun r => r.G2 Q) ⟨fun e => g2_ok (q.1 e), q.2⟩)
theorem v_Not {a : Ev} (h : (a env st).G2 fun x s => IsB x fun c => Q (.bl (!c)) s) : (eNot a env st).G2 Q := g2_bind (P := fun r => r.G2 Q) (h.imp fun x s h => by
  obtain ⟨c, rfl, q⟩ := h; exact g2_ok q)
theorem v_If {t : Tv} {a b : Ev} (h : (t env st).G2 fun x s => Two x ((a env s).G2 Q) ((b env s).G2 Q)) : (eIf t a b env st).G2 Q :=
  g2_bind (P := fun r => r.G2 Q) (h.imp fun x s h => two_if (P := fun r => r.G2 Q) h)
theorem v_Chain {g f : F2} {a b c : Ev} (h : (a env st).G2 fun x s => (b env s).G2 fun y s => OG (g s x y) fun k => IsB k fun k => Two k ((c env s).G2 fun z s => OG (f s y z) fun d => Q d s) (Q (.bl false) s)) : (eChain g f a b c env st).G2 Q :=
  g2_bind (P := fun r => r.G2 Q) (h.imp fun x s h => g2_bind (P := fun r => r.G2 Q) (h.imp fun y s h => og_bind (P := fun r => r.G2 Q) (by
    obtain ⟨d, e, k, rfl, h⟩ := h
    refine ⟨_, e, ?_⟩
    refine two_if (P := fun r => r.G2 Q) ⟨fun q => ?_, fun q => g2_ok (h.2 q)⟩
    exact g2_bind (P := fun r => r.G2 Q) ((h.1 q).imp fun z s ⟨d, e, q⟩ => og_bind (P := fun r => r.G2 Q) ⟨d, e, g2_ok q⟩))))
theorem v_App {o a : Ev} (h : (o env st).G2 fun x s => lstAt s x = true ∧ (a env s).G2 fun d s => OG (dApp x d s) fun s => Q .non s) : (eApp o a env st).G2 Q := g2_bind (P := fun r => r.G2 Q) (h.imp fun x s h => by
  show R.G2 (if lstAt s x = true then _ else _) Q
  rw [if_pos h.1]
  exact g2_bind (P := fun r => r.G2 Q) (h.2.imp fun d s ⟨e, h1, h2⟩ => og_bind (P := fun r => r.G2 Q) ⟨e, h1, g2_ok h2⟩))
theorem v_Upd {o a : Ev} (h : (o env st).G2 fun x s => dctAt s x = true ∧ (a env s).G2 fun d s => OG (dUpd x d s) fun s => Q .non s) : (eUpd o a env st).G2 Q := g2_bind (P := fun r => r.G2 Q) (h.imp fun x s h => by
  show R.G2 (if dctAt s x = true then _ else _) Q
  rw [if_pos h.1]
  exact g2_bind (P := fun r => r.G2 Q) (h.2.imp fun d s ⟨e, h1, h2⟩ => og_bind (P := fun r => r.G2 Q) ⟨e, h1, g2_ok h2⟩))
theorem v_DE (q : Q (.dct [] []) st) : (eDE env st).G2 Q := g2_ok q
theorem v_DEN (q : Q (.mref st.length) (st ++ [.dct [] []])) : (eDEN env st).G2 Q := g2_ok q
theorem v_rg1 {m : Ev} {QR : Int × Int → Store → Prop} (h : (m env st).G2 fun x s => IsI x fun n => rgOkB 0 n = true ∧ QR (0, n) s) : (rg1 m env st).G2 QR := g2_bind (P := fun r => r.G2 QR) (h.imp fun x s h => by
  obtain ⟨n, rfl, h1, h2⟩ := h
  show R.G2 (if rgOkB 0 n = true then _ else _) QR
  rw [if_pos h1]; exact g2_ok h2)
theorem v_rg2 {a b : Ev} {QR : Int × Int → Store → Prop} (h : (a env st).G2 fun x s => (b env s).G2 fun y s => IsI x fun i => IsI y fun j => rgOkB i j = true ∧ QR (i, j) s) : (rg2 a b env st).G2 QR := g2_bind (P := fun r => r.G2 QR) (h.imp fun x s h => g2_bind (P := fun r => r.G2 QR) (h.imp fun y s h => by
  obtain ⟨i, rfl, j, rfl, h1, h2⟩ := h
  show R.G2 (if rgOkB i j = true then _ else _) QR
  rw [if_pos h1]; exact g2_ok h2))
theorem v_LRg {m : Rv} (h : (m env st).G2 fun q s => Q (.lst (rngL q.1 q.2)) s) : (eLRg m env st).G2 Q := g2_bind (P := fun r => r.G2 Q) (h.imp fun x s h => g2_ok h)
theorem v_LRgN {m : Rv} (h : (m env st).G2 fun q s => Q (.mref s.length) (s ++ [.lst (rngL q.1 q.2)])) : (eLRgN m env st).G2 Q := g2_bind (P := fun r => r.G2 Q) (h.imp fun x s h => g2_ok h)
theorem v_TRg {m : Rv} (h : (m env st).G2 fun q s => Q (.tup (rngL q.1 q.2)) s) : (eTRg m env st).G2 Q := g2_bind (P := fun r => r.G2 Q) (h.imp fun x s h => g2_ok h)
/-! tests -/
theorem v_tV {m : Ev} (h : (m env st).G2 fun x s => IsB x fun b => QB b s) : (tV m env st).G2 QB := g2_bind (P := fun r => r.G2 QB) (h.imp fun x s h => by
  obtain ⟨c, rfl, q⟩ := h; exact g2_ok q)
theorem v_tAnd {a b : Tv} (h : (a env st).G2 fun x s => Two x ((b env s).G2 QB) (QB false s)) : (tAnd a b env st).G2 QB :=
  g2_bind (P := fun r => r.G2 QB) (h.imp fun x s h => two_if (P := fun r => r.G2 QB) ⟨h.1, fun e => g2_ok (h.2 e)⟩)
theorem v_tOr {a b : Tv} (h : (a env st).G2 fun x s => Two x (QB true s) ((b env s).G2 QB)) : (tOr a b env st).G2 QB :=
  g2_bind (P := fun r => r.G2 QB) (h.imp fun x s h => two_if (P := fun r => r.G2 QB) ⟨fun e => g2_ok (h.1 e), h.2⟩)
theorem v_tNot {a : Tv} (h : (a env st).G2 fun x s => QB (!x) s) : (tNot a env st).G2 QB := g2_bind (P := fun r => r.G2 QB) (h.imp fun x s h => g2_ok h)
theorem v_tYes (q : QB true st) : (tYesV env st).G2 QB := g2_ok q
/-! statements -/
theorem v_Nil (q : QS .nx env st) : (sNil env st).G3 QS := g3_ok q
def nx3 (b : Sm) (QS : SOut → DEnv → Store → Prop) : SOut → DEnv → Store → Prop
  | .nx => fun e s => (b e s).G3 QS
  | .bk => QS .bk
  | .ct => QS .ct
  | .rt d => QS (.rt d)
theorem v_Seq {a b : Sm} (h : (a env st).G3 (nx3 b QS)) : (sSeq a b env st).G3 QS := g3_bind (P := fun r => r.G3 QS) (h.imp fun o e s h => by
  cases o with
  | nx => exact h
  | bk => exact g3_ok h
  | ct => exact g3_ok h
  | rt d => exact g3_ok h)
theorem v_nx {b : Sm} {e : DEnv} {s : Store} (h : (b e s).G3 QS) : nx3 b QS .nx e s := h
theorem v_nrt {b : Sm} {e : DEnv} {s : Store} {d : D} (h : QS (.rt d) e s) : nx3 b QS (.rt d) e s := h
theorem v_nbk {b : Sm} {e : DEnv} {s : Store} (h : QS .bk e s) : nx3 b QS .bk e s := h
theorem v_nct {b : Sm} {e : DEnv} {s : Store} (h : QS .ct e s) : nx3 b QS .ct e s := h
theorem v_Ret {m : Ev} (h : (m env st).G2 fun d s => QS (.rt d) env s) : (sRet m env st).G3 QS := g2_bind (P := fun r => r.G3 QS) (h.imp fun x s h => g3_ok h)
theorem v_RetN (q : QS (.rt .non) env st) : (sRetN env st).G3 QS := g3_ok q
theorem v_Break (q : QS .bk env st) : (sBreak env st).G3 QS := g3_ok q
theorem v_Cont (q : QS .ct env st) : (sCont env st).G3 QS := g3_ok q
theorem v_Expr {m : Ev} (h : (m env st).G2 fun d s => QS .nx env s) : (sExpr m env st).G3 QS := g2_bind (P := fun r => r.G3 QS) (h.imp fun x s h => g3_ok h)
theorem v_sIf {c : Tv} {a b : Sm} (h : (c env st).G2 fun x s => Two x ((a env s).G3 QS) ((b env s).G3 QS)) : (sIf c a b env st).G3 QS :=
  g2_bind (P := fun r => r.G3 QS) (h.imp fun x s h => two_if (P := fun r => r.G3 QS) h)
theorem v_Asg {m : Ev} {i : Nat} (h : (m env st).G2 fun d s => QS .nx (env.set i (some d)) s) : (sAsg m (gV i) env st).G3 QS := g2_bind (P := fun r => r.G3 QS) (h.imp fun x s h => g3_ok h)
/-- into a target -/
theorem v_AsgT {m : Ev} {g : Gv} (h : (m env st).G2 fun d s => (g d env s).G2 fun e s => QS .nx e s) : (sAsg m g env st).G3 QS := g2_bind (P := fun r => r.G3 QS) (h.imp fun x s h => g2_bind (P := fun r => r.G3 QS) (h.imp fun y s h => g3_ok h))
theorem v_gV {i : Nat} {d : D} {QG : DEnv → Store → Prop} (q : QG (env.set i (some d)) st) : (gV i d env st).G2 QG := g2_ok q
theorem v_gTup2 {i j : Nat} {x y : D} {QG : DEnv → Store → Prop} (q : QG ((env.set i (some x)).set j (some y)) st) : (Px.gTup 2 (gAnd (gV i) (gAnd (gV j) gNo)) (.tup [x, y]) env st).G2 QG := g2_ok q
theorem v_gTup3 {i j k : Nat} {x y z : D} {QG : DEnv → Store → Prop} (q : QG (((env.set i (some x)).set j (some y)).set k (some z)) st) : (Px.gTup 3 (gAnd (gV i) (gAnd (gV j) (gAnd (gV k) gNo))) (.tup [x, y, z]) env st).G2 QG := g2_ok q
theorem v_gTup4 {i j k l : Nat} {x y z w : D} {QG : DEnv → Store → Prop} (q : QG ((((env.set i (some x)).set j (some y)).set k (some z)).set l (some w)) st) : (Px.gTup 4 (gAnd (gV i) (gAnd (gV j) (gAnd (gV k) (gAnd (gV l) gNo)))) (.tup [x, y, z, w]) env st).G2 QG := g2_ok q
theorem v_gSub {a b : Ev} {d : D} {QG : DEnv → Store → Prop} (h : (a env st).G2 fun x s => (b env s).G2 fun i s => OG (dPut x i d s) fun s => QG env s) : (Px.gSub a b d env st).G2 QG :=
  g2_bind (P := fun r => r.G2 QG) (h.imp fun x s h => g2_bind (P := fun r => r.G2 QG) (h.imp fun y s ⟨t, e, q⟩ => og_bind (P := fun r => r.G2 QG) ⟨t, e, g2_ok q⟩))
theorem v_Par {i j : Nat} {a : Av} (h : (a env st).G2 fun l s => ∃ x y, l = [x, y] ∧ QS .nx ((env.set i (some x)).set j (some y)) s) : (sPar i j a env st).G3 QS := g2_bind (P := fun r => r.G3 QS) (h.imp fun l s h => by
  obtain ⟨x, y, rfl, q⟩ := h; exact g3_ok q)
theorem v_Par3 {i j k : Nat} {a : Av} (h : (a env st).G2 fun l s => ∃ x y z, l = [x, y, z] ∧ QS .nx (((env.set i (some x)).set j (some y)).set k (some z)) s) : (sPar3 i j k a env st).G3 QS := g2_bind (P := fun r => r.G3 QS) (h.imp fun l s h => by
  obtain ⟨x, y, z, rfl, q⟩ := h; exact g3_ok q)
theorem v_par2 {x y : D} {QP : D → D → Prop} (q : QP x y) : ∃ a b, [x, y] = [a, b] ∧ QP a b := ⟨x, y, rfl, q⟩
theorem v_par3 {x y z : D} {QP : D → D → D → Prop} (q : QP x y z) : ∃ a b c, [x, y, z] = [a, b, c] ∧ QP a b c := ⟨x, y, z, rfl, q⟩
theorem v_FSet {c f : Str} {o e : Ev} (h : (e env st).G2 fun d s => (o env s).G2 fun x s => OG (dFSet c f x d s) fun s => QS .nx env s) : (sFSet c f o e env st).G3 QS :=
  g2_bind (P := fun r => r.G3 QS) (h.imp fun x s h => g2_bind (P := fun r => r.G3 QS) (h.imp fun y s ⟨t, e, q⟩ => og_bind (P := fun r => r.G3 QS) ⟨t, e, g3_ok q⟩))
end
/-! ### loops -/
section
variable {α : Type}
def turn3 (I : DEnv → Store → Prop) (QS : SOut → DEnv → Store → Prop) : SOut → DEnv → Store → Prop
  | .nx => I
  | .ct => I
  | .bk => QS .nx
  | .rt d => QS (.rt d)
theorem v_tnx {I : DEnv → Store → Prop} {QS : SOut → DEnv → Store → Prop} {e : DEnv} {s : Store} (h : I e s) : turn3 I QS .nx e s := h
theorem v_tct {I : DEnv → Store → Prop} {QS : SOut → DEnv → Store → Prop} {e : DEnv} {s : Store} (h : I e s) : turn3 I QS .ct e s := h
theorem v_tbk {I : DEnv → Store → Prop} {QS : SOut → DEnv → Store → Prop} {e : DEnv} {s : Store} (h : QS .nx e s) : turn3 I QS .bk e s := h
theorem v_trt {I : DEnv → Store → Prop} {QS : SOut → DEnv → Store → Prop} {e : DEnv} {s : Store} {d : D} (h : QS (.rt d) e s) : turn3 I QS (.rt d) e s := h
theorem v_iSeq {m : Ev} {env : DEnv} {st : Store} {Q : List D × Src → Store → Prop} (h : (m env st).G2 fun x s => OG (seqS s x) fun q => Q q s) : (iSeq m env st).G2 Q := g2_bind (P := fun r => r.G2 Q) (h.imp fun x s ⟨q, e, z⟩ => by
  show R.G2 (match seqS s x with
    | some q => .ok (q, s)
    | none => .stuck) Q
  rw [e]; exact g2_ok z)
theorem v_iRng {a : Ev} {env : DEnv} {st : Store} {Q : List D × Src → Store → Prop} (h : (a env st).G2 fun x s => IsI x fun n => (-4611686018427387904 ≤ n ∧ n < 4611686018427387904) ∧ Q ((upto n).map .int, none) s) : (iRng (aCons a aNil) env st).G2 Q := by
  obtain ⟨x, s, e, n, rfl, hb, q⟩ := h
  rw [← rngL_ints] at q
  exact (g_iRng (Q := fun p => Q p.1 p.2) ⟨_, e, n, rfl, hb, q⟩).two
/-- lo .. hi-1 -/
def fromTo (a b : Int) : List Int := (List.range (b - a).toNat).map fun i => a + (i : Nat)
theorem rngL_from (a b : Int) : rngL a b = (fromTo a b).map D.int := by unfold rngL fromTo; rw [List.map_map]; rfl
theorem mem_fromTo {a b k : Int} : k ∈ fromTo a b ↔ a ≤ k ∧ k < b := by
  unfold fromTo
  rw [List.mem_map]
  constructor
  · rintro ⟨i, h, rfl⟩
    rw [List.mem_range] at h
    omega
  · intro h
    exact ⟨(k - a).toNat, by rw [List.mem_range]; omega, by omega⟩
theorem v_iRng2 {a b : Ev} {env : DEnv} {st : Store} {Q : List D × Src → Store → Prop} (h : (a env st).G2 fun x s => (b env s).G2 fun y s => IsI x fun i => IsI y fun j => (-4611686018427387904 ≤ i ∧ i < 4611686018427387904 ∧ -4611686018427387904 ≤ j ∧ j < 4611686018427387904) ∧ Q ((fromTo i j).map .int, none) s) : (iRng (aCons a (aCons b aNil)) env st).G2 Q := by
  obtain ⟨x, s, e, y, s2, e2, i, rfl, j, rfl, hb, q⟩ := h
  rw [← rngL_from] at q
  refine ⟨_, _, ?_, q⟩
  unfold iRng aCons aNil
  rw [e]
  simp only [R.ok_bind, e2]
  rw [if_pos (by omega)]
theorem v_iEn {m : Ev} {env : DEnv} {st : Store} {Q : List D × Src → Store → Prop} (h : (m env st).G2 fun x s => OG (seqS s x) fun q => Q (enumD 0 q.1, q.2) s) : (iEn m env st).G2 Q := g2_bind (P := fun r => r.G2 Q) (h.imp fun x s ⟨q, e, z⟩ => by
  show R.G2 (match seqS s x with
    | some q => .ok ((enumD 0 q.1, q.2), s)
    | none => .stuck) Q
  rw [e]; exact g2_ok z)
/-- enumerated -/
def numd {α : Type} (i : Nat) (L : List α) : List (Nat × α) := (List.range L.length).zip L |>.map fun p => (i + p.1, p.2)
theorem enumD_map {α : Type} (f : α → D) : ∀ (L : List α) (i : Nat), enumD i (L.map f) = (L.zipIdx i).map fun p => .tup [.int p.2, f p.1]
  | [], _ => rfl
  | a :: L, i => by
    rw [List.map_cons, List.zipIdx_cons, List.map_cons]
    show D.tup [.int i, f a] :: enumD (i + 1) (L.map f) = _
    rw [enumD_map f L (i + 1)]
/-- what is walked is L.map f, and may not change -/
theorem v_For (f : α → D) (L : List α) (I : List α → DEnv → Store → Prop) {m : Iv} {g : Gv} {b : Sm} {env : DEnv} {st : Store} {QS : SOut → DEnv → Store → Prop} (hm : (m env st).G2 fun q s => q = (L.map f, none) ∧ I [] env s) (step : ∀ done a rest, L = done ++ a :: rest → ∀ env st, I done env st → (g (f a) env st).G2 fun e s => (b e s).G3 (turn3 (I (done ++ [a])) QS))
    (fin : ∀ env st, I L env st → QS .nx env st) : (sFor m g b env st).G3 QS := by
  refine (g_ForL f L I (Q := fun p => QS p.1 p.2.1 p.2.2) ?_ (fun done a rest e env st h => ?_) fun env st h => fin env st h).three
  · exact R.G2.gives (P := fun p => p.1.1 = L.map f ∧ p.1.2 = none ∧ I [] env p.2) (hm.imp fun q s ⟨e, h⟩ => by rw [e]; exact ⟨rfl, rfl, h⟩)
  · refine R.G2.gives (P := fun p => (b p.1 p.2).Gives (turnM I _ (done ++ [a]))) ((step done a rest e env st h).imp fun e s h => ?_)
    refine R.G3.gives (h.imp fun o e s h => ?_)
    cases o with
    | nx => exact h
    | ct => exact h
    | bk => exact h
    | rt d => exact h
/-- what is walked is a list that may change, and does not -/
theorem v_ForC (f : α → D) (L : List α) (I : List α → DEnv → Store → Prop) {m : Iv} {g : Gv} {b : Sm} {env : DEnv} {st : Store} {QS : SOut → DEnv → Store → Prop} (hm : (m env st).G2 fun q s => q.1 = L.map f ∧ (∀ done env st, I done env st → chk q.2 st = true) ∧ I [] env s) (step : ∀ done a rest, L = done ++ a :: rest → ∀ env st, I done env st → (g (f a) env st).G2 fun e s => (b e s).G3 (turn3 (I (done ++ [a])) QS))
    (fin : ∀ env st, I L env st → QS .nx env st) : (sFor m g b env st).G3 QS := by
  refine g2_bind (P := fun r => r.G3 QS) (hm.imp fun q s ⟨e, hc, h⟩ => ?_)
  obtain ⟨l, src⟩ := q
  simp only at e hc
  subst e
  refine (forL_gives f L (I := I) (Q := fun p => QS p.1 p.2.1 p.2.2) h (fun done a rest e env st h => ⟨hc _ _ _ h, ?_⟩) fun env st h => ⟨hc _ _ _ h, fin env st h⟩).three
  refine R.G2.gives (P := fun p => (b p.1 p.2).Gives (turnM I _ (done ++ [a]))) ((step done a rest e env st h).imp fun e s h => ?_)
  refine R.G3.gives (h.imp fun o e s h => ?_)
  cases o with
  | nx => exact h
  | ct => exact h
  | bk => exact h
  | rt d => exact h
/-- while: a measure below n falls -/
theorem v_While (I : Nat → DEnv → Store → Prop) {k : Nat} {c : Tv} {b : Sm} {env : DEnv} {st : Store} {QS : SOut → DEnv → Store → Prop} (n : Nat) (hn : n < k) (h0 : I n env st) (step : ∀ m env st, I m env st → (c env st).G2 fun x s => Two x ((b env s).G3 (turn3 (fun e s => ∃ m', m' < m ∧ I m' e s) QS)) (QS .nx env s)) : (sWhile k c b env st).G3 QS := by
  refine (while_gives (I := I) (Q := fun p => QS p.1 p.2.1 p.2.2) (fun m env st h => ?_) k n env st hn h0).three
  refine R.G2.gives (P := fun p => (p.1 = true → (b env p.2).Gives _) ∧ (p.1 = false → _)) ((step m env st h).imp fun x s h => ⟨fun e => R.G3.gives ((h.1 e).imp fun o e s h => ?_), h.2⟩)
  cases o with
  | nx => exact h
  | ct => exact h
  | bk => exact h
  | rt d => exact h
end
/-! ### comprehensions -/
section
variable {α : Type} {m : Ev} {vs : List Nat} {g : Cv} {t : Tv} {e : Ev} {env : DEnv} {st : Store} {Q : D → Store → Prop}
/-- one item: it is bound, tested, made -/
def Item (g : Cv) (t : Tv) (e : Ev) (env : DEnv) (st : Store) (d : D) (ts : Bool) (es : D) : Prop := ∃ env', g d env = some env' ∧ (t env' st).G2 (fun b s => b = ts ∧ s = st) ∧ (ts = true → (e env' st).G2 fun d s => d = es ∧ s = st)
theorem item1 {i : Nat} {d : D} {ts : Bool} {es : D} (h1 : (t (env.set i (some d)) st).G2 fun b s => b = ts ∧ s = st) (h2 : ts = true → (e (env.set i (some d)) st).G2 fun d s => d = es ∧ s = st) : Item (cV i) t e env st d ts es := ⟨_, rfl, h1, h2⟩
theorem item2 {i j : Nat} {x y : D} {ts : Bool} {es : D} (h1 : (t ((env.set i (some x)).set j (some y)) st).G2 fun b s => b = ts ∧ s = st) (h2 : ts = true → (e ((env.set i (some x)).set j (some y)) st).G2 fun d s => d = es ∧ s = st) : Item (c2 i j) t e env st (.tup [x, y]) ts es := ⟨_, rfl, h1, h2⟩
theorem item_a {i : Nat} {d : D} {es : D} (h2 : (e (env.set i (some d)) st).G2 fun d s => d = es ∧ s = st) : Item (cV i) tYesV e env st d true es := ⟨_, rfl, g2_ok ⟨rfl, rfl⟩, fun _ => h2⟩
theorem item_a2 {i j : Nat} {x y : D} {es : D} (h2 : (e ((env.set i (some x)).set j (some y)) st).G2 fun d s => d = es ∧ s = st) : Item (c2 i j) tYesV e env st (.tup [x, y]) true es := ⟨_, rfl, g2_ok ⟨rfl, rfl⟩, fun _ => h2⟩
theorem Item.old {d : D} {ts : Bool} {es : D} (h : Item g t e env st d ts es) : ∃ env', g d env = some env' ∧ (t env' st).Gives (fun r => r = (ts, st)) ∧ (ts = true → (e env' st).Gives fun r => r = (es, st)) := by
  obtain ⟨env', h1, h2, h3⟩ := h
  exact ⟨env', h1, R.G2.gives (h2.imp fun a b ⟨e1, e2⟩ => by rw [e1, e2]), fun q => R.G2.gives ((h3 q).imp fun a b ⟨e1, e2⟩ => by rw [e1, e2])⟩
/-- a comprehension over L.map f that changes nothing -/
theorem v_comp (f : α → D) (L : List α) (ts : α → Bool) (es : α → D) {mi : Iv} (hm : (mi env st).G2 fun q s => q.1 = L.map f ∧ chk q.2 s = true ∧ (∀ a ∈ L, Item g t e (wipeE env vs) s (f a) (ts a) (es a)) ∧ L.length ≤ LINE ∧ Q (.lst ((L.filter ts).map es)) s) : (eComp mi vs g t e env st).G2 Q := by
  obtain ⟨q, s, e1, e2, hc, h1, h2, h3⟩ := hm
  obtain ⟨l, src⟩ := q
  simp only at e2 hc
  subst e2
  refine (g_Comp (Q := fun p => Q p.1 p.2) (compF_of e1 ⟨(((L.filter ts).map es), s), compN_map f hc ts es L fun a ha => (h1 a ha).old, ?_, h3⟩)).two
  show ((L.filter ts).map es).length ≤ LINE
  rw [List.length_map]; exact Nat.le_trans (List.length_filter_le _ _) h2
theorem v_compN (f : α → D) (L : List α) (ts : α → Bool) (es : α → D) {mi : Iv} (hm : (mi env st).G2 fun q s => q.1 = L.map f ∧ chk q.2 s = true ∧ (∀ a ∈ L, Item g t e (wipeE env vs) s (f a) (ts a) (es a)) ∧ L.length ≤ LINE ∧ Q (.mref s.length) (s ++ [.lst ((L.filter ts).map es)])) : (eCompN mi vs g t e env st).G2 Q := by
  obtain ⟨q, s, e1, e2, hc, h1, h2, h3⟩ := hm
  obtain ⟨l, src⟩ := q
  simp only at e2 hc
  subst e2
  have : (compF mi vs g t e env st).Gives fun p => p = (((L.filter ts).map es), s) := compF_of e1 ⟨(((L.filter ts).map es), s), compN_map f hc ts es L fun a ha => (h1 a ha).old, (by
    show ((L.filter ts).map es).length ≤ LINE
    rw [List.length_map]; exact Nat.le_trans (List.length_filter_le _ _) h2), rfl⟩
  unfold eCompN
  rw [gives_eq this]
  exact g2_ok h3
end
/-! ### defs -/
def Fin (d : D) : SOut → DEnv → Store → Prop
  | .rt x => fun _ s => rd s x = d
  | .nx => fun _ _ => .non = d
  | _ => fun _ _ => False
theorem fin_rt {d x : D} {e : DEnv} {s : Store} (h : rd s x = d) : Fin d (.rt x) e s := h
theorem v_mP {n : Nat} {b : Sm} {ds : List D} {d : D} (hs : still d = true) (h : (b (env0 n ds) []).G3 (Fin d)) : mP n b ds = .ok d := by
  refine mP_of (R.G3.gives (h.imp fun o e s h => ?_)) hs
  cases o with
  | nx => exact (show D.non = d from h).symm
  | rt x => exact h
  | bk => exact h
  | ct => exact h
def FinM (Q : D → Store → Prop) : SOut → DEnv → Store → Prop
  | .rt x => fun _ s => Q x s
  | .nx => fun _ s => Q .non s
  | _ => fun _ _ => False
theorem v_mM {n : Nat} {b : Sm} {ds : List D} {st : Store} {Q : D → Store → Prop} (h : (b (env0 n ds) st).G3 (FinM Q)) : (mM n b ds st).G2 Q := by
  refine (mM_of (Q := fun p => Q p.1 p.2) (R.G3.gives (h.imp fun o e s h => ?_))).two
  cases o with
  | nx => exact h
  | rt x => exact h
  | bk => exact h
  | ct => exact h
theorem v_fin {Q : D → Store → Prop} {x : D} {e : DEnv} {s : Store} (h : Q x s) : FinM Q (.rt x) e s := h
/-- a call of a def, its arguments still -/
theorem v_P {f : Pf} {st : Store} {ds : List D} {d : D} {Q : D → Prop} (hs : stills ds = true) (h : f ds = .ok d) (q : Q d) : (callP f st ds).Gives Q := ⟨d, callP_of hs h, q⟩
theorem v_Prd {f : Pf} {st : Store} {ds es : List D} {d : D} {Q : D → Prop} (he : ds.map (rd st) = es) (hs : stills es = true) (h : f es = .ok d) (hd : hard d = true) (q : Q d) : (callP f st ds).Gives Q := by
  subst he
  exact ⟨d, callP_rd hs h hd, q⟩
end Px
set_option maxRecDepth 100000
/-! V1: whole numbers in rows, leaps, boards, signs: what does not hang on a law's text. -/
namespace Px
open PySem PySem.Spec
theorem atI_nn {α : Type} {l : List α} {i : Int} (h : 0 ≤ i) : L2.atI l i = l[i.toNat]? := by
  unfold L2.atI L2.ixN
  by_cases q : i < l.length
  · simp [h, q]
  · have : l[i.toNat]? = none := List.getElem?_eq_none (by omega)
    simp [h, q, this]
theorem dMod_int (st : Store) (i j : Int) (h : j ≠ 0) : dMod st (.int i) (.int j) = some (.int (i.fmod j)) := by simp [dMod, h]
theorem dDiv_int (st : Store) (i j : Int) (h : j ≠ 0) (h2 : j.natAbs < 1073741824) : dDiv st (.int i) (.int j) = some (.int (i.fdiv j)) := by simp [dDiv, h, h2]
theorem mod_range (i : Int) {n : Int} (h : 0 < n) : 0 ≤ i.fmod n ∧ i.fmod n < n := ⟨Int.fmod_nonneg_of_pos i h, Int.fmod_lt_of_pos i h⟩
theorem dMul_small (st : Store) (i j : Int) (h : -(2 ^ 64) < j ∧ j < 2 ^ 64) : dMul st (.int i) (.int j) = some (.int (i * j)) := by
  simp only [dMul]
  rw [if_pos (.inr h)]
/-- whole numbers below n, in order -/
structure Stand (n : Int) (l : List Int) : Prop where
  pw : l.Pairwise (· < ·)
  rng : ∀ k ∈ l, 0 ≤ k ∧ k < n
theorem stand_of {n : Int} {l : List Int} (h : l.Sublist (upto n)) : Stand n l := ⟨(upto_pair n).sublist h, fun k m => mem_upto.mp (h.subset m)⟩
/-- a leap on n places -/
def Leap (n : Int) (l : List Int) : Prop := ∃ a b c, l = [a, b, c] ∧ (0 ≤ a ∧ a < n) ∧ (0 ≤ b ∧ b < n) ∧ (0 ≤ c ∧ c < n) ∧ a ≠ b ∧ a ≠ c ∧ b ≠ c
structure Parts (n : Int) (L : List (List Int)) : Prop where
  lo : 3 ≤ n
  hi : n ≤ 12
  pw : L.Pairwise (· < ·)
  leap : ∀ l ∈ L, Leap n l
  few : L.length ≤ 60
abbrev tupsT (L : List (List Int)) : D := .tup (L.map intsT)
abbrev partsD (n : Int) (L : List (List Int)) : D := .tup [.int n, tupsT L]
abbrev lstI (l : List Int) : D := .lst (l.map .int)
theorem lstI_len (st : Store) (l : List Int) (h : l.length < 1000) : bLen st [lstI l] = some (.int l.length) := by
  show (some (D.int ((l.map D.int).length : Nat))) = _
  rw [List.length_map]
theorem ix_lstI {st : Store} {l : List Int} {k : Int} (h : 0 ≤ k) {x : Int} (e : l[k.toNat]? = some x) : dIx st (lstI l) (.int k) = some (.int x) := by
  show L2.atI (l.map D.int) k = _
  rw [atI_nn h, List.getElem?_map, e]; rfl
theorem len_rem {l : List Int} (nd : l.Nodup) {x : Int} (h : x ∈ l) : (l.filter fun y => !decide (y = x)).length + 1 = l.length := by
  induction l with
  | nil => cases h
  | cons a l ih =>
    rw [List.nodup_cons] at nd
    by_cases q : a = x
    · subst q
      have : l.filter (fun y => !decide (y = a)) = l := by
        rw [List.filter_eq_self]
        intro b hb
        have : b ≠ a := fun e => nd.1 (e ▸ hb)
        simp [this]
      rw [List.filter_cons, this]
      simp
    · rcases List.mem_cons.mp h with e | h
      · exact absurd e.symm q
      · have := ih nd.2 h
        rw [List.filter_cons]
        simp [q]
        omega
/-- a leap's three places, drawn one by one -/
structure Half (n : Int) (rest leap : List Int) : Prop where
  nd : rest.Nodup
  nd2 : leap.Nodup
  ap : ∀ k ∈ rest, k ∉ leap
  r1 : ∀ k ∈ rest, 0 ≤ k ∧ k < n
  r2 : ∀ k ∈ leap, 0 ≤ k ∧ k < n
  len : (rest.length + leap.length : Int) = n
theorem half_step {n : Int} {rest leap : List Int} (h : Half n rest leap) {x : Int} (hx : x ∈ rest) : Half n (rest.filter fun y => !decide (y ∈ leap ++ [x])) (leap ++ [x]) := by
  have e : (rest.filter fun y => !decide (y ∈ leap ++ [x])) = rest.filter fun y => !decide (y = x) := by
    refine List.filter_congr fun y hy => ?_
    have := h.ap y hy
    simp [this]
  rw [e]
  have hm : ∀ k, k ∈ rest.filter (fun y => !decide (y = x)) ↔ k ∈ rest ∧ k ≠ x := fun k => by simp
  refine ⟨h.nd.filter _, ?_, fun k hk => ?_, fun k hk => h.r1 k ((hm k).mp hk).1, fun k hk => ?_, ?_⟩
  · refine List.nodup_append.mpr ⟨h.nd2, by simp, fun a ha b hb => ?_⟩
    have : b = x := by simpa using hb
    subst this
    rintro rfl
    exact h.ap _ hx ha
  · have := (hm k).mp hk
    have := h.ap k this.1
    simp [this, ((hm k).mp hk).2]
  · rcases List.mem_append.mp hk with z | z
    · exact h.r2 k z
    · have : k = x := by simpa using z
      subst this; exact h.r1 _ hx
  · have := len_rem h.nd hx
    have := h.len
    rw [List.length_append]
    simp
    omega
/-- [x for x in l if x is not in m] -/
theorem comp_notIn {env : DEnv} {st : Store} {i v j : Nat} {l m : List Int} {y : D} {Q : D × Store → Prop} (hi : env[i]? = some (some (lstI l))) (hj : env[j]? = some (some y)) (hy : seqD st y = some (m.map .int)) (hjv : j ≠ v) (hv : v < env.length) (hl : l.length ≤ 1000)
    (q : Q (lstI (l.filter fun k => !decide (k ∈ m)), st)) : (eComp (iSeq (eV i)) [v] (cV v) (tV (eOp2 dNotIn (eV v) (eV j))) (eV v) env st).Gives Q := by
  refine g_compS (g_v hi ⟨(l.map .int, none), rfl, fun d => match d with
    | .int k => !decide (k ∈ m)
    | _ => false, id, fun d hd => ?_, ?_, ?_⟩)
  · obtain ⟨k, hk, rfl⟩ := List.mem_map.mp hd
    have hl2 : v < (wipeE env [v]).length := by show v < (env.set v none).length; simpa using hv
    have e1 : ((wipeE env [v]).set v (some (.int k)))[v]? = some (some (.int k)) := by rw [List.getElem?_set_self hl2]
    have e2 : ((wipeE env [v]).set v (some (.int k)))[j]? = some (some y) := by
      rw [List.getElem?_set_ne (Ne.symm hjv)]
      show (env.set v none)[j]? = _
      rw [List.getElem?_set_ne (Ne.symm hjv)]; exact hj
    refine ⟨_, rfl, ?_, fun _ => g_v e1 rfl⟩
    refine g_tV (g_op2 (g_v e1 (g_v e2 ⟨_, dNotIn_ints hy, _, rfl, rfl⟩)))
  · rw [List.map_id]
    have := List.length_filter_le (fun d : D => match d with
      | .int k => !decide (k ∈ m)
      | _ => false) (l.map D.int)
    rw [List.length_map] at this
    have h2 : LINE = 16777216 := rfl
    exact Nat.le_trans this (by omega)
  · have e : (List.filter (fun d : D => match d with
      | .int k => !decide (k ∈ m)
      | _ => false) (l.map D.int)).map id = (l.filter fun k => !decide (k ∈ m)).map D.int := by
      rw [List.map_id, List.filter_map]
      rfl
    show Q (.lst ((List.filter (fun d : D => match d with
      | .int k => !decide (k ∈ m)
      | _ => false) (l.map D.int)).map id), st)
    rw [e]; exact q
theorem dAdd_lst (st : Store) (a b : List D) (h : a.length + b.length ≤ LINE) : dAdd st (.lst a) (.lst b) = some (.lst (a ++ b)) := by
  show (if a.length + b.length ≤ LINE then _ else _) = _
  rw [if_pos h]
theorem leap_of_half {n : Int} {rest leap : List Int} (h : Half n rest leap) (hl : leap.length = 3) : Leap n leap := by
  match leap, hl, h with
  | [a, b, c], _, h =>
    have nd := h.nd2
    simp only [List.nodup_cons, List.mem_cons, List.not_mem_nil, or_false, not_or, List.nodup_nil, and_true, not_false_eq_true] at nd
    exact ⟨a, b, c, rfl, h.r2 a (by simp), h.r2 b (by simp), h.r2 c (by simp), nd.1.1, nd.1.2, nd.2⟩
theorem Leap.ne {n : Int} {l : List Int} (h : Leap n l) : l ≠ [] := by
  obtain ⟨a, b, c, rfl, _⟩ := h
  simp
theorem half_start {n : Int} (h : 0 ≤ n) : Half n (upto n) [] := by
  refine ⟨?_, List.nodup_nil, fun k _ => by simp, fun k m => mem_upto.mp m, fun k m => (by cases m), ?_⟩
  · rw [List.nodup_iff_pairwise_ne]
    exact (upto_pair n).imp fun h => by omega
  · unfold upto
    simp
    omega
theorem nodup_lt {L : List (List Int)} (h : L.Nodup) (p : (L.mergeSort leL).Pairwise fun a b => leL a b = true) : (L.mergeSort leL).Pairwise (· < ·) := by
  have nd : (L.mergeSort leL).Nodup := (List.mergeSort_perm L leL).nodup_iff.mpr h
  rw [List.nodup_iff_pairwise_ne] at nd
  refine (p.and nd).imp fun {a b} h => ?_
  have h2 : ¬ b < a := by
    have := h.1
    unfold leL at this
    simpa using this
  exact Std.lt_of_le_of_ne h2 h.2
theorem leL_sorted (L : List (List Int)) : (L.mergeSort leL).Pairwise fun a b => leL a b = true := by
  refine List.pairwise_mergeSort (le := leL) (fun a b c h1 h2 => ?_) (fun a b => ?_) L
  · unfold leL at *
    have h1 : ¬ b < a := by simpa using h1
    have h2 : ¬ c < b := by simpa using h2
    have h1 : a ≤ b := List.not_lt.mp h1
    have h2 : b ≤ c := List.not_lt.mp h2
    have : a ≤ c := Std.le_trans h1 h2
    simpa using List.not_lt.mpr this
  · unfold leL
    have : a ≤ b ∨ b ≤ a := List.le_total a b
    rcases this with h | h
    · have := List.not_lt.mpr h
      simp [this]
    · have := List.not_lt.mpr h
      simp [this]
/-- the leaps along a line -/
def along (n : Int) : List (List Int) := (upto (n - 2)).map fun k => [k, k + 1, k + 2]
theorem line_nodup (n : Int) : (along n ++ (along n).map List.reverse).Nodup := by
  have h1 : (along n).Nodup := by
    unfold along
    rw [List.nodup_iff_pairwise_ne, List.pairwise_map]
    exact (upto_pair _).imp fun h e => by injection e with e _; omega
  refine List.nodup_append.mpr ⟨h1, ?_, fun a ha b hb => ?_⟩
  · unfold along
    rw [List.map_map, List.nodup_iff_pairwise_ne, List.pairwise_map]
    exact (upto_pair _).imp fun h e => by simp at e; omega
  · unfold along at ha hb
    rw [List.map_map] at hb
    obtain ⟨k, _, rfl⟩ := List.mem_map.mp ha
    obtain ⟨j, _, rfl⟩ := List.mem_map.mp hb
    intro e
    simp at e
    omega
theorem line_leap {n : Int} : ∀ l ∈ along n ++ (along n).map List.reverse, Leap n l := by
  intro l hl
  rcases List.mem_append.mp hl with h | h
  · unfold along at h
    obtain ⟨k, hk, rfl⟩ := List.mem_map.mp h
    rw [mem_upto] at hk
    exact ⟨k, k + 1, k + 2, rfl, by omega, by omega, by omega, by omega, by omega, by omega⟩
  · unfold along at h
    rw [List.map_map] at h
    obtain ⟨k, hk, rfl⟩ := List.mem_map.mp h
    rw [mem_upto] at hk
    exact ⟨k + 2, k + 1, k, rfl, by omega, by omega, by omega, by omega, by omega, by omega⟩
theorem line_parts {n : Int} (h : 3 ≤ n) (h2 : n ≤ 12) : Parts n ((along n ++ (along n).map List.reverse).mergeSort leL) := by
  refine ⟨h, h2, nodup_lt (line_nodup n) (leL_sorted _), fun l hl => line_leap l (List.mem_mergeSort.mp hl), ?_⟩
  rw [(List.mergeSort_perm _ _).length_eq]
  unfold along upto
  simp
  omega
theorem blsD_map : ∀ bs : List Bool, blsD (bs.map D.bl) = some bs
  | [] => rfl
  | b :: bs => by
    show (blsD (bs.map D.bl)).map (fun r => b :: r) = _
    rw [blsD_map bs]; rfl
theorem bAll_bls (st : Store) (bs : List Bool) : bAll st [.lst (bs.map .bl)] = some (.bl (bs.all id)) := by
  show ((lsD st (.lst (bs.map .bl))).bind blsD).map _ = _
  have : lsD st (.lst (bs.map D.bl)) = some (bs.map .bl) := rfl
  rw [this, Option.bind_some, blsD_map]; rfl
theorem bAny_bls (st : Store) (bs : List Bool) : bAny st [.lst (bs.map .bl)] = some (.bl (bs.any id)) := by
  show ((lsD st (.lst (bs.map .bl))).bind blsD).map _ = _
  have : lsD st (.lst (bs.map D.bl)) = some (bs.map .bl) := rfl
  rw [this, Option.bind_some, blsD_map]; rfl
theorem dedup_nodup : ∀ {ks : List NestedKey}, ks.Nodup → dedupK ks = ks
  | [], _ => rfl
  | k :: ks, h => by
    rw [List.nodup_cons] at h
    have ih := dedup_nodup h.2
    simp only [dedupK, ih]
    congr 1
    rw [List.filter_eq_self]
    intro j hj
    have : j ≠ k := fun e => h.1 (e ▸ hj)
    simp [this]
theorem lenSet_I (st : Store) {l : List Int} (nd : l.Nodup) (hl : l.length < 1000) : lenSet st (intsT l) = some (.int l.length) := by
  have hks : setKs st (intsT l) = some (numsK l) := by
    show (match intsD (l.map D.int) with
      | some ns => if ns.length < 1000 then some (numsK ns) else none
      | none => none) = _
    rw [intsD_map]
    simp only
    rw [if_pos hl]
  unfold lenSet
  rw [hks, Option.map_some, dedup_nodup (nodup_nums nd)]
  unfold numsK
  rw [List.length_map]
theorem enumD_cons {i : Nat} {l : List D} {d : D} {r : List D} (h : d :: r = enumD i l) : ∃ x l', l = x :: l' ∧ d = .tup [.int i, x] ∧ r = enumD (i + 1) l' := by
  cases l with
  | nil => cases h
  | cons x l' =>
    simp only [enumD, List.cons.injEq] at h
    exact ⟨x, l', rfl, h.1, h.2⟩
theorem dIs_non (st : Store) (d : D) : dIs st d .non = some (.bl (isNon d)) := by
  cases d <;> rfl
theorem dIsNot_non (st : Store) (d : D) : dIsNot st d .non = some (.bl (!isNon d)) := by
  cases d <;> rfl
theorem last_mark (i : Nat) (h : 0 < i) : dIx [.lst (List.replicate i (.bl true))] (.mref 0) (.int (-1)) = some (.bl true) := by
  show L2.atI (List.replicate i (D.bl true)) (-1) = _
  unfold L2.atI L2.ixN
  rw [if_neg (by decide), List.length_replicate, if_pos (by omega), Option.bind_some, List.getElem?_replicate, if_pos (by omega)]
theorem app_mark (i : Nat) (h : i < 1000) : dApp (.mref 0) (.bl true) [.lst (List.replicate i (.bl true))] = some [.lst (List.replicate (i + 1) (.bl true))] := by
  have hLINE : LINE = 16777216 := rfl
  show (if (List.replicate i (D.bl true)).length < LINE then some [MObj.lst (List.replicate i (D.bl true) ++ [.bl true])] else none) = _
  rw [if_pos (by rw [List.length_replicate]; omega), List.replicate_succ']
abbrev boardD (n : Int) (L : List (List Int)) : D := .ins "Board" ["many", "leaps"] [.int n, tupsT L]
theorem still_tups : ∀ L : List (List Int), stills (L.map intsT) = true
  | [] => rfl
  | l :: L => by
    show (stills (l.map D.int) && stills (L.map intsT)) = true
    rw [still_tups L, stills_of_py _ (isPys_ints l)]; rfl
theorem still_parts (n : Int) (L : List (List Int)) : still (partsD n L) = true := by
  show (true && (stills (L.map intsT) && true)) = true
  rw [still_tups]; rfl
theorem sortI_lt {l : List Int} (h : l.Nodup) : (l.mergeSort fun i j => decide (i ≤ j)).Pairwise (· < ·) := by
  have nd : (l.mergeSort fun i j => decide (i ≤ j)).Nodup := (List.mergeSort_perm _ _).nodup_iff.mpr h
  rw [List.nodup_iff_pairwise_ne] at nd
  have := List.pairwise_mergeSort (le := fun i j : Int => decide (i ≤ j)) (fun a b c h1 h2 => by simp at *; omega) (fun a b => by simp; omega) l
  exact (this.and nd).imp fun h => by
    have h1 : _ ≤ _ := of_decide_eq_true h.1
    have h2 := h.2
    omega
theorem stand_nodup {n : Int} {l : List Int} (h : Stand n l) : l.Nodup := by
  rw [List.nodup_iff_pairwise_ne]
  exact h.pw.imp fun h => by omega
theorem stand_len {n : Int} {l : List Int} (h : Stand n l) (hn : 0 ≤ n) : (l.length : Int) ≤ n := by
  have := len_sub (m := upto n) (stand_nodup h) fun k hk => mem_upto.mpr (h.rng k hk)
  unfold upto at this
  simp at this
  omega
def subs : List Int → List (List Int)
  | [] => [[]]
  | x :: l => subs l ++ (subs l).map fun m => x :: m
theorem subs_len : ∀ l : List Int, (subs l).length = 2 ^ l.length
  | [] => rfl
  | x :: l => by
    simp only [subs, List.length_append, List.length_map, List.length_cons, subs_len l, Nat.pow_succ]
    omega
theorem mem_subs : ∀ {l m : List Int}, m.Sublist l → m ∈ subs l := by
  intro l m h
  induction h with
  | slnil => simp [subs]
  | cons x h ih => simp only [subs, List.mem_append]; exact .inl ih
  | cons_cons x h ih => simp only [subs, List.mem_append, List.mem_map]; exact .inr ⟨_, ih, rfl⟩
theorem sub_of_sorted : ∀ {l m : List Int}, m.Pairwise (· < ·) → l.Pairwise (· < ·) → (∀ k ∈ m, k ∈ l) → m.Sublist l := by
  intro l
  induction l with
  | nil =>
    intro m _ _ h
    cases m with
    | nil => exact .slnil
    | cons a m => cases h a List.mem_cons_self
  | cons x l ih =>
    intro m hm hl h
    rw [List.pairwise_cons] at hl
    cases m with
    | nil => exact List.nil_sublist _
    | cons a m =>
      have hm' := List.pairwise_cons.mp hm
      by_cases q : a = x
      · subst q
        refine .cons₂ _ (ih hm'.2 hl.2 fun k hk => ?_)
        have h1 := hm'.1 k hk
        rcases List.mem_cons.mp (h k (List.mem_cons_of_mem _ hk)) with e | e
        · omega
        · exact e
      · refine .cons _ (ih hm hl.2 fun k hk => ?_)
        have ha : a ∈ l := by
          rcases List.mem_cons.mp (h a List.mem_cons_self) with e | e
          · exact absurd e q
          · exact e
        have hxa := hl.1 a ha
        rcases List.mem_cons.mp (h k hk) with e | e
        · subst e
          rcases List.mem_cons.mp hk with e | e
          · exact absurd e.symm q
          · have := hm'.1 _ e; omega
        · exact e
theorem stand_sub {n : Int} {l : List Int} (h : Stand n l) : l ∈ subs (upto n) := mem_subs (sub_of_sorted h.pw (upto_pair n) fun k hk => mem_upto.mpr (h.rng k hk))
theorem few_stands {n : Int} (hn : n ≤ 6) {M : List (List Int)} (nd : M.Nodup) (h : ∀ m ∈ M, Stand n m ∧ m ≠ []) : M.length < 64 := by
  have h1 : ([] :: M).Nodup := List.nodup_cons.mpr ⟨fun m => (h _ m).2 rfl, nd⟩
  have h2 := len_sub (m := subs (upto n)) h1 fun x hx => by
    rcases List.mem_cons.mp hx with e | e
    · subst e; exact mem_subs (List.nil_sublist _)
    · exact stand_sub (h x e).1
  rw [subs_len] at h2
  have h3 : (upto n).length ≤ 6 := by unfold upto; simp; omega
  have h4 : 2 ^ (upto n).length ≤ 2 ^ 6 := Nat.pow_le_pow_right (by decide) h3
  simp only [List.length_cons] at h2
  omega
/-- what dedupK leaves of such keys -/
theorem dedup_L (L : List (List Int)) : ∃ M : List (List Int), dedupK (L.map keyL) = M.map keyL ∧ M.Nodup ∧ ∀ x ∈ M, x ∈ L := by
  have hex : ∀ ks : List NestedKey, (∀ k ∈ ks, k ∈ L.map keyL) → ∃ M : List (List Int), ks = M.map keyL ∧ ∀ x ∈ M, x ∈ L := by
    intro ks
    induction ks with
    | nil => intro _; exact ⟨[], rfl, fun x m => by cases m⟩
    | cons k ks ih =>
      intro h
      obtain ⟨M, e, h2⟩ := ih fun j m => h j (List.mem_cons_of_mem _ m)
      obtain ⟨x, hx, e2⟩ := List.mem_map.mp (h k List.mem_cons_self)
      refine ⟨x :: M, by rw [List.map_cons, e2, e], fun y hy => ?_⟩
      rcases List.mem_cons.mp hy with rfl | hy
      · exact hx
      · exact h2 y hy
  obtain ⟨M, e, h⟩ := hex (dedupK (L.map keyL)) fun k m => mem_dedupK.mp m
  refine ⟨M, e, ?_, h⟩
  have nd := nodup_dedupK (L.map keyL)
  rw [e, List.nodup_iff_pairwise_ne, List.pairwise_map] at nd
  rw [List.nodup_iff_pairwise_ne]
  exact nd.imp fun h e => h (by rw [e])
theorem few_dedup {n : Int} (hn : n ≤ 6) {L : List (List Int)} (h : ∀ m ∈ L, Stand n m ∧ m ≠ []) : (dedupK (L.map keyL)).length < 64 := by
  obtain ⟨M, e, nd, hm⟩ := dedup_L L
  rw [e, List.length_map]
  exact few_stands hn nd fun m hm2 => h m (hm m hm2)
/-- (len(l), l) -/
abbrev pairT (l : List Int) : D := .tup [.int l.length, intsT l]
abbrev keyP (l : List Int) : NestedKey := .tup [.num l.length, keyL l]
theorem ofKey_P (l : List Int) : ofKey (keyP l) = pairT l := by
  show D.tup [D.int l.length, ofKey (keyL l)] = _
  rw [ofKey_L]
theorem toKey_P (l : List Int) : toKey (pairT l) = some (keyP l) := by
  show (toKeys [D.int l.length, intsT l]).map NestedKey.tup = _
  have : toKeys [D.int (l.length : Nat), intsT l] = some [.num l.length, keyL l] := by
    simp only [toKeys, toKey, toKeys_ints, Option.map_some]
  rw [this]; rfl
theorem depth_P (l : List Int) : (keyP l).depth = 2 := by
  have h := depth_L l
  show NestedKey.depthAll [.num l.length, keyL l] + 1 = 2
  have : NestedKey.depthAll [.num l.length, keyL l] = 1 := by
    show max (NestedKey.depth (.num l.length)) (max (keyL l).depth (NestedKey.depthAll [])) = 1
    rw [h]; rfl
  rw [this]
theorem keyT_P (l : List Int) : keyT (pairT l) = some (keyP l) := by
  unfold keyT
  rw [toKey_P]
  simp only
  rw [if_pos ⟨by rw [depth_P]; omega, by show (pureKs (numsK l) && true) = true; rw [pure_L]; rfl⟩]
theorem keysT_P : ∀ L : List (List Int), keysT (L.map pairT) = some (L.map keyP)
  | [] => rfl
  | l :: L => by
    show ((keyT (pairT l)).bind fun k => (keysT (L.map pairT)).map fun ks => k :: ks) = _
    rw [keyT_P, keysT_P L]; rfl
theorem keyP_inj {x y : List Int} (h : keyP x = keyP y) : x = y := by
  injection h with h
  injection h with h1 h2
  injection h2 with h3 h4
  exact keyL_inj h3
theorem alike_P (L : List (List Int)) : alikeK (L.map keyP) = true := by
  unfold alikeK
  rw [List.all_eq_true]
  intro a ha
  rw [List.all_eq_true]
  intro b hb
  obtain ⟨x, _, rfl⟩ := List.mem_map.mp ha
  obtain ⟨y, _, rfl⟩ := List.mem_map.mp hb
  have h : W.alike (keyL x).data (keyL y).data = true := by rw [data_L, data_L]; exact alike_tup x y
  show W.alike (.tuple [.int x.length, (keyL x).data]) (.tuple [.int y.length, (keyL y).data]) = true
  simp only [W.alike, W.alikeAll, h, Bool.and_true]
/-- sorted(set(the pairs)) -/
theorem sortedSet_P {st : Store} {d : D} {L : List (List Int)} (hd : lsD st d = some (L.map pairT)) (ht : isTupD d = false) (few : (dedupK (L.map keyP)).length < 64) : ∃ M : List (List Int), sortedSet st d = some (M.map pairT) ∧ M.Nodup ∧ ∀ x, x ∈ M ↔ x ∈ L := by
  have hks : setKs st d = some (L.map keyP) := by
    unfold setKs
    split
    · cases ht
    · rw [hd]
      simp only [keysT_P]
      rw [if_pos few]
  have hsome : (L.map keyP).all someK = true := by
    rw [List.all_eq_true]
    intro k hk
    obtain ⟨x, hx, rfl⟩ := List.mem_map.mp hk
    rfl
  have hex : ∀ ks : List NestedKey, (∀ k ∈ ks, k ∈ L.map keyP) → ∃ M : List (List Int), ks = M.map keyP := by
    intro ks
    induction ks with
    | nil => intro _; exact ⟨[], rfl⟩
    | cons k ks ih =>
      intro h
      obtain ⟨M, e⟩ := ih fun j m => h j (List.mem_cons_of_mem _ m)
      obtain ⟨x, _, e2⟩ := List.mem_map.mp (h k List.mem_cons_self)
      exact ⟨x :: M, by rw [List.map_cons, e2, e]⟩
  obtain ⟨M, eM⟩ := hex (sortSetK (L.map keyP)) fun k m => mem_sortSetK.mp m
  refine ⟨M, ?_, ?_, fun x => ?_⟩
  · unfold sortedSet
    rw [hks]
    simp only
    rw [if_pos ⟨few, alike_P L, .inr hsome⟩, eM, List.map_map]
    congr 1
    exact List.map_congr_left fun x _ => ofKey_P x
  · have nd : (sortSetK (L.map keyP)).Nodup := (sortSetK_perm _).nodup_iff.mpr (nodup_dedupK _)
    rw [eM, List.nodup_iff_pairwise_ne, List.pairwise_map] at nd
    rw [List.nodup_iff_pairwise_ne]
    exact nd.imp fun h e => h (by rw [e])
  · have h1 : keyP x ∈ sortSetK (L.map keyP) ↔ keyP x ∈ L.map keyP := mem_sortSetK
    have h2 : ∀ N : List (List Int), keyP x ∈ N.map keyP ↔ x ∈ N := fun N => by
      rw [List.mem_map]
      constructor
      · rintro ⟨y, hy, e⟩; rw [← keyP_inj e]; exact hy
      · intro h; exact ⟨x, h, rfl⟩
    rw [eM, h2, h2] at h1
    exact h1
theorem dedup_P (L : List (List Int)) (few : ∀ M : List (List Int), M.Nodup → (∀ x ∈ M, x ∈ L) → M.length < 64) : (dedupK (L.map keyP)).length < 64 := by
  have hex : ∀ ks : List NestedKey, (∀ k ∈ ks, k ∈ L.map keyP) → ∃ M : List (List Int), ks = M.map keyP ∧ ∀ x ∈ M, x ∈ L := by
    intro ks
    induction ks with
    | nil => intro _; exact ⟨[], rfl, fun x m => by cases m⟩
    | cons k ks ih =>
      intro h
      obtain ⟨M, e, h2⟩ := ih fun j m => h j (List.mem_cons_of_mem _ m)
      obtain ⟨x, hx, e2⟩ := List.mem_map.mp (h k List.mem_cons_self)
      refine ⟨x :: M, by rw [List.map_cons, e2, e], fun y hy => ?_⟩
      rcases List.mem_cons.mp hy with rfl | hy
      · exact hx
      · exact h2 y hy
  obtain ⟨M, e, h⟩ := hex (dedupK (L.map keyP)) fun k m => mem_dedupK.mp m
  rw [e, List.length_map]
  refine few M ?_ h
  have nd := nodup_dedupK (L.map keyP)
  rw [e, List.nodup_iff_pairwise_ne, List.pairwise_map] at nd
  rw [List.nodup_iff_pairwise_ne]
  exact nd.imp fun h e => h (by rw [e])
theorem stills_ints (l : List Int) : still (intsT l) = true := stills_of_py _ (isPys_ints l)
theorem still_board (n : Int) (L : List (List Int)) : still (boardD n L) = true := by
  show (true && (stills (L.map intsT) && true)) = true
  rw [still_tups]; rfl
theorem stills2 {a b : D} (h : still a = true) (k : still b = true) : stills [a, b] = true := by
  show (still a && (still b && true)) = true
  rw [h, k]; rfl
theorem stills1 {a : D} (h : still a = true) : stills [a] = true := by
  show (still a && true) = true
  rw [h]; rfl
theorem still_marks : ∀ k : Nat, stills (List.replicate k (D.bl true)) = true := by
  intro k
  induction k with
  | zero => rfl
  | succ k ih => show (true && stills (List.replicate k (D.bl true))) = true; rw [ih]; rfl
theorem fld_many (st : Store) (n : Int) (L : List (List Int)) : dFld "Board" "many" st (boardD n L) = some (.int n) := rfl
theorem fld_leaps (st : Store) (n : Int) (L : List (List Int)) : dFld "Board" "leaps" st (boardD n L) = some (tupsT L) := rfl
/-- what stands on the places, as signs -/
def signs (n : Int) (ps : List Int) : List Int := (upto n).map fun k => 2 * k + (if k ∈ ps then 0 else 1)
def needs : List Int → List Int
  | [a, b, c] => [2 * a, 2 * b, 2 * c + 1]
  | _ => []
def gives : List Int → List Int
  | [a, b, c] => [2 * a + 1, 2 * b + 1, 2 * c]
  | _ => []
/-- some of s is in t -/
def meet (s t : List Int) : Bool := s.any fun k => decide (k ∈ t)
theorem meet_true {s t : List Int} : meet s t = true ↔ ∃ k, k ∈ s ∧ k ∈ t := by
  unfold meet
  rw [List.any_eq_true]
  constructor
  · rintro ⟨k, h, k2⟩; exact ⟨k, h, of_decide_eq_true k2⟩
  · rintro ⟨k, h, k2⟩; exact ⟨k, h, decide_eq_true k2⟩
/-- what meets the own meets the must -/
def Closed (T : List (List Int × List Int)) (Z : List Int) : Prop := ∀ p ∈ T, meet p.2 Z = true → meet p.1 Z = true
abbrev ruleT (p : List Int × List Int) : D := .tup [intsT p.1, intsT p.2]
structure Great (T : List (List Int × List Int)) (s X : List Int) : Prop where
  sub : X.Sublist s
  top : ∀ Z : List Int, (∀ z ∈ Z, z ∈ s) → Closed T Z → ∀ z ∈ Z, z ∈ X
theorem great_step {T : List (List Int × List Int)} {s X : List Int} (h : Great T s X) {p : List Int × List Int} (hp : p ∈ T) (h1 : meet p.2 X = true) (h2 : meet p.1 X = false) : Great T s (X.filter fun k => !decide (k ∈ p.2)) ∧ (X.filter fun k => !decide (k ∈ p.2)).length < X.length := by
  refine ⟨⟨List.filter_sublist.trans h.sub, fun Z hZ hc z hz => ?_⟩, ?_⟩
  · rw [List.mem_filter]
    refine ⟨h.top Z hZ hc z hz, ?_⟩
    by_cases q : z ∈ p.2
    · have : meet p.1 Z = true := hc p hp (meet_true.mpr ⟨z, q, hz⟩)
      obtain ⟨k, k1, k2⟩ := meet_true.mp this
      have : meet p.1 X = true := meet_true.mpr ⟨k, k1, h.top Z hZ hc k k2⟩
      rw [h2] at this; cases this
    · simp [q]
  · obtain ⟨k, k1, k2⟩ := meet_true.mp h1
    have : (X.filter fun k => !decide (k ∈ p.2)).length ≤ X.length := List.length_filter_le _ _
    rcases Nat.lt_or_eq_of_le this with q | q
    · exact q
    · have := List.length_filter_eq_length_iff.mp q k k2
      simp [k1] at this
section
variable {n : Int} {L : List (List Int)} {s : List Int}
def sTab (L : List (List Int)) : List (List Int × List Int) := L.map fun l => (needs l, gives l)
def tTab (L : List (List Int)) : List (List Int × List Int) := L.map fun l => (gives l, needs l)
theorem needs_len (l : List Int) : (needs l).length ≤ 3 := by unfold needs; split <;> simp
theorem gives_len (l : List Int) : (gives l).length ≤ 3 := by unfold gives; split <;> simp
theorem still_rules : ∀ T : List (List Int × List Int), stills (T.map ruleT) = true
  | [] => rfl
  | p :: T => by
    show (stills [intsT p.1, intsT p.2] && stills (T.map ruleT)) = true
    rw [still_rules T, stills2 (stills_ints _) (stills_ints _)]; rfl
/-- two rows in order with the same members are one -/
theorem ord_uniq : ∀ {a b : List Int}, a.Pairwise (· < ·) → b.Pairwise (· < ·) → (∀ k, k ∈ a ↔ k ∈ b) → a = b := by
  intro a b ha hb h
  have p : a.Perm b := (List.perm_ext_iff_of_nodup (ha.imp fun h => by omega) (hb.imp fun h => by omega)).mpr h
  exact p.eq_of_pairwise (le := (· < ·)) (fun x y _ _ h1 h2 => by omega) ha hb
theorem few_stand (h : Stand n s) (hn0 : 0 ≤ n) (hn : n < 64) : ∀ m : List Int, m.Nodup → (∀ k ∈ m, k ∈ s) → m.length < 64 := fun m nd hm => by
  have h1 : m.length ≤ s.length := nd.length_le_of_subset hm
  have := stand_len h hn0
  omega
end
/-- no siphon that is not met at the start is met -/
def NoSi (L : List (List Int)) (S0 S : List Int) : Prop := ∀ Z : List Int, Closed (sTab L) Z → (∀ z ∈ Z, z ∉ S0) → ∀ z ∈ Z, z ∉ S
/-- what is needed is there: what is given is there -/
def Full (T : List (List Int)) (S G : List Int) : Prop := ∀ l ∈ T, (∀ k ∈ needs l, k ∈ S) → ∀ k ∈ gives l, k ∈ G
def InR (n : Int) (S : List Int) : Prop := ∀ k ∈ S, 0 ≤ k ∧ k < 2 * n
theorem gives_rng {n : Int} {l : List Int} (h : Leap n l) : InR n (gives l) := by
  obtain ⟨a, b, c, rfl, ha, hb, hc, _⟩ := h
  intro k hk
  simp only [gives, List.mem_cons, List.not_mem_nil, or_false] at hk
  omega
theorem needs_rng {n : Int} {l : List Int} (h : Leap n l) : InR n (needs l) := by
  obtain ⟨a, b, c, rfl, ha, hb, hc, _⟩ := h
  intro k hk
  simp only [needs, List.mem_cons, List.not_mem_nil, or_false] at hk
  omega
theorem inR_len {n : Int} {S : List Int} (hn0 : 0 ≤ n) (h : InR n S) (nd : S.Nodup) : (S.length : Int) ≤ 2 * n := by
  have h1 : S.length ≤ (upto (2 * n)).length := nd.length_le_of_subset fun k hk => mem_upto.mpr (h k hk)
  unfold upto at h1
  simp at h1
  omega
theorem dNeE_dct {st : Store} {y : D} {S : List Int} {vs : List D} (h : dctD st y = some (intsL S, vs)) : dNeE st y (.dct [] []) = some (.bl (!S.isEmpty)) := by
  unfold dNeE
  rw [h]
  simp only [leafs_ints, if_true]
  cases S <;> rfl
structure Rounds (n : Int) (L : List (List Int)) (S0 S : List Int) : Prop where
  nd : S.Nodup
  rng : InR n S
  old : ∀ k ∈ S0, k ∈ S
  no : NoSi L S0 S
theorem signs_rng {n : Int} {l : List Int} : InR n (signs n l) := by
  intro k hk
  unfold signs at hk
  obtain ⟨j, hj, rfl⟩ := List.mem_map.mp hk
  rw [mem_upto] at hj
  split <;> omega
theorem nums_nodup {S : List Int} (h : S.Nodup) : (numsK S).Nodup := by
  unfold numsK
  rw [List.nodup_iff_pairwise_ne, List.pairwise_map]
  rw [List.nodup_iff_pairwise_ne] at h
  exact h.imp fun h e => h (by injection e)
theorem union_closed {T : List (List Int × List Int)} {X Y J : List Int} (hX : Closed T X) (hY : Closed T Y) (h : ∀ k, k ∈ J ↔ k ∈ X ++ Y) : Closed T J := by
  intro p hp hm
  obtain ⟨k, k1, k2⟩ := meet_true.mp hm
  rcases List.mem_append.mp ((h k).mp k2) with q | q
  · obtain ⟨j, j1, j2⟩ := meet_true.mp (hX p hp (meet_true.mpr ⟨k, k1, q⟩))
    exact meet_true.mpr ⟨j, j1, (h j).mpr (List.mem_append.mpr (.inl j2))⟩
  · obtain ⟨j, j1, j2⟩ := meet_true.mp (hY p hp (meet_true.mpr ⟨k, k1, q⟩))
    exact meet_true.mpr ⟨j, j1, (h j).mpr (List.mem_append.mpr (.inr j2))⟩
theorem great_self {T : List (List Int × List Int)} {X X' : List Int} {n : Int} (hs : Stand n X) (hc : Closed T X) (h : Great T X X') : X' = X :=
  ord_uniq (hs.pw.sublist h.sub) hs.pw fun k => ⟨fun m => h.sub.subset m, fun m => h.top X (fun _ z => z) hc k m⟩
theorem stand_sub' {n : Int} {X s : List Int} (h : Stand n s) (hs : X.Sublist s) : Stand n X := ⟨h.pw.sublist hs, fun k hk => h.rng k (hs.subset hk)⟩
theorem stand_upto (n : Int) : Stand n (upto n) := ⟨upto_pair n, fun k hk => mem_upto.mp hk⟩
theorem closed_all {n : Int} {L : List (List Int)} (hL : ∀ l ∈ L, Leap n l) : Closed (sTab L) (upto (2 * n)) ∧ Closed (tTab L) (upto (2 * n)) := by
  constructor
  · intro p hp _
    obtain ⟨l, hl, rfl⟩ := List.mem_map.mp hp
    have h := hL l hl
    have hr := needs_rng h
    obtain ⟨a, b, c, rfl, _⟩ := h
    exact meet_true.mpr ⟨2 * a, List.mem_cons_self, mem_upto.mpr (hr _ List.mem_cons_self)⟩
  · intro p hp _
    obtain ⟨l, hl, rfl⟩ := List.mem_map.mp hp
    have h := hL l hl
    have hr := gives_rng h
    obtain ⟨a, b, c, rfl, _⟩ := h
    exact meet_true.mpr ⟨2 * a + 1, List.mem_cons_self, mem_upto.mpr (hr _ List.mem_cons_self)⟩
theorem closed_nil (T : List (List Int × List Int)) : Closed T [] := by
  intro p hp h
  obtain ⟨k, _, k2⟩ := meet_true.mp h
  cases k2
def notIn (n : Int) (G : List Int) : List Int := (upto (2 * n)).filter fun k => !decide (k ∈ G)
theorem mem_notIn {n k : Int} {G : List Int} : k ∈ notIn n G ↔ (0 ≤ k ∧ k < 2 * n) ∧ k ∉ G := by
  unfold notIn
  rw [List.mem_filter, mem_upto]
  simp
theorem stand_notIn (n : Int) (G : List Int) : Stand (2 * n) (notIn n G) := stand_sub' (stand_upto _) List.filter_sublist
theorem away_closed {n : Int} {L : List (List Int)} (hL : ∀ l ∈ L, Leap n l) {G : List Int} (h : Full L G G) : Closed (sTab L) (notIn n G) := by
  intro p hp hm
  obtain ⟨l, hl, rfl⟩ := List.mem_map.mp hp
  obtain ⟨k, k1, k2⟩ := meet_true.mp hm
  have k2 := (mem_notIn.mp k2).2
  refine Classical.byContradiction fun q => k2 (h l hl (fun j hj => ?_) k k1)
  refine Classical.byContradiction fun q2 => q (meet_true.mpr ⟨j, hj, mem_notIn.mpr ⟨needs_rng (hL l hl) j hj, q2⟩⟩)
theorem away_great {n : Int} {L : List (List Int)} {l G X : List Int} (hL : ∀ l ∈ L, Leap n l) (hR : Rounds n L (signs n l) G) (hF : Full L G G) (hG : Great (sTab L) (notIn n (signs n l)) X) (hC : Closed (sTab L) X) : X = notIn n G := by
  have hs := stand_notIn n (signs n l)
  refine ord_uniq (hs.pw.sublist hG.sub) (stand_notIn n G).pw fun k => ⟨fun hk => ?_, fun hk => ?_⟩
  · refine mem_notIn.mpr ⟨hs.rng k (hG.sub.subset hk), ?_⟩
    exact hR.no X hC (fun z hz => (mem_notIn.mp (hG.sub.subset hz)).2) k hk
  · refine hG.top (notIn n G) (fun z hz => ?_) (away_closed hL hF) k hk
    obtain ⟨z1, z2⟩ := mem_notIn.mp hz
    exact mem_notIn.mpr ⟨z1, fun h => z2 (hR.old z h)⟩
/-- sorted(set(a + b)) -/
theorem both_ok (st : Store) {n : Int} {a b : List Int} (hn0 : 0 ≤ n) (hn : n ≤ 24) (ha : Stand n a) (hb : Stand n b) : ∃ J, sortedSet st (intsT (a ++ b)) = some (intsL J) ∧ Stand n J ∧ ∀ k, k ∈ J ↔ k ∈ a ++ b := by
  have h1 := stand_len ha hn0
  have h2 := stand_len hb hn0
  have hr : ∀ k ∈ a ++ b, 0 ≤ k ∧ k < n := fun k hk => by
    rcases List.mem_append.mp hk with h | h
    · exact ha.rng k h
    · exact hb.rng k h
  obtain ⟨J, e, h3, h4⟩ := sortedSet_I st (a ++ b) (by rw [List.length_append]; omega) fun m nd hm => by
    have := nd.length_le_of_subset (l₂ := upto n) fun k hk => mem_upto.mpr (hr k (hm k hk))
    unfold upto at this
    rw [List.length_map, List.length_range] at this
    omega
  exact ⟨J, e, ⟨h3, fun k hk => hr k ((h4 k).mp hk)⟩, h4⟩
theorem dAdd_tups (st : Store) (a b : List Int) (h : a.length + b.length ≤ 1000) : dAdd st (intsT a) (intsT b) = some (intsT (a ++ b)) := by
  have hLINE : LINE = 16777216 := rfl
  show (if (a.map D.int).length + (b.map D.int).length ≤ LINE then some (D.tup (a.map D.int ++ b.map D.int)) else none) = _
  rw [if_pos (by rw [List.length_map, List.length_map]; omega), ← List.map_append]
end Px
/-! Vt: tactics for mirrors. Expanded where texts are joined (join.py); each macro stands on one row. -/
namespace Px
open PySem PySem.Spec
end Px
set_option maxRecDepth 100000
/-! V2: dicts whose keys are standings; standings by their pegs and in order. -/
namespace Px
open PySem PySem.Spec
section
variable {env : DEnv} {st : Store} {Q : D → Store → Prop}
theorem tupKey_L (l : List Int) : tupKey (intsT l) = some (keyL l) := by
  show (match toKey (intsT l) with
    | some n => if n.depth ≤ 8 then some n else none
    | none => none) = _
  rw [toKey_L]
  simp only
  rw [if_pos (by rw [depth_L]; omega)]
theorem tupKs_L : ∀ L : List (List Int), tupKs (L.map intsT) = some (L.map keyL)
  | [] => rfl
  | l :: L => by
    show (match tupKey (intsT l), tupKs (L.map intsT) with
      | some n, some ns => some (n :: ns)
      | _, _ => none) = _
    rw [tupKey_L, tupKs_L L]; rfl
theorem v_Pop {o : Ev} (h : (o env st).G2 fun x s => OG (dPop x s) fun p => Q p.1 p.2) : (ePop o env st).G2 Q :=
  g2_bind (P := fun r => r.G2 Q) (h.imp fun x s ⟨p, e, q⟩ => by
    rw [e]; exact ⟨p.1, p.2, rfl, q⟩)
theorem v_Disp1 {i : Nat} {c : D} {l : List Int} (h : env[i]? = some (some (intsT l))) (q : Q (.mref st.length) (st ++ [.dct [intsT l] [c]])) : (eDisp1 i c env st).G2 Q := by
  unfold eDisp1
  rw [h]
  simp only
  rw [if_pos (by rw [tupKey_L]; rfl)]
  exact g2_ok q
theorem v_Upd2 {o a : Ev} (h : (o env st).G2 fun x s => dctAt2 s x = true ∧ (a env s).G2 fun d s => OG (dUpd2 x d s) fun s => Q .non s) : (eUpd2 o a env st).G2 Q := g2_bind (P := fun r => r.G2 Q) (h.imp fun x s h => by
  show R.G2 (if dctAt2 s x = true then _ else _) Q
  rw [if_pos h.1]
  exact g2_bind (P := fun r => r.G2 Q) (h.2.imp fun d s ⟨e, h1, h2⟩ => og_bind (P := fun r => r.G2 Q) ⟨e, h1, g2_ok h2⟩))
end
theorem keq_L (x y : List Int) : keq (intsT x) (intsT y) = decide (x = y) := eqv_tup x y
abbrev tru : D := .bl true
abbrev trus (S : List (List Int)) : List D := S.map fun _ => tru
abbrev tupsL (S : List (List Int)) : List D := S.map intsT
abbrev dctS (S : List (List Int)) : D := .dct (tupsL S) (trus S)
theorem look_L (k : List Int) : ∀ S : List (List Int), (dLook (tupsL S) (trus S) (intsT k)).isSome = decide (k ∈ S)
  | [] => rfl
  | i :: S => by
    have ih := look_L k S
    show (if keq (intsT i) (intsT k) = true then some tru else dLook (tupsL S) (trus S) (intsT k)).isSome = _
    rw [keq_L]
    by_cases q : i = k
    · subst q; simp
    · have q2 : ¬ k = i := fun e => q e.symm
      simp only [q, decide_false, Bool.false_eq_true, if_false, ih, List.mem_cons, q2, false_or]
theorem sortOk_L (S : List (List Int)) (k : List Int) : sortOk (tupsL S) (intsT k) = true := by cases S <;> rfl
theorem keyOk_L (k : List Int) : keyOk (intsT k) = true := by
  unfold keyOk
  rw [tupKey_L]; rfl
theorem dInB_L {st : Store} {y : D} {S : List (List Int)} {k : List Int} (h1 : seqD st y = none) (h2 : dctD st y = some (tupsL S, trus S)) : dInB st (intsT k) y = some (decide (k ∈ S)) := by
  unfold dInB
  rw [h1]
  simp only [h2]
  rw [if_pos ⟨keyOk_L k, sortOk_L S k⟩, look_L]
theorem dIn_L {st : Store} {y : D} {S : List (List Int)} {k : List Int} (h1 : seqD st y = none) (h2 : dctD st y = some (tupsL S, trus S)) : dIn st (intsT k) y = some (.bl (decide (k ∈ S))) := by
  unfold dIn
  rw [dInB_L h1 h2]; rfl
theorem dNotIn_L {st : Store} {y : D} {S : List (List Int)} {k : List Int} (h1 : seqD st y = none) (h2 : dctD st y = some (tupsL S, trus S)) : dNotIn st (intsT k) y = some (.bl (!decide (k ∈ S))) := by
  unfold dNotIn
  rw [dInB_L h1 h2]; rfl
theorem any_tups (k : List Int) : ∀ l : List (List Int), ((tupsL l).any fun z => PyData.eqv (toPy z) (toPy (intsT k))) = decide (k ∈ l)
  | [] => rfl
  | x :: l => by
    rw [show tupsL (x :: l) = intsT x :: tupsL l from rfl, List.any_cons, any_tups k l, eqv_tup]
    by_cases q : x = k
    · subst q; simp
    · have q2 : ¬ k = x := fun e => q e.symm
      simp [q, q2]
theorem rd_tup (st : Store) (l : List Int) : rd st (intsT l) = intsT l := rfl
theorem dInB_T {st : Store} {y : D} {S : List (List Int)} {k : List Int} (h : seqD st y = some (tupsL S)) : dInB st (intsT k) y = some (decide (k ∈ S)) := by
  unfold dInB
  rw [h]
  simp only
  rw [rd_tup, if_pos ⟨okD_tup k, okDs_tups S⟩, any_tups]
theorem dIn_T {st : Store} {y : D} {S : List (List Int)} {k : List Int} (h : seqD st y = some (tupsL S)) : dIn st (intsT k) y = some (.bl (decide (k ∈ S))) := by
  unfold dIn
  rw [dInB_T h]; rfl
theorem dNotIn_T {st : Store} {y : D} {S : List (List Int)} {k : List Int} (h : seqD st y = some (tupsL S)) : dNotIn st (intsT k) y = some (.bl (!decide (k ∈ S))) := by
  unfold dNotIn
  rw [dInB_T h]; rfl
/-- rows of standings alike -/
theorem isPys_tups : ∀ L : List (List Int), isPys (tupsL L) = true
  | [] => rfl
  | x :: L => by
    show (isPys (x.map D.int) && isPys (tupsL L)) = true
    rw [isPys_ints, isPys_tups L]; rfl
theorem depth_tups (L : List (List Int)) : PyData.depthAll (toPys (tupsL L)) ≤ 1 := by
  induction L with
  | nil => simp [toPys, PyData.depthAll]
  | cons x L ih =>
    show PyData.depthAll (toPy (intsT x) :: toPys (tupsL L)) ≤ 1
    simp only [PyData.depthAll]
    have e : (toPy (intsT x)).depth = 1 := by
      show (PyData.tuple (toPys (x.map D.int))).depth = 1
      rw [toPys_ints]
      simp [PyData.depth, depth_ints]
    rw [e]; omega
theorem eqvAll_tups : ∀ (A B : List (List Int)), PyData.eqvAll (toPys (tupsL A)) (toPys (tupsL B)) = decide (A = B)
  | [], [] => by simp [toPys, PyData.eqvAll]
  | [], _ :: _ => by simp [toPys, PyData.eqvAll]
  | _ :: _, [] => by simp [toPys, PyData.eqvAll]
  | a :: A, b :: B => by
    have h := eqvAll_tups A B
    have e : PyData.eqvAll (toPys (tupsL (a :: A))) (toPys (tupsL (b :: B))) = (PyData.eqv (toPy (intsT a)) (toPy (intsT b)) && PyData.eqvAll (toPys (tupsL A)) (toPys (tupsL B))) := by
      show PyData.eqvAll (toPy (intsT a) :: toPys (tupsL A)) (toPy (intsT b) :: toPys (tupsL B)) = _
      simp only [PyData.eqvAll]
    rw [e, eqv_tup, h]
    by_cases q : a = b <;> by_cases q2 : A = B <;> simp [q, q2]
theorem okD_tupsT (A : List (List Int)) : okD (tupsT A) = true := by
  show (isPys (tupsL A) && decide ((PyData.tuple (toPys (tupsL A))).depth ≤ 60)) = true
  rw [isPys_tups]
  have := depth_tups A
  simp [PyData.depth]
  omega
theorem okD_lstT (A : List (List Int)) : okD (.lst (tupsL A)) = true := by
  show (isPys (tupsL A) && decide ((PyData.list (toPys (tupsL A))).depth ≤ 60)) = true
  rw [isPys_tups]
  have := depth_tups A
  simp [PyData.depth]
  omega
theorem eqv_tupsT (A B : List (List Int)) : PyData.eqv (toPy (tupsT A)) (toPy (tupsT B)) = decide (A = B) := by
  rw [← eqvAll_tups A B]
  show PyData.eqv (.tuple (toPys (tupsL A))) (.tuple (toPys (tupsL B))) = _
  simp [PyData.eqv]
theorem eqv_lstT (A B : List (List Int)) : PyData.eqv (toPy (.lst (tupsL A))) (toPy (.lst (tupsL B))) = decide (A = B) := by
  rw [← eqvAll_tups A B]
  show PyData.eqv (.list (toPys (tupsL A))) (.list (toPys (tupsL B))) = _
  simp [PyData.eqv]
theorem dEqB_tups (st : Store) (A B : List (List Int)) : dEqB st (tupsT A) (tupsT B) = some (decide (A = B)) := by
  unfold dEqB
  have e : ∀ z : List (List Int), rd st (tupsT z) = tupsT z := fun _ => rfl
  rw [e, e, if_pos ⟨okD_tupsT A, okD_tupsT B⟩, eqv_tupsT]
theorem dEq_tups (st : Store) (A B : List (List Int)) : dEq st (tupsT A) (tupsT B) = some (.bl (decide (A = B))) := by
  unfold dEq
  rw [dEqB_tups]; rfl
theorem dNe_tups (st : Store) (A B : List (List Int)) : dNe st (tupsT A) (tupsT B) = some (.bl (!decide (A = B))) := by
  unfold dNe
  rw [dEqB_tups]; rfl
theorem dEqB_lsts {st : Store} {x y : D} {A B : List (List Int)} (hx : rd st x = .lst (tupsL A)) (hy : rd st y = .lst (tupsL B)) : dEqB st x y = some (decide (A = B)) := by
  unfold dEqB
  rw [hx, hy, if_pos ⟨okD_lstT A, okD_lstT B⟩, eqv_lstT]
theorem dEq_lsts {st : Store} {x y : D} {A B : List (List Int)} (hx : rd st x = .lst (tupsL A)) (hy : rd st y = .lst (tupsL B)) : dEq st x y = some (.bl (decide (A = B))) := by
  unfold dEq
  rw [dEqB_lsts hx hy]; rfl
theorem dNe_lsts {st : Store} {x y : D} {A B : List (List Int)} (hx : rd st x = .lst (tupsL A)) (hy : rd st y = .lst (tupsL B)) : dNe st x y = some (.bl (!decide (A = B))) := by
  unfold dNe
  rw [dEqB_lsts hx hy]; rfl
/-! ### adding to a row of standings -/
section
variable {α : Type} [DecidableEq α]
def addO (S : List α) (k : α) : List α := if k ∈ S then S else S ++ [k]
def addA (S : List α) : List α → List α
  | [] => S
  | k :: T => addA (addO S k) T
theorem mem_addO {S : List α} {k j : α} : j ∈ addO S k ↔ j ∈ S ∨ j = k := by
  unfold addO
  split
  · constructor
    · exact .inl
    · rintro (h | rfl) <;> assumption
  · simp
theorem mem_addA {j : α} : ∀ {T S : List α}, j ∈ addA S T ↔ j ∈ S ∨ j ∈ T
  | [], S => by simp [addA]
  | k :: T, S => by
    show j ∈ addA (addO S k) T ↔ _
    rw [mem_addA, mem_addO, List.mem_cons, or_assoc]
theorem nodup_addO {S : List α} {k : α} (h : S.Nodup) : (addO S k).Nodup := by
  unfold addO
  split
  · exact h
  · refine List.nodup_append.mpr ⟨h, by simp, fun a ha b hb => ?_⟩
    have : b = k := by simpa using hb
    subst this
    rintro rfl
    contradiction
theorem nodup_addA : ∀ {T S : List α}, S.Nodup → (addA S T).Nodup
  | [], _, h => h
  | k :: T, S, h => nodup_addA (T := T) (nodup_addO h)
end
theorem set_L (k : List Int) : ∀ S : List (List Int), dSet (tupsL S) (trus S) (intsT k) tru = (tupsL (addO S k), trus (addO S k))
  | [] => rfl
  | i :: S => by
    by_cases q : i = k
    · subst q
      show (if keq (intsT i) (intsT i) = true then (intsT i :: tupsL S, tru :: trus S) else _) = _
      rw [keq_L, if_pos (by simp)]
      unfold addO
      rw [if_pos List.mem_cons_self]; rfl
    · have e2 : addO (i :: S) k = i :: addO S k := by
        have q2 : ¬ k = i := fun e => q e.symm
        unfold addO
        by_cases q3 : k ∈ S
        · rw [if_pos q3, if_pos (List.mem_cons_of_mem _ q3)]
        · rw [if_neg q3, if_neg (by simp [q2, q3])]; rfl
      show (if keq (intsT i) (intsT k) = true then (intsT i :: tupsL S, tru :: trus S) else (intsT i :: (dSet (tupsL S) (trus S) (intsT k) tru).1, tru :: (dSet (tupsL S) (trus S) (intsT k) tru).2)) = _
      rw [keq_L, if_neg (by simp [q]), set_L k S, e2]; rfl
theorem merge_L : ∀ (T S : List (List Int)), dMerge (tupsL S, trus S) (tupsL T) (trus T) = (tupsL (addA S T), trus (addA S T))
  | [], S => rfl
  | k :: T, S => by
    show dMerge (dSet (tupsL S) (trus S) (intsT k) tru) (tupsL T) (trus T) = _
    rw [set_L, merge_L T]; rfl
theorem dPut_L {st : Store} {n : Nat} {S : List (List Int)} {k : List Int} (h : st[n]? = some (.dct (tupsL S) (trus S))) (hl : S.length < 1000) : dPut (.mref n) (intsT k) tru st = some (st.set n (.dct (tupsL (addO S k)) (trus (addO S k)))) := by
  have hLINE : LINE = 16777216 := rfl
  unfold dPut
  simp only [h]
  rw [if_pos ⟨keyOk_L k, sortOk_L S k, by rw [List.length_map]; omega⟩, set_L]
theorem hash_apart : ((subs (upto 6)).map fun l => hashP (keyL l)).Nodup := by decide +kernel
theorem intK_L (l : List Int) : intK (keyL l) = true := by
  show intKs (numsK l) = true
  induction l with
  | nil => rfl
  | cons a l ih => show (true && intKs (numsK l)) = true; rw [ih]; rfl
theorem inj_of_nodup_map {α β : Type} {f : α → β} {l : List α} (h : (l.map f).Nodup) : ∀ x ∈ l, ∀ y ∈ l, f x = f y → x = y := by
  induction l with
  | nil => intro x hx; cases hx
  | cons a l ih =>
    rw [List.map_cons, List.nodup_cons] at h
    intro x hx y hy e
    rcases List.mem_cons.mp hx with e1 | hx <;> rcases List.mem_cons.mp hy with e2 | hy
    · rw [e1, e2]
    · rw [e1] at e; exact absurd (List.mem_map.mpr ⟨y, hy, e.symm⟩) h.1
    · rw [e2] at e; exact absurd (List.mem_map.mpr ⟨x, hx, e⟩) h.1
    · exact ih h.2 x hx y hy e
theorem stand_sub6 {n : Int} {l : List Int} (hn : n ≤ 6) (h : Stand n l) : l ∈ subs (upto 6) :=
  stand_sub (n := 6) ⟨h.pw, fun k hk => by have := h.rng k hk; omega⟩
theorem apart_L {n : Int} (hn : n ≤ 6) {S : List (List Int)} (h : ∀ s ∈ S, Stand n s) (nd : S.Nodup) : apartK (S.map keyL) = true := by
  unfold apartK
  rw [Bool.and_eq_true]
  refine ⟨?_, ?_⟩
  · rw [List.all_eq_true]
    intro k hk
    obtain ⟨x, _, rfl⟩ := List.mem_map.mp hk
    exact intK_L x
  · refine decide_eq_true ?_
    rw [List.map_map, List.nodup_iff_pairwise_ne, List.pairwise_map]
    rw [List.nodup_iff_pairwise_ne] at nd
    have : S.Pairwise fun a b => a ∈ S ∧ b ∈ S ∧ a ≠ b := by
      refine List.Pairwise.imp_of_mem (fun {a b} ha hb h => ⟨ha, hb, h⟩) nd
    exact this.imp fun {a b} h2 e => h2.2.2 (inj_of_nodup_map hash_apart a (stand_sub6 hn (h a h2.1)) b (stand_sub6 hn (h b h2.2.1)) e)
theorem leafs_cons (k : List Int) (S : List (List Int)) : leafs (tupsL (k :: S)) = false := rfl
/-- a dict of standings takes in another -/
theorem upd2_L {n : Int} (hn6 : n ≤ 6) {st : Store} {m : Nat} {y : D} {S T : List (List Int)} (h : st[m]? = some (.dct (tupsL S) (trus S))) (hy : dctD st y = some (tupsL T, trus T)) (hn : notRef m y = true) (hT : ∀ t ∈ T, Stand n t) (nd : T.Nodup) (hl : S.length + T.length ≤ 1000) :
    dUpd2 (.mref m) y st = some (st.set m (.dct (tupsL (addA S T)) (trus (addA S T)))) := by
  have hLINE : LINE = 16777216 := rfl
  have hlen : (tupsL S).length + (tupsL T).length ≤ LINE := by rw [List.length_map, List.length_map]; omega
  have hm := merge_L T S
  have hU : ∀ r, dUpd (.mref m) y st = some r → r = st.set m (.dct (tupsL (addA S T)) (trus (addA S T))) := by
    intro r e
    unfold dUpd at e
    simp only [h, hy, hm] at e
    split at e
    · exact (Option.some.inj e).symm
    · cases e
  unfold dUpd2
  cases e : dUpd (.mref m) y st with
  | some r => simp only; rw [hU r e]
  | none =>
    simp only
    unfold dUpdT
    simp only [h, hy, tupKs_L]
    by_cases q : S = [] ∧ T = []
    · obtain ⟨rfl, rfl⟩ := q
      exfalso
      unfold dUpd at e
      simp only [h, hy] at e
      rw [if_pos ⟨rfl, rfl, Nat.zero_le _, hn⟩] at e
      cases e
    · have hq : tupsL S ≠ [] ∨ (tupsL T ≠ [] ∧ apartK (T.map keyL) = true) := by
        cases S with
        | cons s S => exact .inl (by simp)
        | nil =>
          cases T with
          | nil => exact absurd ⟨rfl, rfl⟩ q
          | cons t T => exact .inr ⟨by simp, apart_L hn6 hT nd⟩
      rw [if_pos ⟨hlen, hn, hq⟩, hm]
theorem pairsT_L : ∀ T : List (List Int), pairsT (T.map fun k => .tup [intsT k, tru]) = some (tupsL T, trus T)
  | [] => rfl
  | k :: T => by
    rw [List.map_cons]
    have h := pairsT_L T
    have h2 := tupKey_L k
    unfold pairsT
    simp only [h2, h, Option.map_some]
    rfl
/-- dict([(k, True) for k in T]) -/
theorem dp2_L (st : Store) (T : List (List Int)) (hl : T.length ≤ 1000) : bDp2 st [.lst (T.map fun k => .tup [intsT k, tru])] = some (tupsL (addA [] T), trus (addA [] T)) := by
  have hLINE : LINE = 16777216 := rfl
  cases T with
  | nil => rfl
  | cons t T =>
    have e1 : bDpairs st [.lst ((t :: T).map fun k => .tup [intsT k, tru])] = none := rfl
    unfold bDp2
    rw [e1]
    simp only
    have h2 := pairsT_L (t :: T)
    generalize hX : ((t :: T).map fun k => D.tup [intsT k, tru]) = X at h2 ⊢
    have hXl : X.length ≤ LINE := by rw [← hX, List.length_map]; omega
    have h3 : lsD st (.lst X) = some X := rfl
    unfold bDpairsT
    simp only [h3, h2]
    rw [if_pos ⟨by simp, hXl⟩]
    exact congrArg some (merge_L (t :: T) [])
theorem list2_L {st : Store} {y : D} {S : List (List Int)} (h1 : seqD st y = none) (h2 : dctD st y = some (tupsL S, trus S)) : bList2 st [y] = some (tupsL S) := by
  unfold bList2
  have : bSeq st [y] = none := h1
  rw [this]
  simp only
  unfold bListD
  simp only [h2]
  rw [if_pos (.inl (by rw [tupKs_L]; rfl))]
/-! ### standings by their pegs and in order -/
def ltP (x y : List Int) : Prop := x.length < y.length ∨ (x.length = y.length ∧ x < y)
instance (x y : List Int) : Decidable (ltP x y) := by unfold ltP; infer_instance
theorem ltP_irrefl (x : List Int) : ¬ ltP x x := by
  rintro (h | ⟨_, h⟩)
  · omega
  · exact List.lt_irrefl _ h
theorem ltP_asymm {x y : List Int} (h : ltP x y) : ¬ ltP y x := by
  rcases h with h | ⟨h1, h2⟩ <;> rintro (k | ⟨k1, k2⟩)
  · omega
  · omega
  · omega
  · exact List.lt_asymm h2 k2
theorem ltP_total {x y : List Int} (h : ¬ ltP x y) (ne : x ≠ y) : ltP y x := by
  by_cases q : y.length < x.length
  · exact .inl q
  · by_cases q2 : x.length = y.length
    · refine .inr ⟨q2.symm, ?_⟩
      have : ¬ x < y := fun z => h (.inr ⟨q2, z⟩)
      exact Std.lt_of_le_of_ne (List.not_lt.mp this) fun e => ne e.symm
    · exact absurd (.inl (by omega)) h
theorem eqv_len (x y : List Int) : PyData.eqv (.int (x.length : Nat)) (.int (y.length : Nat)) = decide (x.length = y.length) := by
  rw [eqv_int]
  by_cases q : x.length = y.length <;> simp [q] <;> omega
theorem ltP_data (x y : List Int) : W.dataLt (.tuple [.int (x.length : Nat), toPy (intsT x)]) (.tuple [.int (y.length : Nat), toPy (intsT y)]) = decide (ltP x y) := by
  rw [W.dataLt_pair (alike_int _ _) (alike_tup x y), eqv_len, eqv_tup, lt_tup, lt_int]
  unfold ltP
  by_cases q : x.length = y.length
  · rw [if_pos (by simp [q])]
    by_cases q2 : x = y
    · subst q2
      simp [List.lt_irrefl]
    · rw [if_neg (by simp [q2])]
      simp [q]
  · rw [if_neg (by simp [q])]
    simp [q]
theorem toPy_pair (x : List Int) : toPy (pairT x) = .tuple [.int (x.length : Nat), toPy (intsT x)] := rfl
theorem alike_pair (x y : List Int) : W.alike (toPy (pairT x)) (toPy (pairT y)) = true := by
  rw [toPy_pair, toPy_pair]
  have h := alike_tup x y
  have h2 := alike_int (x.length : Nat) (y.length : Nat)
  simp only [W.alike, W.alikeAll, h, Bool.and_true]
theorem okD_pair (x : List Int) : okD (pairT x) = true := by
  have e : (toPy (intsT x)).depth = 1 := by
    show (PyData.tuple (toPys (x.map D.int))).depth = 1
    rw [toPys_ints]
    simp [PyData.depth, depth_ints]
  have e2 : isPy (pairT x) = true := by
    show (true && (isPys (x.map D.int) && true)) = true
    rw [isPys_ints]; rfl
  unfold okD
  rw [e2, toPy_pair]
  simp [PyData.depth, PyData.depthAll, e]
theorem dLt_pair (st : Store) (x y : List Int) : dLt st (pairT x) (pairT y) = some (.bl (decide (ltP x y))) := by
  have h : dLtB st (pairT x) (pairT y) = some (decide (ltP x y)) := by
    unfold dLtB
    have e : ∀ z : List Int, rd st (pairT z) = pairT z := fun _ => rfl
    rw [e, e, if_pos ⟨okD_pair x, okD_pair y, alike_pair x y, rfl⟩, toPy_pair, toPy_pair, ltP_data]
  unfold dLt
  rw [h]; rfl
/-- in order, each once -/
def OrdP (L : List (List Int)) : Prop := L.Pairwise ltP
theorem OrdP.nodup {L : List (List Int)} (h : OrdP L) : L.Nodup := by
  rw [List.nodup_iff_pairwise_ne]
  exact List.Pairwise.imp (fun {a b} (h : ltP a b) (e : a = b) => by subst e; exact ltP_irrefl _ h) h
theorem ordP_uniq {a b : List (List Int)} (ha : OrdP a) (hb : OrdP b) (h : ∀ k, k ∈ a ↔ k ∈ b) : a = b := by
  have p : a.Perm b := (List.perm_ext_iff_of_nodup ha.nodup hb.nodup).mpr h
  exact p.eq_of_pairwise (le := ltP) (fun x y _ _ h1 h2 => absurd h2 (ltP_asymm h1)) ha hb
theorem OrdP.filter {L : List (List Int)} (h : OrdP L) (p : List Int → Bool) : OrdP (L.filter p) := List.Pairwise.sublist List.filter_sublist h
def leP (x y : List Int) : Bool := !decide (ltP y x)
theorem leP_sorted (L : List (List Int)) : (L.mergeSort leP).Pairwise fun a b => leP a b = true := by
  refine List.pairwise_mergeSort (le := leP) (fun a b c h1 h2 => ?_) (fun a b => ?_) L
  · have h1 : ¬ ltP b a := by simpa [leP] using h1
    have h2 : ¬ ltP c b := by simpa [leP] using h2
    have : ¬ ltP c a := by
      intro h
      by_cases e : a = b
      · subst e; exact h2 h
      · by_cases e2 : b = c
        · subst e2; exact h1 h
        · have k1 := ltP_total h1 (fun z => e z.symm)
          have k2 := ltP_total h2 (fun z => e2 z.symm)
          rcases h with h | ⟨h, h'⟩ <;> rcases k1 with k | ⟨k, k'⟩ <;> rcases k2 with j | ⟨j, j'⟩ <;> try omega
          exact List.lt_asymm h' (List.lt_trans k' j')
    simpa [leP] using this
  · by_cases h : ltP a b
    · simp [leP, ltP_asymm h]
    · simp [leP, h]
theorem ordP_sort {L : List (List Int)} (nd : L.Nodup) : OrdP (L.mergeSort leP) := by
  have nd2 : (L.mergeSort leP).Nodup := (List.mergeSort_perm L leP).nodup_iff.mpr nd
  rw [List.nodup_iff_pairwise_ne] at nd2
  refine List.Pairwise.imp (fun {a b} h => ?_) ((leP_sorted L).and nd2)
  have h1 : ¬ ltP b a := by simpa [leP] using h.1
  exact ltP_total h1 fun e => h.2 e.symm
theorem noLs_ints : ∀ l : List Int, noLs (intsL l) = true
  | [] => by simp [noLs]
  | i :: l => by
    rw [show intsL (i :: l) = D.int i :: intsL l from rfl]
    simp [noLs, noL, noLs_ints l]
/-- sorted(.., key=lambda x: (len(x), x)) -/
theorem sortK_L {st : Store} {d : D} {L : List (List Int)} (hd : lsD st d = some (tupsL L)) (hl : L.length ≤ 1000) (hm : ∀ x ∈ L, x.length ≤ 1000) : sortK kLen st d = some (tupsL (L.mergeSort leP)) := by
  have hLINE : LINE = 16777216 := rfl
  have hk : ∀ x : List Int, keyKn kLen (intsT x) = toPy (pairT x) := fun x => by
    rw [toPy_pair]
    show PyData.tuple [.int ((((x.map D.int).length : Nat) : Int)), _] = _
    rw [List.length_map]
  have c1 : (tupsL L).all (keyOk1 kLen) = true := by
    rw [List.all_eq_true]
    intro k hk
    obtain ⟨x, hx, rfl⟩ := List.mem_map.mp hk
    show (true && decide ((x.map D.int).length ≤ LINE) && noLs (intsL x)) = true
    rw [noLs_ints, List.length_map]
    have := hm x hx
    simp; omega
  have c2 : ((tupsL L).all fun a => (tupsL L).all fun b => W.alike (keyKn kLen a) (keyKn kLen b)) = true := by
    rw [List.all_eq_true]
    intro a ha
    rw [List.all_eq_true]
    intro b hb
    obtain ⟨x, _, rfl⟩ := List.mem_map.mp ha
    obtain ⟨y, _, rfl⟩ := List.mem_map.mp hb
    rw [hk, hk]
    exact alike_pair x y
  unfold sortK
  rw [hd]
  simp only
  rw [if_pos ⟨okDs_tups L, by rw [List.length_map]; omega, c1, c2⟩]
  · congr 1
    refine (W.sort_maps (r := leP) (s := leK1 kLen) intsT fun a _ b _ => ?_).symm
    unfold leK1
    rw [W.dataLe_eq]
    show leP a b = !W.dataLt (keyKn kLen (intsT b)) (keyKn kLen (intsT a))
    rw [hk, hk, toPy_pair, toPy_pair, ltP_data]; rfl
/-- sorted(set(the pairs)), in order -/
theorem sortedSet_Po {st : Store} {d : D} {L : List (List Int)} (hd : lsD st d = some (L.map pairT)) (ht : isTupD d = false) (few : (dedupK (L.map keyP)).length < 64) : ∃ M : List (List Int), sortedSet st d = some (M.map pairT) ∧ OrdP M ∧ ∀ x, x ∈ M ↔ x ∈ L := by
  obtain ⟨M, e, nd, h⟩ := sortedSet_P hd ht few
  refine ⟨M, e, ?_, h⟩
  have hks : setKs st d = some (L.map keyP) := by
    unfold setKs
    split
    · cases ht
    · rw [hd]
      simp only [keysT_P]
      rw [if_pos few]
  have e2 := e
  unfold sortedSet at e2
  rw [hks] at e2
  simp only at e2
  split at e2
  · have e3 : (sortSetK (L.map keyP)).map ofKey = M.map pairT := by injection e2
    have pw := sortSetK_pair (L.map keyP)
    have pw2 : ((sortSetK (L.map keyP)).map ofKey).Pairwise fun a b => W.dataLt (toPy b) (toPy a) = false := by
      rw [List.pairwise_map]
      refine pw.imp fun {a b} h => ?_
      have h : W.dataLe false NestedKey.data a b = true := h
      rw [W.dataLe_eq] at h
      have h : (!W.dataLt b.data a.data) = true := h
      rw [toPy_of, toPy_of]
      simpa using h
    rw [e3, List.pairwise_map] at pw2
    rw [List.nodup_iff_pairwise_ne] at nd
    refine List.Pairwise.imp (fun {a b} h => ?_) (pw2.and nd)
    have h1 := h.1
    rw [toPy_pair, toPy_pair, ltP_data] at h1
    exact ltP_total (by simpa using h1) fun e => h.2 e.symm
  · cases e2
end Px
set_option maxRecDepth 100000
/-! V3: comprehensions whose items draw; slices. -/
namespace Px
open PySem PySem.Spec
theorem compN_draw {β : Type} (f : β → D) (P : β → Prop) {g : Cv} {e : Ev} {s : Src} {env : DEnv} {I : Store → Prop} (hI : ∀ st, I st → chk s st = true) : ∀ (l : List D) (st : Store), I st → (∀ d ∈ l, ∃ env', g d env = some env' ∧ ∀ st, I st → (e env' st).G2 fun d s => I s ∧ ∃ b, d = f b ∧ P b) →
    (compN g tYesV e s l env st).Gives fun q => I q.2 ∧ ∃ B : List β, B.length = l.length ∧ (∀ b ∈ B, P b) ∧ q.1 = B.map f
  | [], st, hs, _ => by unfold compN; rw [if_pos (hI st hs)]; exact g_ok ⟨hs, [], rfl, fun b h => (by cases h), rfl⟩
  | d :: l, st, hs, h => by
    obtain ⟨env', h1, h2⟩ := h d List.mem_cons_self
    have ih := fun st hs => compN_draw f P hI l st hs fun x m => h x (List.mem_cons_of_mem _ m)
    obtain ⟨v, st1, e1, i1, b, e3, hb⟩ := h2 st hs
    subst e3
    have e0 : tYesV env' st = .ok (true, st) := rfl
    unfold compN
    rw [if_pos (hI st hs), h1]
    simp only [e0, R.calm_ok, R.ok_bind, if_true, e1]
    obtain ⟨⟨r, st2⟩, e2, i2, B, hl, hB, e4⟩ := ih st1 i1
    simp only at e4
    subst e4
    rw [e2]
    refine g_ok ⟨i2, b :: B, by simp [hl], fun x hx => ?_, rfl⟩
    rcases List.mem_cons.mp hx with rfl | hx
    · exact hb
    · exact hB x hx
/-- [.. for x in ..], each item may draw -/
theorem v_compD {β : Type} (f : β → D) (P : β → Prop) (I : Store → Prop) {mi : Iv} {vs : List Nat} {g : Cv} {e : Ev} {env : DEnv} {st : Store} {Q : D → Store → Prop} (hm : (mi env st).G2 fun q s => q.2 = none ∧ I s ∧ (∀ d ∈ q.1, ∃ env', g d (wipeE env vs) = some env' ∧ ∀ st, I st → (e env' st).G2 fun d s => I s ∧ ∃ b, d = f b ∧ P b) ∧ q.1.length ≤ LINE ∧ ∀ (B : List β) st', I st' → B.length = q.1.length → (∀ b ∈ B, P b) → Q (.lst (B.map f)) st') : (eComp mi vs g tYesV e env st).G2 Q := by
  obtain ⟨q, s, e1, e2, hI, h1, h2, h3⟩ := hm
  obtain ⟨l, src⟩ := q
  simp only at e2 h1 h2 h3
  subst e2
  refine (g_Comp (Q := fun p => Q p.1 p.2) (compF_of e1 ((compN_draw f P (fun _ _ => rfl) l s hI h1).imp fun q ⟨i2, B, hl, hB, e4⟩ => ?_))).two
  obtain ⟨r, st2⟩ := q
  simp only at e4
  subst e4
  exact ⟨by show (B.map f).length ≤ LINE; rw [List.length_map, hl]; exact h2, h3 B st2 i2 hl hB⟩
theorem still_trus : ∀ F : List (List Int), stills (trus F) = true
  | [] => rfl
  | a :: F => by show (true && stills (trus F)) = true; rw [still_trus F]; rfl
theorem still_dctS (F : List (List Int)) : still (dctS F) = true := by
  show (stills (tupsL F) && stills (trus F)) = true
  rw [still_tups, still_trus]; rfl
theorem cut_L (st : Store) (X : List (List Int)) (lo hi : Option Int) : ∃ Y : List (List Int), dCut st (.lst (tupsL X)) lo hi = some (.lst (tupsL Y)) ∧ ∀ y ∈ Y, y ∈ X := by
  refine ⟨((X.drop (HT.sIx (tupsL X).length 0 lo)).take (HT.sIx (tupsL X).length (tupsL X).length hi - HT.sIx (tupsL X).length 0 lo)), ?_, fun y hy => List.mem_of_mem_drop (List.mem_of_mem_take hy)⟩
  show some (D.lst (cutD (tupsL X) lo hi)) = _
  unfold cutD
  rw [← List.map_drop, ← List.map_take]
end Px
set_option maxRecDepth 100000
set_option maxHeartbeats 4000000
/-! mirrors, printed -/
namespace Px
open PySem PySem.Spec
open L2
/-! _law_taken -/
abbrev b__law_taken : Sm := (sSeq (sIf (tV (eOp2 dGt (eOp2 dIx (eV 0) (eC (.int 3))) (eC (.int 0)))) (sSeq (sAsg (eOp2 dMod (eB bInt (aCons (eOp2 dIx (eV 0) (eC (.int 3))) aNil)) (eV 1)) (gV 2))
    (sSeq (sAsg (eOp2 dDiv (eOp2 dIx (eV 0) (eC (.int 3))) (eV 1)) (Px.gSub (eV 0) (eC (.int 3))))
    (sRet (eV 2)))) sNil)
    (sSeq (sAsg (eOp2 dAdd (eOp2 dIx (eV 0) (eC (.int 1))) (eC (.int 1))) (Px.gSub (eV 0) (eC (.int 1))))
    (sSeq (sIf (tV (eOp2 dGt (eOp2 dIx (eV 0) (eC (.int 1))) (eB bLen (aCons (eOp2 dIx (eV 0) (eC (.int 0))) aNil)))) (sSeq (sAsg (eOp2 dMod (eB bInt (aCons (eOp2 dAdd (eOp2 dMul (eOp2 dIx (eV 0) (eC (.int 2))) (eC (.int 48271))) (eC (.int 11))) aNil)) (eC (.int 2147483647))) (Px.gSub (eV 0) (eC (.int 2))))
    (sRet (eOp2 dMod (eB bInt (aCons (eOp2 dDiv (eOp2 dIx (eV 0) (eC (.int 2))) (eC (.int 7))) aNil)) (eV 1)))) sNil)
    (sSeq (sAsg (eOp2 dIx (eOp2 dIx (eV 0) (eC (.int 0))) (eOp2 dSub (eOp2 dIx (eV 0) (eC (.int 1))) (eC (.int 1)))) (gV 3))
    (sSeq (sAsg (eOp2 dMod (eB bInt (aCons (eOp2 dAdd (eOp2 dAdd (eOp2 dMul (eOp2 dIx (eV 0) (eC (.int 2))) (eC (.int 48271))) (eV 3)) (eC (.int 11))) aNil)) (eC (.int 2147483647))) (Px.gSub (eV 0) (eC (.int 2))))
    (sSeq (sIf (tV (eOp2 dGe (eV 3) (eOp2 dPow (eC (.int 10)) (eC (.int 18))))) (sSeq (sAsg (eOp2 dDiv (eV 3) (eV 1)) (Px.gSub (eV 0) (eC (.int 3))))
    (sRet (eOp2 dMod (eB bInt (aCons (eV 3) aNil)) (eV 1)))) sNil)
    (sRet (eOp2 dMod (eB bInt (aCons (eOp2 dAdd (eOp2 dMul (eOp2 dMod (eB bInt (aCons (eV 3) aNil)) (eC (.int 1000003))) (eC (.int 31))) (eOp2 dDiv (eOp2 dIx (eV 0) (eC (.int 2))) (eC (.int 11)))) aNil)) (eV 1)))))))))
def m__law_taken : Fv := mM 4 b__law_taken
/-! _law_draw_parts -/
abbrev b__law_draw_parts : Sm := (sSeq (sAsg (eOp2 dAdd (eC (.int 3)) (eCall m__law_taken (aCons (eV 0) (aCons (eOp2 dSub (eV 1) (eC (.int 2))) aNil)))) (gV 2))
    (sSeq (sIf (tV (eOp2 dEq (eCall m__law_taken (aCons (eV 0) (aCons (eC (.int 3)) aNil))) (eC (.int 0)))) (sSeq (sAsg (eComp (iRng (aCons (eOp2 dSub (eV 2) (eC (.int 2))) aNil)) [5] (cV 5) tYesV (eTup (aCons (eV 5) (aCons (eOp2 dAdd (eV 5) (eC (.int 1))) (aCons (eOp2 dAdd (eV 5) (eC (.int 2))) aNil))))) (gV 3))
    (sRet (eTup (aCons (eV 2) (aCons (eB bTup (aCons (eL bSort (aCons (eOp2 dAdd (eV 3) (eComp (iSeq (eV 3)) [7] (cV 7) tYesV (eRev (eV 7)))) aNil)) aNil)) aNil))))) sNil)
    (sSeq (sAsg (eLst aNil) (gV 4))
    (sSeq (sFor (iRng (aCons (eOp2 dAdd (eC (.int 2)) (eCall m__law_taken (aCons (eV 0) (aCons (eC (.int 8)) aNil)))) aNil)) (gV 5) (sSeq (sAsg (eLRg (rg1 (eV 2))) (gV 6))
    (sSeq (sAsg (eLst aNil) (gV 7))
    (sSeq (sFor (iRng (aCons (eC (.int 3)) aNil)) (gV 8) (sSeq (sAsg (eOp2 dAdd (eV 7) (eLst (aCons (eOp2 dIx (eV 6) (eCall m__law_taken (aCons (eV 0) (aCons (eB bLen (aCons (eV 6) aNil)) aNil)))) aNil))) (gV 7))
    (sAsg (eComp (iSeq (eV 6)) [9] (cV 9) (tV (eOp2 dNotIn (eV 9) (eV 7))) (eV 9)) (gV 6))))
    (sAsg (eOp2 dAdd (eV 4) (eLst (aCons (eB bTup (aCons (eV 7) aNil)) aNil))) (gV 4))))))
    (sRet (eTup (aCons (eV 2) (aCons (eB bTup (aCons (eL1 sortedSet (eV 4)) aNil)) aNil))))))))
def m__law_draw_parts : Fv := mM 10 b__law_draw_parts
/-! _law_order -/
abbrev b__law_order : Sm := (sRet (eB bTup (aCons (eComp (iSeq (eL1 sortedSet (eComp (iSeq (eV 0)) [2] (cV 2) tYesV (eTup (aCons (eB bLen (aCons (eV 2) aNil)) (aCons (eV 2) aNil)))))) [1] (cV 1) tYesV (eOp2 dIx (eV 1) (eC (.int 1)))) aNil)))
def m__law_order : Pf := mP 3 b__law_order
/-! _law_draw_pegs -/
abbrev b__law_draw_pegs : Sm := (sRet (eB bTup (aCons (eComp (iRng (aCons (eV 1) aNil)) [2] (cV 2) (tV (eOp2 dGt (eCall m__law_taken (aCons (eV 0) (aCons (eC (.int 3)) aNil))) (eC (.int 0)))) (eV 2)) aNil)))
def m__law_draw_pegs : Fv := mM 3 b__law_draw_pegs
/-! first_false -/
abbrev b_first_false : Sm := (sSeq (sFor (iEn (eV 0)) (Px.gTup 2 (gAnd (gV 1) (gAnd (gV 2) gNo))) (sIf (tNot (tV (eV 2))) (sRet (eV 1)) sNil))
    (sRet (eC .non)))
def m_first_false : Pf := mP 3 b_first_false
/-! is_number -/
abbrev b_is_number : Sm := (sRet (eAnd (eB1 (bIsi "int") (eV 0)) (eNot (eB1 (bIsi "bool") (eV 0)))))
def m_is_number : Pf := mP 1 b_is_number
/-! is_between -/
abbrev b_is_between : Sm := (sRet (eAnd (eCallP m_is_number (aCons (eV 0) aNil)) (eChain dLe dLe (eV 1) (eV 0) (eV 2))))
def m_is_between : Pf := mP 3 b_is_between
/-! wrong_peg -/
abbrev b_wrong_peg : Sm := (sSeq (sIf (tNot (tV (eB1 (bIsi "tuple") (eV 1)))) (sRet (eNeg (eC (.int 1)))) sNil)
    (sSeq (sAsg (eNewL aNil) (gV 2))
    (sSeq (sFor (iEn (eV 1)) (Px.gTup 2 (gAnd (gV 3) (gAnd (gV 4) gNo))) (sSeq (sAsg (eCallP m_is_between (aCons (eV 4) (aCons (eC (.int 0)) (aCons (eOp2 dSub (eFld "Board" "many" (eV 0)) (eC (.int 1))) aNil)))) (gV 5))
    (sSeq (sIf (tAnd (tV (eV 5)) (tAnd (tV (eOp2 dGt (eV 3) (eC (.int 0)))) (tV (eOp2 dIx (eV 2) (eNeg (eC (.int 1))))))) (sAsg (eOp2 dLt (eOp2 dIx (eV 1) (eOp2 dSub (eV 3) (eC (.int 1)))) (eV 4)) (gV 5)) sNil)
    (sExpr (eApp (eV 2) (eV 5))))))
    (sRet (eCallP m_first_false (aCons (eV 2) aNil))))))
def m_wrong_peg : Pf := mP 6 b_wrong_peg
/-! need_pegs -/
abbrev b_need_pegs : Sm := (sSeq (sAsg (eCallP m_wrong_peg (aCons (eV 0) (aCons (eV 1) aNil))) (gV 2))
    (sIf (tV (eOp2 dIsNot (eV 2) (eC .non))) sNever sNil))
def m_need_pegs : Pf := mP 3 b_need_pegs
/-! in_order -/
abbrev b_in_order : Sm := (sRet (eB bTup (aCons (eL1 (sortK kLen) (eV 0)) aNil)))
def m_in_order : Pf := mP 1 b_in_order
/-! can_undo -/
abbrev b_can_undo : Sm := (sRet (eAnd (eOp2 dIn (eOp2 dIx (eV 1) (eC (.int 2))) (eV 0)) (eAnd (eOp2 dNotIn (eOp2 dIx (eV 1) (eC (.int 0))) (eV 0)) (eOp2 dNotIn (eOp2 dIx (eV 1) (eC (.int 1))) (eV 0)))))
def m_can_undo : Pf := mP 2 b_can_undo
/-! undone -/
abbrev b_undone : Sm := (sRet (eB bTup (aCons (eL bSort (aCons (eOp2 dAdd (eComp (iSeq (eV 0)) [2] (cV 2) (tV (eOp2 dNe (eV 2) (eOp2 dIx (eV 1) (eC (.int 2))))) (eV 2)) (eL bList2 (aCons (eCut (eV 1) oNone (oSome (eC (.int 2)))) aNil))) aNil)) aNil)))
def m_undone : Pf := mP 3 b_undone
/-! backed -/
abbrev b_backed : Sm := (sSeq (sExpr (eCallP m_need_pegs (aCons (eV 0) (aCons (eV 1) aNil))))
    (sSeq (sPar 2 3 (aCons (eDisp1 1 (.bl true)) (aCons (eNewL (aCons (eV 1) aNil)) aNil)))
    (sSeq (sWhile 1000 (tV (eOp2 dNe (eV 3) (eLst aNil))) (sSeq (sAsg (ePop (eV 3)) (gV 4))
    (sFor (iSeq (eFld "Board" "leaps" (eV 0))) (gV 5) (sIf (tV (eCallP m_can_undo (aCons (eV 4) (aCons (eV 5) aNil)))) (sSeq (sAsg (eCallP m_undone (aCons (eV 4) (aCons (eV 5) aNil))) (gV 6))
    (sIf (tV (eOp2 dNotIn (eV 6) (eV 2))) (sSeq (sAsg (eC (.bl true)) (Px.gSub (eV 2) (eV 6)))
    (sExpr (eApp (eV 3) (eV 6)))) sNil)) sNil))))
    (sRet (eCallP m_in_order (aCons (eL bList2 (aCons (eV 2) aNil)) aNil))))))
def m_backed : Pf := mP 7 b_backed
/-! places_of -/
abbrev b_places_of : Sm := (sRet (eTRg (rg1 (eFld "Board" "many" (eV 0)))))
def m_places_of : Pf := mP 1 b_places_of
/-! all_standings -/
abbrev b_all_standings : Sm := (sSeq (sAsg (eLst (aCons (eTup aNil) aNil)) (gV 1))
    (sSeq (sFor (iSeq (eCallP m_places_of (aCons (eV 0) aNil))) (gV 2) (sAsg (eOp2 dAdd (eV 1) (eComp (iSeq (eV 1)) [3] (cV 3) tYesV (eOp2 dAdd (eV 3) (eTup (aCons (eV 2) aNil))))) (gV 1)))
    (sRet (eB bTup (aCons (eL1 (sortK kLen) (eV 1)) aNil)))))
def m_all_standings : Pf := mP 4 b_all_standings
/-! widest_bar -/
abbrev b_widest_bar : Sm := (sSeq (sExpr (eCallP m_need_pegs (aCons (eV 0) (aCons (eV 1) aNil))))
    (sSeq (sAsg (eD bDp2 (aCons (eComp (iSeq (eCallP m_backed (aCons (eV 0) (aCons (eV 1) aNil)))) [3] (cV 3) tYesV (eTup (aCons (eV 3) (aCons (eC (.bl true)) aNil)))) aNil)) (gV 2))
    (sRet (eB bTup (aCons (eComp (iSeq (eCallP m_all_standings (aCons (eV 0) aNil))) [3] (cV 3) (tV (eOp2 dNotIn (eV 3) (eV 2))) (eV 3)) aNil)))))
def m_widest_bar : Pf := mP 4 b_widest_bar
/-! is_leap -/
abbrev b_is_leap : Sm := (sSeq (sIf (tOr (tNot (tV (eB1 (bIsi "tuple") (eV 0)))) (tV (eOp2 dNe (eB bLen (aCons (eV 0) aNil)) (eC (.int 3))))) (sRet (eC (.bl false))) sNil)
    (sRet (eAnd (eB bAll (aCons (eComp (iSeq (eV 0)) [2] (cV 2) tYesV (eCallP m_is_between (aCons (eV 2) (aCons (eC (.int 0)) (aCons (eOp2 dSub (eV 1) (eC (.int 1))) aNil))))) aNil)) (eOp2 dEq (eB1 lenSet (eV 0)) (eC (.int 3))))))
def m_is_leap : Pf := mP 3 b_is_leap
/-! wrong_part -/
abbrev b_wrong_part : Sm := (sSeq (sIf (tOr (tNot (tV (eB1 (bIsi "tuple") (eV 0)))) (tOr (tV (eOp2 dNe (eB bLen (aCons (eV 0) aNil)) (eC (.int 2)))) (tNot (tV (eCallP m_is_between (aCons (eOp2 dIx (eV 0) (eC (.int 0))) (aCons (eC (.int 1)) (aCons (eC (.int 12)) aNil)))))))) (sRet (eC (.int 0))) sNil)
    (sSeq (sAsg (eV 0) (Px.gTup 2 (gAnd (gV 1) (gAnd (gV 2) gNo))))
    (sSeq (sIf (tOr (tNot (tV (eB1 (bIsi "tuple") (eV 2)))) (tV (eOp2 dGt (eB bLen (aCons (eV 2) aNil)) (eC (.int 60))))) (sRet (eC (.int 1))) sNil)
    (sSeq (sAsg (eNewL aNil) (gV 3))
    (sSeq (sFor (iEn (eV 2)) (Px.gTup 2 (gAnd (gV 4) (gAnd (gV 5) gNo))) (sSeq (sAsg (eCallP m_is_leap (aCons (eV 5) (aCons (eV 1) aNil))) (gV 6))
    (sSeq (sIf (tAnd (tV (eV 6)) (tAnd (tV (eOp2 dGt (eV 4) (eC (.int 0)))) (tV (eOp2 dIx (eV 3) (eNeg (eC (.int 1))))))) (sAsg (eOp2 dLt (eOp2 dIx (eV 2) (eOp2 dSub (eV 4) (eC (.int 1)))) (eV 5)) (gV 6)) sNil)
    (sExpr (eApp (eV 3) (eV 6))))))
    (sSeq (sAsg (eCallP m_first_false (aCons (eV 3) aNil)) (gV 7))
    (sRet (eIf (tV (eOp2 dIs (eV 7) (eC .non))) (eC .non) (eOp2 dAdd (eV 7) (eC (.int 2)))))))))))
def m_wrong_part : Pf := mP 8 b_wrong_part
/-! Board(..) -/
abbrev b_Board : Sm := (sSeq (sAsg (eCallP m_wrong_part (aCons (eV 1) aNil)) (gV 2))
    (sSeq (sIf (tV (eOp2 dIsNot (eV 2) (eC .non))) sNever sNil)
    (sSeq (sFSet "Board" "many" (eV 0) (eOp2 dIx (eV 1) (eC (.int 0))))
    (sFSet "Board" "leaps" (eV 0) (eOp2 dIx (eV 1) (eC (.int 1)))))))
def m_Board : Pf := mI "Board" 3 b_Board
/-! _law_all -/
abbrev b__law_all : Sm := (sRet (eCallP m__law_order (aCons (eComp (iRng (aCons (eOp2 dShl (eC (.int 1)) (eV 0)) aNil)) [1] (cV 1) tYesV (eB bTup (aCons (eComp (iRng (aCons (eV 0) aNil)) [2] (cV 2) (tV (eOp2 dEq (eOp2 dAnd (eOp2 dShr (eV 1) (eV 2)) (eC (.int 1))) (eC (.int 1)))) (eV 2)) aNil))) aNil)))
def m__law_all : Pf := mP 3 b__law_all
/-! is_pegs -/
abbrev b_is_pegs : Sm := (sRet (eOp2 dIs (eCallP m_wrong_peg (aCons (eV 0) (aCons (eV 1) aNil))) (eC .non)))
def m_is_pegs : Pf := mP 2 b_is_pegs
/-! need_set -/
abbrev b_need_set : Sm := (sSeq (sIf (tNot (tV (eB1 (bIsi "tuple") (eV 1)))) sNever sNil)
    (sSeq (sAsg (eNewL aNil) (gV 2))
    (sSeq (sFor (iEn (eV 1)) (Px.gTup 2 (gAnd (gV 3) (gAnd (gV 4) gNo))) (sSeq (sAsg (eCallP m_is_pegs (aCons (eV 0) (aCons (eV 4) aNil))) (gV 5))
    (sSeq (sIf (tAnd (tV (eV 5)) (tAnd (tV (eOp2 dGt (eV 3) (eC (.int 0)))) (tV (eOp2 dIx (eV 2) (eNeg (eC (.int 1))))))) (sSeq (sAsg (eOp2 dIx (eV 1) (eOp2 dSub (eV 3) (eC (.int 1)))) (gV 6))
    (sAsg (eOp2 dLt (eTup (aCons (eB bLen (aCons (eV 6) aNil)) (aCons (eV 6) aNil))) (eTup (aCons (eB bLen (aCons (eV 4) aNil)) (aCons (eV 4) aNil)))) (gV 5))) sNil)
    (sExpr (eApp (eV 2) (eV 5))))))
    (sSeq (sAsg (eCallP m_first_false (aCons (eV 2) aNil)) (gV 7))
    (sIf (tV (eOp2 dIsNot (eV 7) (eC .non))) sNever sNil)))))
def m_need_set : Pf := mP 8 b_need_set
/-! can_do -/
abbrev b_can_do : Sm := (sRet (eAnd (eOp2 dIn (eOp2 dIx (eV 1) (eC (.int 0))) (eV 0)) (eAnd (eOp2 dIn (eOp2 dIx (eV 1) (eC (.int 1))) (eV 0)) (eOp2 dNotIn (eOp2 dIx (eV 1) (eC (.int 2))) (eV 0)))))
def m_can_do : Pf := mP 2 b_can_do
/-! done -/
abbrev b_done : Sm := (sRet (eB bTup (aCons (eL bSort (aCons (eOp2 dAdd (eComp (iSeq (eV 0)) [2] (cV 2) (tV (eOp2 dNotIn (eV 2) (eCut (eV 1) oNone (oSome (eC (.int 2)))))) (eV 2)) (eLst (aCons (eOp2 dIx (eV 1) (eC (.int 2))) aNil))) aNil)) aNil)))
def m_done : Pf := mP 3 b_done
/-! all_from -/
abbrev b_all_from : Sm := (sSeq (sPar 2 3 (aCons (eDisp1 1 (.bl true)) (aCons (eNewL (aCons (eV 1) aNil)) aNil)))
    (sSeq (sWhile 1000 (tV (eOp2 dNe (eV 3) (eLst aNil))) (sSeq (sAsg (ePop (eV 3)) (gV 4))
    (sFor (iSeq (eFld "Board" "leaps" (eV 0))) (gV 5) (sIf (tV (eCallP m_can_do (aCons (eV 4) (aCons (eV 5) aNil)))) (sSeq (sAsg (eCallP m_done (aCons (eV 4) (aCons (eV 5) aNil))) (gV 6))
    (sIf (tV (eOp2 dNotIn (eV 6) (eV 2))) (sSeq (sAsg (eC (.bl true)) (Px.gSub (eV 2) (eV 6)))
    (sExpr (eApp (eV 3) (eV 6)))) sNil)) sNil))))
    (sRet (eV 2))))
def m_all_from : Pf := mP 7 b_all_from
/-! least_closed -/
abbrev b_least_closed : Sm := (sSeq (sExpr (eCallP m_need_set (aCons (eV 0) (aCons (eV 1) aNil))))
    (sSeq (sAsg eDEN (gV 2))
    (sSeq (sFor (iSeq (eV 1)) (gV 3) (sExpr (eUpd2 (eV 2) (eCallP m_all_from (aCons (eV 0) (aCons (eV 3) aNil))))))
    (sRet (eCallP m_in_order (aCons (eL bList2 (aCons (eV 2) aNil)) aNil))))))
def m_least_closed : Pf := mP 4 b_least_closed
/-! greatest_closed -/
abbrev b_greatest_closed : Sm := (sSeq (sExpr (eCallP m_need_set (aCons (eV 0) (aCons (eV 1) aNil))))
    (sSeq (sAsg eDEN (gV 2))
    (sSeq (sFor (iSeq (eV 1)) (gV 3) (sIf (tV (eB bAll (aCons (eComp (iSeq (eFld "Board" "leaps" (eV 0))) [4] (cV 4) (tV (eCallP m_can_do (aCons (eV 3) (aCons (eV 4) aNil)))) (eOp2 dIn (eCallP m_done (aCons (eV 3) (aCons (eV 4) aNil))) (eV 2))) aNil))) (sAsg (eC (.bl true)) (Px.gSub (eV 2) (eV 3))) sNil))
    (sRet (eCallP m_in_order (aCons (eL bList2 (aCons (eV 2) aNil)) aNil))))))
def m_greatest_closed : Pf := mP 5 b_greatest_closed
/-! first_left -/
abbrev b_first_left : Sm := (sSeq (sExpr (eCallP m_need_set (aCons (eV 0) (aCons (eV 1) aNil))))
    (sSeq (sAsg (eD bDp2 (aCons (eComp (iSeq (eV 1)) [3] (cV 3) tYesV (eTup (aCons (eV 3) (aCons (eC (.bl true)) aNil)))) aNil)) (gV 2))
    (sSeq (sFor (iSeq (eV 1)) (gV 3) (sFor (iSeq (eFld "Board" "leaps" (eV 0))) (gV 4) (sIf (tAnd (tV (eCallP m_can_do (aCons (eV 3) (aCons (eV 4) aNil)))) (tV (eOp2 dNotIn (eCallP m_done (aCons (eV 3) (aCons (eV 4) aNil))) (eV 2)))) (sRet (eTup (aCons (eV 3) (aCons (eV 4) aNil)))) sNil)))
    (sRet (eC .non)))))
def m_first_left : Pf := mP 5 b_first_left
/-! is_closed -/
abbrev b_is_closed : Sm := (sRet (eOp2 dIs (eCallP m_first_left (aCons (eV 0) (aCons (eV 1) aNil))) (eC .non)))
def m_is_closed : Pf := mP 2 b_is_closed
/-! _law_under -/
abbrev b__law_under : Sm := (sRet (eOp2 dEq (eComp (iSeq (eV 0)) [2] (cV 2) (tV (eOp2 dNotIn (eV 2) (eV 1))) (eV 2)) (eLst aNil)))
def m__law_under : Pf := mP 3 b__law_under
/-! sources_of -/
abbrev b_sources_of : Sm := (sSeq (sExpr (eCallP m_need_set (aCons (eV 0) (aCons (eV 1) aNil))))
    (sSeq (sAsg eDEN (gV 2))
    (sSeq (sFor (iSeq (eV 1)) (gV 3) (sExpr (eUpd2 (eV 2) (eD bDp2 (aCons (eComp (iSeq (eFld "Board" "leaps" (eV 0))) [4] (cV 4) (tV (eCallP m_can_do (aCons (eV 3) (aCons (eV 4) aNil)))) (eTup (aCons (eCallP m_done (aCons (eV 3) (aCons (eV 4) aNil))) (aCons (eC (.bl true)) aNil)))) aNil)))))
    (sRet (eB bTup (aCons (eComp (iSeq (eV 1)) [5] (cV 5) (tV (eOp2 dNotIn (eV 5) (eV 2))) (eV 5)) aNil))))))
def m_sources_of : Pf := mP 6 b_sources_of
/-! law -/
abbrev b_law : Sm := (sSeq (sAsg (eNewL (aCons (eV 0) (aCons (eC (.int 0)) (aCons (eC (.int 25268)) (aCons (eC (.int 0)) aNil))))) (gV 1))
    (sSeq (sFor (iRng (aCons (eC (.int 3)) aNil)) (gV 2) (sSeq (sAsg (eCall m__law_draw_parts (aCons (eV 1) (aCons (eC (.int 5)) aNil))) (gV 3))
    (sSeq (sAsg (eTup (aCons (eMake m_Board (aCons (eV 3) aNil)) (aCons (eCallP m__law_all (aCons (eOp2 dIx (eV 3) (eC (.int 0))) aNil)) aNil))) (Px.gTup 2 (gAnd (gV 4) (gAnd (gV 5) gNo))))
    (sSeq (sAsg (eCallP m__law_order (aCons (eComp (iRng (aCons (eCall m__law_taken (aCons (eV 1) (aCons (eC (.int 4)) aNil))) aNil)) [16] (cV 16) tYesV (eCall m__law_draw_pegs (aCons (eV 1) (aCons (eOp2 dIx (eV 3) (eC (.int 0))) aNil)))) aNil)) (gV 6))
    (sSeq (sAsg (eCallP m__law_order (aCons (eComp (iRng (aCons (eCall m__law_taken (aCons (eV 1) (aCons (eC (.int 4)) aNil))) aNil)) [16] (cV 16) tYesV (eCall m__law_draw_pegs (aCons (eV 1) (aCons (eOp2 dIx (eV 3) (eC (.int 0))) aNil)))) aNil)) (gV 7))
    (sSeq (sPar 8 9 (aCons (eCallP m_least_closed (aCons (eV 4) (aCons (eV 6) aNil))) (aCons (eCallP m_least_closed (aCons (eV 4) (aCons (eV 7) aNil))) aNil)))
    (sSeq (sIf (tOr (tNot (tV (eCallP m_is_closed (aCons (eV 4) (aCons (eV 8) aNil))))) (tOr (tNot (tV (eCallP m__law_under (aCons (eV 6) (aCons (eV 8) aNil))))) (tV (eOp2 dNe (eCallP m_least_closed (aCons (eV 4) (aCons (eV 8) aNil))) (eV 8))))) (sRet (eC (.bl false))) sNil)
    (sSeq (sIf (tV (eOp2 dNe (eCallP m_least_closed (aCons (eV 4) (aCons (eCallP m__law_order (aCons (eOp2 dAdd (eV 6) (eV 7)) aNil)) aNil))) (eCallP m__law_order (aCons (eOp2 dAdd (eV 8) (eV 9)) aNil)))) (sRet (eC (.bl false))) sNil)
    (sSeq (sAsg (eTup (aCons (eComp (iSeq (eV 5)) [17] (cV 17) (tV (eOp2 dNotIn (eV 17) (eV 6))) (eV 17)) (aCons (eComp (iSeq (eV 5)) [17] (cV 17) (tV (eOp2 dNotIn (eV 17) (eV 7))) (eV 17)) aNil))) (Px.gTup 2 (gAnd (gV 10) (gAnd (gV 11) gNo))))
    (sSeq (sAsg (eTup (aCons (eCallP m_greatest_closed (aCons (eV 4) (aCons (eB bTup (aCons (eV 10) aNil)) aNil))) (aCons (eCallP m_greatest_closed (aCons (eV 4) (aCons (eB bTup (aCons (eV 11) aNil)) aNil))) aNil))) (Px.gTup 2 (gAnd (gV 12) (gAnd (gV 13) gNo))))
    (sSeq (sIf (tOr (tNot (tV (eCallP m_is_closed (aCons (eV 4) (aCons (eV 12) aNil))))) (tOr (tNot (tV (eCallP m__law_under (aCons (eV 12) (aCons (eV 10) aNil))))) (tV (eOp2 dNe (eCallP m_greatest_closed (aCons (eV 4) (aCons (eV 12) aNil))) (eV 12))))) (sRet (eC (.bl false))) sNil)
    (sSeq (sIf (tV (eOp2 dNe (eCallP m_greatest_closed (aCons (eV 4) (aCons (eB bTup (aCons (eComp (iSeq (eV 10)) [17] (cV 17) (tV (eOp2 dIn (eV 17) (eV 11))) (eV 17)) aNil)) aNil))) (eB bTup (aCons (eComp (iSeq (eV 12)) [17] (cV 17) (tV (eOp2 dIn (eV 17) (eV 13))) (eV 17)) aNil)))) (sRet (eC (.bl false))) sNil)
    (sSeq (sAsg (eCall m__law_draw_pegs (aCons (eV 1) (aCons (eOp2 dIx (eV 3) (eC (.int 0))) aNil))) (gV 14))
    (sSeq (sAsg (eCallP m_widest_bar (aCons (eV 4) (aCons (eV 14) aNil))) (gV 15))
    (sSeq (sIf (tOr (tV (eOp2 dNe (eV 15) (eCallP m_greatest_closed (aCons (eV 4) (aCons (eB bTup (aCons (eComp (iSeq (eV 5)) [17] (cV 17) (tV (eOp2 dNe (eV 17) (eV 14))) (eV 17)) aNil)) aNil))))) (tV (eOp2 dNe (eV 15) (eB bTup (aCons (eComp (iSeq (eV 5)) [17] (cV 17) (tV (eOp2 dNotIn (eV 17) (eCallP m_backed (aCons (eV 4) (aCons (eV 14) aNil))))) (eV 17)) aNil))))) (sRet (eC (.bl false))) sNil)
    (sIf (tOr (tV (eOp2 dNe (eCallP m_least_closed (aCons (eV 4) (aCons (eCallP m_sources_of (aCons (eV 4) (aCons (eV 8) aNil))) aNil))) (eV 8))) (tNot (tV (eCallP m__law_under (aCons (eCallP m_sources_of (aCons (eV 4) (aCons (eV 8) aNil))) (aCons (eV 6) aNil)))))) (sRet (eC (.bl false))) sNil))))))))))))))))
    (sRet (eC (.bl true)))))
def m_law : Pf := mP 18 b_law
end Px
set_option maxRecDepth 100000
/-! La: the draws. -/
namespace Px
open PySem PySem.Spec
theorem taken_ok {st : Store} (h : RowOk st) {n : Int} (hn : 0 < n) (hb : n < 1000000) : (m__law_taken [.mref 0, .int n] st).Gives fun p => (∃ k, p.1 = .int k ∧ 0 ≤ k ∧ k < n) ∧ Turned st p.2 := by
  obtain ⟨ns, i, s, c, e, hi⟩ := h
  have n0 : n ≠ 0 := by omega
  have nb : n.natAbs < 1073741824 := by omega
  have go : (b__law_taken [some (.mref 0), some (.int n), none, none] st).Gives fun p => ∃ k, p.1 = .rt (.int k) ∧ (0 ≤ k ∧ k < n) ∧ Turned st p.2.2 := by
    unfold b__law_taken
    (((repeat (first | refine g_v rfl ?_ | refine g_c ?_ | refine g_op2 ?_ | refine g_B ?_ | refine g_L ?_ | refine g_B1 ?_ | refine g_L1 ?_ | refine g_D ?_ | refine g_DN ?_ | refine g_nil ?_ | refine g_cons ?_ | refine g_tup ?_ | refine g_lst ?_ | refine g_newL ?_ | refine g_call ?_ | refine g_callP ?_ | refine g_make ?_ | refine g_fld ?_ | refine g_neg ?_ | refine g_tV ?_ | refine g_tAnd ?_ | refine g_tOr ?_ | refine g_tNot ?_ | refine g_tYes ?_ | refine g_And ?_ | refine g_Or ?_ | refine g_Not ?_ | refine g_If ?_ | refine g_Chain ?_ | refine g_App ?_ | refine g_Upd ?_ | refine g_Rev ?_ | refine g_DE ?_ | refine g_DEN ?_ | refine g_rg1 ?_ | refine g_LRg ?_ | refine g_TRg ?_ | refine g_Nil ?_ | refine g_Seq ?_ | refine g_Ret ?_ | refine g_Expr ?_ | refine g_sIf ?_ | refine g_Asg ?_ | refine g_Sub ?_ | refine g_Par ?_ | refine g_Par3 ?_ | refine g_FSet ?_)); try dsimp only))
    refine ⟨_, row_ix e rfl, ?_⟩
    repeat (first | (first | refine g_v rfl ?_ | refine g_c ?_ | refine g_op2 ?_ | refine g_B ?_ | refine g_L ?_ | refine g_B1 ?_ | refine g_L1 ?_ | refine g_D ?_ | refine g_DN ?_ | refine g_nil ?_ | refine g_cons ?_ | refine g_tup ?_ | refine g_lst ?_ | refine g_newL ?_ | refine g_call ?_ | refine g_callP ?_ | refine g_make ?_ | refine g_fld ?_ | refine g_neg ?_ | refine g_tV ?_ | refine g_tAnd ?_ | refine g_tOr ?_ | refine g_tNot ?_ | refine g_tYes ?_ | refine g_And ?_ | refine g_Or ?_ | refine g_Not ?_ | refine g_If ?_ | refine g_Chain ?_ | refine g_App ?_ | refine g_Upd ?_ | refine g_Rev ?_ | refine g_DE ?_ | refine g_DEN ?_ | refine g_rg1 ?_ | refine g_LRg ?_ | refine g_TRg ?_ | refine g_Nil ?_ | refine g_Seq ?_ | refine g_Ret ?_ | refine g_Expr ?_ | refine g_sIf ?_ | refine g_Asg ?_ | refine g_Sub ?_ | refine g_Par ?_ | refine g_Par3 ?_ | refine g_FSet ?_) | refine ⟨_, dGt_int _ _ _, ?_⟩ | refine ⟨_, dLt_int _ _ _, ?_⟩ | refine ⟨_, dLe_int _ _ _, ?_⟩ | refine ⟨_, dGe_int _ _ _, ?_⟩ | refine ⟨_, dEq_int _ _ _, ?_⟩ | refine ⟨_, dNe_int _ _ _, ?_⟩ | refine ⟨_, dAdd_int _ _ _, ?_⟩ | refine ⟨_, dSub_int _ _ _, ?_⟩ | refine ⟨_, rfl, ?_⟩)
    refine ⟨fun hc => ?_, fun hc => ?_⟩
    · -- a great cell's rest
      (((repeat (first | refine g_v rfl ?_ | refine g_c ?_ | refine g_op2 ?_ | refine g_B ?_ | refine g_L ?_ | refine g_B1 ?_ | refine g_L1 ?_ | refine g_D ?_ | refine g_DN ?_ | refine g_nil ?_ | refine g_cons ?_ | refine g_tup ?_ | refine g_lst ?_ | refine g_newL ?_ | refine g_call ?_ | refine g_callP ?_ | refine g_make ?_ | refine g_fld ?_ | refine g_neg ?_ | refine g_tV ?_ | refine g_tAnd ?_ | refine g_tOr ?_ | refine g_tNot ?_ | refine g_tYes ?_ | refine g_And ?_ | refine g_Or ?_ | refine g_Not ?_ | refine g_If ?_ | refine g_Chain ?_ | refine g_App ?_ | refine g_Upd ?_ | refine g_Rev ?_ | refine g_DE ?_ | refine g_DEN ?_ | refine g_rg1 ?_ | refine g_LRg ?_ | refine g_TRg ?_ | refine g_Nil ?_ | refine g_Seq ?_ | refine g_Ret ?_ | refine g_Expr ?_ | refine g_sIf ?_ | refine g_Asg ?_ | refine g_Sub ?_ | refine g_Par ?_ | refine g_Par3 ?_ | refine g_FSet ?_)); try dsimp only))
      refine ⟨_, row_ix e rfl, ?_⟩
      (((repeat (first | (first | refine g_v rfl ?_ | refine g_c ?_ | refine g_op2 ?_ | refine g_B ?_ | refine g_L ?_ | refine g_B1 ?_ | refine g_L1 ?_ | refine g_D ?_ | refine g_DN ?_ | refine g_nil ?_ | refine g_cons ?_ | refine g_tup ?_ | refine g_lst ?_ | refine g_newL ?_ | refine g_call ?_ | refine g_callP ?_ | refine g_make ?_ | refine g_fld ?_ | refine g_neg ?_ | refine g_tV ?_ | refine g_tAnd ?_ | refine g_tOr ?_ | refine g_tNot ?_ | refine g_tYes ?_ | refine g_And ?_ | refine g_Or ?_ | refine g_Not ?_ | refine g_If ?_ | refine g_Chain ?_ | refine g_App ?_ | refine g_Upd ?_ | refine g_Rev ?_ | refine g_DE ?_ | refine g_DEN ?_ | refine g_rg1 ?_ | refine g_LRg ?_ | refine g_TRg ?_ | refine g_Nil ?_ | refine g_Seq ?_ | refine g_Ret ?_ | refine g_Expr ?_ | refine g_sIf ?_ | refine g_Asg ?_ | refine g_Sub ?_ | refine g_Par ?_ | refine g_Par3 ?_ | refine g_FSet ?_) | refine ⟨_, dGt_int _ _ _, ?_⟩ | refine ⟨_, dLt_int _ _ _, ?_⟩ | refine ⟨_, dLe_int _ _ _, ?_⟩ | refine ⟨_, dGe_int _ _ _, ?_⟩ | refine ⟨_, dEq_int _ _ _, ?_⟩ | refine ⟨_, dNe_int _ _ _, ?_⟩ | refine ⟨_, dAdd_int _ _ _, ?_⟩ | refine ⟨_, dSub_int _ _ _, ?_⟩ | refine ⟨_, rfl, ?_⟩)); try dsimp only))
      refine ⟨_, dMod_int _ _ _ n0, ?_⟩
      (((repeat (first | refine g_v rfl ?_ | refine g_c ?_ | refine g_op2 ?_ | refine g_B ?_ | refine g_L ?_ | refine g_B1 ?_ | refine g_L1 ?_ | refine g_D ?_ | refine g_DN ?_ | refine g_nil ?_ | refine g_cons ?_ | refine g_tup ?_ | refine g_lst ?_ | refine g_newL ?_ | refine g_call ?_ | refine g_callP ?_ | refine g_make ?_ | refine g_fld ?_ | refine g_neg ?_ | refine g_tV ?_ | refine g_tAnd ?_ | refine g_tOr ?_ | refine g_tNot ?_ | refine g_tYes ?_ | refine g_And ?_ | refine g_Or ?_ | refine g_Not ?_ | refine g_If ?_ | refine g_Chain ?_ | refine g_App ?_ | refine g_Upd ?_ | refine g_Rev ?_ | refine g_DE ?_ | refine g_DEN ?_ | refine g_rg1 ?_ | refine g_LRg ?_ | refine g_TRg ?_ | refine g_Nil ?_ | refine g_Seq ?_ | refine g_Ret ?_ | refine g_Expr ?_ | refine g_sIf ?_ | refine g_Asg ?_ | refine g_Sub ?_ | refine g_Par ?_ | refine g_Par3 ?_ | refine g_FSet ?_)); try dsimp only))
      refine ⟨_, row_ix e rfl, ?_⟩
      (((repeat (first | refine g_v rfl ?_ | refine g_c ?_ | refine g_op2 ?_ | refine g_B ?_ | refine g_L ?_ | refine g_B1 ?_ | refine g_L1 ?_ | refine g_D ?_ | refine g_DN ?_ | refine g_nil ?_ | refine g_cons ?_ | refine g_tup ?_ | refine g_lst ?_ | refine g_newL ?_ | refine g_call ?_ | refine g_callP ?_ | refine g_make ?_ | refine g_fld ?_ | refine g_neg ?_ | refine g_tV ?_ | refine g_tAnd ?_ | refine g_tOr ?_ | refine g_tNot ?_ | refine g_tYes ?_ | refine g_And ?_ | refine g_Or ?_ | refine g_Not ?_ | refine g_If ?_ | refine g_Chain ?_ | refine g_App ?_ | refine g_Upd ?_ | refine g_Rev ?_ | refine g_DE ?_ | refine g_DEN ?_ | refine g_rg1 ?_ | refine g_LRg ?_ | refine g_TRg ?_ | refine g_Nil ?_ | refine g_Seq ?_ | refine g_Ret ?_ | refine g_Expr ?_ | refine g_sIf ?_ | refine g_Asg ?_ | refine g_Sub ?_ | refine g_Par ?_ | refine g_Par3 ?_ | refine g_FSet ?_)); try dsimp only))
      refine ⟨_, dDiv_int _ _ _ n0 nb, ?_⟩
      (((repeat (first | refine g_v rfl ?_ | refine g_c ?_ | refine g_op2 ?_ | refine g_B ?_ | refine g_L ?_ | refine g_B1 ?_ | refine g_L1 ?_ | refine g_D ?_ | refine g_DN ?_ | refine g_nil ?_ | refine g_cons ?_ | refine g_tup ?_ | refine g_lst ?_ | refine g_newL ?_ | refine g_call ?_ | refine g_callP ?_ | refine g_make ?_ | refine g_fld ?_ | refine g_neg ?_ | refine g_tV ?_ | refine g_tAnd ?_ | refine g_tOr ?_ | refine g_tNot ?_ | refine g_tYes ?_ | refine g_And ?_ | refine g_Or ?_ | refine g_Not ?_ | refine g_If ?_ | refine g_Chain ?_ | refine g_App ?_ | refine g_Upd ?_ | refine g_Rev ?_ | refine g_DE ?_ | refine g_DEN ?_ | refine g_rg1 ?_ | refine g_LRg ?_ | refine g_TRg ?_ | refine g_Nil ?_ | refine g_Seq ?_ | refine g_Ret ?_ | refine g_Expr ?_ | refine g_sIf ?_ | refine g_Asg ?_ | refine g_Sub ?_ | refine g_Par ?_ | refine g_Par3 ?_ | refine g_FSet ?_)); try dsimp only))
      refine ⟨_, row_put (j := 3) e rfl, ?_⟩
      (((repeat (first | refine g_v rfl ?_ | refine g_c ?_ | refine g_op2 ?_ | refine g_B ?_ | refine g_L ?_ | refine g_B1 ?_ | refine g_L1 ?_ | refine g_D ?_ | refine g_DN ?_ | refine g_nil ?_ | refine g_cons ?_ | refine g_tup ?_ | refine g_lst ?_ | refine g_newL ?_ | refine g_call ?_ | refine g_callP ?_ | refine g_make ?_ | refine g_fld ?_ | refine g_neg ?_ | refine g_tV ?_ | refine g_tAnd ?_ | refine g_tOr ?_ | refine g_tNot ?_ | refine g_tYes ?_ | refine g_And ?_ | refine g_Or ?_ | refine g_Not ?_ | refine g_If ?_ | refine g_Chain ?_ | refine g_App ?_ | refine g_Upd ?_ | refine g_Rev ?_ | refine g_DE ?_ | refine g_DEN ?_ | refine g_rg1 ?_ | refine g_LRg ?_ | refine g_TRg ?_ | refine g_Nil ?_ | refine g_Seq ?_ | refine g_Ret ?_ | refine g_Expr ?_ | refine g_sIf ?_ | refine g_Asg ?_ | refine g_Sub ?_ | refine g_Par ?_ | refine g_Par3 ?_ | refine g_FSet ?_)); try dsimp only))
      exact ⟨_, rfl, mod_range c hn, ⟨ns, i, s, _, set_row e, hi⟩, by simp, fun m hm => set_other hm⟩
    · (((repeat (first | refine g_v rfl ?_ | refine g_c ?_ | refine g_op2 ?_ | refine g_B ?_ | refine g_L ?_ | refine g_B1 ?_ | refine g_L1 ?_ | refine g_D ?_ | refine g_DN ?_ | refine g_nil ?_ | refine g_cons ?_ | refine g_tup ?_ | refine g_lst ?_ | refine g_newL ?_ | refine g_call ?_ | refine g_callP ?_ | refine g_make ?_ | refine g_fld ?_ | refine g_neg ?_ | refine g_tV ?_ | refine g_tAnd ?_ | refine g_tOr ?_ | refine g_tNot ?_ | refine g_tYes ?_ | refine g_And ?_ | refine g_Or ?_ | refine g_Not ?_ | refine g_If ?_ | refine g_Chain ?_ | refine g_App ?_ | refine g_Upd ?_ | refine g_Rev ?_ | refine g_DE ?_ | refine g_DEN ?_ | refine g_rg1 ?_ | refine g_LRg ?_ | refine g_TRg ?_ | refine g_Nil ?_ | refine g_Seq ?_ | refine g_Ret ?_ | refine g_Expr ?_ | refine g_sIf ?_ | refine g_Asg ?_ | refine g_Sub ?_ | refine g_Par ?_ | refine g_Par3 ?_ | refine g_FSet ?_)); try dsimp only))
      refine ⟨_, row_ix e rfl, ?_⟩
      (((repeat (first | (first | refine g_v rfl ?_ | refine g_c ?_ | refine g_op2 ?_ | refine g_B ?_ | refine g_L ?_ | refine g_B1 ?_ | refine g_L1 ?_ | refine g_D ?_ | refine g_DN ?_ | refine g_nil ?_ | refine g_cons ?_ | refine g_tup ?_ | refine g_lst ?_ | refine g_newL ?_ | refine g_call ?_ | refine g_callP ?_ | refine g_make ?_ | refine g_fld ?_ | refine g_neg ?_ | refine g_tV ?_ | refine g_tAnd ?_ | refine g_tOr ?_ | refine g_tNot ?_ | refine g_tYes ?_ | refine g_And ?_ | refine g_Or ?_ | refine g_Not ?_ | refine g_If ?_ | refine g_Chain ?_ | refine g_App ?_ | refine g_Upd ?_ | refine g_Rev ?_ | refine g_DE ?_ | refine g_DEN ?_ | refine g_rg1 ?_ | refine g_LRg ?_ | refine g_TRg ?_ | refine g_Nil ?_ | refine g_Seq ?_ | refine g_Ret ?_ | refine g_Expr ?_ | refine g_sIf ?_ | refine g_Asg ?_ | refine g_Sub ?_ | refine g_Par ?_ | refine g_Par3 ?_ | refine g_FSet ?_) | refine ⟨_, dGt_int _ _ _, ?_⟩ | refine ⟨_, dLt_int _ _ _, ?_⟩ | refine ⟨_, dLe_int _ _ _, ?_⟩ | refine ⟨_, dGe_int _ _ _, ?_⟩ | refine ⟨_, dEq_int _ _ _, ?_⟩ | refine ⟨_, dNe_int _ _ _, ?_⟩ | refine ⟨_, dAdd_int _ _ _, ?_⟩ | refine ⟨_, dSub_int _ _ _, ?_⟩ | refine ⟨_, rfl, ?_⟩)); try dsimp only))
      refine ⟨_, row_put (j := 1) e rfl, ?_⟩
      have e1 : RowL (st.set 0 (.lst ([D.scr ns, .int i, .int s, .int c].set 1 (.int (i + 1))))) ns (i + 1) s c := set_row e
      have t1 : Turned st (st.set 0 (.lst ([D.scr ns, .int i, .int s, .int c].set 1 (.int (i + 1))))) := ⟨⟨ns, i + 1, s, c, e1, by omega⟩, by simp, fun m hm => set_other hm⟩
      generalize st.set 0 (.lst ([D.scr ns, .int i, .int s, .int c].set 1 (.int (i + 1)))) = st1 at e1 t1 ⊢
      (((repeat (first | refine g_v rfl ?_ | refine g_c ?_ | refine g_op2 ?_ | refine g_B ?_ | refine g_L ?_ | refine g_B1 ?_ | refine g_L1 ?_ | refine g_D ?_ | refine g_DN ?_ | refine g_nil ?_ | refine g_cons ?_ | refine g_tup ?_ | refine g_lst ?_ | refine g_newL ?_ | refine g_call ?_ | refine g_callP ?_ | refine g_make ?_ | refine g_fld ?_ | refine g_neg ?_ | refine g_tV ?_ | refine g_tAnd ?_ | refine g_tOr ?_ | refine g_tNot ?_ | refine g_tYes ?_ | refine g_And ?_ | refine g_Or ?_ | refine g_Not ?_ | refine g_If ?_ | refine g_Chain ?_ | refine g_App ?_ | refine g_Upd ?_ | refine g_Rev ?_ | refine g_DE ?_ | refine g_DEN ?_ | refine g_rg1 ?_ | refine g_LRg ?_ | refine g_TRg ?_ | refine g_Nil ?_ | refine g_Seq ?_ | refine g_Ret ?_ | refine g_Expr ?_ | refine g_sIf ?_ | refine g_Asg ?_ | refine g_Sub ?_ | refine g_Par ?_ | refine g_Par3 ?_ | refine g_FSet ?_)); try dsimp only))
      refine ⟨_, row_ix e1 rfl, ?_⟩
      (((repeat (first | refine g_v rfl ?_ | refine g_c ?_ | refine g_op2 ?_ | refine g_B ?_ | refine g_L ?_ | refine g_B1 ?_ | refine g_L1 ?_ | refine g_D ?_ | refine g_DN ?_ | refine g_nil ?_ | refine g_cons ?_ | refine g_tup ?_ | refine g_lst ?_ | refine g_newL ?_ | refine g_call ?_ | refine g_callP ?_ | refine g_make ?_ | refine g_fld ?_ | refine g_neg ?_ | refine g_tV ?_ | refine g_tAnd ?_ | refine g_tOr ?_ | refine g_tNot ?_ | refine g_tYes ?_ | refine g_And ?_ | refine g_Or ?_ | refine g_Not ?_ | refine g_If ?_ | refine g_Chain ?_ | refine g_App ?_ | refine g_Upd ?_ | refine g_Rev ?_ | refine g_DE ?_ | refine g_DEN ?_ | refine g_rg1 ?_ | refine g_LRg ?_ | refine g_TRg ?_ | refine g_Nil ?_ | refine g_Seq ?_ | refine g_Ret ?_ | refine g_Expr ?_ | refine g_sIf ?_ | refine g_Asg ?_ | refine g_Sub ?_ | refine g_Par ?_ | refine g_Par3 ?_ | refine g_FSet ?_)); try dsimp only))
      refine ⟨_, row_ix e1 rfl, ?_⟩
      (((repeat (first | refine g_v rfl ?_ | refine g_c ?_ | refine g_op2 ?_ | refine g_B ?_ | refine g_L ?_ | refine g_B1 ?_ | refine g_L1 ?_ | refine g_D ?_ | refine g_DN ?_ | refine g_nil ?_ | refine g_cons ?_ | refine g_tup ?_ | refine g_lst ?_ | refine g_newL ?_ | refine g_call ?_ | refine g_callP ?_ | refine g_make ?_ | refine g_fld ?_ | refine g_neg ?_ | refine g_tV ?_ | refine g_tAnd ?_ | refine g_tOr ?_ | refine g_tNot ?_ | refine g_tYes ?_ | refine g_And ?_ | refine g_Or ?_ | refine g_Not ?_ | refine g_If ?_ | refine g_Chain ?_ | refine g_App ?_ | refine g_Upd ?_ | refine g_Rev ?_ | refine g_DE ?_ | refine g_DEN ?_ | refine g_rg1 ?_ | refine g_LRg ?_ | refine g_TRg ?_ | refine g_Nil ?_ | refine g_Seq ?_ | refine g_Ret ?_ | refine g_Expr ?_ | refine g_sIf ?_ | refine g_Asg ?_ | refine g_Sub ?_ | refine g_Par ?_ | refine g_Par3 ?_ | refine g_FSet ?_)); try dsimp only))
      refine ⟨.int ns.length, by simp [bLen, seqD], ?_⟩
      (((repeat (first | (first | refine g_v rfl ?_ | refine g_c ?_ | refine g_op2 ?_ | refine g_B ?_ | refine g_L ?_ | refine g_B1 ?_ | refine g_L1 ?_ | refine g_D ?_ | refine g_DN ?_ | refine g_nil ?_ | refine g_cons ?_ | refine g_tup ?_ | refine g_lst ?_ | refine g_newL ?_ | refine g_call ?_ | refine g_callP ?_ | refine g_make ?_ | refine g_fld ?_ | refine g_neg ?_ | refine g_tV ?_ | refine g_tAnd ?_ | refine g_tOr ?_ | refine g_tNot ?_ | refine g_tYes ?_ | refine g_And ?_ | refine g_Or ?_ | refine g_Not ?_ | refine g_If ?_ | refine g_Chain ?_ | refine g_App ?_ | refine g_Upd ?_ | refine g_Rev ?_ | refine g_DE ?_ | refine g_DEN ?_ | refine g_rg1 ?_ | refine g_LRg ?_ | refine g_TRg ?_ | refine g_Nil ?_ | refine g_Seq ?_ | refine g_Ret ?_ | refine g_Expr ?_ | refine g_sIf ?_ | refine g_Asg ?_ | refine g_Sub ?_ | refine g_Par ?_ | refine g_Par3 ?_ | refine g_FSet ?_) | refine ⟨_, dGt_int _ _ _, ?_⟩ | refine ⟨_, dLt_int _ _ _, ?_⟩ | refine ⟨_, dLe_int _ _ _, ?_⟩ | refine ⟨_, dGe_int _ _ _, ?_⟩ | refine ⟨_, dEq_int _ _ _, ?_⟩ | refine ⟨_, dNe_int _ _ _, ?_⟩ | refine ⟨_, dAdd_int _ _ _, ?_⟩ | refine ⟨_, dSub_int _ _ _, ?_⟩ | refine ⟨_, rfl, ?_⟩)); try dsimp only))
      refine ⟨fun hc2 => ?_, fun hc2 => ?_⟩
      · (((repeat (first | refine g_v rfl ?_ | refine g_c ?_ | refine g_op2 ?_ | refine g_B ?_ | refine g_L ?_ | refine g_B1 ?_ | refine g_L1 ?_ | refine g_D ?_ | refine g_DN ?_ | refine g_nil ?_ | refine g_cons ?_ | refine g_tup ?_ | refine g_lst ?_ | refine g_newL ?_ | refine g_call ?_ | refine g_callP ?_ | refine g_make ?_ | refine g_fld ?_ | refine g_neg ?_ | refine g_tV ?_ | refine g_tAnd ?_ | refine g_tOr ?_ | refine g_tNot ?_ | refine g_tYes ?_ | refine g_And ?_ | refine g_Or ?_ | refine g_Not ?_ | refine g_If ?_ | refine g_Chain ?_ | refine g_App ?_ | refine g_Upd ?_ | refine g_Rev ?_ | refine g_DE ?_ | refine g_DEN ?_ | refine g_rg1 ?_ | refine g_LRg ?_ | refine g_TRg ?_ | refine g_Nil ?_ | refine g_Seq ?_ | refine g_Ret ?_ | refine g_Expr ?_ | refine g_sIf ?_ | refine g_Asg ?_ | refine g_Sub ?_ | refine g_Par ?_ | refine g_Par3 ?_ | refine g_FSet ?_)); try dsimp only))
        refine ⟨_, row_ix e1 rfl, ?_⟩
        (((repeat (first | refine g_v rfl ?_ | refine g_c ?_ | refine g_op2 ?_ | refine g_B ?_ | refine g_L ?_ | refine g_B1 ?_ | refine g_L1 ?_ | refine g_D ?_ | refine g_DN ?_ | refine g_nil ?_ | refine g_cons ?_ | refine g_tup ?_ | refine g_lst ?_ | refine g_newL ?_ | refine g_call ?_ | refine g_callP ?_ | refine g_make ?_ | refine g_fld ?_ | refine g_neg ?_ | refine g_tV ?_ | refine g_tAnd ?_ | refine g_tOr ?_ | refine g_tNot ?_ | refine g_tYes ?_ | refine g_And ?_ | refine g_Or ?_ | refine g_Not ?_ | refine g_If ?_ | refine g_Chain ?_ | refine g_App ?_ | refine g_Upd ?_ | refine g_Rev ?_ | refine g_DE ?_ | refine g_DEN ?_ | refine g_rg1 ?_ | refine g_LRg ?_ | refine g_TRg ?_ | refine g_Nil ?_ | refine g_Seq ?_ | refine g_Ret ?_ | refine g_Expr ?_ | refine g_sIf ?_ | refine g_Asg ?_ | refine g_Sub ?_ | refine g_Par ?_ | refine g_Par3 ?_ | refine g_FSet ?_)); try dsimp only))
        refine ⟨_, dMul_small _ _ _ (by decide), ?_⟩
        (((repeat (first | (first | refine g_v rfl ?_ | refine g_c ?_ | refine g_op2 ?_ | refine g_B ?_ | refine g_L ?_ | refine g_B1 ?_ | refine g_L1 ?_ | refine g_D ?_ | refine g_DN ?_ | refine g_nil ?_ | refine g_cons ?_ | refine g_tup ?_ | refine g_lst ?_ | refine g_newL ?_ | refine g_call ?_ | refine g_callP ?_ | refine g_make ?_ | refine g_fld ?_ | refine g_neg ?_ | refine g_tV ?_ | refine g_tAnd ?_ | refine g_tOr ?_ | refine g_tNot ?_ | refine g_tYes ?_ | refine g_And ?_ | refine g_Or ?_ | refine g_Not ?_ | refine g_If ?_ | refine g_Chain ?_ | refine g_App ?_ | refine g_Upd ?_ | refine g_Rev ?_ | refine g_DE ?_ | refine g_DEN ?_ | refine g_rg1 ?_ | refine g_LRg ?_ | refine g_TRg ?_ | refine g_Nil ?_ | refine g_Seq ?_ | refine g_Ret ?_ | refine g_Expr ?_ | refine g_sIf ?_ | refine g_Asg ?_ | refine g_Sub ?_ | refine g_Par ?_ | refine g_Par3 ?_ | refine g_FSet ?_) | refine ⟨_, dGt_int _ _ _, ?_⟩ | refine ⟨_, dLt_int _ _ _, ?_⟩ | refine ⟨_, dLe_int _ _ _, ?_⟩ | refine ⟨_, dGe_int _ _ _, ?_⟩ | refine ⟨_, dEq_int _ _ _, ?_⟩ | refine ⟨_, dNe_int _ _ _, ?_⟩ | refine ⟨_, dAdd_int _ _ _, ?_⟩ | refine ⟨_, dSub_int _ _ _, ?_⟩ | refine ⟨_, rfl, ?_⟩)); try dsimp only))
        refine ⟨_, row_put (j := 2) e1 rfl, ?_⟩
        have e2 : RowL (st1.set 0 (.lst ([D.scr ns, .int (i + 1), .int s, .int c].set 2 (.int ((s * 48271 + 11).fmod 2147483647))))) ns (i + 1) _ c := set_row e1
        have t2 : Turned st1 (st1.set 0 (.lst ([D.scr ns, .int (i + 1), .int s, .int c].set 2 (.int ((s * 48271 + 11).fmod 2147483647))))) := ⟨⟨ns, i + 1, _, c, e2, by omega⟩, by simp, fun m hm => set_other hm⟩
        generalize st1.set 0 (.lst ([D.scr ns, .int (i + 1), .int s, .int c].set 2 (.int ((s * 48271 + 11).fmod 2147483647)))) = st2 at e2 t2 ⊢
        (((repeat (first | refine g_v rfl ?_ | refine g_c ?_ | refine g_op2 ?_ | refine g_B ?_ | refine g_L ?_ | refine g_B1 ?_ | refine g_L1 ?_ | refine g_D ?_ | refine g_DN ?_ | refine g_nil ?_ | refine g_cons ?_ | refine g_tup ?_ | refine g_lst ?_ | refine g_newL ?_ | refine g_call ?_ | refine g_callP ?_ | refine g_make ?_ | refine g_fld ?_ | refine g_neg ?_ | refine g_tV ?_ | refine g_tAnd ?_ | refine g_tOr ?_ | refine g_tNot ?_ | refine g_tYes ?_ | refine g_And ?_ | refine g_Or ?_ | refine g_Not ?_ | refine g_If ?_ | refine g_Chain ?_ | refine g_App ?_ | refine g_Upd ?_ | refine g_Rev ?_ | refine g_DE ?_ | refine g_DEN ?_ | refine g_rg1 ?_ | refine g_LRg ?_ | refine g_TRg ?_ | refine g_Nil ?_ | refine g_Seq ?_ | refine g_Ret ?_ | refine g_Expr ?_ | refine g_sIf ?_ | refine g_Asg ?_ | refine g_Sub ?_ | refine g_Par ?_ | refine g_Par3 ?_ | refine g_FSet ?_)); try dsimp only))
        refine ⟨_, row_ix e2 rfl, ?_⟩
        (((repeat (first | (first | refine g_v rfl ?_ | refine g_c ?_ | refine g_op2 ?_ | refine g_B ?_ | refine g_L ?_ | refine g_B1 ?_ | refine g_L1 ?_ | refine g_D ?_ | refine g_DN ?_ | refine g_nil ?_ | refine g_cons ?_ | refine g_tup ?_ | refine g_lst ?_ | refine g_newL ?_ | refine g_call ?_ | refine g_callP ?_ | refine g_make ?_ | refine g_fld ?_ | refine g_neg ?_ | refine g_tV ?_ | refine g_tAnd ?_ | refine g_tOr ?_ | refine g_tNot ?_ | refine g_tYes ?_ | refine g_And ?_ | refine g_Or ?_ | refine g_Not ?_ | refine g_If ?_ | refine g_Chain ?_ | refine g_App ?_ | refine g_Upd ?_ | refine g_Rev ?_ | refine g_DE ?_ | refine g_DEN ?_ | refine g_rg1 ?_ | refine g_LRg ?_ | refine g_TRg ?_ | refine g_Nil ?_ | refine g_Seq ?_ | refine g_Ret ?_ | refine g_Expr ?_ | refine g_sIf ?_ | refine g_Asg ?_ | refine g_Sub ?_ | refine g_Par ?_ | refine g_Par3 ?_ | refine g_FSet ?_) | refine ⟨_, dGt_int _ _ _, ?_⟩ | refine ⟨_, dLt_int _ _ _, ?_⟩ | refine ⟨_, dLe_int _ _ _, ?_⟩ | refine ⟨_, dGe_int _ _ _, ?_⟩ | refine ⟨_, dEq_int _ _ _, ?_⟩ | refine ⟨_, dNe_int _ _ _, ?_⟩ | refine ⟨_, dAdd_int _ _ _, ?_⟩ | refine ⟨_, dSub_int _ _ _, ?_⟩ | refine ⟨_, rfl, ?_⟩)); try dsimp only))
        refine ⟨_, dMod_int _ _ _ n0, ?_⟩
        exact ⟨_, rfl, mod_range _ hn, t1.trans t2⟩
      · have hlt : ¬ ((ns.length : Int) < i + 1) := by simpa using hc2
        obtain ⟨cell, hcell⟩ : ∃ cell, L2.atI (ns.map D.int) (i + 1 - 1) = some (.int cell) := by
          have h1 : (i + 1 - 1).toNat < ns.length := by omega
          refine ⟨ns[(i + 1 - 1).toNat], ?_⟩
          rw [atI_nn (by omega), List.getElem?_map, List.getElem?_eq_getElem h1]; rfl
        (((repeat (first | refine g_v rfl ?_ | refine g_c ?_ | refine g_op2 ?_ | refine g_B ?_ | refine g_L ?_ | refine g_B1 ?_ | refine g_L1 ?_ | refine g_D ?_ | refine g_DN ?_ | refine g_nil ?_ | refine g_cons ?_ | refine g_tup ?_ | refine g_lst ?_ | refine g_newL ?_ | refine g_call ?_ | refine g_callP ?_ | refine g_make ?_ | refine g_fld ?_ | refine g_neg ?_ | refine g_tV ?_ | refine g_tAnd ?_ | refine g_tOr ?_ | refine g_tNot ?_ | refine g_tYes ?_ | refine g_And ?_ | refine g_Or ?_ | refine g_Not ?_ | refine g_If ?_ | refine g_Chain ?_ | refine g_App ?_ | refine g_Upd ?_ | refine g_Rev ?_ | refine g_DE ?_ | refine g_DEN ?_ | refine g_rg1 ?_ | refine g_LRg ?_ | refine g_TRg ?_ | refine g_Nil ?_ | refine g_Seq ?_ | refine g_Ret ?_ | refine g_Expr ?_ | refine g_sIf ?_ | refine g_Asg ?_ | refine g_Sub ?_ | refine g_Par ?_ | refine g_Par3 ?_ | refine g_FSet ?_)); try dsimp only))
        refine ⟨_, row_ix e1 rfl, ?_⟩
        (((repeat (first | refine g_v rfl ?_ | refine g_c ?_ | refine g_op2 ?_ | refine g_B ?_ | refine g_L ?_ | refine g_B1 ?_ | refine g_L1 ?_ | refine g_D ?_ | refine g_DN ?_ | refine g_nil ?_ | refine g_cons ?_ | refine g_tup ?_ | refine g_lst ?_ | refine g_newL ?_ | refine g_call ?_ | refine g_callP ?_ | refine g_make ?_ | refine g_fld ?_ | refine g_neg ?_ | refine g_tV ?_ | refine g_tAnd ?_ | refine g_tOr ?_ | refine g_tNot ?_ | refine g_tYes ?_ | refine g_And ?_ | refine g_Or ?_ | refine g_Not ?_ | refine g_If ?_ | refine g_Chain ?_ | refine g_App ?_ | refine g_Upd ?_ | refine g_Rev ?_ | refine g_DE ?_ | refine g_DEN ?_ | refine g_rg1 ?_ | refine g_LRg ?_ | refine g_TRg ?_ | refine g_Nil ?_ | refine g_Seq ?_ | refine g_Ret ?_ | refine g_Expr ?_ | refine g_sIf ?_ | refine g_Asg ?_ | refine g_Sub ?_ | refine g_Par ?_ | refine g_Par3 ?_ | refine g_FSet ?_)); try dsimp only))
        refine ⟨_, row_ix e1 rfl, ?_⟩
        (((repeat (first | (first | refine g_v rfl ?_ | refine g_c ?_ | refine g_op2 ?_ | refine g_B ?_ | refine g_L ?_ | refine g_B1 ?_ | refine g_L1 ?_ | refine g_D ?_ | refine g_DN ?_ | refine g_nil ?_ | refine g_cons ?_ | refine g_tup ?_ | refine g_lst ?_ | refine g_newL ?_ | refine g_call ?_ | refine g_callP ?_ | refine g_make ?_ | refine g_fld ?_ | refine g_neg ?_ | refine g_tV ?_ | refine g_tAnd ?_ | refine g_tOr ?_ | refine g_tNot ?_ | refine g_tYes ?_ | refine g_And ?_ | refine g_Or ?_ | refine g_Not ?_ | refine g_If ?_ | refine g_Chain ?_ | refine g_App ?_ | refine g_Upd ?_ | refine g_Rev ?_ | refine g_DE ?_ | refine g_DEN ?_ | refine g_rg1 ?_ | refine g_LRg ?_ | refine g_TRg ?_ | refine g_Nil ?_ | refine g_Seq ?_ | refine g_Ret ?_ | refine g_Expr ?_ | refine g_sIf ?_ | refine g_Asg ?_ | refine g_Sub ?_ | refine g_Par ?_ | refine g_Par3 ?_ | refine g_FSet ?_) | refine ⟨_, dGt_int _ _ _, ?_⟩ | refine ⟨_, dLt_int _ _ _, ?_⟩ | refine ⟨_, dLe_int _ _ _, ?_⟩ | refine ⟨_, dGe_int _ _ _, ?_⟩ | refine ⟨_, dEq_int _ _ _, ?_⟩ | refine ⟨_, dNe_int _ _ _, ?_⟩ | refine ⟨_, dAdd_int _ _ _, ?_⟩ | refine ⟨_, dSub_int _ _ _, ?_⟩ | refine ⟨_, rfl, ?_⟩)); try dsimp only))
        refine ⟨.int cell, by simp only [dIx, seqD]; exact hcell, ?_⟩
        (((repeat (first | refine g_v rfl ?_ | refine g_c ?_ | refine g_op2 ?_ | refine g_B ?_ | refine g_L ?_ | refine g_B1 ?_ | refine g_L1 ?_ | refine g_D ?_ | refine g_DN ?_ | refine g_nil ?_ | refine g_cons ?_ | refine g_tup ?_ | refine g_lst ?_ | refine g_newL ?_ | refine g_call ?_ | refine g_callP ?_ | refine g_make ?_ | refine g_fld ?_ | refine g_neg ?_ | refine g_tV ?_ | refine g_tAnd ?_ | refine g_tOr ?_ | refine g_tNot ?_ | refine g_tYes ?_ | refine g_And ?_ | refine g_Or ?_ | refine g_Not ?_ | refine g_If ?_ | refine g_Chain ?_ | refine g_App ?_ | refine g_Upd ?_ | refine g_Rev ?_ | refine g_DE ?_ | refine g_DEN ?_ | refine g_rg1 ?_ | refine g_LRg ?_ | refine g_TRg ?_ | refine g_Nil ?_ | refine g_Seq ?_ | refine g_Ret ?_ | refine g_Expr ?_ | refine g_sIf ?_ | refine g_Asg ?_ | refine g_Sub ?_ | refine g_Par ?_ | refine g_Par3 ?_ | refine g_FSet ?_)); try dsimp only))
        refine ⟨_, row_ix e1 rfl, ?_⟩
        (((repeat (first | refine g_v rfl ?_ | refine g_c ?_ | refine g_op2 ?_ | refine g_B ?_ | refine g_L ?_ | refine g_B1 ?_ | refine g_L1 ?_ | refine g_D ?_ | refine g_DN ?_ | refine g_nil ?_ | refine g_cons ?_ | refine g_tup ?_ | refine g_lst ?_ | refine g_newL ?_ | refine g_call ?_ | refine g_callP ?_ | refine g_make ?_ | refine g_fld ?_ | refine g_neg ?_ | refine g_tV ?_ | refine g_tAnd ?_ | refine g_tOr ?_ | refine g_tNot ?_ | refine g_tYes ?_ | refine g_And ?_ | refine g_Or ?_ | refine g_Not ?_ | refine g_If ?_ | refine g_Chain ?_ | refine g_App ?_ | refine g_Upd ?_ | refine g_Rev ?_ | refine g_DE ?_ | refine g_DEN ?_ | refine g_rg1 ?_ | refine g_LRg ?_ | refine g_TRg ?_ | refine g_Nil ?_ | refine g_Seq ?_ | refine g_Ret ?_ | refine g_Expr ?_ | refine g_sIf ?_ | refine g_Asg ?_ | refine g_Sub ?_ | refine g_Par ?_ | refine g_Par3 ?_ | refine g_FSet ?_)); try dsimp only))
        refine ⟨_, dMul_small _ _ _ (by decide), ?_⟩
        (((repeat (first | (first | refine g_v rfl ?_ | refine g_c ?_ | refine g_op2 ?_ | refine g_B ?_ | refine g_L ?_ | refine g_B1 ?_ | refine g_L1 ?_ | refine g_D ?_ | refine g_DN ?_ | refine g_nil ?_ | refine g_cons ?_ | refine g_tup ?_ | refine g_lst ?_ | refine g_newL ?_ | refine g_call ?_ | refine g_callP ?_ | refine g_make ?_ | refine g_fld ?_ | refine g_neg ?_ | refine g_tV ?_ | refine g_tAnd ?_ | refine g_tOr ?_ | refine g_tNot ?_ | refine g_tYes ?_ | refine g_And ?_ | refine g_Or ?_ | refine g_Not ?_ | refine g_If ?_ | refine g_Chain ?_ | refine g_App ?_ | refine g_Upd ?_ | refine g_Rev ?_ | refine g_DE ?_ | refine g_DEN ?_ | refine g_rg1 ?_ | refine g_LRg ?_ | refine g_TRg ?_ | refine g_Nil ?_ | refine g_Seq ?_ | refine g_Ret ?_ | refine g_Expr ?_ | refine g_sIf ?_ | refine g_Asg ?_ | refine g_Sub ?_ | refine g_Par ?_ | refine g_Par3 ?_ | refine g_FSet ?_) | refine ⟨_, dGt_int _ _ _, ?_⟩ | refine ⟨_, dLt_int _ _ _, ?_⟩ | refine ⟨_, dLe_int _ _ _, ?_⟩ | refine ⟨_, dGe_int _ _ _, ?_⟩ | refine ⟨_, dEq_int _ _ _, ?_⟩ | refine ⟨_, dNe_int _ _ _, ?_⟩ | refine ⟨_, dAdd_int _ _ _, ?_⟩ | refine ⟨_, dSub_int _ _ _, ?_⟩ | refine ⟨_, rfl, ?_⟩)); try dsimp only))
        refine ⟨_, row_put (j := 2) e1 rfl, ?_⟩
        have e2 : RowL (st1.set 0 (.lst ([D.scr ns, .int (i + 1), .int s, .int c].set 2 (.int ((s * 48271 + cell + 11).fmod 2147483647))))) ns (i + 1) _ c := set_row e1
        have t2 : Turned st1 (st1.set 0 (.lst ([D.scr ns, .int (i + 1), .int s, .int c].set 2 (.int ((s * 48271 + cell + 11).fmod 2147483647))))) := ⟨⟨ns, i + 1, _, c, e2, by omega⟩, by simp, fun m hm => set_other hm⟩
        generalize st1.set 0 (.lst ([D.scr ns, .int (i + 1), .int s, .int c].set 2 (.int ((s * 48271 + cell + 11).fmod 2147483647)))) = st2 at e2 t2 ⊢
        (((repeat (first | refine g_v rfl ?_ | refine g_c ?_ | refine g_op2 ?_ | refine g_B ?_ | refine g_L ?_ | refine g_B1 ?_ | refine g_L1 ?_ | refine g_D ?_ | refine g_DN ?_ | refine g_nil ?_ | refine g_cons ?_ | refine g_tup ?_ | refine g_lst ?_ | refine g_newL ?_ | refine g_call ?_ | refine g_callP ?_ | refine g_make ?_ | refine g_fld ?_ | refine g_neg ?_ | refine g_tV ?_ | refine g_tAnd ?_ | refine g_tOr ?_ | refine g_tNot ?_ | refine g_tYes ?_ | refine g_And ?_ | refine g_Or ?_ | refine g_Not ?_ | refine g_If ?_ | refine g_Chain ?_ | refine g_App ?_ | refine g_Upd ?_ | refine g_Rev ?_ | refine g_DE ?_ | refine g_DEN ?_ | refine g_rg1 ?_ | refine g_LRg ?_ | refine g_TRg ?_ | refine g_Nil ?_ | refine g_Seq ?_ | refine g_Ret ?_ | refine g_Expr ?_ | refine g_sIf ?_ | refine g_Asg ?_ | refine g_Sub ?_ | refine g_Par ?_ | refine g_Par3 ?_ | refine g_FSet ?_)); try dsimp only))
        refine ⟨.int (10 ^ 18), by rfl, ?_⟩
        (((repeat (first | (first | refine g_v rfl ?_ | refine g_c ?_ | refine g_op2 ?_ | refine g_B ?_ | refine g_L ?_ | refine g_B1 ?_ | refine g_L1 ?_ | refine g_D ?_ | refine g_DN ?_ | refine g_nil ?_ | refine g_cons ?_ | refine g_tup ?_ | refine g_lst ?_ | refine g_newL ?_ | refine g_call ?_ | refine g_callP ?_ | refine g_make ?_ | refine g_fld ?_ | refine g_neg ?_ | refine g_tV ?_ | refine g_tAnd ?_ | refine g_tOr ?_ | refine g_tNot ?_ | refine g_tYes ?_ | refine g_And ?_ | refine g_Or ?_ | refine g_Not ?_ | refine g_If ?_ | refine g_Chain ?_ | refine g_App ?_ | refine g_Upd ?_ | refine g_Rev ?_ | refine g_DE ?_ | refine g_DEN ?_ | refine g_rg1 ?_ | refine g_LRg ?_ | refine g_TRg ?_ | refine g_Nil ?_ | refine g_Seq ?_ | refine g_Ret ?_ | refine g_Expr ?_ | refine g_sIf ?_ | refine g_Asg ?_ | refine g_Sub ?_ | refine g_Par ?_ | refine g_Par3 ?_ | refine g_FSet ?_) | refine ⟨_, dGt_int _ _ _, ?_⟩ | refine ⟨_, dLt_int _ _ _, ?_⟩ | refine ⟨_, dLe_int _ _ _, ?_⟩ | refine ⟨_, dGe_int _ _ _, ?_⟩ | refine ⟨_, dEq_int _ _ _, ?_⟩ | refine ⟨_, dNe_int _ _ _, ?_⟩ | refine ⟨_, dAdd_int _ _ _, ?_⟩ | refine ⟨_, dSub_int _ _ _, ?_⟩ | refine ⟨_, rfl, ?_⟩)); try dsimp only))
        refine ⟨fun hc3 => ?_, fun hc3 => ?_⟩
        · (((repeat (first | refine g_v rfl ?_ | refine g_c ?_ | refine g_op2 ?_ | refine g_B ?_ | refine g_L ?_ | refine g_B1 ?_ | refine g_L1 ?_ | refine g_D ?_ | refine g_DN ?_ | refine g_nil ?_ | refine g_cons ?_ | refine g_tup ?_ | refine g_lst ?_ | refine g_newL ?_ | refine g_call ?_ | refine g_callP ?_ | refine g_make ?_ | refine g_fld ?_ | refine g_neg ?_ | refine g_tV ?_ | refine g_tAnd ?_ | refine g_tOr ?_ | refine g_tNot ?_ | refine g_tYes ?_ | refine g_And ?_ | refine g_Or ?_ | refine g_Not ?_ | refine g_If ?_ | refine g_Chain ?_ | refine g_App ?_ | refine g_Upd ?_ | refine g_Rev ?_ | refine g_DE ?_ | refine g_DEN ?_ | refine g_rg1 ?_ | refine g_LRg ?_ | refine g_TRg ?_ | refine g_Nil ?_ | refine g_Seq ?_ | refine g_Ret ?_ | refine g_Expr ?_ | refine g_sIf ?_ | refine g_Asg ?_ | refine g_Sub ?_ | refine g_Par ?_ | refine g_Par3 ?_ | refine g_FSet ?_)); try dsimp only))
          refine ⟨_, dDiv_int _ _ _ n0 nb, ?_⟩
          (((repeat (first | refine g_v rfl ?_ | refine g_c ?_ | refine g_op2 ?_ | refine g_B ?_ | refine g_L ?_ | refine g_B1 ?_ | refine g_L1 ?_ | refine g_D ?_ | refine g_DN ?_ | refine g_nil ?_ | refine g_cons ?_ | refine g_tup ?_ | refine g_lst ?_ | refine g_newL ?_ | refine g_call ?_ | refine g_callP ?_ | refine g_make ?_ | refine g_fld ?_ | refine g_neg ?_ | refine g_tV ?_ | refine g_tAnd ?_ | refine g_tOr ?_ | refine g_tNot ?_ | refine g_tYes ?_ | refine g_And ?_ | refine g_Or ?_ | refine g_Not ?_ | refine g_If ?_ | refine g_Chain ?_ | refine g_App ?_ | refine g_Upd ?_ | refine g_Rev ?_ | refine g_DE ?_ | refine g_DEN ?_ | refine g_rg1 ?_ | refine g_LRg ?_ | refine g_TRg ?_ | refine g_Nil ?_ | refine g_Seq ?_ | refine g_Ret ?_ | refine g_Expr ?_ | refine g_sIf ?_ | refine g_Asg ?_ | refine g_Sub ?_ | refine g_Par ?_ | refine g_Par3 ?_ | refine g_FSet ?_)); try dsimp only))
          refine ⟨_, row_put (j := 3) e2 rfl, ?_⟩
          (((repeat (first | (first | refine g_v rfl ?_ | refine g_c ?_ | refine g_op2 ?_ | refine g_B ?_ | refine g_L ?_ | refine g_B1 ?_ | refine g_L1 ?_ | refine g_D ?_ | refine g_DN ?_ | refine g_nil ?_ | refine g_cons ?_ | refine g_tup ?_ | refine g_lst ?_ | refine g_newL ?_ | refine g_call ?_ | refine g_callP ?_ | refine g_make ?_ | refine g_fld ?_ | refine g_neg ?_ | refine g_tV ?_ | refine g_tAnd ?_ | refine g_tOr ?_ | refine g_tNot ?_ | refine g_tYes ?_ | refine g_And ?_ | refine g_Or ?_ | refine g_Not ?_ | refine g_If ?_ | refine g_Chain ?_ | refine g_App ?_ | refine g_Upd ?_ | refine g_Rev ?_ | refine g_DE ?_ | refine g_DEN ?_ | refine g_rg1 ?_ | refine g_LRg ?_ | refine g_TRg ?_ | refine g_Nil ?_ | refine g_Seq ?_ | refine g_Ret ?_ | refine g_Expr ?_ | refine g_sIf ?_ | refine g_Asg ?_ | refine g_Sub ?_ | refine g_Par ?_ | refine g_Par3 ?_ | refine g_FSet ?_) | refine ⟨_, dGt_int _ _ _, ?_⟩ | refine ⟨_, dLt_int _ _ _, ?_⟩ | refine ⟨_, dLe_int _ _ _, ?_⟩ | refine ⟨_, dGe_int _ _ _, ?_⟩ | refine ⟨_, dEq_int _ _ _, ?_⟩ | refine ⟨_, dNe_int _ _ _, ?_⟩ | refine ⟨_, dAdd_int _ _ _, ?_⟩ | refine ⟨_, dSub_int _ _ _, ?_⟩ | refine ⟨_, rfl, ?_⟩)); try dsimp only))
          refine ⟨_, dMod_int _ _ _ n0, ?_⟩
          exact ⟨_, rfl, mod_range _ hn, t1.trans (t2.trans ⟨⟨ns, i + 1, _, _, set_row e2, by omega⟩, by simp, fun m hm => set_other hm⟩)⟩
        · (((repeat (first | (first | refine g_v rfl ?_ | refine g_c ?_ | refine g_op2 ?_ | refine g_B ?_ | refine g_L ?_ | refine g_B1 ?_ | refine g_L1 ?_ | refine g_D ?_ | refine g_DN ?_ | refine g_nil ?_ | refine g_cons ?_ | refine g_tup ?_ | refine g_lst ?_ | refine g_newL ?_ | refine g_call ?_ | refine g_callP ?_ | refine g_make ?_ | refine g_fld ?_ | refine g_neg ?_ | refine g_tV ?_ | refine g_tAnd ?_ | refine g_tOr ?_ | refine g_tNot ?_ | refine g_tYes ?_ | refine g_And ?_ | refine g_Or ?_ | refine g_Not ?_ | refine g_If ?_ | refine g_Chain ?_ | refine g_App ?_ | refine g_Upd ?_ | refine g_Rev ?_ | refine g_DE ?_ | refine g_DEN ?_ | refine g_rg1 ?_ | refine g_LRg ?_ | refine g_TRg ?_ | refine g_Nil ?_ | refine g_Seq ?_ | refine g_Ret ?_ | refine g_Expr ?_ | refine g_sIf ?_ | refine g_Asg ?_ | refine g_Sub ?_ | refine g_Par ?_ | refine g_Par3 ?_ | refine g_FSet ?_) | refine ⟨_, dGt_int _ _ _, ?_⟩ | refine ⟨_, dLt_int _ _ _, ?_⟩ | refine ⟨_, dLe_int _ _ _, ?_⟩ | refine ⟨_, dGe_int _ _ _, ?_⟩ | refine ⟨_, dEq_int _ _ _, ?_⟩ | refine ⟨_, dNe_int _ _ _, ?_⟩ | refine ⟨_, dAdd_int _ _ _, ?_⟩ | refine ⟨_, dSub_int _ _ _, ?_⟩ | refine ⟨_, rfl, ?_⟩)); try dsimp only))
          refine ⟨_, dMul_small _ _ _ (by decide), ?_⟩
          (((repeat (first | refine g_v rfl ?_ | refine g_c ?_ | refine g_op2 ?_ | refine g_B ?_ | refine g_L ?_ | refine g_B1 ?_ | refine g_L1 ?_ | refine g_D ?_ | refine g_DN ?_ | refine g_nil ?_ | refine g_cons ?_ | refine g_tup ?_ | refine g_lst ?_ | refine g_newL ?_ | refine g_call ?_ | refine g_callP ?_ | refine g_make ?_ | refine g_fld ?_ | refine g_neg ?_ | refine g_tV ?_ | refine g_tAnd ?_ | refine g_tOr ?_ | refine g_tNot ?_ | refine g_tYes ?_ | refine g_And ?_ | refine g_Or ?_ | refine g_Not ?_ | refine g_If ?_ | refine g_Chain ?_ | refine g_App ?_ | refine g_Upd ?_ | refine g_Rev ?_ | refine g_DE ?_ | refine g_DEN ?_ | refine g_rg1 ?_ | refine g_LRg ?_ | refine g_TRg ?_ | refine g_Nil ?_ | refine g_Seq ?_ | refine g_Ret ?_ | refine g_Expr ?_ | refine g_sIf ?_ | refine g_Asg ?_ | refine g_Sub ?_ | refine g_Par ?_ | refine g_Par3 ?_ | refine g_FSet ?_)); try dsimp only))
          refine ⟨_, row_ix e2 rfl, ?_⟩
          (((repeat (first | (first | refine g_v rfl ?_ | refine g_c ?_ | refine g_op2 ?_ | refine g_B ?_ | refine g_L ?_ | refine g_B1 ?_ | refine g_L1 ?_ | refine g_D ?_ | refine g_DN ?_ | refine g_nil ?_ | refine g_cons ?_ | refine g_tup ?_ | refine g_lst ?_ | refine g_newL ?_ | refine g_call ?_ | refine g_callP ?_ | refine g_make ?_ | refine g_fld ?_ | refine g_neg ?_ | refine g_tV ?_ | refine g_tAnd ?_ | refine g_tOr ?_ | refine g_tNot ?_ | refine g_tYes ?_ | refine g_And ?_ | refine g_Or ?_ | refine g_Not ?_ | refine g_If ?_ | refine g_Chain ?_ | refine g_App ?_ | refine g_Upd ?_ | refine g_Rev ?_ | refine g_DE ?_ | refine g_DEN ?_ | refine g_rg1 ?_ | refine g_LRg ?_ | refine g_TRg ?_ | refine g_Nil ?_ | refine g_Seq ?_ | refine g_Ret ?_ | refine g_Expr ?_ | refine g_sIf ?_ | refine g_Asg ?_ | refine g_Sub ?_ | refine g_Par ?_ | refine g_Par3 ?_ | refine g_FSet ?_) | refine ⟨_, dGt_int _ _ _, ?_⟩ | refine ⟨_, dLt_int _ _ _, ?_⟩ | refine ⟨_, dLe_int _ _ _, ?_⟩ | refine ⟨_, dGe_int _ _ _, ?_⟩ | refine ⟨_, dEq_int _ _ _, ?_⟩ | refine ⟨_, dNe_int _ _ _, ?_⟩ | refine ⟨_, dAdd_int _ _ _, ?_⟩ | refine ⟨_, dSub_int _ _ _, ?_⟩ | refine ⟨_, rfl, ?_⟩)); try dsimp only))
          refine ⟨_, dMod_int _ _ _ n0, ?_⟩
          exact ⟨_, rfl, mod_range _ hn, t1.trans t2⟩
  obtain ⟨⟨o, en, st2⟩, e2, k, e3, hk, ht⟩ := go
  refine ⟨(.int k, st2), ?_, ⟨k, rfl, hk⟩, ht⟩
  unfold m__law_taken mM env0
  show R.out (b__law_taken [some (.mref 0), some (.int n), none, none] st) = _
  simp only at e3
  rw [e2, e3]; rfl
/-- a draw, as a test: above zero -/
theorem taken_test {env : DEnv} {i : Nat} {n : Int} (he : env[i]? = some (some (.mref 0))) (hn : 0 < n) (hb : n < 1000000) (st : Store) (h : RowOk st) : (tV (eOp2 dGt (eCall m__law_taken (aCons (eV i) (aCons (eC (.int n)) aNil))) (eC (.int 0))) env st).Gives fun r => Turned st r.2 := by
  refine g_tV (g_op2 (g_call (g_cons (g_v he ?_))))
  (((repeat (first | refine g_v rfl ?_ | refine g_c ?_ | refine g_op2 ?_ | refine g_B ?_ | refine g_L ?_ | refine g_B1 ?_ | refine g_L1 ?_ | refine g_D ?_ | refine g_DN ?_ | refine g_nil ?_ | refine g_cons ?_ | refine g_tup ?_ | refine g_lst ?_ | refine g_newL ?_ | refine g_call ?_ | refine g_callP ?_ | refine g_make ?_ | refine g_fld ?_ | refine g_neg ?_ | refine g_tV ?_ | refine g_tAnd ?_ | refine g_tOr ?_ | refine g_tNot ?_ | refine g_tYes ?_ | refine g_And ?_ | refine g_Or ?_ | refine g_Not ?_ | refine g_If ?_ | refine g_Chain ?_ | refine g_App ?_ | refine g_Upd ?_ | refine g_Rev ?_ | refine g_DE ?_ | refine g_DEN ?_ | refine g_rg1 ?_ | refine g_LRg ?_ | refine g_TRg ?_ | refine g_Nil ?_ | refine g_Seq ?_ | refine g_Ret ?_ | refine g_Expr ?_ | refine g_sIf ?_ | refine g_Asg ?_ | refine g_Sub ?_ | refine g_Par ?_ | refine g_Par3 ?_ | refine g_FSet ?_)); try dsimp only))
  refine (taken_ok h hn hb).imp fun p ⟨⟨k, e, hk⟩, ht⟩ => ?_
  obtain ⟨d, s⟩ := p
  simp only at e
  subst e
  (((repeat (first | (first | refine g_v rfl ?_ | refine g_c ?_ | refine g_op2 ?_ | refine g_B ?_ | refine g_L ?_ | refine g_B1 ?_ | refine g_L1 ?_ | refine g_D ?_ | refine g_DN ?_ | refine g_nil ?_ | refine g_cons ?_ | refine g_tup ?_ | refine g_lst ?_ | refine g_newL ?_ | refine g_call ?_ | refine g_callP ?_ | refine g_make ?_ | refine g_fld ?_ | refine g_neg ?_ | refine g_tV ?_ | refine g_tAnd ?_ | refine g_tOr ?_ | refine g_tNot ?_ | refine g_tYes ?_ | refine g_And ?_ | refine g_Or ?_ | refine g_Not ?_ | refine g_If ?_ | refine g_Chain ?_ | refine g_App ?_ | refine g_Upd ?_ | refine g_Rev ?_ | refine g_DE ?_ | refine g_DEN ?_ | refine g_rg1 ?_ | refine g_LRg ?_ | refine g_TRg ?_ | refine g_Nil ?_ | refine g_Seq ?_ | refine g_Ret ?_ | refine g_Expr ?_ | refine g_sIf ?_ | refine g_Asg ?_ | refine g_Sub ?_ | refine g_Par ?_ | refine g_Par3 ?_ | refine g_FSet ?_) | refine ⟨_, dGt_int _ _ _, ?_⟩ | refine ⟨_, dLt_int _ _ _, ?_⟩ | refine ⟨_, dLe_int _ _ _, ?_⟩ | refine ⟨_, dGe_int _ _ _, ?_⟩ | refine ⟨_, dEq_int _ _ _, ?_⟩ | refine ⟨_, dNe_int _ _ _, ?_⟩ | refine ⟨_, dAdd_int _ _ _, ?_⟩ | refine ⟨_, dSub_int _ _ _, ?_⟩ | refine ⟨_, rfl, ?_⟩)); try dsimp only))
  exact ht
/-- tuple([k for k in range(n) if a draw is above zero]) -/
theorem drawn_sub {env : DEnv} {v r : Nat} {a : Ev} {n m : Int} {Q : D × Store → Prop} {st : Store} (h : RowOk st) (ha : (a env st).Gives fun p => p = (.int n, st)) (hn : 0 ≤ n ∧ n < 1000) (hm : 0 < m) (hb : m < 1000000) (hr : env[r]? = some (some (.mref 0))) (hvr : r ≠ v) (hv : v < env.length)
    (q : ∀ l st', Stand n l → Turned st st' → Q (intsT l, st')) : (eB bTup (aCons (eComp (iRng (aCons a aNil)) [v] (cV v) (tV (eOp2 dGt (eCall m__law_taken (aCons (eV r) (aCons (eC (.int m)) aNil))) (eC (.int 0)))) (eV v)) aNil) env st).Gives Q := by
  refine g_B (g_cons (g_compRI (I := fun s => Turned st s) (ha.imp fun p e => ?_)))
  subst e
  refine ⟨n, rfl, by omega, ?_, .refl h, fun d hd => ?_, fun sub st' ht hs => ?_⟩
  · have : LINE = 16777216 := rfl
    omega
  · have hw : (wipeE env [v])[r]? = some (some (.mref 0)) := by
      show (env.set v none)[r]? = _
      rw [List.getElem?_set_ne (Ne.symm hvr)]; exact hr
    have hl : v < (wipeE env [v]).length := by show v < (env.set v none).length; simpa using hv
    refine ⟨(wipeE env [v]).set v (some d), rfl, fun s hs => ?_⟩
    refine (taken_test (i := r) ?_ hm hb s hs.row).imp fun p hp => ⟨hs.trans hp, fun _ => ?_⟩
    · rw [List.getElem?_set_ne (Ne.symm hvr)]; exact hw
    · unfold eV
      rw [List.getElem?_set_self hl]
  · rw [rngL_ints] at hs
    obtain ⟨l', h1, rfl⟩ := sub_ints hs
    (((repeat (first | refine g_v rfl ?_ | refine g_c ?_ | refine g_op2 ?_ | refine g_B ?_ | refine g_L ?_ | refine g_B1 ?_ | refine g_L1 ?_ | refine g_D ?_ | refine g_DN ?_ | refine g_nil ?_ | refine g_cons ?_ | refine g_tup ?_ | refine g_lst ?_ | refine g_newL ?_ | refine g_call ?_ | refine g_callP ?_ | refine g_make ?_ | refine g_fld ?_ | refine g_neg ?_ | refine g_tV ?_ | refine g_tAnd ?_ | refine g_tOr ?_ | refine g_tNot ?_ | refine g_tYes ?_ | refine g_And ?_ | refine g_Or ?_ | refine g_Not ?_ | refine g_If ?_ | refine g_Chain ?_ | refine g_App ?_ | refine g_Upd ?_ | refine g_Rev ?_ | refine g_DE ?_ | refine g_DEN ?_ | refine g_rg1 ?_ | refine g_LRg ?_ | refine g_TRg ?_ | refine g_Nil ?_ | refine g_Seq ?_ | refine g_Ret ?_ | refine g_Expr ?_ | refine g_sIf ?_ | refine g_Asg ?_ | refine g_Sub ?_ | refine g_Par ?_ | refine g_Par3 ?_ | refine g_FSet ?_)); try dsimp only))
    exact ⟨intsT l', rfl, q l' st' (stand_of h1) ht⟩
theorem draw_pegs_ok {st : Store} (h : RowOk st) {n : Int} (hn : 0 ≤ n ∧ n < 1000) : (m__law_draw_pegs [.mref 0, .int n] st).Gives fun p => ∃ l, p.1 = intsT l ∧ Stand n l ∧ Turned st p.2 := by
  refine mM_of ?_
  unfold b__law_draw_pegs
  refine g_Ret (drawn_sub (n := n) h ?_ hn (by decide) (by decide) rfl (by decide) (by simp [env0]) fun l st' hl ht => ?_)
  · (((repeat (first | refine g_v rfl ?_ | refine g_c ?_ | refine g_op2 ?_ | refine g_B ?_ | refine g_L ?_ | refine g_B1 ?_ | refine g_L1 ?_ | refine g_D ?_ | refine g_DN ?_ | refine g_nil ?_ | refine g_cons ?_ | refine g_tup ?_ | refine g_lst ?_ | refine g_newL ?_ | refine g_call ?_ | refine g_callP ?_ | refine g_make ?_ | refine g_fld ?_ | refine g_neg ?_ | refine g_tV ?_ | refine g_tAnd ?_ | refine g_tOr ?_ | refine g_tNot ?_ | refine g_tYes ?_ | refine g_And ?_ | refine g_Or ?_ | refine g_Not ?_ | refine g_If ?_ | refine g_Chain ?_ | refine g_App ?_ | refine g_Upd ?_ | refine g_Rev ?_ | refine g_DE ?_ | refine g_DEN ?_ | refine g_rg1 ?_ | refine g_LRg ?_ | refine g_TRg ?_ | refine g_Nil ?_ | refine g_Seq ?_ | refine g_Ret ?_ | refine g_Expr ?_ | refine g_sIf ?_ | refine g_Asg ?_ | refine g_Sub ?_ | refine g_Par ?_ | refine g_Par3 ?_ | refine g_FSet ?_)); try dsimp only))
  · exact ⟨l, rfl, hl, ht⟩
end Px
set_option maxRecDepth 100000
/-! Lb: boards are drawn. -/
namespace Px
open PySem PySem.Spec
/-- a turn of the inner loop -/
theorem inner_turn {e1 e2 e3 e4 e5 e8 e9 : Option D} {st : Store} {n : Int} {rest leap : List Int} (hr : RowOk st) (h : Half n rest leap) (hn : n ≤ 12) (hl : leap.length < 3) (hn3 : 3 ≤ n) :
    (sSeq (sAsg (eOp2 dAdd (eV 7) (eLst (aCons (eOp2 dIx (eV 6) (eCall m__law_taken (aCons (eV 0) (aCons (eB bLen (aCons (eV 6) aNil)) aNil)))) aNil))) (gV 7))
      (sAsg (eComp (iSeq (eV 6)) [9] (cV 9) (tV (eOp2 dNotIn (eV 9) (eV 7))) (eV 9)) (gV 6)) [some (.mref 0), e1, e2, e3, e4, e5, some (lstI rest), some (lstI leap), e8, e9] st).Gives fun p => ∃ rest' leap' st', p = (.nx, [some (.mref 0), e1, e2, e3, e4, e5, some (lstI rest'), some (lstI leap'), e8, e9], st') ∧ Half n rest' leap' ∧ leap'.length = leap.length + 1 ∧ Turned st st' := by
  have hlen := h.len
  (((repeat (first | refine g_v rfl ?_ | refine g_c ?_ | refine g_op2 ?_ | refine g_B ?_ | refine g_L ?_ | refine g_B1 ?_ | refine g_L1 ?_ | refine g_D ?_ | refine g_DN ?_ | refine g_nil ?_ | refine g_cons ?_ | refine g_tup ?_ | refine g_lst ?_ | refine g_newL ?_ | refine g_call ?_ | refine g_callP ?_ | refine g_make ?_ | refine g_fld ?_ | refine g_neg ?_ | refine g_tV ?_ | refine g_tAnd ?_ | refine g_tOr ?_ | refine g_tNot ?_ | refine g_tYes ?_ | refine g_And ?_ | refine g_Or ?_ | refine g_Not ?_ | refine g_If ?_ | refine g_Chain ?_ | refine g_App ?_ | refine g_Upd ?_ | refine g_Rev ?_ | refine g_DE ?_ | refine g_DEN ?_ | refine g_rg1 ?_ | refine g_LRg ?_ | refine g_TRg ?_ | refine g_Nil ?_ | refine g_Seq ?_ | refine g_Ret ?_ | refine g_Expr ?_ | refine g_sIf ?_ | refine g_Asg ?_ | refine g_Sub ?_ | refine g_Par ?_ | refine g_Par3 ?_ | refine g_FSet ?_)); try dsimp only))
  refine ⟨_, lstI_len _ _ (by omega), ?_⟩
  (((repeat (first | refine g_v rfl ?_ | refine g_c ?_ | refine g_op2 ?_ | refine g_B ?_ | refine g_L ?_ | refine g_B1 ?_ | refine g_L1 ?_ | refine g_D ?_ | refine g_DN ?_ | refine g_nil ?_ | refine g_cons ?_ | refine g_tup ?_ | refine g_lst ?_ | refine g_newL ?_ | refine g_call ?_ | refine g_callP ?_ | refine g_make ?_ | refine g_fld ?_ | refine g_neg ?_ | refine g_tV ?_ | refine g_tAnd ?_ | refine g_tOr ?_ | refine g_tNot ?_ | refine g_tYes ?_ | refine g_And ?_ | refine g_Or ?_ | refine g_Not ?_ | refine g_If ?_ | refine g_Chain ?_ | refine g_App ?_ | refine g_Upd ?_ | refine g_Rev ?_ | refine g_DE ?_ | refine g_DEN ?_ | refine g_rg1 ?_ | refine g_LRg ?_ | refine g_TRg ?_ | refine g_Nil ?_ | refine g_Seq ?_ | refine g_Ret ?_ | refine g_Expr ?_ | refine g_sIf ?_ | refine g_Asg ?_ | refine g_Sub ?_ | refine g_Par ?_ | refine g_Par3 ?_ | refine g_FSet ?_)); try dsimp only))
  refine (taken_ok hr (by omega) (by omega)).imp fun p ⟨⟨k, e, hk⟩, ht⟩ => ?_
  obtain ⟨d, s⟩ := p
  simp only at e ht
  subst e
  have hkl : k.toNat < rest.length := by omega
  refine ⟨_, ix_lstI hk.1 (List.getElem?_eq_getElem hkl), ?_⟩
  (((repeat (first | refine g_v rfl ?_ | refine g_c ?_ | refine g_op2 ?_ | refine g_B ?_ | refine g_L ?_ | refine g_B1 ?_ | refine g_L1 ?_ | refine g_D ?_ | refine g_DN ?_ | refine g_nil ?_ | refine g_cons ?_ | refine g_tup ?_ | refine g_lst ?_ | refine g_newL ?_ | refine g_call ?_ | refine g_callP ?_ | refine g_make ?_ | refine g_fld ?_ | refine g_neg ?_ | refine g_tV ?_ | refine g_tAnd ?_ | refine g_tOr ?_ | refine g_tNot ?_ | refine g_tYes ?_ | refine g_And ?_ | refine g_Or ?_ | refine g_Not ?_ | refine g_If ?_ | refine g_Chain ?_ | refine g_App ?_ | refine g_Upd ?_ | refine g_Rev ?_ | refine g_DE ?_ | refine g_DEN ?_ | refine g_rg1 ?_ | refine g_LRg ?_ | refine g_TRg ?_ | refine g_Nil ?_ | refine g_Seq ?_ | refine g_Ret ?_ | refine g_Expr ?_ | refine g_sIf ?_ | refine g_Asg ?_ | refine g_Sub ?_ | refine g_Par ?_ | refine g_Par3 ?_ | refine g_FSet ?_)); try dsimp only))
  have hx : rest[k.toNat] ∈ rest := List.getElem_mem hkl
  generalize rest[k.toNat] = x at hx ⊢
  refine ⟨by have : LINE = 16777216 := rfl; simp; omega, _, dAdd_lst _ _ _ (by have : LINE = 16777216 := rfl; simp; omega), ?_⟩
  (((repeat (first | refine g_v rfl ?_ | refine g_c ?_ | refine g_op2 ?_ | refine g_B ?_ | refine g_L ?_ | refine g_B1 ?_ | refine g_L1 ?_ | refine g_D ?_ | refine g_DN ?_ | refine g_nil ?_ | refine g_cons ?_ | refine g_tup ?_ | refine g_lst ?_ | refine g_newL ?_ | refine g_call ?_ | refine g_callP ?_ | refine g_make ?_ | refine g_fld ?_ | refine g_neg ?_ | refine g_tV ?_ | refine g_tAnd ?_ | refine g_tOr ?_ | refine g_tNot ?_ | refine g_tYes ?_ | refine g_And ?_ | refine g_Or ?_ | refine g_Not ?_ | refine g_If ?_ | refine g_Chain ?_ | refine g_App ?_ | refine g_Upd ?_ | refine g_Rev ?_ | refine g_DE ?_ | refine g_DEN ?_ | refine g_rg1 ?_ | refine g_LRg ?_ | refine g_TRg ?_ | refine g_Nil ?_ | refine g_Seq ?_ | refine g_Ret ?_ | refine g_Expr ?_ | refine g_sIf ?_ | refine g_Asg ?_ | refine g_Sub ?_ | refine g_Par ?_ | refine g_Par3 ?_ | refine g_FSet ?_)); try dsimp only))
  refine comp_notIn (l := rest) (m := leap ++ [x]) rfl rfl (by simp [seqD]) (by decide) (by simp) (by omega) ?_
  refine ⟨_, leap ++ [x], s, ?_, half_step h hx, by simp, ht⟩
  simp
/-- one leap more -/
theorem outer_turn {e1 e3 e6 e7 e8 e9 : Option D} {st : Store} {n : Int} {L : List (List Int)} {k : D} (hr : RowOk st) (hn : n ≤ 12) (hn3 : 3 ≤ n) (hL : L.length < 60) (hleap : ∀ l ∈ L, Leap n l) :
    (sSeq (sAsg (eLRg (rg1 (eV 2))) (gV 6))
      (sSeq (sAsg (eLst aNil) (gV 7))
      (sSeq (sFor (iRng (aCons (eC (.int 3)) aNil)) (gV 8) (sSeq (sAsg (eOp2 dAdd (eV 7) (eLst (aCons (eOp2 dIx (eV 6) (eCall m__law_taken (aCons (eV 0) (aCons (eB bLen (aCons (eV 6) aNil)) aNil)))) aNil))) (gV 7))
        (sAsg (eComp (iSeq (eV 6)) [9] (cV 9) (tV (eOp2 dNotIn (eV 9) (eV 7))) (eV 9)) (gV 6))))
      (sAsg (eOp2 dAdd (eV 4) (eLst (aCons (eB bTup (aCons (eV 7) aNil)) aNil))) (gV 4)))) [some (.mref 0), e1, some (.int n), e3, some (.lst (L.map intsT)), some k, e6, e7, e8, e9] st).Gives fun p => ∃ l e6 e7 e8 e9 st', p = (.nx, [some (.mref 0), e1, some (.int n), e3, some (.lst ((L ++ [l]).map intsT)), some k, e6, e7, e8, e9], st') ∧ Leap n l ∧ Turned st st' := by
  (((repeat (first | refine g_v rfl ?_ | refine g_c ?_ | refine g_op2 ?_ | refine g_B ?_ | refine g_L ?_ | refine g_B1 ?_ | refine g_L1 ?_ | refine g_D ?_ | refine g_DN ?_ | refine g_nil ?_ | refine g_cons ?_ | refine g_tup ?_ | refine g_lst ?_ | refine g_newL ?_ | refine g_call ?_ | refine g_callP ?_ | refine g_make ?_ | refine g_fld ?_ | refine g_neg ?_ | refine g_tV ?_ | refine g_tAnd ?_ | refine g_tOr ?_ | refine g_tNot ?_ | refine g_tYes ?_ | refine g_And ?_ | refine g_Or ?_ | refine g_Not ?_ | refine g_If ?_ | refine g_Chain ?_ | refine g_App ?_ | refine g_Upd ?_ | refine g_Rev ?_ | refine g_DE ?_ | refine g_DEN ?_ | refine g_rg1 ?_ | refine g_LRg ?_ | refine g_TRg ?_ | refine g_Nil ?_ | refine g_Seq ?_ | refine g_Ret ?_ | refine g_Expr ?_ | refine g_sIf ?_ | refine g_Asg ?_ | refine g_Sub ?_ | refine g_Par ?_ | refine g_Par3 ?_ | refine g_FSet ?_)); try dsimp only))
  refine ⟨n, rfl, by unfold rgOkB; exact decide_eq_true (by omega), ?_⟩
  (((repeat (first | refine g_v rfl ?_ | refine g_c ?_ | refine g_op2 ?_ | refine g_B ?_ | refine g_L ?_ | refine g_B1 ?_ | refine g_L1 ?_ | refine g_D ?_ | refine g_DN ?_ | refine g_nil ?_ | refine g_cons ?_ | refine g_tup ?_ | refine g_lst ?_ | refine g_newL ?_ | refine g_call ?_ | refine g_callP ?_ | refine g_make ?_ | refine g_fld ?_ | refine g_neg ?_ | refine g_tV ?_ | refine g_tAnd ?_ | refine g_tOr ?_ | refine g_tNot ?_ | refine g_tYes ?_ | refine g_And ?_ | refine g_Or ?_ | refine g_Not ?_ | refine g_If ?_ | refine g_Chain ?_ | refine g_App ?_ | refine g_Upd ?_ | refine g_Rev ?_ | refine g_DE ?_ | refine g_DEN ?_ | refine g_rg1 ?_ | refine g_LRg ?_ | refine g_TRg ?_ | refine g_Nil ?_ | refine g_Seq ?_ | refine g_Ret ?_ | refine g_Expr ?_ | refine g_sIf ?_ | refine g_Asg ?_ | refine g_Sub ?_ | refine g_Par ?_ | refine g_Par3 ?_ | refine g_FSet ?_)); try dsimp only))
  refine g_For (g_iRng (g_c ⟨3, rfl, by omega, ?_⟩))
  refine forN_gives (I := fun r env s => ∃ rest leap e8, env = [some (.mref 0), e1, some (.int n), e3, some (.lst (L.map intsT)), some k, some (lstI rest), some (lstI leap), e8, e9] ∧ Half n rest leap ∧ leap.length + r.length = 3 ∧ Turned st s) (fun d r env s hI => ?_) (fun env s hI => ?_) _ _ _ ?_
  · obtain ⟨rest, leap, e8, rfl, hh, hl, ht⟩ := hI
    refine ⟨rfl, g_gV ?_⟩
    simp only [List.length_cons] at hl
    refine (inner_turn ht.row hh hn (by omega) hn3).imp fun p ⟨rest', leap', st', e, h2, h3, h4⟩ => ?_
    subst e
    exact ⟨rest', leap', _, rfl, h2, by omega, ht.trans h4⟩
  · obtain ⟨rest, leap, e8, rfl, hh, hl, ht⟩ := hI
    refine ⟨rfl, ?_⟩
    (((repeat (first | refine g_v rfl ?_ | refine g_c ?_ | refine g_op2 ?_ | refine g_B ?_ | refine g_L ?_ | refine g_B1 ?_ | refine g_L1 ?_ | refine g_D ?_ | refine g_DN ?_ | refine g_nil ?_ | refine g_cons ?_ | refine g_tup ?_ | refine g_lst ?_ | refine g_newL ?_ | refine g_call ?_ | refine g_callP ?_ | refine g_make ?_ | refine g_fld ?_ | refine g_neg ?_ | refine g_tV ?_ | refine g_tAnd ?_ | refine g_tOr ?_ | refine g_tNot ?_ | refine g_tYes ?_ | refine g_And ?_ | refine g_Or ?_ | refine g_Not ?_ | refine g_If ?_ | refine g_Chain ?_ | refine g_App ?_ | refine g_Upd ?_ | refine g_Rev ?_ | refine g_DE ?_ | refine g_DEN ?_ | refine g_rg1 ?_ | refine g_LRg ?_ | refine g_TRg ?_ | refine g_Nil ?_ | refine g_Seq ?_ | refine g_Ret ?_ | refine g_Expr ?_ | refine g_sIf ?_ | refine g_Asg ?_ | refine g_Sub ?_ | refine g_Par ?_ | refine g_Par3 ?_ | refine g_FSet ?_)); try dsimp only))
    refine ⟨intsT leap, rfl, ?_⟩
    (((repeat (first | refine g_v rfl ?_ | refine g_c ?_ | refine g_op2 ?_ | refine g_B ?_ | refine g_L ?_ | refine g_B1 ?_ | refine g_L1 ?_ | refine g_D ?_ | refine g_DN ?_ | refine g_nil ?_ | refine g_cons ?_ | refine g_tup ?_ | refine g_lst ?_ | refine g_newL ?_ | refine g_call ?_ | refine g_callP ?_ | refine g_make ?_ | refine g_fld ?_ | refine g_neg ?_ | refine g_tV ?_ | refine g_tAnd ?_ | refine g_tOr ?_ | refine g_tNot ?_ | refine g_tYes ?_ | refine g_And ?_ | refine g_Or ?_ | refine g_Not ?_ | refine g_If ?_ | refine g_Chain ?_ | refine g_App ?_ | refine g_Upd ?_ | refine g_Rev ?_ | refine g_DE ?_ | refine g_DEN ?_ | refine g_rg1 ?_ | refine g_LRg ?_ | refine g_TRg ?_ | refine g_Nil ?_ | refine g_Seq ?_ | refine g_Ret ?_ | refine g_Expr ?_ | refine g_sIf ?_ | refine g_Asg ?_ | refine g_Sub ?_ | refine g_Par ?_ | refine g_Par3 ?_ | refine g_FSet ?_)); try dsimp only))
    refine ⟨by have : LINE = 16777216 := rfl; simp; omega, _, dAdd_lst _ _ _ (by have : LINE = 16777216 := rfl; simp; omega), ?_⟩
    have hl3 : leap.length = 3 := by simpa using hl
    exact ⟨leap, some (lstI rest), some (lstI leap), e8, e9, s, by simp, leap_of_half hh hl3, ht⟩
  · exact ⟨upto n, [], e8, by simp [rngL_ints], half_start (by omega), by simp [rngL], .refl hr⟩
theorem draw_parts_ok {st : Store} (h : RowOk st) {most : Int} (hm : 3 ≤ most) (hm2 : most ≤ 12) : (m__law_draw_parts [.mref 0, .int most] st).Gives fun p => ∃ n L, p.1 = partsD n L ∧ Parts n L ∧ n ≤ most ∧ Turned st p.2 := by
  have hLINE : LINE = 16777216 := rfl
  refine mM_of ?_
  show (b__law_draw_parts [some (.mref 0), some (.int most), none, none, none, none, none, none, none, none] st).Gives _
  unfold b__law_draw_parts
  (((repeat (first | (first | refine g_v rfl ?_ | refine g_c ?_ | refine g_op2 ?_ | refine g_B ?_ | refine g_L ?_ | refine g_B1 ?_ | refine g_L1 ?_ | refine g_D ?_ | refine g_DN ?_ | refine g_nil ?_ | refine g_cons ?_ | refine g_tup ?_ | refine g_lst ?_ | refine g_newL ?_ | refine g_call ?_ | refine g_callP ?_ | refine g_make ?_ | refine g_fld ?_ | refine g_neg ?_ | refine g_tV ?_ | refine g_tAnd ?_ | refine g_tOr ?_ | refine g_tNot ?_ | refine g_tYes ?_ | refine g_And ?_ | refine g_Or ?_ | refine g_Not ?_ | refine g_If ?_ | refine g_Chain ?_ | refine g_App ?_ | refine g_Upd ?_ | refine g_Rev ?_ | refine g_DE ?_ | refine g_DEN ?_ | refine g_rg1 ?_ | refine g_LRg ?_ | refine g_TRg ?_ | refine g_Nil ?_ | refine g_Seq ?_ | refine g_Ret ?_ | refine g_Expr ?_ | refine g_sIf ?_ | refine g_Asg ?_ | refine g_Sub ?_ | refine g_Par ?_ | refine g_Par3 ?_ | refine g_FSet ?_) | refine ⟨_, dGt_int _ _ _, ?_⟩ | refine ⟨_, dLt_int _ _ _, ?_⟩ | refine ⟨_, dLe_int _ _ _, ?_⟩ | refine ⟨_, dGe_int _ _ _, ?_⟩ | refine ⟨_, dEq_int _ _ _, ?_⟩ | refine ⟨_, dNe_int _ _ _, ?_⟩ | refine ⟨_, dAdd_int _ _ _, ?_⟩ | refine ⟨_, dSub_int _ _ _, ?_⟩ | refine ⟨_, rfl, ?_⟩)); try dsimp only))
  refine (taken_ok h (by omega) (by omega)).imp fun p ⟨⟨k, e, hk⟩, ht⟩ => ?_
  obtain ⟨d, s⟩ := p
  simp only at e ht
  subst e
  (((repeat (first | (first | refine g_v rfl ?_ | refine g_c ?_ | refine g_op2 ?_ | refine g_B ?_ | refine g_L ?_ | refine g_B1 ?_ | refine g_L1 ?_ | refine g_D ?_ | refine g_DN ?_ | refine g_nil ?_ | refine g_cons ?_ | refine g_tup ?_ | refine g_lst ?_ | refine g_newL ?_ | refine g_call ?_ | refine g_callP ?_ | refine g_make ?_ | refine g_fld ?_ | refine g_neg ?_ | refine g_tV ?_ | refine g_tAnd ?_ | refine g_tOr ?_ | refine g_tNot ?_ | refine g_tYes ?_ | refine g_And ?_ | refine g_Or ?_ | refine g_Not ?_ | refine g_If ?_ | refine g_Chain ?_ | refine g_App ?_ | refine g_Upd ?_ | refine g_Rev ?_ | refine g_DE ?_ | refine g_DEN ?_ | refine g_rg1 ?_ | refine g_LRg ?_ | refine g_TRg ?_ | refine g_Nil ?_ | refine g_Seq ?_ | refine g_Ret ?_ | refine g_Expr ?_ | refine g_sIf ?_ | refine g_Asg ?_ | refine g_Sub ?_ | refine g_Par ?_ | refine g_Par3 ?_ | refine g_FSet ?_) | refine ⟨_, dGt_int _ _ _, ?_⟩ | refine ⟨_, dLt_int _ _ _, ?_⟩ | refine ⟨_, dLe_int _ _ _, ?_⟩ | refine ⟨_, dGe_int _ _ _, ?_⟩ | refine ⟨_, dEq_int _ _ _, ?_⟩ | refine ⟨_, dNe_int _ _ _, ?_⟩ | refine ⟨_, dAdd_int _ _ _, ?_⟩ | refine ⟨_, dSub_int _ _ _, ?_⟩ | refine ⟨_, rfl, ?_⟩)); try dsimp only))
  refine (taken_ok ht.row (by omega) (by omega)).imp fun p ⟨⟨k2, e, hk2⟩, ht2⟩ => ?_
  obtain ⟨d, s2⟩ := p
  simp only at e ht2
  subst e
  (((repeat (first | (first | refine g_v rfl ?_ | refine g_c ?_ | refine g_op2 ?_ | refine g_B ?_ | refine g_L ?_ | refine g_B1 ?_ | refine g_L1 ?_ | refine g_D ?_ | refine g_DN ?_ | refine g_nil ?_ | refine g_cons ?_ | refine g_tup ?_ | refine g_lst ?_ | refine g_newL ?_ | refine g_call ?_ | refine g_callP ?_ | refine g_make ?_ | refine g_fld ?_ | refine g_neg ?_ | refine g_tV ?_ | refine g_tAnd ?_ | refine g_tOr ?_ | refine g_tNot ?_ | refine g_tYes ?_ | refine g_And ?_ | refine g_Or ?_ | refine g_Not ?_ | refine g_If ?_ | refine g_Chain ?_ | refine g_App ?_ | refine g_Upd ?_ | refine g_Rev ?_ | refine g_DE ?_ | refine g_DEN ?_ | refine g_rg1 ?_ | refine g_LRg ?_ | refine g_TRg ?_ | refine g_Nil ?_ | refine g_Seq ?_ | refine g_Ret ?_ | refine g_Expr ?_ | refine g_sIf ?_ | refine g_Asg ?_ | refine g_Sub ?_ | refine g_Par ?_ | refine g_Par3 ?_ | refine g_FSet ?_) | refine ⟨_, dGt_int _ _ _, ?_⟩ | refine ⟨_, dLt_int _ _ _, ?_⟩ | refine ⟨_, dLe_int _ _ _, ?_⟩ | refine ⟨_, dGe_int _ _ _, ?_⟩ | refine ⟨_, dEq_int _ _ _, ?_⟩ | refine ⟨_, dNe_int _ _ _, ?_⟩ | refine ⟨_, dAdd_int _ _ _, ?_⟩ | refine ⟨_, dSub_int _ _ _, ?_⟩ | refine ⟨_, rfl, ?_⟩)); try dsimp only))
  have ht3 := ht.trans ht2
  have hn : 3 ≤ 3 + k ∧ 3 + k ≤ most := by omega
  generalize 3 + k = n at hn ⊢
  refine ⟨fun hc => ?_, fun hc => ?_⟩
  · refine g_Seq (g_Asg (g_compR ?_))
    (((repeat (first | (first | refine g_v rfl ?_ | refine g_c ?_ | refine g_op2 ?_ | refine g_B ?_ | refine g_L ?_ | refine g_B1 ?_ | refine g_L1 ?_ | refine g_D ?_ | refine g_DN ?_ | refine g_nil ?_ | refine g_cons ?_ | refine g_tup ?_ | refine g_lst ?_ | refine g_newL ?_ | refine g_call ?_ | refine g_callP ?_ | refine g_make ?_ | refine g_fld ?_ | refine g_neg ?_ | refine g_tV ?_ | refine g_tAnd ?_ | refine g_tOr ?_ | refine g_tNot ?_ | refine g_tYes ?_ | refine g_And ?_ | refine g_Or ?_ | refine g_Not ?_ | refine g_If ?_ | refine g_Chain ?_ | refine g_App ?_ | refine g_Upd ?_ | refine g_Rev ?_ | refine g_DE ?_ | refine g_DEN ?_ | refine g_rg1 ?_ | refine g_LRg ?_ | refine g_TRg ?_ | refine g_Nil ?_ | refine g_Seq ?_ | refine g_Ret ?_ | refine g_Expr ?_ | refine g_sIf ?_ | refine g_Asg ?_ | refine g_Sub ?_ | refine g_Par ?_ | refine g_Par3 ?_ | refine g_FSet ?_) | refine ⟨_, dGt_int _ _ _, ?_⟩ | refine ⟨_, dLt_int _ _ _, ?_⟩ | refine ⟨_, dLe_int _ _ _, ?_⟩ | refine ⟨_, dGe_int _ _ _, ?_⟩ | refine ⟨_, dEq_int _ _ _, ?_⟩ | refine ⟨_, dNe_int _ _ _, ?_⟩ | refine ⟨_, dAdd_int _ _ _, ?_⟩ | refine ⟨_, dSub_int _ _ _, ?_⟩ | refine ⟨_, rfl, ?_⟩)); try dsimp only))
    refine ⟨by omega, fun _ => true, fun d => match d with
      | .int k => intsT [k, k + 1, k + 2]
      | x => x, fun d hd => ?_, ?_, ?_⟩
    · rw [rngL_ints] at hd
      obtain ⟨k, hk, rfl⟩ := List.mem_map.mp hd
      refine ⟨_, rfl, g_tYes rfl, fun _ => ?_⟩
      (((repeat (first | (first | refine g_v rfl ?_ | refine g_c ?_ | refine g_op2 ?_ | refine g_B ?_ | refine g_L ?_ | refine g_B1 ?_ | refine g_L1 ?_ | refine g_D ?_ | refine g_DN ?_ | refine g_nil ?_ | refine g_cons ?_ | refine g_tup ?_ | refine g_lst ?_ | refine g_newL ?_ | refine g_call ?_ | refine g_callP ?_ | refine g_make ?_ | refine g_fld ?_ | refine g_neg ?_ | refine g_tV ?_ | refine g_tAnd ?_ | refine g_tOr ?_ | refine g_tNot ?_ | refine g_tYes ?_ | refine g_And ?_ | refine g_Or ?_ | refine g_Not ?_ | refine g_If ?_ | refine g_Chain ?_ | refine g_App ?_ | refine g_Upd ?_ | refine g_Rev ?_ | refine g_DE ?_ | refine g_DEN ?_ | refine g_rg1 ?_ | refine g_LRg ?_ | refine g_TRg ?_ | refine g_Nil ?_ | refine g_Seq ?_ | refine g_Ret ?_ | refine g_Expr ?_ | refine g_sIf ?_ | refine g_Asg ?_ | refine g_Sub ?_ | refine g_Par ?_ | refine g_Par3 ?_ | refine g_FSet ?_) | refine ⟨_, dGt_int _ _ _, ?_⟩ | refine ⟨_, dLt_int _ _ _, ?_⟩ | refine ⟨_, dLe_int _ _ _, ?_⟩ | refine ⟨_, dGe_int _ _ _, ?_⟩ | refine ⟨_, dEq_int _ _ _, ?_⟩ | refine ⟨_, dNe_int _ _ _, ?_⟩ | refine ⟨_, dAdd_int _ _ _, ?_⟩ | refine ⟨_, dSub_int _ _ _, ?_⟩ | refine ⟨_, rfl, ?_⟩)); try dsimp only))
      exact ⟨show 3 ≤ LINE by omega, rfl⟩
    · rw [List.length_map]
      refine Nat.le_trans (List.length_filter_le _ _) ?_
      rw [rngL_ints, List.length_map]
      unfold upto
      simp
      omega
    · have e1 : (List.filter (fun _ => true) (rngL 0 (n - 2))).map (fun d => match d with
          | .int k => intsT [k, k + 1, k + 2]
          | x => x) = (along n).map intsT := by
        rw [rngL_ints, List.filter_eq_self.mpr (fun _ _ => rfl), List.map_map]
        unfold along
        rw [List.map_map]
        rfl
      rw [e1]
      (((repeat (first | refine g_v rfl ?_ | refine g_c ?_ | refine g_op2 ?_ | refine g_B ?_ | refine g_L ?_ | refine g_B1 ?_ | refine g_L1 ?_ | refine g_D ?_ | refine g_DN ?_ | refine g_nil ?_ | refine g_cons ?_ | refine g_tup ?_ | refine g_lst ?_ | refine g_newL ?_ | refine g_call ?_ | refine g_callP ?_ | refine g_make ?_ | refine g_fld ?_ | refine g_neg ?_ | refine g_tV ?_ | refine g_tAnd ?_ | refine g_tOr ?_ | refine g_tNot ?_ | refine g_tYes ?_ | refine g_And ?_ | refine g_Or ?_ | refine g_Not ?_ | refine g_If ?_ | refine g_Chain ?_ | refine g_App ?_ | refine g_Upd ?_ | refine g_Rev ?_ | refine g_DE ?_ | refine g_DEN ?_ | refine g_rg1 ?_ | refine g_LRg ?_ | refine g_TRg ?_ | refine g_Nil ?_ | refine g_Seq ?_ | refine g_Ret ?_ | refine g_Expr ?_ | refine g_sIf ?_ | refine g_Asg ?_ | refine g_Sub ?_ | refine g_Par ?_ | refine g_Par3 ?_ | refine g_FSet ?_)); try dsimp only))
      refine g_compS (g_v rfl ⟨((along n).map intsT, none), rfl, fun _ => true, fun d => match d with
        | .tup l => .tup l.reverse
        | x => x, fun d hd => ?_, ?_, ?_⟩)
      · obtain ⟨l, hl, rfl⟩ := List.mem_map.mp hd
        refine ⟨_, rfl, g_tYes rfl, fun _ => ?_⟩
        (((repeat (first | refine g_v rfl ?_ | refine g_c ?_ | refine g_op2 ?_ | refine g_B ?_ | refine g_L ?_ | refine g_B1 ?_ | refine g_L1 ?_ | refine g_D ?_ | refine g_DN ?_ | refine g_nil ?_ | refine g_cons ?_ | refine g_tup ?_ | refine g_lst ?_ | refine g_newL ?_ | refine g_call ?_ | refine g_callP ?_ | refine g_make ?_ | refine g_fld ?_ | refine g_neg ?_ | refine g_tV ?_ | refine g_tAnd ?_ | refine g_tOr ?_ | refine g_tNot ?_ | refine g_tYes ?_ | refine g_And ?_ | refine g_Or ?_ | refine g_Not ?_ | refine g_If ?_ | refine g_Chain ?_ | refine g_App ?_ | refine g_Upd ?_ | refine g_Rev ?_ | refine g_DE ?_ | refine g_DEN ?_ | refine g_rg1 ?_ | refine g_LRg ?_ | refine g_TRg ?_ | refine g_Nil ?_ | refine g_Seq ?_ | refine g_Ret ?_ | refine g_Expr ?_ | refine g_sIf ?_ | refine g_Asg ?_ | refine g_Sub ?_ | refine g_Par ?_ | refine g_Par3 ?_ | refine g_FSet ?_)); try dsimp only))
        exact ⟨_, rfl, rfl⟩
      · rw [List.length_map]
        refine Nat.le_trans (List.length_filter_le _ _) ?_
        show ((along n).map intsT).length ≤ LINE
        unfold along upto
        simp
        omega
      · have e2 : (List.filter (fun _ => true) ((along n).map intsT)).map (fun d => match d with
            | .tup l => .tup l.reverse
            | x => x) = ((along n).map List.reverse).map intsT := by
          rw [List.filter_eq_self.mpr (fun _ _ => rfl), List.map_map, List.map_map]
          refine List.map_congr_left fun l _ => ?_
          show D.tup (l.map D.int).reverse = D.tup (l.reverse.map D.int)
          rw [List.map_reverse]
        show ∃ d, dAdd _ _ (D.lst ((List.filter (fun _ => true) ((along n).map intsT)).map _)) = some d ∧ _
        rw [e2]
        have hal : (along n).length ≤ 12 := by
          unfold along upto
          simp
          omega
        refine ⟨_, dAdd_lst _ _ _ (by simp; omega), ?_⟩
        (((repeat (first | refine g_v rfl ?_ | refine g_c ?_ | refine g_op2 ?_ | refine g_B ?_ | refine g_L ?_ | refine g_B1 ?_ | refine g_L1 ?_ | refine g_D ?_ | refine g_DN ?_ | refine g_nil ?_ | refine g_cons ?_ | refine g_tup ?_ | refine g_lst ?_ | refine g_newL ?_ | refine g_call ?_ | refine g_callP ?_ | refine g_make ?_ | refine g_fld ?_ | refine g_neg ?_ | refine g_tV ?_ | refine g_tAnd ?_ | refine g_tOr ?_ | refine g_tNot ?_ | refine g_tYes ?_ | refine g_And ?_ | refine g_Or ?_ | refine g_Not ?_ | refine g_If ?_ | refine g_Chain ?_ | refine g_App ?_ | refine g_Upd ?_ | refine g_Rev ?_ | refine g_DE ?_ | refine g_DEN ?_ | refine g_rg1 ?_ | refine g_LRg ?_ | refine g_TRg ?_ | refine g_Nil ?_ | refine g_Seq ?_ | refine g_Ret ?_ | refine g_Expr ?_ | refine g_sIf ?_ | refine g_Asg ?_ | refine g_Sub ?_ | refine g_Par ?_ | refine g_Par3 ?_ | refine g_FSet ?_)); try dsimp only))
        rw [← List.map_append]
        refine ⟨_, bSort_L (L := along n ++ (along n).map List.reverse) rfl (by simp; omega) (fun l hl => (line_leap l hl).ne), ?_⟩
        (((repeat (first | refine g_v rfl ?_ | refine g_c ?_ | refine g_op2 ?_ | refine g_B ?_ | refine g_L ?_ | refine g_B1 ?_ | refine g_L1 ?_ | refine g_D ?_ | refine g_DN ?_ | refine g_nil ?_ | refine g_cons ?_ | refine g_tup ?_ | refine g_lst ?_ | refine g_newL ?_ | refine g_call ?_ | refine g_callP ?_ | refine g_make ?_ | refine g_fld ?_ | refine g_neg ?_ | refine g_tV ?_ | refine g_tAnd ?_ | refine g_tOr ?_ | refine g_tNot ?_ | refine g_tYes ?_ | refine g_And ?_ | refine g_Or ?_ | refine g_Not ?_ | refine g_If ?_ | refine g_Chain ?_ | refine g_App ?_ | refine g_Upd ?_ | refine g_Rev ?_ | refine g_DE ?_ | refine g_DEN ?_ | refine g_rg1 ?_ | refine g_LRg ?_ | refine g_TRg ?_ | refine g_Nil ?_ | refine g_Seq ?_ | refine g_Ret ?_ | refine g_Expr ?_ | refine g_sIf ?_ | refine g_Asg ?_ | refine g_Sub ?_ | refine g_Par ?_ | refine g_Par3 ?_ | refine g_FSet ?_)); try dsimp only))
        refine ⟨_, rfl, ?_⟩
        (((repeat (first | refine g_v rfl ?_ | refine g_c ?_ | refine g_op2 ?_ | refine g_B ?_ | refine g_L ?_ | refine g_B1 ?_ | refine g_L1 ?_ | refine g_D ?_ | refine g_DN ?_ | refine g_nil ?_ | refine g_cons ?_ | refine g_tup ?_ | refine g_lst ?_ | refine g_newL ?_ | refine g_call ?_ | refine g_callP ?_ | refine g_make ?_ | refine g_fld ?_ | refine g_neg ?_ | refine g_tV ?_ | refine g_tAnd ?_ | refine g_tOr ?_ | refine g_tNot ?_ | refine g_tYes ?_ | refine g_And ?_ | refine g_Or ?_ | refine g_Not ?_ | refine g_If ?_ | refine g_Chain ?_ | refine g_App ?_ | refine g_Upd ?_ | refine g_Rev ?_ | refine g_DE ?_ | refine g_DEN ?_ | refine g_rg1 ?_ | refine g_LRg ?_ | refine g_TRg ?_ | refine g_Nil ?_ | refine g_Seq ?_ | refine g_Ret ?_ | refine g_Expr ?_ | refine g_sIf ?_ | refine g_Asg ?_ | refine g_Sub ?_ | refine g_Par ?_ | refine g_Par3 ?_ | refine g_FSet ?_)); try dsimp only))
        refine ⟨show 2 ≤ LINE by omega, ?_⟩
        exact ⟨n, _, rfl, line_parts hn.1 (by omega), hn.2, ht3⟩
  · (((repeat (first | refine g_v rfl ?_ | refine g_c ?_ | refine g_op2 ?_ | refine g_B ?_ | refine g_L ?_ | refine g_B1 ?_ | refine g_L1 ?_ | refine g_D ?_ | refine g_DN ?_ | refine g_nil ?_ | refine g_cons ?_ | refine g_tup ?_ | refine g_lst ?_ | refine g_newL ?_ | refine g_call ?_ | refine g_callP ?_ | refine g_make ?_ | refine g_fld ?_ | refine g_neg ?_ | refine g_tV ?_ | refine g_tAnd ?_ | refine g_tOr ?_ | refine g_tNot ?_ | refine g_tYes ?_ | refine g_And ?_ | refine g_Or ?_ | refine g_Not ?_ | refine g_If ?_ | refine g_Chain ?_ | refine g_App ?_ | refine g_Upd ?_ | refine g_Rev ?_ | refine g_DE ?_ | refine g_DEN ?_ | refine g_rg1 ?_ | refine g_LRg ?_ | refine g_TRg ?_ | refine g_Nil ?_ | refine g_Seq ?_ | refine g_Ret ?_ | refine g_Expr ?_ | refine g_sIf ?_ | refine g_Asg ?_ | refine g_Sub ?_ | refine g_Par ?_ | refine g_Par3 ?_ | refine g_FSet ?_)); try dsimp only))
    refine g_For (g_iRng ?_)
    (((repeat (first | (first | refine g_v rfl ?_ | refine g_c ?_ | refine g_op2 ?_ | refine g_B ?_ | refine g_L ?_ | refine g_B1 ?_ | refine g_L1 ?_ | refine g_D ?_ | refine g_DN ?_ | refine g_nil ?_ | refine g_cons ?_ | refine g_tup ?_ | refine g_lst ?_ | refine g_newL ?_ | refine g_call ?_ | refine g_callP ?_ | refine g_make ?_ | refine g_fld ?_ | refine g_neg ?_ | refine g_tV ?_ | refine g_tAnd ?_ | refine g_tOr ?_ | refine g_tNot ?_ | refine g_tYes ?_ | refine g_And ?_ | refine g_Or ?_ | refine g_Not ?_ | refine g_If ?_ | refine g_Chain ?_ | refine g_App ?_ | refine g_Upd ?_ | refine g_Rev ?_ | refine g_DE ?_ | refine g_DEN ?_ | refine g_rg1 ?_ | refine g_LRg ?_ | refine g_TRg ?_ | refine g_Nil ?_ | refine g_Seq ?_ | refine g_Ret ?_ | refine g_Expr ?_ | refine g_sIf ?_ | refine g_Asg ?_ | refine g_Sub ?_ | refine g_Par ?_ | refine g_Par3 ?_ | refine g_FSet ?_) | refine ⟨_, dGt_int _ _ _, ?_⟩ | refine ⟨_, dLt_int _ _ _, ?_⟩ | refine ⟨_, dLe_int _ _ _, ?_⟩ | refine ⟨_, dGe_int _ _ _, ?_⟩ | refine ⟨_, dEq_int _ _ _, ?_⟩ | refine ⟨_, dNe_int _ _ _, ?_⟩ | refine ⟨_, dAdd_int _ _ _, ?_⟩ | refine ⟨_, dSub_int _ _ _, ?_⟩ | refine ⟨_, rfl, ?_⟩)); try dsimp only))
    refine (taken_ok ht3.row (by omega) (by omega)).imp fun p ⟨⟨k3, e, hk3⟩, ht4⟩ => ?_
    obtain ⟨d, s3⟩ := p
    simp only at e ht4
    subst e
    (((repeat (first | (first | refine g_v rfl ?_ | refine g_c ?_ | refine g_op2 ?_ | refine g_B ?_ | refine g_L ?_ | refine g_B1 ?_ | refine g_L1 ?_ | refine g_D ?_ | refine g_DN ?_ | refine g_nil ?_ | refine g_cons ?_ | refine g_tup ?_ | refine g_lst ?_ | refine g_newL ?_ | refine g_call ?_ | refine g_callP ?_ | refine g_make ?_ | refine g_fld ?_ | refine g_neg ?_ | refine g_tV ?_ | refine g_tAnd ?_ | refine g_tOr ?_ | refine g_tNot ?_ | refine g_tYes ?_ | refine g_And ?_ | refine g_Or ?_ | refine g_Not ?_ | refine g_If ?_ | refine g_Chain ?_ | refine g_App ?_ | refine g_Upd ?_ | refine g_Rev ?_ | refine g_DE ?_ | refine g_DEN ?_ | refine g_rg1 ?_ | refine g_LRg ?_ | refine g_TRg ?_ | refine g_Nil ?_ | refine g_Seq ?_ | refine g_Ret ?_ | refine g_Expr ?_ | refine g_sIf ?_ | refine g_Asg ?_ | refine g_Sub ?_ | refine g_Par ?_ | refine g_Par3 ?_ | refine g_FSet ?_) | refine ⟨_, dGt_int _ _ _, ?_⟩ | refine ⟨_, dLt_int _ _ _, ?_⟩ | refine ⟨_, dLe_int _ _ _, ?_⟩ | refine ⟨_, dGe_int _ _ _, ?_⟩ | refine ⟨_, dEq_int _ _ _, ?_⟩ | refine ⟨_, dNe_int _ _ _, ?_⟩ | refine ⟨_, dAdd_int _ _ _, ?_⟩ | refine ⟨_, dSub_int _ _ _, ?_⟩ | refine ⟨_, rfl, ?_⟩)); try dsimp only))
    refine ⟨by omega, ?_⟩
    have ht5 := ht3.trans ht4
    refine forN_gives (I := fun r env s => ∃ (L : List (List Int)) (e5 e6 e7 e8 e9 : Option D), env = [some (.mref 0), some (.int most), some (.int n), none, some (.lst (L.map intsT)), e5, e6, e7, e8, e9] ∧ (∀ l ∈ L, Leap n l) ∧ L.length + r.length ≤ 9 ∧ Turned st s) (fun d r env s hI => ?_) (fun env s hI => ?_) _ _ _ ?_
    · obtain ⟨L, e5, e6, e7, e8, e9, rfl, hL, hl, ht⟩ := hI
      simp only [List.length_cons] at hl
      refine ⟨rfl, g_gV ?_⟩
      refine (outer_turn (L := L) (k := d) ht.row (by omega) hn.1 (by omega) hL).imp fun p ⟨l, e6, e7, e8, e9, st', e, h2, h3⟩ => ?_
      subst e
      refine ⟨L ++ [l], _, _, _, _, _, rfl, fun x hx => ?_, by simp; omega, ht.trans h3⟩
      rcases List.mem_append.mp hx with z | z
      · exact hL x z
      · have : x = l := by simpa using z
        subst this; exact h2
    · obtain ⟨L, e5, e6, e7, e8, e9, rfl, hL, hl, ht⟩ := hI
      refine ⟨rfl, ?_⟩
      (((repeat (first | refine g_v rfl ?_ | refine g_c ?_ | refine g_op2 ?_ | refine g_B ?_ | refine g_L ?_ | refine g_B1 ?_ | refine g_L1 ?_ | refine g_D ?_ | refine g_DN ?_ | refine g_nil ?_ | refine g_cons ?_ | refine g_tup ?_ | refine g_lst ?_ | refine g_newL ?_ | refine g_call ?_ | refine g_callP ?_ | refine g_make ?_ | refine g_fld ?_ | refine g_neg ?_ | refine g_tV ?_ | refine g_tAnd ?_ | refine g_tOr ?_ | refine g_tNot ?_ | refine g_tYes ?_ | refine g_And ?_ | refine g_Or ?_ | refine g_Not ?_ | refine g_If ?_ | refine g_Chain ?_ | refine g_App ?_ | refine g_Upd ?_ | refine g_Rev ?_ | refine g_DE ?_ | refine g_DEN ?_ | refine g_rg1 ?_ | refine g_LRg ?_ | refine g_TRg ?_ | refine g_Nil ?_ | refine g_Seq ?_ | refine g_Ret ?_ | refine g_Expr ?_ | refine g_sIf ?_ | refine g_Asg ?_ | refine g_Sub ?_ | refine g_Par ?_ | refine g_Par3 ?_ | refine g_FSet ?_)); try dsimp only))
      simp only [List.length_nil] at hl
      have few : (dedupK (L.map keyL)).length < 64 := by
        have := dedup_le (L.map keyL)
        rw [List.length_map] at this
        omega
      obtain ⟨M, h1, h2, h3⟩ := sortedSet_L (st := s) (d := .lst (L.map intsT)) (L := L) rfl rfl few fun l hl => (hL l hl).ne
      refine ⟨_, h1, ?_⟩
      (((repeat (first | refine g_v rfl ?_ | refine g_c ?_ | refine g_op2 ?_ | refine g_B ?_ | refine g_L ?_ | refine g_B1 ?_ | refine g_L1 ?_ | refine g_D ?_ | refine g_DN ?_ | refine g_nil ?_ | refine g_cons ?_ | refine g_tup ?_ | refine g_lst ?_ | refine g_newL ?_ | refine g_call ?_ | refine g_callP ?_ | refine g_make ?_ | refine g_fld ?_ | refine g_neg ?_ | refine g_tV ?_ | refine g_tAnd ?_ | refine g_tOr ?_ | refine g_tNot ?_ | refine g_tYes ?_ | refine g_And ?_ | refine g_Or ?_ | refine g_Not ?_ | refine g_If ?_ | refine g_Chain ?_ | refine g_App ?_ | refine g_Upd ?_ | refine g_Rev ?_ | refine g_DE ?_ | refine g_DEN ?_ | refine g_rg1 ?_ | refine g_LRg ?_ | refine g_TRg ?_ | refine g_Nil ?_ | refine g_Seq ?_ | refine g_Ret ?_ | refine g_Expr ?_ | refine g_sIf ?_ | refine g_Asg ?_ | refine g_Sub ?_ | refine g_Par ?_ | refine g_Par3 ?_ | refine g_FSet ?_)); try dsimp only))
      refine ⟨_, rfl, ?_⟩
      (((repeat (first | refine g_v rfl ?_ | refine g_c ?_ | refine g_op2 ?_ | refine g_B ?_ | refine g_L ?_ | refine g_B1 ?_ | refine g_L1 ?_ | refine g_D ?_ | refine g_DN ?_ | refine g_nil ?_ | refine g_cons ?_ | refine g_tup ?_ | refine g_lst ?_ | refine g_newL ?_ | refine g_call ?_ | refine g_callP ?_ | refine g_make ?_ | refine g_fld ?_ | refine g_neg ?_ | refine g_tV ?_ | refine g_tAnd ?_ | refine g_tOr ?_ | refine g_tNot ?_ | refine g_tYes ?_ | refine g_And ?_ | refine g_Or ?_ | refine g_Not ?_ | refine g_If ?_ | refine g_Chain ?_ | refine g_App ?_ | refine g_Upd ?_ | refine g_Rev ?_ | refine g_DE ?_ | refine g_DEN ?_ | refine g_rg1 ?_ | refine g_LRg ?_ | refine g_TRg ?_ | refine g_Nil ?_ | refine g_Seq ?_ | refine g_Ret ?_ | refine g_Expr ?_ | refine g_sIf ?_ | refine g_Asg ?_ | refine g_Sub ?_ | refine g_Par ?_ | refine g_Par3 ?_ | refine g_FSet ?_)); try dsimp only))
      refine ⟨show 2 ≤ LINE by omega, ?_⟩
      refine ⟨n, M, rfl, ⟨hn.1, by omega, h2, fun l hl => hL l ((h3 l).mp hl), ?_⟩, hn.2, ht⟩
      have nd : M.Nodup := by
        rw [List.nodup_iff_pairwise_ne]
        exact h2.imp fun h e => by rw [e] at h; exact List.lt_irrefl _ h
      have := len_sub (m := L) nd fun x hx => (h3 x).mp hx
      omega
    · refine ⟨[], none, none, none, none, none, rfl, fun l hl => (by cases hl), ?_, ht5⟩
      rw [rngL_ints, List.length_map]
      unfold upto
      simp
      omega
end Px
set_option maxRecDepth 100000
/-! Lc: boards are right. -/
namespace Px
open PySem PySem.Spec
theorem is_number_int (i : Int) : m_is_number [.int i] = .ok (.bl true) := by
  refine mP_of ?_ rfl
  show (b_is_number [some (.int i)] []).Gives _
  unfold b_is_number
  (((repeat (first | refine g_v rfl ?_ | refine g_c ?_ | refine g_op2 ?_ | refine g_B ?_ | refine g_L ?_ | refine g_B1 ?_ | refine g_L1 ?_ | refine g_D ?_ | refine g_DN ?_ | refine g_nil ?_ | refine g_cons ?_ | refine g_tup ?_ | refine g_lst ?_ | refine g_newL ?_ | refine g_call ?_ | refine g_callP ?_ | refine g_make ?_ | refine g_fld ?_ | refine g_neg ?_ | refine g_tV ?_ | refine g_tAnd ?_ | refine g_tOr ?_ | refine g_tNot ?_ | refine g_tYes ?_ | refine g_And ?_ | refine g_Or ?_ | refine g_Not ?_ | refine g_If ?_ | refine g_Chain ?_ | refine g_App ?_ | refine g_Upd ?_ | refine g_Rev ?_ | refine g_DE ?_ | refine g_DEN ?_ | refine g_rg1 ?_ | refine g_LRg ?_ | refine g_TRg ?_ | refine g_Nil ?_ | refine g_Seq ?_ | refine g_Ret ?_ | refine g_Expr ?_ | refine g_sIf ?_ | refine g_Asg ?_ | refine g_Sub ?_ | refine g_Par ?_ | refine g_Par3 ?_ | refine g_FSet ?_)); try dsimp only))
  refine ⟨.bl true, rfl, true, rfl, fun _ => ?_, fun h => (by cases h)⟩
  (((repeat (first | refine g_v rfl ?_ | refine g_c ?_ | refine g_op2 ?_ | refine g_B ?_ | refine g_L ?_ | refine g_B1 ?_ | refine g_L1 ?_ | refine g_D ?_ | refine g_DN ?_ | refine g_nil ?_ | refine g_cons ?_ | refine g_tup ?_ | refine g_lst ?_ | refine g_newL ?_ | refine g_call ?_ | refine g_callP ?_ | refine g_make ?_ | refine g_fld ?_ | refine g_neg ?_ | refine g_tV ?_ | refine g_tAnd ?_ | refine g_tOr ?_ | refine g_tNot ?_ | refine g_tYes ?_ | refine g_And ?_ | refine g_Or ?_ | refine g_Not ?_ | refine g_If ?_ | refine g_Chain ?_ | refine g_App ?_ | refine g_Upd ?_ | refine g_Rev ?_ | refine g_DE ?_ | refine g_DEN ?_ | refine g_rg1 ?_ | refine g_LRg ?_ | refine g_TRg ?_ | refine g_Nil ?_ | refine g_Seq ?_ | refine g_Ret ?_ | refine g_Expr ?_ | refine g_sIf ?_ | refine g_Asg ?_ | refine g_Sub ?_ | refine g_Par ?_ | refine g_Par3 ?_ | refine g_FSet ?_)); try dsimp only))
  exact ⟨.bl false, rfl, false, rfl, rfl⟩
theorem is_between_int (i a b : Int) : m_is_between [.int i, .int a, .int b] = .ok (.bl (decide (a ≤ i) && decide (i ≤ b))) := by
  refine mP_of ?_ rfl
  show (b_is_between [some (.int i), some (.int a), some (.int b)] []).Gives _
  unfold b_is_between
  (((repeat (first | refine g_v rfl ?_ | refine g_c ?_ | refine g_op2 ?_ | refine g_B ?_ | refine g_L ?_ | refine g_B1 ?_ | refine g_L1 ?_ | refine g_D ?_ | refine g_DN ?_ | refine g_nil ?_ | refine g_cons ?_ | refine g_tup ?_ | refine g_lst ?_ | refine g_newL ?_ | refine g_call ?_ | refine g_callP ?_ | refine g_make ?_ | refine g_fld ?_ | refine g_neg ?_ | refine g_tV ?_ | refine g_tAnd ?_ | refine g_tOr ?_ | refine g_tNot ?_ | refine g_tYes ?_ | refine g_And ?_ | refine g_Or ?_ | refine g_Not ?_ | refine g_If ?_ | refine g_Chain ?_ | refine g_App ?_ | refine g_Upd ?_ | refine g_Rev ?_ | refine g_DE ?_ | refine g_DEN ?_ | refine g_rg1 ?_ | refine g_LRg ?_ | refine g_TRg ?_ | refine g_Nil ?_ | refine g_Seq ?_ | refine g_Ret ?_ | refine g_Expr ?_ | refine g_sIf ?_ | refine g_Asg ?_ | refine g_Sub ?_ | refine g_Par ?_ | refine g_Par3 ?_ | refine g_FSet ?_)); try dsimp only))
  refine ⟨_, callP_of rfl (is_number_int i), true, rfl, fun _ => ?_, fun h => (by cases h)⟩
  (((repeat (first | refine g_v rfl ?_ | refine g_c ?_ | refine g_op2 ?_ | refine g_B ?_ | refine g_L ?_ | refine g_B1 ?_ | refine g_L1 ?_ | refine g_D ?_ | refine g_DN ?_ | refine g_nil ?_ | refine g_cons ?_ | refine g_tup ?_ | refine g_lst ?_ | refine g_newL ?_ | refine g_call ?_ | refine g_callP ?_ | refine g_make ?_ | refine g_fld ?_ | refine g_neg ?_ | refine g_tV ?_ | refine g_tAnd ?_ | refine g_tOr ?_ | refine g_tNot ?_ | refine g_tYes ?_ | refine g_And ?_ | refine g_Or ?_ | refine g_Not ?_ | refine g_If ?_ | refine g_Chain ?_ | refine g_App ?_ | refine g_Upd ?_ | refine g_Rev ?_ | refine g_DE ?_ | refine g_DEN ?_ | refine g_rg1 ?_ | refine g_LRg ?_ | refine g_TRg ?_ | refine g_Nil ?_ | refine g_Seq ?_ | refine g_Ret ?_ | refine g_Expr ?_ | refine g_sIf ?_ | refine g_Asg ?_ | refine g_Sub ?_ | refine g_Par ?_ | refine g_Par3 ?_ | refine g_FSet ?_)); try dsimp only))
  refine ⟨_, dLe_int _ _ _, fun h => ?_, fun h => ?_⟩
  · (((repeat (first | refine g_v rfl ?_ | refine g_c ?_ | refine g_op2 ?_ | refine g_B ?_ | refine g_L ?_ | refine g_B1 ?_ | refine g_L1 ?_ | refine g_D ?_ | refine g_DN ?_ | refine g_nil ?_ | refine g_cons ?_ | refine g_tup ?_ | refine g_lst ?_ | refine g_newL ?_ | refine g_call ?_ | refine g_callP ?_ | refine g_make ?_ | refine g_fld ?_ | refine g_neg ?_ | refine g_tV ?_ | refine g_tAnd ?_ | refine g_tOr ?_ | refine g_tNot ?_ | refine g_tYes ?_ | refine g_And ?_ | refine g_Or ?_ | refine g_Not ?_ | refine g_If ?_ | refine g_Chain ?_ | refine g_App ?_ | refine g_Upd ?_ | refine g_Rev ?_ | refine g_DE ?_ | refine g_DEN ?_ | refine g_rg1 ?_ | refine g_LRg ?_ | refine g_TRg ?_ | refine g_Nil ?_ | refine g_Seq ?_ | refine g_Ret ?_ | refine g_Expr ?_ | refine g_sIf ?_ | refine g_Asg ?_ | refine g_Sub ?_ | refine g_Par ?_ | refine g_Par3 ?_ | refine g_FSet ?_)); try dsimp only))
    exact ⟨_, dLe_int _ _ _, by simp [h, rd]⟩
  · simp [h, rd]
theorem first_false_all (bs : List Bool) (h : ∀ b ∈ bs, b = true) : m_first_false [.lst (bs.map .bl)] = .ok .non := by
  refine mP_of ?_ rfl
  show (b_first_false [some (.lst (bs.map .bl)), none, none] []).Gives _
  unfold b_first_false
  refine g_Seq (g_For (g_iEn (g_v rfl ⟨(bs.map .bl, none), rfl, ?_⟩)))
  refine forN_gives (I := fun r env s => (∃ e1 e2, env = [some (.lst (bs.map .bl)), e1, e2]) ∧ s = [] ∧ ∀ d ∈ r, ∃ i, d = .tup [.int i, .bl true]) (fun d r env s hI => ?_) (fun env s hI => ?_) _ _ _ ?_
  · obtain ⟨⟨e1, e2, rfl⟩, rfl, hd⟩ := hI
    obtain ⟨i, rfl⟩ := hd d List.mem_cons_self
    refine ⟨rfl, g_gTup2 ?_⟩
    refine g_sIf (g_tNot (g_tV (g_v rfl ⟨true, rfl, fun h => (by cases h), fun _ => ?_⟩)))
    exact g_Nil ⟨⟨_, _, rfl⟩, rfl, fun x m => hd x (List.mem_cons_of_mem _ m)⟩
  · obtain ⟨⟨e1, e2, rfl⟩, rfl, hd⟩ := hI
    refine ⟨rfl, ?_⟩
    (((repeat (first | refine g_v rfl ?_ | refine g_c ?_ | refine g_op2 ?_ | refine g_B ?_ | refine g_L ?_ | refine g_B1 ?_ | refine g_L1 ?_ | refine g_D ?_ | refine g_DN ?_ | refine g_nil ?_ | refine g_cons ?_ | refine g_tup ?_ | refine g_lst ?_ | refine g_newL ?_ | refine g_call ?_ | refine g_callP ?_ | refine g_make ?_ | refine g_fld ?_ | refine g_neg ?_ | refine g_tV ?_ | refine g_tAnd ?_ | refine g_tOr ?_ | refine g_tNot ?_ | refine g_tYes ?_ | refine g_And ?_ | refine g_Or ?_ | refine g_Not ?_ | refine g_If ?_ | refine g_Chain ?_ | refine g_App ?_ | refine g_Upd ?_ | refine g_Rev ?_ | refine g_DE ?_ | refine g_DEN ?_ | refine g_rg1 ?_ | refine g_LRg ?_ | refine g_TRg ?_ | refine g_Nil ?_ | refine g_Seq ?_ | refine g_Ret ?_ | refine g_Expr ?_ | refine g_sIf ?_ | refine g_Asg ?_ | refine g_Sub ?_ | refine g_Par ?_ | refine g_Par3 ?_ | refine g_FSet ?_)); try dsimp only))
    rfl
  · refine ⟨⟨none, none, rfl⟩, rfl, fun d hd => ?_⟩
    obtain ⟨i, hi, e⟩ := List.getElem_of_mem hd
    have e1 : (enumD 0 (bs.map D.bl))[i]? = some d := by rw [List.getElem?_eq_getElem hi, e]
    rw [enumD_at] at e1
    cases e2 : (bs.map D.bl)[i]? with
    | none => rw [e2] at e1; cases e1
    | some x =>
      rw [e2] at e1
      have hx := List.mem_of_getElem? e2
      obtain ⟨b, hb, rfl⟩ := List.mem_map.mp hx
      rw [h b hb] at e1
      cases e1
      exact ⟨_, rfl⟩
/-- [f(x) for x in a tuple], f a def of one number and what stands still -/
theorem is_leap_ok {n : Int} {l : List Int} (h : Leap n l) : m_is_leap [intsT l, .int n] = .ok (.bl true) := by
  obtain ⟨a, b, c, rfl, ha, hb, hc, h1, h2, h3⟩ := h
  have hLINE : LINE = 16777216 := rfl
  refine mP_of ?_ rfl
  show (b_is_leap [some (intsT [a, b, c]), some (.int n), none] []).Gives _
  unfold b_is_leap
  refine g_Seq (g_sIf (g_tOr (g_tNot (g_tV (g_B1 (g_v rfl ⟨.bl true, rfl, true, rfl, ?_⟩))))))
  refine ⟨fun h => (by cases h), fun _ => ?_⟩
  refine g_tV (g_op2 (g_B (g_cons (g_v rfl (g_nil ⟨.int 3, rfl, g_c ⟨_, dNe_int _ _ _, _, rfl, fun h => (by cases h), fun _ => ?_⟩⟩)))))
  refine g_Nil (g_Ret (g_And (g_B (g_cons (g_compS (g_v rfl ?_))))))
  refine ⟨([a, b, c].map .int, none), rfl, fun _ => true, fun _ => .bl true, fun d hd => ?_, ?_, g_nil ?_⟩
  · obtain ⟨k, hk, rfl⟩ := List.mem_map.mp hd
    refine ⟨_, rfl, g_tYes rfl, fun _ => ?_⟩
    (((repeat (first | (first | refine g_v rfl ?_ | refine g_c ?_ | refine g_op2 ?_ | refine g_B ?_ | refine g_L ?_ | refine g_B1 ?_ | refine g_L1 ?_ | refine g_D ?_ | refine g_DN ?_ | refine g_nil ?_ | refine g_cons ?_ | refine g_tup ?_ | refine g_lst ?_ | refine g_newL ?_ | refine g_call ?_ | refine g_callP ?_ | refine g_make ?_ | refine g_fld ?_ | refine g_neg ?_ | refine g_tV ?_ | refine g_tAnd ?_ | refine g_tOr ?_ | refine g_tNot ?_ | refine g_tYes ?_ | refine g_And ?_ | refine g_Or ?_ | refine g_Not ?_ | refine g_If ?_ | refine g_Chain ?_ | refine g_App ?_ | refine g_Upd ?_ | refine g_Rev ?_ | refine g_DE ?_ | refine g_DEN ?_ | refine g_rg1 ?_ | refine g_LRg ?_ | refine g_TRg ?_ | refine g_Nil ?_ | refine g_Seq ?_ | refine g_Ret ?_ | refine g_Expr ?_ | refine g_sIf ?_ | refine g_Asg ?_ | refine g_Sub ?_ | refine g_Par ?_ | refine g_Par3 ?_ | refine g_FSet ?_) | refine ⟨_, dGt_int _ _ _, ?_⟩ | refine ⟨_, dLt_int _ _ _, ?_⟩ | refine ⟨_, dLe_int _ _ _, ?_⟩ | refine ⟨_, dGe_int _ _ _, ?_⟩ | refine ⟨_, dEq_int _ _ _, ?_⟩ | refine ⟨_, dNe_int _ _ _, ?_⟩ | refine ⟨_, dAdd_int _ _ _, ?_⟩ | refine ⟨_, dSub_int _ _ _, ?_⟩ | refine ⟨_, rfl, ?_⟩)); try dsimp only))
    refine ⟨_, callP_of rfl (is_between_int _ _ _), ?_⟩
    have : (0 ≤ k ∧ k < n) := by
      simp only [List.mem_cons, List.not_mem_nil, or_false] at hk
      rcases hk with rfl | rfl | rfl <;> assumption
    have e1 : decide (0 ≤ k) = true := decide_eq_true this.1
    have e2 : decide (k ≤ n - 1) = true := decide_eq_true (by omega)
    rw [e1, e2]; rfl
  · show 3 ≤ LINE; omega
  · refine ⟨.bl true, rfl, true, rfl, fun _ => ?_, fun h => (by cases h)⟩
    refine g_op2 (g_B1 (g_v rfl ⟨_, lenSet_I _ (l := [a, b, c]) ?_ (by simp), g_c ⟨_, dEq_int _ _ _, ?_⟩⟩))
    · simp [h1, h2, h3]
    · rfl
theorem wrong_part_ok {n : Int} {L : List (List Int)} (h : Parts n L) : m_wrong_part [partsD n L] = .ok .non := by
  have hLINE : LINE = 16777216 := rfl
  have lo := h.lo
  have hi := h.hi
  have few := h.few
  refine mP_of ?_ rfl
  show (b_wrong_part [some (partsD n L), none, none, none, none, none, none, none] []).Gives _
  unfold b_wrong_part
  refine g_Seq (g_sIf (g_tOr (g_tNot (g_tV (g_B1 (g_v rfl ⟨.bl true, rfl, true, rfl, ?_⟩))))))
  refine ⟨fun h => (by cases h), fun _ => ?_⟩
  refine g_tOr (g_tV (g_op2 (g_B (g_cons (g_v rfl (g_nil ⟨.int 2, rfl, g_c ⟨_, dNe_int _ _ _, _, rfl, fun h => (by cases h), fun _ => ?_⟩⟩))))))
  refine g_tNot (g_tV (g_callP (g_cons (g_op2 (g_v rfl (g_c ⟨.int n, rfl, ?_⟩))))))
  refine g_cons (g_c (g_cons (g_c (g_nil ⟨_, callP_of rfl (is_between_int _ _ _), _, rfl, ?_⟩))))
  have e1 : decide ((1 : Int) ≤ n) = true := decide_eq_true (by omega)
  have e2 : decide (n ≤ 12) = true := decide_eq_true hi
  rw [e1, e2]
  refine ⟨fun h => (by cases h), fun _ => g_Nil (g_Seq (g_AsgT (g_v rfl (g_gTup2 (g_Seq (g_sIf (g_tOr (g_tNot (g_tV (g_B1 (g_v rfl ⟨.bl true, rfl, true, rfl, ?_⟩)))))))))))⟩
  refine ⟨fun h => (by cases h), fun _ => ?_⟩
  refine g_tV (g_op2 (g_B (g_cons (g_v rfl (g_nil ⟨.int L.length, ?_, g_c ⟨_, dGt_int _ _ _, _, rfl, fun h => ?_, fun _ => ?_⟩⟩)))))
  · show some (D.int ((L.map intsT).length : Nat)) = _
    rw [List.length_map]
  · have : (60 : Int) < L.length := by simpa using h
    omega
  refine g_Nil (g_Seq (g_Asg (g_newL (g_nil ⟨Nat.zero_le _, g_Seq (g_For (g_iEn (g_v rfl ⟨(L.map intsT, none), rfl, ?_⟩)))⟩))))
  refine forN_gives (I := fun r env s => ∃ (i : Nat) (e4 e5 e6 e7 : Option D), env = [some (partsD n L), some (.int n), some (tupsT L), some (.mref 0), e4, e5, e6, e7] ∧ s = [.lst (List.replicate i (.bl true))] ∧ r = enumD i ((L.drop i).map intsT) ∧ i ≤ L.length) (fun d r env s hI => ?_) (fun env s hI => ?_) _ _ _ ?_
  · obtain ⟨i, e4, e5, e6, e7, rfl, rfl, hr, hil⟩ := hI
    obtain ⟨x, l', e1, rfl, rfl⟩ := enumD_cons hr
    have hlt : i < L.length := by
      by_cases q : i < L.length
      · exact q
      · rw [List.drop_eq_nil_of_le (by omega)] at e1; cases e1
    rw [List.drop_eq_getElem_cons hlt, List.map_cons] at e1
    injection e1 with e1 e2
    subst e1 e2
    have hleap := h.leap L[i] (List.getElem_mem hlt)
    refine ⟨rfl, g_gTup2 ?_⟩
    refine g_Seq (g_Asg (g_callP (g_cons (g_v rfl (g_cons (g_v rfl (g_nil ⟨_, callP_of ?_ (is_leap_ok hleap), ?_⟩)))))))
    · show (still (intsT L[i]) && stills [.int n]) = true
      rw [show still (intsT L[i]) = true from stills_of_py _ (isPys_ints _)]; rfl
    refine g_Seq (g_sIf (g_tAnd (g_tV (g_v rfl ⟨true, rfl, fun _ => ?_, fun h => (by cases h)⟩))))
    refine g_tAnd (g_tV (g_op2 (g_v rfl (g_c ⟨_, dGt_int _ _ _, _, rfl, fun hp => ?_, fun hp => ?_⟩))))
    · have hpos : 0 < i := by
        have : (0 : Int) < i := by simpa using hp
        omega
      refine g_tV (g_op2 (g_v rfl (g_neg (g_c ⟨1, rfl, _, last_mark i hpos, true, rfl, fun _ => ?_, fun h => (by cases h)⟩))))
      refine g_Asg (g_op2 (g_op2 (g_v rfl (g_op2 (g_v rfl (g_c ⟨_, dSub_int _ _ _, intsT L[i - 1], ?_, g_v rfl ⟨_, dLt_tup _ _ _, ?_⟩⟩))))))
      · show L2.atI (L.map intsT) ((i : Int) - 1) = _
        rw [atI_nn (by omega), List.getElem?_map, show ((i : Int) - 1).toNat = i - 1 by omega, List.getElem?_eq_getElem (by omega)]; rfl
      · have hlt2 : L[i - 1] < L[i] := List.pairwise_iff_getElem.mp h.pw (i - 1) i (by omega) hlt (by omega)
        rw [decide_eq_true hlt2]
        refine g_Expr (g_App (g_v rfl ⟨rfl, g_v rfl ⟨_, app_mark i (by omega), ?_⟩⟩))
        exact ⟨i + 1, some (.int i), some (intsT L[i]), some (.bl true), e7, rfl, rfl, rfl, hlt⟩
    · refine ⟨fun h => (by cases h), fun _ => ?_⟩
      refine g_Nil ?_
      refine g_Expr (g_App (g_v rfl ⟨rfl, g_v rfl ⟨_, app_mark i (by omega), ?_⟩⟩))
      exact ⟨i + 1, some (.int i), some (intsT L[i]), some (.bl true), e7, rfl, rfl, rfl, hlt⟩
  · obtain ⟨i, e4, e5, e6, e7, rfl, rfl, hr, hil⟩ := hI
    refine ⟨rfl, ?_⟩
    refine g_Seq (g_Asg (g_callP (g_cons (g_v rfl (g_nil ⟨.non, callP_rd ?_ ?_ rfl, ?_⟩)))))
    · have hst : ∀ k : Nat, stills (List.replicate k (D.bl true)) = true := by
        intro k
        induction k with
        | zero => rfl
        | succ k ih => show (true && stills (List.replicate k (D.bl true))) = true; rw [ih]; rfl
      show (stills (List.replicate i (D.bl true)) && true) = true
      rw [hst]; rfl
    · have := first_false_all (List.replicate i true) fun b hb => List.eq_of_mem_replicate hb
      rw [List.map_replicate] at this
      exact this
    · refine g_Ret (g_If (g_tV (g_op2 (g_v rfl (g_c ⟨_, dIs_non _ _, _, rfl, fun _ => ?_, fun h => (by cases h)⟩)))))
      exact g_c rfl
  · exact ⟨0, _, _, _, _, rfl, rfl, by simp, Nat.zero_le _⟩
theorem board_ok {n : Int} {L : List (List Int)} (h : Parts n L) : m_Board [partsD n L] = .ok (boardD n L) := by
  have go : (b_Board [some (.mref 0), some (partsD n L), none] [.ins "Board" [] []]).Gives fun p => ∃ e, p = (.nx, e, [.ins "Board" ["many", "leaps"] [.int n, tupsT L]]) := by
    unfold b_Board
    refine g_Seq (g_Asg (g_callP (g_cons (g_v rfl (g_nil ⟨.non, callP_of ?_ (wrong_part_ok h), ?_⟩)))))
    · show (still (partsD n L) && true) = true
      rw [still_parts]; rfl
    refine g_Seq (g_sIf (g_tV (g_op2 (g_v rfl (g_c ⟨_, dIsNot_non _ _, _, rfl, fun h => (by cases h), fun _ => ?_⟩)))))
    refine g_Nil (g_Seq (g_FSet (g_op2 (g_v rfl (g_c ⟨.int n, rfl, g_v rfl ⟨_, rfl, ?_⟩⟩)))))
    refine g_FSet (g_op2 (g_v rfl (g_c ⟨tupsT L, rfl, g_v rfl ⟨_, rfl, ?_⟩⟩)))
    exact ⟨_, rfl⟩
  obtain ⟨p, e1, e, rfl⟩ := go
  unfold m_Board mI
  show R.made _ (R.out (b_Board [some (.mref 0), some (partsD n L), none] [.ins "Board" [] []])) = _
  rw [e1]
  have hs : stills [.int n, tupsT L] = true := by
    show (true && (stills (L.map intsT) && true)) = true
    rw [still_tups]; rfl
  have e2 : R.out (R.ok (SOut.nx, e, [MObj.ins "Board" ["many", "leaps"] [.int n, tupsT L]])) = R.ok (D.non, [MObj.ins "Board" ["many", "leaps"] [.int n, tupsT L]]) := rfl
  rw [e2]
  unfold R.made
  simp only
  unfold madeI
  simp only [List.getElem?_cons_zero]
  rw [if_pos ⟨trivial, hs⟩]
end Px
set_option maxRecDepth 100000
/-! Ma: leaps done, all that can be come to. -/
namespace Px
open PySem PySem.Spec
def canB (s : List Int) : List Int → Bool
  | [a, b, c] => decide (a ∈ s) && (decide (b ∈ s) && !decide (c ∈ s))
  | _ => false
def doneL (s : List Int) : List Int → List Int
  | [a, b, c] => ((s.filter fun k => !decide (k ∈ [a, b])) ++ [c]).mergeSort fun i j => decide (i ≤ j)
  | _ => []
theorem canB_true {s : List Int} {a b c : Int} (h : canB s [a, b, c] = true) : a ∈ s ∧ b ∈ s ∧ c ∉ s := by
  simpa [canB] using h
theorem mem_doneL {s : List Int} {a b c k : Int} : k ∈ doneL s [a, b, c] ↔ (k ∈ s ∧ k ≠ a ∧ k ≠ b) ∨ k = c := by
  show k ∈ List.mergeSort _ _ ↔ _
  rw [List.mem_mergeSort, List.mem_append, List.mem_filter]
  simp
theorem stand_done {n : Int} {s l : List Int} (h : Stand n s) (hl : Leap n l) (hc : canB s l = true) : Stand n (doneL s l) := by
  obtain ⟨a, b, c, rfl, ha, hb, hc', h1, h2, h3⟩ := hl
  obtain ⟨c1, c2, c3⟩ := canB_true hc
  refine ⟨sortI_lt ?_, fun k hk => ?_⟩
  · refine List.nodup_append.mpr ⟨(stand_nodup h).filter _, by simp, fun x hx y hy => ?_⟩
    have : y = c := by simpa using hy
    subst this
    rintro rfl
    exact c3 (List.mem_filter.mp hx).1
  · rcases mem_doneL.mp hk with z | rfl
    · exact h.rng k z.1
    · exact hc'
theorem len_done {n : Int} {s l : List Int} (h : Stand n s) (hl : Leap n l) (hc : canB s l = true) : (doneL s l).length + 1 = s.length := by
  obtain ⟨a, b, c, rfl, ha, hb, hc', h1, h2, h3⟩ := hl
  obtain ⟨c1, c2, c3⟩ := canB_true hc
  have e1 := len_rem (stand_nodup h) c1
  have e2 := len_rem ((stand_nodup h).filter (fun y => !decide (y = a))) (x := b) (by rw [List.mem_filter]; exact ⟨c2, by simp [Ne.symm h1]⟩)
  have e3 : (s.filter fun k => !decide (k ∈ [a, b])) = (s.filter fun y => !decide (y = a)).filter fun y => !decide (y = b) := by
    rw [List.filter_filter]
    refine List.filter_congr fun k _ => ?_
    by_cases q : k = a <;> by_cases q2 : k = b <;> simp [q, q2]
  show (List.mergeSort _ _).length + 1 = _
  rw [List.length_mergeSort, List.length_append, e3]
  simp only [List.length_cons, List.length_nil]
  omega
/-- what can be come to -/
inductive Rch (L : List (List Int)) (s : List Int) : List Int → Prop
  | refl : Rch L s s
  | step {t l : List Int} (h : Rch L s t) (hl : l ∈ L) (hc : canB t l = true) : Rch L s (doneL t l)
theorem Rch.stand {n : Int} {L : List (List Int)} {s t : List Int} (hL : ∀ l ∈ L, Leap n l) (hs : Stand n s) (h : Rch L s t) : Stand n t := by
  induction h with
  | refl => exact hs
  | step _ hl hc ih => exact stand_done ih (hL _ hl) hc
theorem Rch.trans {L : List (List Int)} {s t u : List Int} (h : Rch L s t) (k : Rch L t u) : Rch L s u := by
  induction k with
  | refl => exact h
  | step _ hl hc ih => exact .step ih hl hc
theorem can_do_ok {n : Int} {s l : List Int} (hl : Leap n l) : m_can_do [intsT s, intsT l] = .ok (.bl (canB s l)) := by
  obtain ⟨a, b, c, rfl, _⟩ := hl
  refine v_mP rfl ?_
  show (b_can_do [some (intsT s), some (intsT [a, b, c])] []).G3 _
  unfold b_can_do
  have e0 : ∀ st, dIx st (intsT [a, b, c]) (.int 0) = some (.int a) := fun _ => rfl
  have e1 : ∀ st, dIx st (intsT [a, b, c]) (.int 1) = some (.int b) := fun _ => rfl
  have e2 : ∀ st, dIx st (intsT [a, b, c]) (.int 2) = some (.int c) := fun _ => rfl
  have hQ : canB s [a, b, c] = (decide (a ∈ s) && (decide (b ∈ s) && !decide (c ∈ s))) := rfl
  refine v_Ret (v_And (v_op2 (v_op2 (v_v rfl (v_c (og (e0 _) (v_v rfl (og (dIn_ints rfl) (isB (two_d (fun h1 => ?_) fun h1 => ?_))))))))))
  · refine v_And (v_op2 (v_op2 (v_v rfl (v_c (og (e1 _) (v_v rfl (og (dIn_ints rfl) (isB (two_d (fun h2 => ?_) fun h2 => ?_)))))))))
    · refine v_op2 (v_op2 (v_v rfl (v_c (og (e2 _) (v_v rfl (og (dNotIn_ints rfl) (fin_rt ?_)))))))
      rw [hQ]; simp [h1, h2, rd]
    · refine fin_rt ?_
      rw [hQ]; simp [h1, h2, rd]
  · refine fin_rt ?_
    rw [hQ]; simp [h1, rd]
theorem cut_two (st : Store) (a b c : Int) : dCut st (intsT [a, b, c]) none (some 2) = some (intsT [a, b]) := rfl
theorem done_ok {n : Int} {s l : List Int} (hl : Leap n l) (hs : s.length ≤ 900) : m_done [intsT s, intsT l] = .ok (intsT (doneL s l)) := by
  have hLINE : LINE = 16777216 := rfl
  obtain ⟨a, b, c, rfl, _⟩ := hl
  have hfl := List.length_filter_le (fun k => !decide (k ∈ [a, b])) s
  refine v_mP (stills_ints _) ?_
  show (b_done [some (intsT s), some (intsT [a, b, c]), none] []).G3 _
  unfold b_done
  refine v_Ret (v_B (v_cons (v_L (v_cons (v_op2 (v_comp .int s (fun k => !decide (k ∈ [a, b])) .int (v_iSeq (v_v rfl (og rfl ⟨rfl, rfl, fun k hk => item1 ?_ fun _ => ?_, by omega, ?_⟩)))))))))
  · exact v_tV (v_op2 (v_v rfl (v_cut (v_v rfl (v_oN (v_oS (v_c (isI (og (cut_two _ a b c) (og (dNotIn_ints (l := [a, b]) rfl) (isB ⟨rfl, rfl⟩)))))))))))
  · exact v_v rfl ⟨rfl, rfl⟩
  · refine v_lst (v_cons (v_op2 (v_v rfl (v_c (og (show dIx _ (intsT [a, b, c]) (.int 2) = some (.int c) from rfl) (v_nil ⟨show 1 ≤ LINE by omega, og (dAdd_lst _ _ _ ?_) ?_⟩))))))
    · simp only [List.length_map, List.length_cons, List.length_nil]; omega
    · refine v_nil (og (bSort_ints (l := (s.filter fun k => !decide (k ∈ [a, b])) ++ [c]) ?_ ?_) (v_nil (og rfl (fin_rt rfl))))
      · rw [List.map_append]; rfl
      · rw [List.length_append]; simp only [List.length_cons, List.length_nil]; omega
theorem dPop_L {st : Store} {m : Nat} {W : List (List Int)} {h : List Int} (e : st[m]? = some (.lst (tupsL (W ++ [h])))) : dPop (.mref m) st = some (intsT h, st.set m (.lst (tupsL W))) := by
  unfold dPop
  simp only [e]
  have e1 : tupsL (W ++ [h]) = tupsL W ++ [intsT h] := by simp
  rw [e1, List.getLast?_concat]
  simp only
  rw [List.dropLast_concat]
theorem split_last {α : Type} {l : List α} (h : l ≠ []) : ∃ a b, l = a ++ [b] := ⟨l.dropLast, l.getLast h, (List.dropLast_concat_getLast h).symm⟩
theorem dApp_L {st : Store} {m : Nat} {W : List (List Int)} {h : List Int} (e : st[m]? = some (.lst (tupsL W))) (hl : W.length ≤ 1000) : dApp (.mref m) (intsT h) st = some (st.set m (.lst (tupsL (W ++ [h])))) := by
  have hLINE : LINE = 16777216 := rfl
  unfold dApp
  simp only [e]
  rw [if_pos (by simp only [List.length_map]; omega)]
  simp
theorem few64 {n : Int} (hn : n ≤ 6) {F : List (List Int)} (nd : F.Nodup) (h : ∀ t ∈ F, Stand n t) : F.length ≤ 64 := by
  have := nd.length_le_of_subset (l₂ := subs (upto 6)) fun t ht => stand_sub6 hn (h t ht)
  rw [subs_len] at this
  exact this
theorem all_from_ok {n : Int} {L : List (List Int)} {s : List Int} (hn0 : 0 ≤ n) (hn : n ≤ 6) (hL : ∀ l ∈ L, Leap n l) (hs : Stand n s) : ∃ F, m_all_from [boardD n L, intsT s] = .ok (dctS F) ∧ F.Nodup ∧ ∀ t, t ∈ F ↔ Rch L s t := by
  have hLINE : LINE = 16777216 := rfl
  have main : (b_all_from [some (boardD n L), some (intsT s), none, none, none, none, none] []).G3 fun o e st => ∃ F, Fin (dctS F) o e st ∧ F.Nodup ∧ ∀ t, t ∈ F ↔ Rch L s t := by
    unfold b_all_from
    have h0 : ∀ t ∈ [s], Rch L s t := fun t ht => by
      have : t = s := by simpa using ht
      rw [this]; exact .refl
    refine v_Seq (v_Par (v_cons (v_Disp1 rfl (v_cons (v_newL (v_cons (v_v rfl (v_nil ⟨show 1 ≤ LINE by omega, v_nil (v_par2 ?_)⟩))))))))
    refine v_nx (v_Seq ?_)
    refine v_While (fun m env st => ∃ (F W : List (List Int)) (e4 e5 e6 : Option D), env = [some (boardD n L), some (intsT s), some (.mref 0), some (.mref 1), e4, e5, e6] ∧ st = [.dct (tupsL F) (trus F), .lst (tupsL W)] ∧ (m = 2 * (64 - F.length) + W.length ∧ m ≤ 127) ∧ F.Nodup ∧ (∀ t ∈ F, Rch L s t) ∧ s ∈ F ∧ (∀ t ∈ W, t ∈ F) ∧ (∀ t ∈ F, t ∉ W → ∀ l ∈ L, canB t l = true → doneL t l ∈ F)) 127 (by decide)
      ⟨[s], [s], none, none, none, rfl, rfl, ⟨rfl, Nat.le_refl _⟩, by simp, h0, by simp, fun t ht => ht, fun t ht h => absurd ht h⟩ ?_
    rintro m env st ⟨F, W, e4, e5, e6, rfl, rfl, ⟨rfl, hm127⟩, nd, hF, hsF, hWF, hcl⟩
    have hFs : ∀ t ∈ F, Stand n t := fun t ht => (hF t ht).stand hL hs
    have hF64 := few64 hn nd hFs
    refine v_tV (v_op2 (v_v rfl (v_lst (v_nil ⟨Nat.zero_le _, og (dNe_lsts (A := W) (B := []) rfl rfl) (isB (two_n (two_d (fun hW => ?_) fun hW => ?_)))⟩))))
    · subst hW
      refine v_nx (v_Ret (v_v rfl ⟨F, fin_rt rfl, nd, fun t => ⟨hF t, fun h => ?_⟩⟩))
      induction h with
      | refl => exact hsF
      | step _ hl hc ih => exact hcl _ ih (by simp) _ hl hc
    · obtain ⟨W0, h, rfl⟩ := split_last hW
      have hh : h ∈ F := hWF h (by simp)
      have hhs := hFs h hh
      have hhl := stand_len hhs hn0
      refine v_Seq (v_Asg (v_Pop (v_v rfl (og (dPop_L rfl) ?_))))
      refine v_nx ?_
      refine v_For intsT L (fun dn env st => ∃ (F' W' : List (List Int)) (e5 e6 : Option D), env = [some (boardD n L), some (intsT s), some (.mref 0), some (.mref 1), some (intsT h), e5, e6] ∧ st = [.dct (tupsL F') (trus F'), .lst (tupsL W')] ∧ 2 * (64 - F'.length) + W'.length < 2 * (64 - F.length) + (W0 ++ [h]).length ∧ F'.Nodup ∧ (∀ t ∈ F', Rch L s t) ∧ s ∈ F' ∧ h ∈ F' ∧ (∀ t ∈ W', t ∈ F') ∧ (∀ t ∈ F', t ∉ W' → t ≠ h → ∀ l ∈ L, canB t l = true → doneL t l ∈ F') ∧ ∀ l ∈ dn, canB h l = true → doneL h l ∈ F') ?_ ?_ ?_
      · refine v_iSeq (v_fld (v_v rfl (og (fld_leaps _ _ _) (og rfl ⟨rfl, F, W0, e5, e6, rfl, rfl, ?_, nd, hF, hsF, hh, fun t ht => hWF t (by simp [ht]), fun t ht h1 h2 => hcl t ht (by simp [h1, h2]), fun l hl => by cases hl⟩))))
        simp
      · rintro dn l rest eL env st ⟨F', W', e5, e6, rfl, rfl, hm, nd', hF', hsF', hhF', hWF', hcl', hd⟩
        have hlL : l ∈ L := by rw [eL]; simp
        have hFs' : ∀ t ∈ F', Stand n t := fun t ht => (hF' t ht).stand hL hs
        have hF64' := few64 hn nd' hFs'
        have hst : stills [intsT h, intsT l] = true := stills2 (stills_ints _) (stills_ints _)
        refine v_gV ?_
        have hdn : ∀ F2 : List (List Int), (∀ t ∈ F', t ∈ F2) → (canB h l = true → doneL h l ∈ F2) → ∀ l2 ∈ dn ++ [l], canB h l2 = true → doneL h l2 ∈ F2 := by
          intro F2 h1 h2 l2 hl2 hc2
          rcases List.mem_append.mp hl2 with z | z
          · exact h1 _ (hd l2 z hc2)
          · have : l2 = l := by simpa using z
            subst this; exact h2 hc2
        refine v_sIf (v_tV (v_callP (v_cons (v_v rfl (v_cons (v_v rfl (v_nil (v_P hst (can_do_ok (hL l hlL)) (isB (two_of (fun hc => ?_) fun hc => ?_))))))))))
        · refine v_Seq (v_Asg (v_callP (v_cons (v_v rfl (v_cons (v_v rfl (v_nil (v_P hst (done_ok (hL l hlL) (by omega)) ?_))))))))
          refine v_nx ?_
          refine v_sIf (v_tV (v_op2 (v_v rfl (v_v rfl (og (dNotIn_L (S := F') rfl rfl) (isB (two_n (two_d (fun hin => ?_) fun hin => ?_))))))))
          · exact v_Nil ⟨F', W', _, _, rfl, rfl, hm, nd', hF', hsF', hhF', hWF', hcl', hdn F' (fun t ht => ht) fun _ => hin⟩
          · have e1 : addO F' (doneL h l) = F' ++ [doneL h l] := by unfold addO; rw [if_neg hin]
            have nd2 := nodup_addO (k := doneL h l) nd'
            have hF2 : ∀ t ∈ F' ++ [doneL h l], Rch L s t := fun t ht => by
              rcases List.mem_append.mp ht with z | z
              · exact hF' t z
              · have : t = doneL h l := by simpa using z
                subst this; exact .step (hF' h hhF') hlL hc
            have h64 : (F' ++ [doneL h l]).length ≤ 64 := few64 hn (e1 ▸ nd2) fun t ht => (hF2 t ht).stand hL hs
            rw [List.length_append] at h64
            simp only [List.length_cons, List.length_nil] at h64
            refine v_Seq (v_AsgT (v_c (v_gSub (v_v rfl (v_v rfl (og (dPut_L (S := F') (k := doneL h l) rfl (by omega)) ?_))))))
            refine v_nx ?_
            have hWl : W'.length ≤ 1000 := by omega
            refine v_Expr (v_App (v_v rfl ⟨rfl, v_v rfl (og (dApp_L (W := W') (h := doneL h l) rfl hWl) ?_)⟩))
            rw [e1]
            refine ⟨F' ++ [doneL h l], W' ++ [doneL h l], _, _, rfl, rfl, ?_, e1 ▸ nd2, hF2, by simp [hsF'], by simp [hhF'], ?_, ?_, hdn _ (fun t ht => by simp [ht]) fun _ => by simp⟩
            · simp only [List.length_append, List.length_cons, List.length_nil] at hm ⊢; omega
            · intro t ht
              rcases List.mem_append.mp ht with z | z
              · simp [hWF' t z]
              · simp at z; simp [z]
            · intro t ht h1 h2 l2 hl2 hc2
              have h3 : t ∈ F' := by
                rcases List.mem_append.mp ht with z | z
                · exact z
                · exact absurd (List.mem_append.mpr (.inr z)) h1
              exact List.mem_append.mpr (.inl (hcl' t h3 (fun z => h1 (List.mem_append.mpr (.inl z))) h2 l2 hl2 hc2))
        · exact v_Nil ⟨F', W', _, _, rfl, rfl, hm, nd', hF', hsF', hhF', hWF', hcl', hdn F' (fun t ht => ht) fun z => by rw [hc] at z; cases z⟩
      · rintro env st ⟨F', W', e5, e6, rfl, rfl, hm, nd', hF', hsF', hhF', hWF', hcl', hd⟩
        refine ⟨_, hm, F', W', _, _, _, rfl, rfl, ⟨rfl, by omega⟩, nd', hF', hsF', hWF', fun t ht h1 l hl hc => ?_⟩
        by_cases q : t = h
        · subst q; exact hd l hl hc
        · exact hcl' t ht h1 q l hl hc
  obtain ⟨o, e, st, eq, F, hf, nd, h⟩ := main
  refine ⟨F, v_mP ?_ ⟨o, e, st, eq, hf⟩, nd, h⟩
  show (stills (tupsL F) && stills (trus F)) = true
  rw [still_tups]
  clear eq hf nd h
  induction F with
  | nil => rfl
  | cons a F ih => exact ih
end Px
set_option maxRecDepth 100000
/-! Mb: right pegs, right sets of standings, their order. -/
namespace Px
open PySem PySem.Spec
theorem marks_none (i : Nat) : callP m_first_false [.lst (List.replicate i (.bl true))] [.mref 0] = .ok .non := by
  refine callP_rd ?_ ?_ rfl
  · show (stills (List.replicate i (D.bl true)) && true) = true
    rw [still_marks]; rfl
  · have := first_false_all (List.replicate i true) fun b hb => List.eq_of_mem_replicate hb
    rw [List.map_replicate] at this
    exact this
theorem right_pegs {n : Int} {L : List (List Int)} {l : List Int} (hn0 : 0 ≤ n) (hn : n ≤ 12) (h : Stand n l) : m_wrong_peg [boardD n L, intsT l] = .ok .non := by
  have hLINE : LINE = 16777216 := rfl
  have hlen := stand_len h (by omega)
  refine mP_of ?_ rfl
  show (b_wrong_peg [some (boardD n L), some (intsT l), none, none, none, none] []).Gives _
  unfold b_wrong_peg
  refine g_Seq (g_sIf (g_tNot (g_tV (g_B1 (g_v rfl ⟨.bl true, rfl, true, rfl, fun h => (by cases h), fun _ => ?_⟩)))))
  refine g_Nil (g_Seq (g_Asg (g_newL (g_nil ⟨Nat.zero_le _, g_Seq (g_For (g_iEn (g_v rfl ⟨(l.map .int, none), rfl, ?_⟩)))⟩))))
  refine forN_gives (I := fun r env s => ∃ (i : Nat) (e3 e4 e5 : Option D), env = [some (boardD n L), some (intsT l), some (.mref 0), e3, e4, e5] ∧ s = [.lst (List.replicate i (.bl true))] ∧ r = enumD i ((l.drop i).map .int) ∧ i ≤ l.length) (fun d r env s hI => ?_) (fun env s hI => ?_) _ _ _ ?_
  · obtain ⟨i, e3, e4, e5, rfl, rfl, hr, hil⟩ := hI
    obtain ⟨x, l', e1, rfl, rfl⟩ := enumD_cons hr
    have hlt : i < l.length := by
      by_cases q : i < l.length
      · exact q
      · rw [List.drop_eq_nil_of_le (by omega)] at e1; cases e1
    rw [List.drop_eq_getElem_cons hlt, List.map_cons] at e1
    injection e1 with e1 e2
    subst e1 e2
    have hrng := h.rng l[i] (List.getElem_mem hlt)
    refine ⟨rfl, g_gTup2 ?_⟩
    refine g_Seq (g_Asg (g_callP (g_cons (g_v rfl (g_cons (g_c (g_cons (g_op2 (g_fld (g_v rfl ⟨_, fld_many _ _ _, g_c ⟨_, dSub_int _ _ _, g_nil ⟨_, callP_of rfl (is_between_int _ _ _), ?_⟩⟩⟩))))))))))
    rw [decide_eq_true (show 0 ≤ l[i] from hrng.1), decide_eq_true (show l[i] ≤ n - 1 by omega)]
    refine g_Seq (g_sIf (g_tAnd (g_tV (g_v rfl ⟨true, rfl, fun _ => ?_, fun h => (by cases h)⟩))))
    refine g_tAnd (g_tV (g_op2 (g_v rfl (g_c ⟨_, dGt_int _ _ _, _, rfl, fun hp => ?_, fun hp => ?_⟩))))
    · have hpos : 0 < i := by
        have : (0 : Int) < i := by simpa using hp
        omega
      refine g_tV (g_op2 (g_v rfl (g_neg (g_c ⟨1, rfl, _, last_mark i hpos, true, rfl, fun _ => ?_, fun h => (by cases h)⟩))))
      refine g_Asg (g_op2 (g_op2 (g_v rfl (g_op2 (g_v rfl (g_c ⟨_, dSub_int _ _ _, .int l[i - 1], ?_, g_v rfl ⟨_, dLt_int _ _ _, ?_⟩⟩))))))
      · show L2.atI (l.map D.int) ((i : Int) - 1) = _
        rw [atI_nn (by omega), List.getElem?_map, show ((i : Int) - 1).toNat = i - 1 by omega, List.getElem?_eq_getElem (by omega)]; rfl
      · have hlt2 : l[i - 1] < l[i] := List.pairwise_iff_getElem.mp h.pw (i - 1) i (by omega) hlt (by omega)
        rw [decide_eq_true hlt2]
        refine g_Expr (g_App (g_v rfl ⟨rfl, g_v rfl ⟨_, app_mark i (by omega), ?_⟩⟩))
        exact ⟨i + 1, some (.int i), some (.int l[i]), some (.bl true), rfl, rfl, rfl, hlt⟩
    · refine ⟨fun h => (by cases h), fun _ => ?_⟩
      refine g_Nil ?_
      refine g_Expr (g_App (g_v rfl ⟨rfl, g_v rfl ⟨_, app_mark i (by omega), ?_⟩⟩))
      exact ⟨i + 1, some (.int i), some (.int l[i]), some (.bl true), rfl, rfl, rfl, hlt⟩
  · obtain ⟨i, e3, e4, e5, rfl, rfl, hr, hil⟩ := hI
    refine ⟨rfl, ?_⟩
    exact g_Ret (g_callP (g_cons (g_v rfl (g_nil ⟨.non, marks_none i, rfl⟩))))
  · exact ⟨0, _, _, _, rfl, rfl, by simp, Nat.zero_le _⟩
theorem pegs_pass {n : Int} {L : List (List Int)} {l : List Int} (hn0 : 0 ≤ n) (hn : n ≤ 12) (h : Stand n l) : m_need_pegs [boardD n L, intsT l] = .ok .non := by
  refine v_mP rfl ?_
  show (b_need_pegs [some (boardD n L), some (intsT l), none] []).G3 _
  unfold b_need_pegs
  refine v_Seq (v_Asg (v_callP (v_cons (v_v rfl (v_cons (v_v rfl (v_nil (v_P (stills2 (still_board n L) (stills_ints l)) (right_pegs hn0 hn h) ?_))))))))
  refine v_nx (v_sIf (v_tV (v_op2 (v_v rfl (v_c (og (dIsNot_non _ _) (isB (two_n (two_t (v_Nil rfl))))))))))
theorem is_pegs_ok {n : Int} {L : List (List Int)} {l : List Int} (hn0 : 0 ≤ n) (hn : n ≤ 12) (h : Stand n l) : m_is_pegs [boardD n L, intsT l] = .ok (.bl true) := by
  refine v_mP rfl ?_
  show (b_is_pegs [some (boardD n L), some (intsT l)] []).G3 _
  unfold b_is_pegs
  refine v_Ret (v_op2 (v_callP (v_cons (v_v rfl (v_cons (v_v rfl (v_nil (v_P (stills2 (still_board n L) (stills_ints l)) (right_pegs hn0 hn h) (v_c (og (dIs_non _ _) (fin_rt rfl)))))))))))
theorem zip_at {M : List (List Int)} {dn rest : List (List Int × Nat)} {p : List Int × Nat} (h : M.zipIdx = dn ++ p :: rest) : p.2 = dn.length ∧ M[dn.length]? = some p.1 := by
  have h1 : M.zipIdx[dn.length]? = some p := by rw [h]; simp
  rw [List.getElem?_zipIdx] at h1
  cases e : M[dn.length]? with
  | none => rw [e] at h1; cases h1
  | some x =>
    rw [e] at h1
    simp only [Option.map_some, Option.some.injEq] at h1
    subst h1
    exact ⟨by simp, rfl⟩
theorem ix_tups (st : Store) {M : List (List Int)} {j : Nat} {x : List Int} (h : M[j]? = some x) : dIx st (tupsT M) (.int (j : Nat)) = some (intsT x) := by
  show L2.atI (M.map intsT) (j : Nat) = _
  rw [atI_nn (by omega), List.getElem?_map, show ((j : Int)).toNat = j by omega, h]; rfl
theorem len_tup (st : Store) (l : List Int) : bLen st [intsT l] = some (.int (l.length : Nat)) := by
  show (some (D.int ((l.map D.int).length : Nat))) = _
  rw [List.length_map]
/-- a right set of standings passes -/
theorem need_set_ok {n : Int} {L M : List (List Int)} (hn0 : 0 ≤ n) (hn : n ≤ 12) (hM : OrdP M) (hs : ∀ s ∈ M, Stand n s) (hl : M.length ≤ 900) : m_need_set [boardD n L, tupsT M] = .ok .non := by
  have hLINE : LINE = 16777216 := rfl
  refine v_mP rfl ?_
  show (b_need_set [some (boardD n L), some (tupsT M), none, none, none, none, none, none] []).G3 _
  unfold b_need_set
  refine v_Seq (v_sIf (v_tNot (v_tV (v_B1 (v_v rfl (og (d := .bl true) rfl (isB (two_n (two_t (v_Nil (v_nx (v_Seq (v_Asg (v_newL (v_nil ⟨Nat.zero_le _, v_nx (v_Seq ?_)⟩)))))))))))))))
  refine v_For (fun p : List Int × Nat => .tup [.int p.2, intsT p.1]) M.zipIdx (fun dn env st => ∃ (e3 e4 e5 e6 : Option D), env = [some (boardD n L), some (tupsT M), some (.mref 0), e3, e4, e5, e6, none] ∧ st = [.lst (List.replicate dn.length (.bl true))]) ?_ ?_ ?_
  · exact v_iEn (v_v rfl (og (d := (tupsL M, none)) rfl ⟨by simp only; rw [enumD_map], none, none, none, none, rfl, rfl⟩))
  · rintro dn p rest eM env st ⟨e3, e4, e5, e6, rfl, rfl⟩
    obtain ⟨h1, h2⟩ := zip_at eM
    obtain ⟨x, j⟩ := p
    simp only at h1 h2
    subst h1
    have hx : x ∈ M := List.mem_of_getElem? h2
    have hlt : dn.length < M.length := (List.getElem?_eq_some_iff.mp h2).1
    have happ : ∀ e3 e4 e5 e6 : Option D, ([some (boardD n L), some (tupsT M), some (.mref 0), e3, e4, e5, e6, none] : DEnv)[2]? = some (some (.mref 0)) := fun _ _ _ _ => rfl
    refine v_gTup2 (v_Seq (v_Asg (v_callP (v_cons (v_v rfl (v_cons (v_v rfl (v_nil (v_P (stills2 (still_board n L) (stills_ints x)) (is_pegs_ok hn0 hn (hs x hx)) ?_)))))))))
    refine v_nx (v_Seq (v_sIf (v_tAnd (v_tV (v_v rfl (isB (two_t (v_tAnd (v_tV (v_op2 (v_v rfl (v_c (og (dGt_int _ _ _) (isB (two_d (fun hp => ?_) fun hp => two_f (v_Nil ?_))))))))))))))))
    · have hpos : 0 < dn.length := by omega
      refine v_tV (v_op2 (v_v rfl (v_neg (v_c (isI (og (last_mark dn.length hpos) (isB (two_t ?_))))))))
      have hb : dn.length - 1 < M.length := by omega
      have h3 : M[dn.length - 1]? = some M[dn.length - 1] := List.getElem?_eq_getElem hb
      have h4 : ltP M[dn.length - 1] x := by
        have := List.pairwise_iff_getElem.mp hM (dn.length - 1) dn.length hb hlt (by omega)
        rwa [(List.getElem?_eq_some_iff.mp h2).2] at this
      have h5 := ix_tups [MObj.lst (List.replicate dn.length (.bl true))] h3
      rw [show (((dn.length - 1 : Nat) : Int)) = (dn.length : Int) - 1 by omega] at h5
      refine v_Seq (v_Asg (v_op2 (v_v rfl (v_op2 (v_v rfl (v_c (og (dSub_int _ _ _) (og h5 ?_))))))))
      refine v_nx (v_Asg (v_op2 (v_tup (v_cons (v_B (v_cons (v_v rfl (v_nil (og (len_tup _ _) (v_cons (v_v rfl (v_nil ⟨show 2 ≤ LINE by omega, ?_⟩))))))))))))
      refine v_tup (v_cons (v_B (v_cons (v_v rfl (v_nil (og (len_tup _ _) (v_cons (v_v rfl (v_nil ⟨show 2 ≤ LINE by omega, og (dLt_pair _ _ _) ?_⟩)))))))))
      rw [decide_eq_true h4]
      refine v_nx (v_Expr (v_App (v_v rfl ⟨rfl, v_v rfl (og (app_mark dn.length (by omega)) ?_)⟩)))
      exact ⟨_, _, _, _, rfl, by rw [List.length_append]; rfl⟩
    · refine v_nx (v_Expr (v_App (v_v rfl ⟨rfl, v_v rfl (og (app_mark dn.length (by omega)) ?_)⟩)))
      exact ⟨_, _, _, _, rfl, by rw [List.length_append]; rfl⟩
  · rintro env st ⟨e3, e4, e5, e6, rfl, rfl⟩
    refine v_nx (v_Seq (v_Asg (v_callP (v_cons (v_v rfl (v_nil ⟨.non, marks_none _, ?_⟩))))))
    refine v_nx (v_sIf (v_tV (v_op2 (v_v rfl (v_c (og (dIsNot_non _ _) (isB (two_n (two_t (v_Nil rfl))))))))))
theorem in_order_ok {F : List (List Int)} (hl : F.length ≤ 900) (hm : ∀ x ∈ F, x.length ≤ 900) : m_in_order [.lst (tupsL F)] = .ok (tupsT (F.mergeSort leP)) := by
  refine v_mP (still_tups _) ?_
  show (b_in_order [some (.lst (tupsL F))] []).G3 _
  unfold b_in_order
  exact v_Ret (v_B (v_cons (v_L1 (v_v rfl (og (sortK_L (L := F) rfl (by omega) fun x hx => (by have := hm x hx; omega)) (v_nil (og rfl (fin_rt rfl))))))))
/-- _law_order -/
theorem law_order_gen {L : List (List Int)} {d : D} (hd : seqS [] d = some (tupsL L, none)) (hl : L.length < 100000) (few : ∀ M : List (List Int), M.Nodup → (∀ x ∈ M, x ∈ L) → M.length < 64) : ∃ M : List (List Int), m__law_order [d] = .ok (tupsT M) ∧ OrdP M ∧ ∀ x, x ∈ M ↔ x ∈ L := by
  have hLINE : LINE = 16777216 := rfl
  obtain ⟨M, h1, nd, h2⟩ := sortedSet_Po (st := []) (d := .lst (L.map pairT)) (L := L) rfl rfl (dedup_P L few)
  have hMl := few M nd.nodup fun x hx => (h2 x).mp hx
  refine ⟨M, v_mP (still_tups M) ?_, nd, h2⟩
  show (b__law_order [some d, none, none] []).G3 _
  unfold b__law_order
  have hf : ∀ N : List (List Int), N.filter (fun _ => true) = N := fun N => List.filter_eq_self.mpr fun _ _ => rfl
  refine v_Ret (v_B (v_cons (v_comp pairT M (fun _ => true) intsT (v_iSeq (v_L1 (v_comp intsT L (fun _ => true) pairT (v_iSeq (v_v rfl (og hd ⟨rfl, rfl, fun k hk => item_a ?_, by omega, ?_⟩)))))))))
  · exact v_tup (v_cons (v_B (v_cons (v_v rfl (v_nil (og (len_tup _ _) (v_cons (v_v rfl (v_nil ⟨show 2 ≤ LINE by omega, rfl, rfl⟩)))))))))
  · rw [hf]
    refine og h1 (og rfl ⟨rfl, rfl, fun k hk => item_a ?_, by omega, ?_⟩)
    · exact v_op2 (v_v rfl (v_c (og rfl ⟨rfl, rfl⟩)))
    · rw [hf]
      exact v_nil (og rfl (fin_rt rfl))
theorem law_order_ok {L : List (List Int)} (hl : L.length < 100000) (few : ∀ M : List (List Int), M.Nodup → (∀ x ∈ M, x ∈ L) → M.length < 64) : ∃ M : List (List Int), m__law_order [.lst (tupsL L)] = .ok (tupsT M) ∧ OrdP M ∧ ∀ x, x ∈ M ↔ x ∈ L := law_order_gen rfl hl few
end Px
set_option maxRecDepth 100000
/-! Mc: closures, sources, what is left. -/
namespace Px
open PySem PySem.Spec
def Clo (L M : List (List Int)) (t : List Int) : Prop := ∃ s ∈ M, Rch L s t
theorem Clo.stand {n : Int} {L M : List (List Int)} (hL : ∀ l ∈ L, Leap n l) (hM : ∀ s ∈ M, Stand n s) {t : List Int} (h : Clo L M t) : Stand n t := let ⟨s, hs, r⟩ := h; r.stand hL (hM s hs)
theorem least_ok {n : Int} {L M : List (List Int)} (hn0 : 0 ≤ n) (hn : n ≤ 6) (hL : ∀ l ∈ L, Leap n l) (hO : OrdP M) (hM : ∀ s ∈ M, Stand n s) : ∃ W, m_least_closed [boardD n L, tupsT M] = .ok (tupsT W) ∧ OrdP W ∧ ∀ t, t ∈ W ↔ Clo L M t := by
  have hM64 := few64 hn hO.nodup hM
  have main : (b_least_closed [some (boardD n L), some (tupsT M), none, none] []).G3 fun o e st => ∃ F : List (List Int), Fin (tupsT (F.mergeSort leP)) o e st ∧ F.Nodup ∧ ∀ t, t ∈ F ↔ Clo L M t := by
    unfold b_least_closed
    refine v_Seq (v_Expr (v_callP (v_cons (v_v rfl (v_cons (v_v rfl (v_nil (v_P (stills2 (still_board n L) (still_tups M)) (need_set_ok hn0 (by omega) hO hM (by omega)) (v_nx ?_)))))))))
    refine v_Seq (v_Asg (v_DEN (v_nx (v_Seq ?_))))
    refine v_For intsT M (fun dn env st => ∃ (F : List (List Int)) (e3 : Option D), env = [some (boardD n L), some (tupsT M), some (.mref 0), e3] ∧ st = [.dct (tupsL F) (trus F)] ∧ F.Nodup ∧ ∀ t, t ∈ F ↔ Clo L dn t) ?_ ?_ ?_
    · exact v_iSeq (v_v rfl (og rfl ⟨rfl, [], none, rfl, rfl, List.nodup_nil, fun t => ⟨fun h => (by cases h), fun ⟨s, hs, _⟩ => (by cases hs)⟩⟩))
    · rintro dn s rest eM env st ⟨F, e3, rfl, rfl, nd, hF⟩
      have hsM : s ∈ M := by rw [eM]; simp
      have hdM : ∀ x ∈ dn, x ∈ M := fun x hx => by rw [eM]; simp [hx]
      obtain ⟨F2, e2, nd2, h2⟩ := all_from_ok hn0 hn hL (hM s hsM)
      have f1 := few64 hn nd fun t ht => ((hF t).mp ht).stand hL fun s hs => hM s (hdM s hs)
      have s2 : ∀ t ∈ F2, Stand n t := fun t ht => ((h2 t).mp ht).stand hL (hM s hsM)
      have f2 := few64 hn nd2 s2
      refine v_gV (v_Expr (v_Upd2 (v_v rfl ⟨rfl, v_callP (v_cons (v_v rfl (v_cons (v_v rfl (v_nil (v_P (stills2 (still_board n L) (stills_ints s)) e2 ?_))))))⟩)))
      refine og (upd2_L hn (m := 0) (S := F) (T := F2) rfl rfl rfl s2 nd2 (by omega)) ?_
      refine ⟨addA F F2, _, rfl, rfl, nodup_addA nd, fun t => ?_⟩
      rw [mem_addA, hF, h2]
      constructor
      · rintro (⟨s', hs', r⟩ | r)
        · exact ⟨s', by simp [hs'], r⟩
        · exact ⟨s, by simp, r⟩
      · rintro ⟨s', hs', r⟩
        rcases List.mem_append.mp hs' with z | z
        · exact .inl ⟨s', z, r⟩
        · have : s' = s := by simpa using z
          subst this; exact .inr r
    · rintro env st ⟨F, e3, rfl, rfl, nd, hF⟩
      have sF : ∀ t ∈ F, Stand n t := fun t ht => ((hF t).mp ht).stand hL hM
      have f1 := few64 hn nd sF
      refine v_nx (v_Ret (v_callP (v_cons (v_L (v_cons (v_v rfl (v_nil (og (list2_L (S := F) rfl rfl) (v_nil (v_P (stills1 (a := .lst (tupsL F)) (still_tups F)) (in_order_ok (by omega) fun x hx => (by have := stand_len (sF x hx) hn0; omega)) ⟨F, fin_rt rfl, nd, hF⟩))))))))))
  obtain ⟨o, e, st, eq, F, hf, nd, h⟩ := main
  refine ⟨F.mergeSort leP, v_mP (still_tups _) ⟨o, e, st, eq, hf⟩, ordP_sort nd, fun t => ?_⟩
  rw [List.mem_mergeSort, h]
/-- a leap within M leads to t -/
def Led (L M : List (List Int)) (t : List Int) : Prop := ∃ s ∈ M, ∃ l ∈ L, canB s l = true ∧ doneL s l = t
theorem outs_stand {n : Int} {L : List (List Int)} {s : List Int} (hL : ∀ l ∈ L, Leap n l) (hs : Stand n s) : ∀ t ∈ (L.filter (canB s)).map (doneL s), Stand n t := by
  intro t ht
  obtain ⟨l, hl, rfl⟩ := List.mem_map.mp ht
  obtain ⟨h1, h2⟩ := List.mem_filter.mp hl
  exact stand_done hs (hL l h1) h2
theorem sources_ok {n : Int} {L M : List (List Int)} (hn0 : 0 ≤ n) (hn : n ≤ 6) (hL : ∀ l ∈ L, Leap n l) (hL60 : L.length ≤ 60) (hO : OrdP M) (hM : ∀ s ∈ M, Stand n s) : ∃ p : List Int → Bool, m_sources_of [boardD n L, tupsT M] = .ok (tupsT (M.filter p)) ∧ ∀ t, p t = true ↔ ¬ Led L M t := by
  have hLINE : LINE = 16777216 := rfl
  have hM64 := few64 hn hO.nodup hM
  have main : (b_sources_of [some (boardD n L), some (tupsT M), none, none, none, none] []).G3 fun o e st => ∃ F : List (List Int), Fin (tupsT (M.filter fun k => !decide (k ∈ F))) o e st ∧ ∀ t, t ∈ F ↔ Led L M t := by
    unfold b_sources_of
    refine v_Seq (v_Expr (v_callP (v_cons (v_v rfl (v_cons (v_v rfl (v_nil (v_P (stills2 (still_board n L) (still_tups M)) (need_set_ok hn0 (by omega) hO hM (by omega)) (v_nx ?_)))))))))
    refine v_Seq (v_Asg (v_DEN (v_nx (v_Seq ?_))))
    refine v_For intsT M (fun dn env st => ∃ (F : List (List Int)) (e3 : Option D), env = [some (boardD n L), some (tupsT M), some (.mref 0), e3, none, none] ∧ st = [.dct (tupsL F) (trus F)] ∧ F.Nodup ∧ ∀ t, t ∈ F ↔ Led L dn t) ?_ ?_ ?_
    · exact v_iSeq (v_v rfl (og rfl ⟨rfl, [], none, rfl, rfl, List.nodup_nil, fun t => ⟨fun h => (by cases h), fun ⟨s, hs, _⟩ => (by cases hs)⟩⟩))
    · rintro dn s rest eM env st ⟨F, e3, rfl, rfl, nd, hF⟩
      have hsM : s ∈ M := by rw [eM]; simp
      have hdM : ∀ x ∈ dn, x ∈ M := fun x hx => by rw [eM]; simp [hx]
      have hss := hM s hsM
      have hsl := stand_len hss hn0
      have hout := outs_stand hL hss
      have f1 := few64 hn nd fun t ht => (by
        obtain ⟨s', hs', l, hl, hc, rfl⟩ := (hF t).mp ht
        exact stand_done (hM s' (hdM s' hs')) (hL l hl) hc)
      have nd2 : (addA [] ((L.filter (canB s)).map (doneL s))).Nodup := nodup_addA List.nodup_nil
      have s2 : ∀ t ∈ addA [] ((L.filter (canB s)).map (doneL s)), Stand n t := fun t ht => by
        rcases mem_addA.mp ht with z | z
        · cases z
        · exact hout t z
      have f2 := few64 hn nd2 s2
      have hlf := List.length_filter_le (canB s) L
      have hpe : (L.filter (canB s)).map (fun l => D.tup [intsT (doneL s l), tru]) = ((L.filter (canB s)).map (doneL s)).map fun k => .tup [intsT k, tru] := by rw [List.map_map]; rfl
      refine v_gV (v_Expr (v_Upd2 (v_v rfl ⟨rfl, v_D (v_cons (v_comp intsT L (canB s) (fun l => .tup [intsT (doneL s l), tru]) (v_iSeq (v_fld (v_v rfl (og (fld_leaps _ _ _) (og rfl ⟨rfl, rfl, fun l hl => item1 ?_ fun _ => ?_, by omega, ?_⟩))))))) ⟩)))
      · exact v_tV (v_callP (v_cons (v_v rfl (v_cons (v_v rfl (v_nil (v_P (stills2 (stills_ints s) (stills_ints l)) (can_do_ok (hL l hl)) (isB ⟨rfl, rfl⟩))))))))
      · exact v_tup (v_cons (v_callP (v_cons (v_v rfl (v_cons (v_v rfl (v_nil (v_P (stills2 (stills_ints s) (stills_ints l)) (done_ok (hL l hl) (by omega)) (v_cons (v_c (v_nil ⟨show 2 ≤ LINE by omega, rfl, rfl⟩)))))))))))
      · rw [hpe]
        refine v_nil (og (dp2_L _ ((L.filter (canB s)).map (doneL s)) (by rw [List.length_map]; omega)) ?_)
        refine og (upd2_L hn (m := 0) (S := F) (T := addA [] ((L.filter (canB s)).map (doneL s))) rfl rfl rfl s2 nd2 (by omega)) ?_
        refine ⟨addA F (addA [] ((L.filter (canB s)).map (doneL s))), _, rfl, rfl, nodup_addA nd, fun t => ?_⟩
        rw [mem_addA, mem_addA, hF, List.mem_map]
        constructor
        · rintro (⟨s', hs', r⟩ | h | ⟨l, hl, rfl⟩)
          · exact ⟨s', by simp [hs'], r⟩
          · cases h
          · obtain ⟨h1, h2⟩ := List.mem_filter.mp hl
            exact ⟨s, by simp, l, h1, h2, rfl⟩
        · rintro ⟨s', hs', l, hl, hc, rfl⟩
          rcases List.mem_append.mp hs' with z | z
          · exact .inl ⟨s', z, l, hl, hc, rfl⟩
          · have : s' = s := by simpa using z
            subst this; exact .inr (.inr ⟨l, List.mem_filter.mpr ⟨hl, hc⟩, rfl⟩)
    · rintro env st ⟨F, e3, rfl, rfl, nd, hF⟩
      refine v_nx (v_Ret (v_B (v_cons (v_comp intsT M (fun k => !decide (k ∈ F)) intsT (v_iSeq (v_v rfl (og rfl ⟨rfl, rfl, fun k hk => item1 ?_ fun _ => ?_, by omega, ?_⟩)))))))
      · exact v_tV (v_op2 (v_v rfl (v_v rfl (og (dNotIn_L (S := F) rfl rfl) (isB ⟨rfl, rfl⟩)))))
      · exact v_v rfl ⟨rfl, rfl⟩
      · exact v_nil (og rfl ⟨F, fin_rt rfl, hF⟩)
  obtain ⟨o, e, st, eq, F, hf, h⟩ := main
  refine ⟨fun k => !decide (k ∈ F), v_mP (still_tups _) ⟨o, e, st, eq, hf⟩, fun t => ?_⟩
  rw [← h]; simp
/-- no leap leads out of M -/
def Cl (L M : List (List Int)) : Prop := ∀ s ∈ M, ∀ l ∈ L, canB s l = true → doneL s l ∈ M
theorem first_left_ok {n : Int} {L M : List (List Int)} (hn0 : 0 ≤ n) (hn : n ≤ 6) (hL : ∀ l ∈ L, Leap n l) (hO : OrdP M) (hM : ∀ s ∈ M, Stand n s) : ∃ r, m_first_left [boardD n L, tupsT M] = .ok r ∧ still r = true ∧ (isNon r = true ↔ Cl L M) ∧ (isNon r = false → ∃ s ∈ M, ∃ l ∈ L, r = .tup [intsT s, intsT l] ∧ canB s l = true ∧ doneL s l ∉ M) := by
  have hLINE : LINE = 16777216 := rfl
  have hM64 := few64 hn hO.nodup hM
  have main : (b_first_left [some (boardD n L), some (tupsT M), none, none, none] []).G3 fun o e st => ∃ r, Fin r o e st ∧ still r = true ∧ (isNon r = true ↔ Cl L M) ∧ (isNon r = false → ∃ s ∈ M, ∃ l ∈ L, r = .tup [intsT s, intsT l] ∧ canB s l = true ∧ doneL s l ∉ M) := by
    unfold b_first_left
    refine v_Seq (v_Expr (v_callP (v_cons (v_v rfl (v_cons (v_v rfl (v_nil (v_P (stills2 (still_board n L) (still_tups M)) (need_set_ok hn0 (by omega) hO hM (by omega)) (v_nx ?_)))))))))
    have hf : ∀ N : List (List Int), N.filter (fun _ => true) = N := fun N => List.filter_eq_self.mpr fun _ _ => rfl
    refine v_Seq (v_Asg (v_D (v_cons (v_comp intsT M (fun _ => true) (fun k => .tup [intsT k, tru]) (v_iSeq (v_v rfl (og rfl ⟨rfl, rfl, fun k hk => item_a ?_, by omega, ?_⟩)))))))
    · exact v_tup (v_cons (v_v rfl (v_cons (v_c (v_nil ⟨show 2 ≤ LINE by omega, rfl, rfl⟩)))))
    rw [hf]
    refine v_nil (og (dp2_L _ M (by omega)) (v_nx (v_Seq ?_)))
    have hmem : ∀ t, t ∈ addA [] M ↔ t ∈ M := fun t => by rw [mem_addA]; simp
    generalize addA [] M = F at hmem
    refine v_For intsT M (fun dn env st => ∃ (e3 e4 : Option D), env = [some (boardD n L), some (tupsT M), some (dctS F), e3, e4] ∧ st = [] ∧ ∀ s ∈ dn, ∀ l ∈ L, canB s l = true → doneL s l ∈ M) ?_ ?_ ?_
    · exact v_iSeq (v_v rfl (og rfl ⟨rfl, none, none, rfl, rfl, fun s hs => by cases hs⟩))
    · rintro dn s rest eM env st ⟨e3, e4, rfl, rfl, hd⟩
      have hsM : s ∈ M := by rw [eM]; simp
      have hsl := stand_len (hM s hsM) hn0
      refine v_gV ?_
      refine v_For intsT L (fun dl env st => ∃ (e4 : Option D), env = [some (boardD n L), some (tupsT M), some (dctS F), some (intsT s), e4] ∧ st = [] ∧ ∀ l ∈ dl, canB s l = true → doneL s l ∈ M) ?_ ?_ ?_
      · exact v_iSeq (v_fld (v_v rfl (og (fld_leaps _ _ _) (og rfl ⟨rfl, e4, rfl, rfl, fun l hl => by cases hl⟩))))
      · rintro dl l rest2 eL env st ⟨e4, rfl, rfl, hdl⟩
        have hlL : l ∈ L := by rw [eL]; simp
        have hst : stills [intsT s, intsT l] = true := stills2 (stills_ints _) (stills_ints _)
        have hdn : (canB s l = true → doneL s l ∈ M) → ∀ l2 ∈ dl ++ [l], canB s l2 = true → doneL s l2 ∈ M := by
          intro h2 l2 hl2 hc2
          rcases List.mem_append.mp hl2 with z | z
          · exact hdl l2 z hc2
          · have : l2 = l := by simpa using z
            subst this; exact h2 hc2
        refine v_gV (v_sIf (v_tAnd (v_tV (v_callP (v_cons (v_v rfl (v_cons (v_v rfl (v_nil (v_P hst (can_do_ok (hL l hlL)) (isB (two_of (fun hc => ?_) fun hc => two_f (v_Nil ⟨_, rfl, rfl, hdn fun z => (by rw [hc] at z; cases z)⟩)))))))))))))
        refine v_tV (v_op2 (v_callP (v_cons (v_v rfl (v_cons (v_v rfl (v_nil (v_P hst (done_ok (hL l hlL) (by omega)) (v_v rfl (og (dNotIn_L (S := F) rfl rfl) (isB (two_n (two_d (fun hin => ?_) fun hin => ?_)))))))))))))
        · exact v_Nil ⟨_, rfl, rfl, hdn fun _ => (hmem _).mp hin⟩
        · refine v_Ret (v_tup (v_cons (v_v rfl (v_cons (v_v rfl (v_nil ⟨show 2 ≤ LINE by omega, ?_⟩))))))
          refine ⟨.tup [intsT s, intsT l], fin_rt rfl, hst, ⟨fun h => (by cases h), fun h => ?_⟩, fun _ => ⟨s, hsM, l, hlL, rfl, hc, fun z => hin ((hmem _).mpr z)⟩⟩
          exact absurd ((hmem _).mpr (h s hsM l hlL hc)) hin
      · rintro env st ⟨e4, rfl, rfl, hdl⟩
        refine ⟨_, _, rfl, rfl, fun s' hs' => ?_⟩
        rcases List.mem_append.mp hs' with z | z
        · exact hd s' z
        · have : s' = s := by simpa using z
          subst this; exact hdl
    · rintro env st ⟨e3, e4, rfl, rfl, hd⟩
      exact v_nx (v_Ret (v_c ⟨.non, fin_rt rfl, rfl, ⟨fun _ => hd, fun _ => rfl⟩, fun h => by cases h⟩))
  obtain ⟨o, e, st, eq, r, hf, hs, h1, h2⟩ := main
  exact ⟨r, v_mP hs ⟨o, e, st, eq, hf⟩, hs, h1, h2⟩
theorem is_closed_ok {n : Int} {L M : List (List Int)} (hn0 : 0 ≤ n) (hn : n ≤ 6) (hL : ∀ l ∈ L, Leap n l) (hO : OrdP M) (hM : ∀ s ∈ M, Stand n s) : ∃ b, m_is_closed [boardD n L, tupsT M] = .ok (.bl b) ∧ (b = true ↔ Cl L M) := by
  obtain ⟨r, e, hs, h1, h2⟩ := first_left_ok hn0 hn hL hO hM
  refine ⟨isNon r, v_mP rfl ?_, h1⟩
  show (b_is_closed [some (boardD n L), some (tupsT M)] []).G3 _
  unfold b_is_closed
  exact v_Ret (v_op2 (v_callP (v_cons (v_v rfl (v_cons (v_v rfl (v_nil (v_P (stills2 (still_board n L) (still_tups M)) e (v_c (og (dIs_non _ _) (fin_rt rfl)))))))))))
end Px
set_option maxRecDepth 100000
/-! Mv: the draws, parts apart. -/
namespace Px
open PySem PySem.Spec
theorem v_taken {st : Store} (h : RowOk st) {n : Int} (hn : 0 < n) (hb : n < 1000000) {Q : D → Store → Prop} (q : ∀ k st', 0 ≤ k → k < n → RowOk st' → Turned st st' → Q (.int k) st') : (m__law_taken [.mref 0, .int n] st).G2 Q :=
  (taken_ok h hn hb).two.imp fun d s ⟨⟨k, e, h1, h2⟩, ht⟩ => by
    have e : d = .int k := e
    subst e
    exact q k s h1 h2 ht.row ht
theorem v_parts {st : Store} (h : RowOk st) {most : Int} (hm : 3 ≤ most) (hm2 : most ≤ 12) {Q : D → Store → Prop} (q : ∀ n L st', Parts n L → n ≤ most → RowOk st' → Turned st st' → Q (partsD n L) st') : (m__law_draw_parts [.mref 0, .int most] st).G2 Q :=
  (draw_parts_ok h hm hm2).two.imp fun d s ⟨n, L, e, hP, hn, ht⟩ => by
    have e : d = partsD n L := e
    subst e
    exact q n L s hP hn ht.row ht
theorem v_pegs {st : Store} (h : RowOk st) {n : Int} (hn : 0 ≤ n ∧ n < 1000) {Q : D → Store → Prop} (q : ∀ l st', Stand n l → RowOk st' → Turned st st' → Q (intsT l) st') : (m__law_draw_pegs [.mref 0, .int n] st).G2 Q :=
  (draw_pegs_ok h hn).two.imp fun d s ⟨l, e, hl, ht⟩ => by
    have e : d = intsT l := e
    subst e
    exact q l s hl ht.row ht
end Px
set_option maxRecDepth 100000
/-! Mm: sources and closures, in plain words. -/
namespace Px
open PySem PySem.Spec
section
variable {n : Int} {L M W : List (List Int)}
theorem clo_closed (hW : ∀ t, t ∈ W ↔ Clo L M t) : Cl L W := fun s hs l hl hc => by
  obtain ⟨s0, h0, r⟩ := (hW s).mp hs
  exact (hW _).mpr ⟨s0, h0, .step r hl hc⟩
theorem cl_rch (hC : Cl L W) {s t : List Int} (hs : s ∈ W) (r : Rch L s t) : t ∈ W := by
  induction r with
  | refl => exact hs
  | step _ hl hc ih => exact hC _ ih _ hl hc
/-- what sources generate -/
theorem by_sources (hn0 : 0 ≤ n) (hn : n ≤ 6) (hL : ∀ l ∈ L, Leap n l) (hW : ∀ t ∈ W, Stand n t) {p : List Int → Bool} (hp : ∀ t, p t = true ↔ ¬ Led L W t) : ∀ t ∈ W, Clo L (W.filter p) t := by
  have go : ∀ (k : Nat) (t : List Int), t ∈ W → 7 ≤ t.length + k → Clo L (W.filter p) t := by
    intro k
    induction k with
    | zero =>
      intro t ht h
      have := stand_len (hW t ht) hn0
      omega
    | succ k ih =>
      intro t ht h
      by_cases q : p t = true
      · exact ⟨t, List.mem_filter.mpr ⟨ht, q⟩, .refl⟩
      · have q2 : Led L W t := Classical.byContradiction fun z => q ((hp t).mpr z)
        obtain ⟨s, hs, l, hl, hc, rfl⟩ := q2
        have := len_done (hW s hs) (hL l hl) hc
        obtain ⟨s0, h0, r⟩ := ih s hs (by omega)
        exact ⟨s0, h0, .step r hl hc⟩
  exact fun t ht => go 7 t ht (by omega)
theorem sources_ne (hn0 : 0 ≤ n) (hn : n ≤ 6) (hL : ∀ l ∈ L, Leap n l) (hW : ∀ t ∈ W, Stand n t) {p : List Int → Bool} (hp : ∀ t, p t = true ↔ ¬ Led L W t) (ne : W ≠ []) : W.filter p ≠ [] := by
  intro e
  obtain ⟨t, ht⟩ := List.exists_mem_of_ne_nil W ne
  obtain ⟨s, hs, _⟩ := by_sources hn0 hn hL hW hp t ht
  rw [e] at hs; cases hs
/-- nothing else leads to a source -/
theorem no_way {t : List Int} (hC : Cl L W) (hs : ¬ Led L W t) {s : List Int} (hsW : s ∈ W) (r : Rch L s t) : s = t := by
  cases r with
  | refl => rfl
  | step r hl hc => exact absurd ⟨_, cl_rch hC hsW r, _, hl, hc, rfl⟩ hs
/-- without a source W is closed yet -/
theorem less_closed {t : List Int} (hC : Cl L W) (hs : ¬ Led L W t) : Cl L (W.filter fun k => !decide (k = t)) := by
  intro s hsW l hl hc
  obtain ⟨h1, h2⟩ := List.mem_filter.mp hsW
  refine List.mem_filter.mpr ⟨hC s h1 l hl hc, ?_⟩
  have : doneL s l ≠ t := fun e => hs ⟨s, h1, l, hl, hc, e⟩
  simp [this]
/-- without what is led to it is not -/
theorem less_open (hL : ∀ l ∈ L, Leap n l) (hW : ∀ t ∈ W, Stand n t) {t : List Int} (hs : Led L W t) : ¬ Cl L (W.filter fun k => !decide (k = t)) := by
  intro hC
  obtain ⟨s, hsW, l, hl, hc, rfl⟩ := hs
  have h1 := len_done (hW s hsW) (hL l hl) hc
  have h2 : s ≠ doneL s l := fun e => by rw [← e] at h1; omega
  have := hC s (List.mem_filter.mpr ⟨hsW, by simp [h2]⟩) l hl hc
  have := (List.mem_filter.mp this).2
  simp at this
end
end Px
set_option maxRecDepth 100000
/-! Mu: leaps undone, all that can be come from. -/
namespace Px
open PySem PySem.Spec
def canU (s : List Int) : List Int → Bool
  | [a, b, c] => decide (c ∈ s) && (!decide (a ∈ s) && !decide (b ∈ s))
  | _ => false
def undoneL (s : List Int) : List Int → List Int
  | [a, b, c] => ((s.filter fun k => !decide (k = c)) ++ [a, b]).mergeSort fun i j => decide (i ≤ j)
  | _ => []
theorem canU_true {s : List Int} {a b c : Int} : canU s [a, b, c] = true ↔ c ∈ s ∧ a ∉ s ∧ b ∉ s := by
  simp [canU]
theorem canB_iff {s : List Int} {a b c : Int} : canB s [a, b, c] = true ↔ a ∈ s ∧ b ∈ s ∧ c ∉ s := by
  simp [canB]
theorem mem_undoneL {s : List Int} {a b c k : Int} : k ∈ undoneL s [a, b, c] ↔ (k ∈ s ∧ k ≠ c) ∨ k = a ∨ k = b := by
  show k ∈ List.mergeSort _ _ ↔ _
  rw [List.mem_mergeSort, List.mem_append, List.mem_filter]
  simp
theorem stand_undone {n : Int} {s l : List Int} (h : Stand n s) (hl : Leap n l) (hc : canU s l = true) : Stand n (undoneL s l) := by
  obtain ⟨a, b, c, rfl, ha, hb, hc', h1, h2, h3⟩ := hl
  obtain ⟨c1, c2, c3⟩ := canU_true.mp hc
  refine ⟨sortI_lt ?_, fun k hk => ?_⟩
  · refine List.nodup_append.mpr ⟨(stand_nodup h).filter _, by simp [h1], fun x hx y hy => ?_⟩
    have hx := (List.mem_filter.mp hx).1
    have : y = a ∨ y = b := by simpa using hy
    rintro rfl
    rcases this with rfl | rfl
    · exact c2 hx
    · exact c3 hx
  · rcases mem_undoneL.mp hk with z | rfl | rfl
    · exact h.rng k z.1
    · exact ha
    · exact hb
theorem stand_ext {n : Int} {s t : List Int} (hs : Stand n s) (ht : Stand n t) (h : ∀ k, k ∈ s ↔ k ∈ t) : s = t := ord_uniq hs.pw ht.pw h
theorem undo_can {n : Int} {s l : List Int} (h : Stand n s) (hl : Leap n l) (hc : canU s l = true) : canB (undoneL s l) l = true ∧ doneL (undoneL s l) l = s := by
  have hu := stand_undone h hl hc
  have hl' := hl
  obtain ⟨a, b, c, rfl, ha, hb, hc', h1, h2, h3⟩ := hl
  obtain ⟨c1, c2, c3⟩ := canU_true.mp hc
  have hb2 : canB (undoneL s [a, b, c]) [a, b, c] = true := by
    rw [canB_iff, mem_undoneL, mem_undoneL, mem_undoneL]
    refine ⟨.inr (.inl rfl), .inr (.inr rfl), ?_⟩
    rintro (⟨_, z⟩ | z | z)
    · exact z rfl
    · exact h2 z.symm
    · exact h3 z.symm
  refine ⟨hb2, stand_ext (stand_done hu hl' hb2) h fun k => ?_⟩
  rw [mem_doneL, mem_undoneL]
  constructor
  · rintro (⟨(z | z | z), z2, z3⟩ | rfl)
    · exact z.1
    · exact absurd z z2
    · exact absurd z z3
    · exact c1
  · intro hk
    by_cases q : k = c
    · exact .inr q
    · refine .inl ⟨.inl ⟨hk, q⟩, ?_, ?_⟩
      · rintro rfl; exact c2 hk
      · rintro rfl; exact c3 hk
theorem do_can {n : Int} {s l : List Int} (h : Stand n s) (hl : Leap n l) (hc : canB s l = true) : canU (doneL s l) l = true ∧ undoneL (doneL s l) l = s := by
  have hu := stand_done h hl hc
  have hl' := hl
  obtain ⟨a, b, c, rfl, ha, hb, hc', h1, h2, h3⟩ := hl
  obtain ⟨c1, c2, c3⟩ := canB_iff.mp hc
  have hb2 : canU (doneL s [a, b, c]) [a, b, c] = true := by
    rw [canU_true, mem_doneL, mem_doneL, mem_doneL]
    refine ⟨.inr rfl, ?_, ?_⟩
    · rintro (⟨_, z, _⟩ | z)
      · exact z rfl
      · exact h2 z
    · rintro (⟨_, _, z⟩ | z)
      · exact z rfl
      · exact h3 z
  refine ⟨hb2, stand_ext (stand_undone hu hl' hb2) h fun k => ?_⟩
  rw [mem_undoneL, mem_doneL]
  constructor
  · rintro (⟨(z | z), z2⟩ | rfl | rfl)
    · exact z.1
    · exact absurd z z2
    · exact c1
    · exact c2
  · intro hk
    by_cases q : k = a
    · exact .inr (.inl q)
    · by_cases q2 : k = b
      · exact .inr (.inr q2)
      · refine .inl ⟨.inl ⟨hk, q, q2⟩, ?_⟩
        rintro rfl; exact c3 hk
inductive Rcb (L : List (List Int)) (s : List Int) : List Int → Prop
  | refl : Rcb L s s
  | step {t l : List Int} (h : Rcb L s t) (hl : l ∈ L) (hc : canU t l = true) : Rcb L s (undoneL t l)
theorem Rcb.stand {n : Int} {L : List (List Int)} {s t : List Int} (hL : ∀ l ∈ L, Leap n l) (hs : Stand n s) (h : Rcb L s t) : Stand n t := by
  induction h with
  | refl => exact hs
  | step _ hl hc ih => exact stand_undone ih (hL _ hl) hc
theorem Rcb.trans {L : List (List Int)} {s t u : List Int} (h : Rcb L s t) (k : Rcb L t u) : Rcb L s u := by
  induction k with
  | refl => exact h
  | step _ hl hc ih => exact .step ih hl hc
theorem rcb_rch {n : Int} {L : List (List Int)} {s t : List Int} (hL : ∀ l ∈ L, Leap n l) (hs : Stand n s) (h : Rcb L s t) : Rch L t s := by
  induction h with
  | refl => exact .refl
  | step h hl hc ih =>
    obtain ⟨h1, h2⟩ := undo_can (h.stand hL hs) (hL _ hl) hc
    have : Rch L _ (doneL _ _) := .step .refl hl h1
    rw [h2] at this
    exact this.trans ih
theorem rch_rcb {n : Int} {L : List (List Int)} {s t : List Int} (hL : ∀ l ∈ L, Leap n l) (hs : Stand n s) (h : Rch L s t) : Rcb L t s := by
  induction h with
  | refl => exact .refl
  | step h hl hc ih =>
    obtain ⟨h1, h2⟩ := do_can (h.stand hL hs) (hL _ hl) hc
    have : Rcb L _ (undoneL _ _) := .step .refl hl h1
    rw [h2] at this
    exact this.trans ih
theorem can_undo_ok {n : Int} {s l : List Int} (hl : Leap n l) : m_can_undo [intsT s, intsT l] = .ok (.bl (canU s l)) := by
  obtain ⟨a, b, c, rfl, _⟩ := hl
  refine v_mP rfl ?_
  show (b_can_undo [some (intsT s), some (intsT [a, b, c])] []).G3 _
  unfold b_can_undo
  have e0 : ∀ st, dIx st (intsT [a, b, c]) (.int 0) = some (.int a) := fun _ => rfl
  have e1 : ∀ st, dIx st (intsT [a, b, c]) (.int 1) = some (.int b) := fun _ => rfl
  have e2 : ∀ st, dIx st (intsT [a, b, c]) (.int 2) = some (.int c) := fun _ => rfl
  have hQ : canU s [a, b, c] = (decide (c ∈ s) && (!decide (a ∈ s) && !decide (b ∈ s))) := rfl
  refine v_Ret (v_And (v_op2 (v_op2 (v_v rfl (v_c (og (e2 _) (v_v rfl (og (dIn_ints rfl) (isB (two_d (fun h1 => ?_) fun h1 => ?_))))))))))
  · refine v_And (v_op2 (v_op2 (v_v rfl (v_c (og (e0 _) (v_v rfl (og (dNotIn_ints rfl) (isB (two_n (two_d (fun h2 => ?_) fun h2 => ?_))))))))))
    · refine fin_rt ?_
      rw [hQ]; simp [h1, h2, rd]
    · refine v_op2 (v_op2 (v_v rfl (v_c (og (e1 _) (v_v rfl (og (dNotIn_ints rfl) (fin_rt ?_)))))))
      rw [hQ]; simp [h1, h2, rd]
  · refine fin_rt ?_
    rw [hQ]; simp [h1, rd]
theorem undone_ok {n : Int} {s l : List Int} (hl : Leap n l) (hs : s.length ≤ 900) : m_undone [intsT s, intsT l] = .ok (intsT (undoneL s l)) := by
  have hLINE : LINE = 16777216 := rfl
  obtain ⟨a, b, c, rfl, _⟩ := hl
  have hfl := List.length_filter_le (fun k => !decide (k = c)) s
  refine v_mP (stills_ints _) ?_
  show (b_undone [some (intsT s), some (intsT [a, b, c]), none] []).G3 _
  unfold b_undone
  have e2 : ∀ st, dIx st (intsT [a, b, c]) (.int 2) = some (.int c) := fun _ => rfl
  refine v_Ret (v_B (v_cons (v_L (v_cons (v_op2 (v_comp .int s (fun k => !decide (k = c)) .int (v_iSeq (v_v rfl (og rfl ⟨rfl, rfl, fun k hk => item1 ?_ fun _ => ?_, by omega, ?_⟩)))))))))
  · exact v_tV (v_op2 (v_v rfl (v_op2 (v_v rfl (v_c (og (e2 _) (og (dNe_int _ _ _) (isB ⟨rfl, rfl⟩))))))))
  · exact v_v rfl ⟨rfl, rfl⟩
  · refine v_L (v_cons (v_cut (v_v rfl (v_oN (v_oS (v_c (isI (og (cut_two _ a b c) (v_nil (og (d := intsL [a, b]) rfl ?_))))))))))
    refine og (dAdd_lst _ _ _ ?_) ?_
    · simp only [List.length_map, List.length_cons, List.length_nil]; omega
    · refine v_nil (og (bSort_ints (l := (s.filter fun k => !decide (k = c)) ++ [a, b]) ?_ ?_) (v_nil (og rfl (fin_rt rfl))))
      · rw [List.map_append]; rfl
      · rw [List.length_append]; simp only [List.length_cons, List.length_nil]; omega
theorem backed_ok {n : Int} {L : List (List Int)} {s : List Int} (hn0 : 0 ≤ n) (hn : n ≤ 6) (hL : ∀ l ∈ L, Leap n l) (hs : Stand n s) : ∃ W, m_backed [boardD n L, intsT s] = .ok (tupsT W) ∧ OrdP W ∧ ∀ t, t ∈ W ↔ Rcb L s t := by
  have hLINE : LINE = 16777216 := rfl
  have main : (b_backed [some (boardD n L), some (intsT s), none, none, none, none, none] []).G3 fun o e st => ∃ F : List (List Int), Fin (tupsT (F.mergeSort leP)) o e st ∧ F.Nodup ∧ ∀ t, t ∈ F ↔ Rcb L s t := by
    unfold b_backed
    refine v_Seq (v_Expr (v_callP (v_cons (v_v rfl (v_cons (v_v rfl (v_nil (v_P (stills2 (still_board n L) (stills_ints s)) (pegs_pass hn0 (by omega) hs) (v_nx ?_)))))))))
    have h0 : ∀ t ∈ [s], Rcb L s t := fun t ht => by
      have : t = s := by simpa using ht
      rw [this]; exact .refl
    refine v_Seq (v_Par (v_cons (v_Disp1 rfl (v_cons (v_newL (v_cons (v_v rfl (v_nil ⟨show 1 ≤ LINE by omega, v_nil (v_par2 ?_)⟩))))))))
    refine v_nx (v_Seq ?_)
    refine v_While (fun m env st => ∃ (F W : List (List Int)) (e4 e5 e6 : Option D), env = [some (boardD n L), some (intsT s), some (.mref 0), some (.mref 1), e4, e5, e6] ∧ st = [.dct (tupsL F) (trus F), .lst (tupsL W)] ∧ (m = 2 * (64 - F.length) + W.length ∧ m ≤ 127) ∧ F.Nodup ∧ (∀ t ∈ F, Rcb L s t) ∧ s ∈ F ∧ (∀ t ∈ W, t ∈ F) ∧ (∀ t ∈ F, t ∉ W → ∀ l ∈ L, canU t l = true → undoneL t l ∈ F)) 127 (by decide)
      ⟨[s], [s], none, none, none, rfl, rfl, ⟨rfl, Nat.le_refl _⟩, by simp, h0, by simp, fun t ht => ht, fun t ht h => absurd ht h⟩ ?_
    rintro m env st ⟨F, W, e4, e5, e6, rfl, rfl, ⟨rfl, hm127⟩, nd, hF, hsF, hWF, hcl⟩
    have hFs : ∀ t ∈ F, Stand n t := fun t ht => (hF t ht).stand hL hs
    have hF64 := few64 hn nd hFs
    refine v_tV (v_op2 (v_v rfl (v_lst (v_nil ⟨Nat.zero_le _, og (dNe_lsts (A := W) (B := []) rfl rfl) (isB (two_n (two_d (fun hW => ?_) fun hW => ?_)))⟩))))
    · subst hW
      refine v_nx (v_Ret (v_callP (v_cons (v_L (v_cons (v_v rfl (v_nil (og (list2_L (S := F) rfl rfl) (v_nil (v_P (stills1 (a := .lst (tupsL F)) (still_tups F)) (in_order_ok (by omega) fun x hx => (by have := stand_len (hFs x hx) hn0; omega)) ⟨F, fin_rt rfl, nd, fun t => ⟨hF t, fun h => ?_⟩⟩))))))))))
      induction h with
      | refl => exact hsF
      | step _ hl hc ih => exact hcl _ ih (by simp) _ hl hc
    · obtain ⟨W0, h, rfl⟩ := split_last hW
      have hh : h ∈ F := hWF h (by simp)
      have hhs := hFs h hh
      have hhl := stand_len hhs hn0
      refine v_Seq (v_Asg (v_Pop (v_v rfl (og (dPop_L rfl) ?_))))
      refine v_nx ?_
      refine v_For intsT L (fun dn env st => ∃ (F' W' : List (List Int)) (e5 e6 : Option D), env = [some (boardD n L), some (intsT s), some (.mref 0), some (.mref 1), some (intsT h), e5, e6] ∧ st = [.dct (tupsL F') (trus F'), .lst (tupsL W')] ∧ 2 * (64 - F'.length) + W'.length < 2 * (64 - F.length) + (W0 ++ [h]).length ∧ F'.Nodup ∧ (∀ t ∈ F', Rcb L s t) ∧ s ∈ F' ∧ h ∈ F' ∧ (∀ t ∈ W', t ∈ F') ∧ (∀ t ∈ F', t ∉ W' → t ≠ h → ∀ l ∈ L, canU t l = true → undoneL t l ∈ F') ∧ ∀ l ∈ dn, canU h l = true → undoneL h l ∈ F') ?_ ?_ ?_
      · refine v_iSeq (v_fld (v_v rfl (og (fld_leaps _ _ _) (og rfl ⟨rfl, F, W0, e5, e6, rfl, rfl, ?_, nd, hF, hsF, hh, fun t ht => hWF t (by simp [ht]), fun t ht h1 h2 => hcl t ht (by simp [h1, h2]), fun l hl => by cases hl⟩))))
        simp
      · rintro dn l rest eL env st ⟨F', W', e5, e6, rfl, rfl, hm, nd', hF', hsF', hhF', hWF', hcl', hd⟩
        have hlL : l ∈ L := by rw [eL]; simp
        have hFs' : ∀ t ∈ F', Stand n t := fun t ht => (hF' t ht).stand hL hs
        have hF64' := few64 hn nd' hFs'
        have hst : stills [intsT h, intsT l] = true := stills2 (stills_ints _) (stills_ints _)
        refine v_gV ?_
        have hdn : ∀ F2 : List (List Int), (∀ t ∈ F', t ∈ F2) → (canU h l = true → undoneL h l ∈ F2) → ∀ l2 ∈ dn ++ [l], canU h l2 = true → undoneL h l2 ∈ F2 := by
          intro F2 h1 h2 l2 hl2 hc2
          rcases List.mem_append.mp hl2 with z | z
          · exact h1 _ (hd l2 z hc2)
          · have : l2 = l := by simpa using z
            subst this; exact h2 hc2
        refine v_sIf (v_tV (v_callP (v_cons (v_v rfl (v_cons (v_v rfl (v_nil (v_P hst (can_undo_ok (hL l hlL)) (isB (two_of (fun hc => ?_) fun hc => ?_))))))))))
        · refine v_Seq (v_Asg (v_callP (v_cons (v_v rfl (v_cons (v_v rfl (v_nil (v_P hst (undone_ok (hL l hlL) (by omega)) ?_))))))))
          refine v_nx ?_
          refine v_sIf (v_tV (v_op2 (v_v rfl (v_v rfl (og (dNotIn_L (S := F') rfl rfl) (isB (two_n (two_d (fun hin => ?_) fun hin => ?_))))))))
          · exact v_Nil ⟨F', W', _, _, rfl, rfl, hm, nd', hF', hsF', hhF', hWF', hcl', hdn F' (fun t ht => ht) fun _ => hin⟩
          · have e1 : addO F' (undoneL h l) = F' ++ [undoneL h l] := by unfold addO; rw [if_neg hin]
            have nd2 := nodup_addO (k := undoneL h l) nd'
            have hF2 : ∀ t ∈ F' ++ [undoneL h l], Rcb L s t := fun t ht => by
              rcases List.mem_append.mp ht with z | z
              · exact hF' t z
              · have : t = undoneL h l := by simpa using z
                subst this; exact .step (hF' h hhF') hlL hc
            have h64 : (F' ++ [undoneL h l]).length ≤ 64 := few64 hn (e1 ▸ nd2) fun t ht => (hF2 t ht).stand hL hs
            rw [List.length_append] at h64
            simp only [List.length_cons, List.length_nil] at h64
            refine v_Seq (v_AsgT (v_c (v_gSub (v_v rfl (v_v rfl (og (dPut_L (S := F') (k := undoneL h l) rfl (by omega)) ?_))))))
            refine v_nx ?_
            have hWl : W'.length ≤ 1000 := by omega
            refine v_Expr (v_App (v_v rfl ⟨rfl, v_v rfl (og (dApp_L (W := W') (h := undoneL h l) rfl hWl) ?_)⟩))
            rw [e1]
            refine ⟨F' ++ [undoneL h l], W' ++ [undoneL h l], _, _, rfl, rfl, ?_, e1 ▸ nd2, hF2, by simp [hsF'], by simp [hhF'], ?_, ?_, hdn _ (fun t ht => by simp [ht]) fun _ => by simp⟩
            · simp only [List.length_append, List.length_cons, List.length_nil] at hm ⊢; omega
            · intro t ht
              rcases List.mem_append.mp ht with z | z
              · simp [hWF' t z]
              · simp at z; simp [z]
            · intro t ht h1 h2 l2 hl2 hc2
              have h3 : t ∈ F' := by
                rcases List.mem_append.mp ht with z | z
                · exact z
                · exact absurd (List.mem_append.mpr (.inr z)) h1
              exact List.mem_append.mpr (.inl (hcl' t h3 (fun z => h1 (List.mem_append.mpr (.inl z))) h2 l2 hl2 hc2))
        · exact v_Nil ⟨F', W', _, _, rfl, rfl, hm, nd', hF', hsF', hhF', hWF', hcl', hdn F' (fun t ht => ht) fun z => by rw [hc] at z; cases z⟩
      · rintro env st ⟨F', W', e5, e6, rfl, rfl, hm, nd', hF', hsF', hhF', hWF', hcl', hd⟩
        refine ⟨_, hm, F', W', _, _, _, rfl, rfl, ⟨rfl, by omega⟩, nd', hF', hsF', hWF', fun t ht h1 l hl hc => ?_⟩
        by_cases q : t = h
        · subst q; exact hd l hl hc
        · exact hcl' t ht h1 q l hl hc
  obtain ⟨o, e, st, eq, F, hf, nd, h⟩ := main
  exact ⟨F.mergeSort leP, v_mP (still_tups _) ⟨o, e, st, eq, hf⟩, ordP_sort nd, fun t => by rw [List.mem_mergeSort, h]⟩
theorem back_ok {n : Int} {L : List (List Int)} {s : List Int} (hn0 : 0 ≤ n) (hn : n ≤ 6) (hL : ∀ l ∈ L, Leap n l) (hs : Stand n s) : ∃ W, m_backed [boardD n L, intsT s] = .ok (tupsT W) ∧ OrdP W ∧ ∀ t, t ∈ W ↔ Stand n t ∧ Rch L t s := by
  obtain ⟨W, e, hO, h⟩ := backed_ok hn0 hn hL hs
  exact ⟨W, e, hO, fun t => by rw [h]; exact ⟨fun z => ⟨z.stand hL hs, rcb_rch hL hs z⟩, fun ⟨z1, z2⟩ => rch_rcb hL z1 z2⟩⟩
end Px
set_option maxRecDepth 100000
/-! Ms: all standings; what is greatest closed; the widest bar. -/
namespace Px
open PySem PySem.Spec
theorem filter_all {α : Type} (N : List α) : N.filter (fun _ => true) = N := List.filter_eq_self.mpr fun _ _ => rfl
theorem places_ok {n : Int} {L : List (List Int)} (hn0 : 0 ≤ n) (hn : n ≤ 12) : m_places_of [boardD n L] = .ok (intsT (upto n)) := by
  refine v_mP (stills_ints _) ?_
  show (b_places_of [some (boardD n L)] []).G3 _
  unfold b_places_of
  refine v_Ret (v_TRg (v_rg1 (v_fld (v_v rfl (og (fld_many _ _ _) (isI ⟨by unfold rgOkB; exact decide_eq_true (by omega), fin_rt ?_⟩))))))
  show D.tup (rngL 0 n) = _
  rw [rngL_ints]
theorem sub_snoc {t dn : List Int} {k : Int} : t.Sublist (dn ++ [k]) ↔ t.Sublist dn ∨ ∃ r, r.Sublist dn ∧ t = r ++ [k] := by
  constructor
  · intro h
    obtain ⟨a, b, rfl, ha, hb⟩ := List.sublist_append_iff.mp h
    cases b with
    | nil => rw [List.append_nil]; exact .inl ha
    | cons x b =>
      have h1 : (x :: b).length ≤ 1 := hb.length_le
      have h2 : x ∈ [k] := hb.subset (by simp)
      have h3 : x = k := by simpa using h2
      have h4 : b = [] := by
        cases b with
        | nil => rfl
        | cons _ _ => simp at h1
      subst h3 h4
      exact .inr ⟨a, ha, rfl⟩
  · rintro (h | ⟨r, h, rfl⟩)
    · exact h.trans (List.sublist_append_left _ _)
    · exact h.append (List.Sublist.refl _)
theorem sub_stand {n : Int} {t : List Int} : t.Sublist (upto n) ↔ Stand n t := ⟨fun h => stand_of h, fun h => sub_of_sorted h.pw (upto_pair n) fun k hk => mem_upto.mpr (h.rng k hk)⟩
theorem all_ok {n : Int} {L : List (List Int)} (hn0 : 0 ≤ n) (hn : n ≤ 6) : ∃ A, m_all_standings [boardD n L] = .ok (tupsT A) ∧ OrdP A ∧ ∀ t, t ∈ A ↔ Stand n t := by
  have hLINE : LINE = 16777216 := rfl
  have main : (b_all_standings [some (boardD n L), none, none, none] []).G3 fun o e st => ∃ F : List (List Int), Fin (tupsT (F.mergeSort leP)) o e st ∧ F.Nodup ∧ ∀ t, t ∈ F ↔ Stand n t := by
    unfold b_all_standings
    refine v_Seq (v_Asg (v_lst (v_cons (v_tup (v_nil ⟨Nat.zero_le _, v_nil ⟨show 1 ≤ LINE by omega, v_nx (v_Seq ?_)⟩⟩)))))
    refine v_For D.int (upto n) (fun dn env st => ∃ (F : List (List Int)) (e2 : Option D), env = [some (boardD n L), some (.lst (tupsL F)), e2, none] ∧ st = [] ∧ F.Nodup ∧ ∀ t, t ∈ F ↔ t.Sublist dn) ?_ ?_ ?_
    · refine v_iSeq (v_callP (v_cons (v_v rfl (v_nil (v_P (stills1 (still_board n L)) (places_ok hn0 (by omega)) (og rfl ⟨rfl, [[]], none, rfl, rfl, by simp, fun t => by simp⟩))))))
    · rintro dn k rest eU env st ⟨F, e2, rfl, rfl, nd, hF⟩
      have hdn : dn.Sublist (upto n) := by rw [eU]; exact List.sublist_append_left _ _
      have hkn : k ∉ dn := by
        have h := stand_nodup (stand_upto n)
        rw [eU] at h
        have := (List.nodup_append.mp h).2.2
        intro hk
        exact this k hk k (by simp) rfl
      have hFs : ∀ t ∈ F, Stand n t := fun t ht => sub_stand.mp (((hF t).mp ht).trans hdn)
      have f64 := few64 hn nd hFs
      have hl : ∀ t ∈ F, t.length ≤ 6 := fun t ht => by have := stand_len (hFs t ht) hn0; omega
      refine v_gV (v_Asg (v_op2 (v_v rfl (v_comp intsT F (fun _ => true) (fun r => intsT (r ++ [k])) (v_iSeq (v_v rfl (og rfl ⟨rfl, rfl, fun r hr => item_a ?_, by omega, ?_⟩)))))))
      · have := hl r hr
        exact v_op2 (v_v rfl (v_tup (v_cons (v_v rfl (v_nil ⟨show 1 ≤ LINE by omega, og (dAdd_tups _ r [k] (by simp; omega)) ⟨rfl, rfl⟩⟩)))))
      · rw [filter_all]
        refine og (dAdd_lst _ _ _ (by simp only [List.length_map]; omega)) ?_
        refine ⟨F ++ F.map (· ++ [k]), some (.int k), by simp, rfl, ?_, fun t => ?_⟩
        · refine List.nodup_append.mpr ⟨nd, ?_, fun a ha b hb => ?_⟩
          · rw [List.nodup_iff_pairwise_ne, List.pairwise_map]
            rw [List.nodup_iff_pairwise_ne] at nd
            exact nd.imp fun h e => h (List.append_cancel_right e)
          · obtain ⟨r, hr, rfl⟩ := List.mem_map.mp hb
            rintro rfl
            exact hkn (((hF _).mp ha).subset (by simp))
        · rw [List.mem_append, hF, sub_snoc, List.mem_map]
          constructor
          · rintro (h | ⟨r, hr, rfl⟩)
            · exact .inl h
            · exact .inr ⟨r, (hF r).mp hr, rfl⟩
          · rintro (h | ⟨r, hr, rfl⟩)
            · exact .inl h
            · exact .inr ⟨r, (hF r).mpr hr, rfl⟩
    · rintro env st ⟨F, e2, rfl, rfl, nd, hF⟩
      have hFs : ∀ t, t ∈ F ↔ Stand n t := fun t => by rw [hF, sub_stand]
      have f64 := few64 hn nd fun t ht => (hFs t).mp ht
      refine v_nx (v_Ret (v_B (v_cons (v_L1 (v_v rfl (og (sortK_L (L := F) rfl (by omega) fun x hx => (by have := stand_len ((hFs x).mp hx) hn0; omega)) (v_nil (og rfl ⟨F, fin_rt rfl, nd, hFs⟩))))))))
  obtain ⟨o, e, st, eq, F, hf, nd, h⟩ := main
  exact ⟨F.mergeSort leP, v_mP (still_tups _) ⟨o, e, st, eq, hf⟩, ordP_sort nd, fun t => by rw [List.mem_mergeSort, h]⟩
theorem Rch.head {L : List (List Int)} {s u : List Int} (h : Rch L s u) : u = s ∨ ∃ l ∈ L, canB s l = true ∧ Rch L (doneL s l) u := by
  induction h with
  | refl => exact .inl rfl
  | step h hl hc ih =>
    rcases ih with rfl | ⟨l, h1, h2, h3⟩
    · exact .inr ⟨_, hl, hc, .refl⟩
    · exact .inr ⟨l, h1, h2, .step h3 hl hc⟩
theorem Rch.one {L : List (List Int)} {s l u : List Int} (hl : l ∈ L) (hc : canB s l = true) (h : Rch L (doneL s l) u) : Rch L s u := (Rch.step .refl hl hc).trans h
/-- all that can be come to lies in M -/
def Good (L M : List (List Int)) (t : List Int) : Prop := ∀ u, Rch L t u → u ∈ M
theorem Good.self {L M : List (List Int)} {t : List Int} (h : Good L M t) : t ∈ M := h t .refl
theorem great_closed_ok {n : Int} {L M : List (List Int)} (hn0 : 0 ≤ n) (hn : n ≤ 6) (hL : ∀ l ∈ L, Leap n l) (hL60 : L.length ≤ 60) (hO : OrdP M) (hM : ∀ s ∈ M, Stand n s) : ∃ W, m_greatest_closed [boardD n L, tupsT M] = .ok (tupsT W) ∧ OrdP W ∧ ∀ t, t ∈ W ↔ Good L M t := by
  have hLINE : LINE = 16777216 := rfl
  have hM64 := few64 hn hO.nodup hM
  have main : (b_greatest_closed [some (boardD n L), some (tupsT M), none, none, none] []).G3 fun o e st => ∃ F : List (List Int), Fin (tupsT (F.mergeSort leP)) o e st ∧ F.Nodup ∧ ∀ t, t ∈ F ↔ Good L M t := by
    unfold b_greatest_closed
    refine v_Seq (v_Expr (v_callP (v_cons (v_v rfl (v_cons (v_v rfl (v_nil (v_P (stills2 (still_board n L) (still_tups M)) (need_set_ok hn0 (by omega) hO hM (by omega)) (v_nx ?_)))))))))
    refine v_Seq (v_Asg (v_DEN (v_nx (v_Seq ?_))))
    refine v_For intsT M (fun dn env st => ∃ (F : List (List Int)) (e3 : Option D), env = [some (boardD n L), some (tupsT M), some (.mref 0), e3, none] ∧ st = [.dct (tupsL F) (trus F)] ∧ F.Nodup ∧ ∀ t, t ∈ F ↔ t ∈ dn ∧ Good L M t) ?_ ?_ ?_
    · exact v_iSeq (v_v rfl (og rfl ⟨rfl, [], none, rfl, rfl, List.nodup_nil, fun t => ⟨fun h => (by cases h), fun ⟨h, _⟩ => (by cases h)⟩⟩))
    · rintro dn s rest eM env st ⟨F, e3, rfl, rfl, nd, hF⟩
      have hsM : s ∈ M := by rw [eM]; simp
      have hdM : ∀ x ∈ dn, x ∈ M := fun x hx => by rw [eM]; simp [hx]
      have hss := hM s hsM
      have hsl := stand_len hss hn0
      have f1 := few64 hn nd fun t ht => hM t (hdM t ((hF t).mp ht).1)
      have hsd : s ∉ dn := by
        have h := hO.nodup
        rw [eM] at h
        intro hk
        exact (List.nodup_append.mp h).2.2 s hk s (by simp) rfl
      have key : (((L.filter (canB s)).map fun l => decide (doneL s l ∈ F)).all id) = true ↔ Good L M s := by
        rw [List.all_eq_true]
        constructor
        · intro h u hu
          rcases hu.head with rfl | ⟨l, h1, h2, h3⟩
          · exact hsM
          · have := h _ (List.mem_map.mpr ⟨l, List.mem_filter.mpr ⟨h1, h2⟩, rfl⟩)
            have := of_decide_eq_true this
            exact ((hF _).mp this).2 u h3
        · intro h b hb
          obtain ⟨l, hl, rfl⟩ := List.mem_map.mp hb
          obtain ⟨h1, h2⟩ := List.mem_filter.mp hl
          refine decide_eq_true ((hF _).mpr ⟨?_, fun u hu => h u (.one h1 h2 hu)⟩)
          have h3 : doneL s l ∈ M := h _ (.one h1 h2 .refl)
          have h4 := len_done hss (hL l h1) h2
          rw [eM] at h3
          rcases List.mem_append.mp h3 with z | z
          · exact z
          · exfalso
            have h5 : OrdP (s :: rest) := by
              have := hO
              rw [eM] at this
              exact (List.pairwise_append.mp this).2.1
            rcases List.mem_cons.mp z with e | z
            · rw [e] at h4; omega
            · rcases (List.pairwise_cons.mp h5).1 _ z with h6 | ⟨h6, _⟩ <;> omega
      have hmd : ∀ t, t ∈ dn ++ [s] ↔ t ∈ dn ∨ t = s := fun t => by simp
      have hlf := List.length_filter_le (canB s) L
      refine v_gV (v_sIf (v_tV (v_B (v_cons (v_comp intsT L (canB s) (fun l => .bl (decide (doneL s l ∈ F))) (v_iSeq (v_fld (v_v rfl (og (fld_leaps _ _ _) (og rfl ⟨rfl, rfl, fun l hl => item1 ?_ fun _ => ?_, by omega, ?_⟩))))))))))
      · exact v_tV (v_callP (v_cons (v_v rfl (v_cons (v_v rfl (v_nil (v_P (stills2 (stills_ints s) (stills_ints l)) (can_do_ok (hL l hl)) (isB ⟨rfl, rfl⟩))))))))
      · exact v_op2 (v_callP (v_cons (v_v rfl (v_cons (v_v rfl (v_nil (v_P (stills2 (stills_ints s) (stills_ints l)) (done_ok (hL l hl) (by omega)) (v_v rfl (og (dIn_L (S := F) rfl rfl) ⟨rfl, rfl⟩)))))))))
      · have e1 : (L.filter (canB s)).map (fun l => D.bl (decide (doneL s l ∈ F))) = ((L.filter (canB s)).map fun l => decide (doneL s l ∈ F)).map D.bl := by rw [List.map_map]; rfl
        rw [e1]
        refine v_nil (og (bAll_bls _ _) (isB (two_of (fun h => ?_) fun h => ?_)))
        · have hg := key.mp h
          have hsF : s ∉ F := fun z => hsd ((hF s).mp z).1
          refine v_AsgT (v_c (v_gSub (v_v rfl (v_v rfl (og (dPut_L (S := F) (k := s) rfl (by omega)) ?_)))))
          refine ⟨addO F s, _, rfl, rfl, nodup_addO nd, fun t => ?_⟩
          rw [mem_addO, hF, hmd]
          constructor
          · rintro (⟨h1, h2⟩ | rfl)
            · exact ⟨.inl h1, h2⟩
            · exact ⟨.inr rfl, hg⟩
          · rintro ⟨h1 | rfl, h2⟩
            · exact .inl ⟨h1, h2⟩
            · exact .inr rfl
        · have hg : ¬ Good L M s := fun z => by rw [key.mpr z] at h; cases h
          refine v_Nil ⟨F, _, rfl, rfl, nd, fun t => ?_⟩
          rw [hF, hmd]
          constructor
          · rintro ⟨h1, h2⟩; exact ⟨.inl h1, h2⟩
          · rintro ⟨h1 | rfl, h2⟩
            · exact ⟨h1, h2⟩
            · exact absurd h2 hg
    · rintro env st ⟨F, e3, rfl, rfl, nd, hF⟩
      have hFg : ∀ t, t ∈ F ↔ Good L M t := fun t => by rw [hF]; exact ⟨fun h => h.2, fun h => ⟨h.self, h⟩⟩
      have sF : ∀ t ∈ F, Stand n t := fun t ht => hM t ((hFg t).mp ht).self
      have f1 := few64 hn nd sF
      refine v_nx (v_Ret (v_callP (v_cons (v_L (v_cons (v_v rfl (v_nil (og (list2_L (S := F) rfl rfl) (v_nil (v_P (stills1 (a := .lst (tupsL F)) (still_tups F)) (in_order_ok (by omega) fun x hx => (by have := stand_len (sF x hx) hn0; omega)) ⟨F, fin_rt rfl, nd, hFg⟩))))))))))
  obtain ⟨o, e, st, eq, F, hf, nd, h⟩ := main
  exact ⟨F.mergeSort leP, v_mP (still_tups _) ⟨o, e, st, eq, hf⟩, ordP_sort nd, fun t => by rw [List.mem_mergeSort, h]⟩
theorem widest_ok {n : Int} {L : List (List Int)} {s : List Int} (hn0 : 0 ≤ n) (hn : n ≤ 6) (hL : ∀ l ∈ L, Leap n l) (hs : Stand n s) : ∃ W, m_widest_bar [boardD n L, intsT s] = .ok (tupsT W) ∧ OrdP W ∧ ∀ t, t ∈ W ↔ Stand n t ∧ ¬ Rch L t s := by
  have hLINE : LINE = 16777216 := rfl
  obtain ⟨B, eB, hBo, hB⟩ := back_ok hn0 hn hL hs
  obtain ⟨A, eA, hAo, hA⟩ := all_ok (L := L) hn0 hn
  have b64 := few64 hn hBo.nodup fun t ht => ((hB t).mp ht).1
  have a64 := few64 hn hAo.nodup fun t ht => (hA t).mp ht
  have hmem : ∀ t, t ∈ addA [] B ↔ t ∈ B := fun t => by rw [mem_addA]; simp
  refine ⟨A.filter fun k => !decide (k ∈ addA [] B), v_mP (still_tups _) ?_, hAo.filter _, fun t => ?_⟩
  · show (b_widest_bar [some (boardD n L), some (intsT s), none, none] []).G3 _
    unfold b_widest_bar
    have h1 : stills [boardD n L, intsT s] = true := stills2 (still_board n L) (stills_ints s)
    refine v_Seq (v_Expr (v_callP (v_cons (v_v rfl (v_cons (v_v rfl (v_nil (v_P h1 (pegs_pass hn0 (by omega) hs) (v_nx ?_)))))))))
    refine v_Seq (v_Asg (v_D (v_cons (v_comp intsT B (fun _ => true) (fun k => .tup [intsT k, tru]) (v_iSeq (v_callP (v_cons (v_v rfl (v_cons (v_v rfl (v_nil (v_P h1 eB (og rfl ⟨rfl, rfl, fun k hk => item_a ?_, by omega, ?_⟩)))))))))))))
    · exact v_tup (v_cons (v_v rfl (v_cons (v_c (v_nil ⟨show 2 ≤ LINE by omega, rfl, rfl⟩)))))
    rw [filter_all]
    refine v_nil (og (dp2_L _ B (by omega)) (v_nx ?_))
    generalize addA [] B = F
    refine v_Ret (v_B (v_cons (v_comp intsT A (fun k => !decide (k ∈ F)) intsT (v_iSeq (v_callP (v_cons (v_v rfl (v_nil (v_P (stills1 (still_board n L)) eA (og rfl ⟨rfl, rfl, fun k hk => item1 ?_ fun _ => ?_, by omega, ?_⟩))))))))))
    · exact v_tV (v_op2 (v_v rfl (v_v rfl (og (dNotIn_L (S := F) rfl rfl) (isB ⟨rfl, rfl⟩)))))
    · exact v_v rfl ⟨rfl, rfl⟩
    · exact v_nil (og rfl (fin_rt rfl))
  · rw [List.mem_filter, hA]
    constructor
    · rintro ⟨h1, h2⟩
      have h2 : t ∉ addA [] B := by simpa using h2
      exact ⟨h1, fun r => h2 ((hmem t).mpr ((hB t).mpr ⟨h1, r⟩))⟩
    · rintro ⟨h1, h2⟩
      have : t ∉ addA [] B := fun z => h2 ((hB t).mp ((hmem t).mp z)).2
      exact ⟨h1, by simpa using this⟩
end Px
set_option maxRecDepth 100000
set_option maxHeartbeats 2000000
/-! Ga: the law k68. -/
namespace Px
open PySem PySem.Spec
theorem ix_parts0 (st : Store) (n : Int) (L : List (List Int)) : dIx st (partsD n L) (.int 0) = some (.int n) := rfl
/-- _law_all -/
def bitB (b k : Int) : Bool := decide (Builtin.bitAnd (b / 2 ^ k.toNat) 1 = 1)
def rowB (n b : Int) : List Int := (upto n).filter (bitB b)
theorem rows3 : ∀ s ∈ subs (upto 3), s ∈ (upto 8).map (rowB 3) := by decide +kernel
theorem rows4 : ∀ s ∈ subs (upto 4), s ∈ (upto 16).map (rowB 4) := by decide +kernel
theorem rows5 : ∀ s ∈ subs (upto 5), s ∈ (upto 32).map (rowB 5) := by decide +kernel
theorem rows_all {n : Int} (h1 : 3 ≤ n) (h2 : n ≤ 5) : ∀ t, t ∈ (upto (1 * 2 ^ n.toNat)).map (rowB n) ↔ Stand n t := by
  intro t
  constructor
  · intro h
    obtain ⟨b, _, rfl⟩ := List.mem_map.mp h
    exact stand_of List.filter_sublist
  · intro h
    have h := stand_sub h
    have : n = 3 ∨ n = 4 ∨ n = 5 := by omega
    rcases this with rfl | rfl | rfl
    · exact rows3 t h
    · exact rows4 t h
    · exact rows5 t h
theorem law_all_ok {n : Int} (h1 : 3 ≤ n) (h2 : n ≤ 5) : ∃ A, m__law_all [.int n] = .ok (tupsT A) ∧ OrdP A ∧ ∀ t, t ∈ A ↔ Stand n t := by
  have hLINE : LINE = 16777216 := rfl
  have hp : (1 * 2 ^ n.toNat : Int) ≤ 32 := by
    have : n = 3 ∨ n = 4 ∨ n = 5 := by omega
    rcases this with rfl | rfl | rfl <;> decide
  have hp0 : (0 : Int) ≤ 1 * 2 ^ n.toNat := by
    have : n = 3 ∨ n = 4 ∨ n = 5 := by omega
    rcases this with rfl | rfl | rfl <;> decide
  have hu : ∀ m : Int, (upto m).length = m.toNat := fun m => by unfold upto; rw [List.length_map, List.length_range]
  obtain ⟨A, eA, hAo, hA⟩ := law_order_ok (L := (upto (1 * 2 ^ n.toNat)).map (rowB n)) (by rw [List.length_map, hu]; omega) fun N nd h => by
    have := nd.length_le_of_subset h
    rw [List.length_map, hu] at this
    omega
  refine ⟨A, v_mP (still_tups A) ?_, hAo, fun t => by rw [hA, rows_all h1 h2]⟩
  show (b__law_all [some (.int n), none, none] []).G3 _
  unfold b__law_all
  have hs : ∀ st : Store, dShl st (.int 1) (.int n) = some (.int (1 * 2 ^ n.toNat)) := fun st => by
    simp only [dShl]
    rw [if_pos ⟨by omega, by omega, by decide⟩]
  have hr : ∀ (st : Store) (b k : Int), 0 ≤ k → dShr st (.int b) (.int k) = some (.int (b / 2 ^ k.toNat)) := fun st b k h => by
    simp only [dShr]
    rw [if_pos h]
  refine v_Ret (v_callP (v_cons (v_comp D.int (upto (1 * 2 ^ n.toNat)) (fun _ => true) (fun b => intsT (rowB n b)) (v_iRng (v_op2 (v_c (v_v rfl (og (hs _) (isI ⟨by omega, rfl, rfl, fun b hb => item_a ?_, by rw [hu]; omega, ?_⟩)))))))))
  · refine v_B (v_cons (v_comp D.int (upto n) (bitB b) D.int (v_iRng (v_v rfl (isI ⟨by omega, rfl, rfl, fun k hk => item1 ?_ fun _ => ?_, by rw [hu]; omega, v_nil (og rfl ⟨rfl, rfl⟩)⟩)))))
    · have h0 := (mem_upto.mp hk).1
      exact v_tV (v_op2 (v_op2 (v_op2 (v_v rfl (v_v rfl (og (hr _ _ _ h0) (v_c (og (d := .int (Builtin.bitAnd (b / 2 ^ k.toNat) 1)) rfl (v_c (og (dEq_int _ _ _) (isB ⟨rfl, rfl⟩)))))))))))
    · exact v_v rfl ⟨rfl, rfl⟩
  · rw [filter_all]
    have e : (upto (1 * 2 ^ n.toNat)).map (fun b => intsT (rowB n b)) = tupsL ((upto (1 * 2 ^ n.toNat)).map (rowB n)) := by
      show _ = ((upto (1 * 2 ^ n.toNat)).map (rowB n)).map intsT
      rw [List.map_map]; rfl
    rw [e]
    exact v_nil (v_P (stills1 (a := .lst (tupsL _)) (still_tups _)) eA (fin_rt rfl))
theorem under_sub {A B : List (List Int)} {x y : D} (hx : seqS [] x = some (tupsL A, none)) (hy : seqD [] y = some (tupsL B)) (hl : A.length ≤ 900) (h : ∀ a ∈ A, a ∈ B) : m__law_under [x, y] = .ok (.bl true) := by
  have hLINE : LINE = 16777216 := rfl
  refine v_mP rfl ?_
  show (b__law_under [some x, some y, none] []).G3 _
  unfold b__law_under
  refine v_Ret (v_op2 (v_comp intsT A (fun _ => false) intsT (v_iSeq (v_v rfl (og hx ⟨rfl, rfl, fun k hk => item1 ?_ fun h => (by cases h), by omega, ?_⟩)))))
  · refine v_tV (v_op2 (v_v rfl (v_v rfl (og (dNotIn_T (S := B) hy) (isB ⟨?_, rfl⟩)))))
    simp [h k hk]
  · rw [List.filter_eq_nil_iff.mpr fun _ _ => by simp]
    refine v_lst (v_nil ⟨Nat.zero_le _, og (dEq_lsts (A := []) (B := []) rfl rfl) (fin_rt ?_)⟩)
    simp [rd]
theorem add_tupsT (st : Store) (A B : List (List Int)) (h : A.length + B.length ≤ 1000) : dAdd st (tupsT A) (tupsT B) = some (tupsT (A ++ B)) := by
  have hLINE : LINE = 16777216 := rfl
  show (if (tupsL A).length + (tupsL B).length ≤ LINE then some (D.tup (tupsL A ++ tupsL B)) else none) = _
  rw [if_pos (by rw [List.length_map, List.length_map]; omega), ← List.map_append]
def Env68 (ns : List Int) (env : DEnv) : Prop := ∃ e2 e3 e4 e5 e6 e7 e8 e9 e10 e11 e12 e13 e14 e15 e16 e17, env = [some (.scr ns), some (.mref 0), e2, e3, e4, e5, e6, e7, e8, e9, e10, e11, e12, e13, e14, e15, e16, e17]
/-- rows drawn, in order -/
theorem drawn_rows {n : Int} {L : List (List Int)} {env : DEnv} {st : Store} {Q : D → Store → Prop} (hn0 : 0 ≤ n) (hn : n < 1000) (hr : RowOk st) (hr0 : env[1]? = some (some (.mref 0))) (hp : env[3]? = some (some (partsD n L))) (hl : 16 < env.length)
    (q : ∀ (M : List (List Int)) (st' : Store), OrdP M → (∀ s ∈ M, Stand n s) → M.length ≤ 4 → RowOk st' → Q (tupsT M) st') :
    (eComp (iRng (aCons (eCall m__law_taken (aCons (eV 1) (aCons (eC (.int 4)) aNil))) aNil)) [16] (cV 16) tYesV (eCall m__law_draw_pegs (aCons (eV 1) (aCons (eOp2 dIx (eV 3) (eC (.int 0))) aNil))) env st).G2 fun x s => (aNil env s).G2 fun l s => (callP m__law_order s (x :: l)).Gives fun d => Q d s := by
  have hLINE : LINE = 16777216 := rfl
  have hu : ∀ m : Int, (upto m).length = m.toNat := fun m => by unfold upto; rw [List.length_map, List.length_range]
  have w : ∀ (d : D) (i : Nat), i ≠ 16 → ((wipeE env [16]).set 16 (some d))[i]? = env[i]? := fun d i h => by
    show ((env.set 16 none).set 16 (some d))[i]? = _
    rw [List.getElem?_set_ne (Ne.symm h), List.getElem?_set_ne (Ne.symm h)]
  refine (v_compD intsT (Stand n) RowOk (v_iRng (v_call (v_cons (v_v hr0 (v_cons (v_c (v_nil (v_taken hr (by omega) (by omega) fun k s2 hk0 hk hr2 _ => isI ⟨by omega, rfl, hr2, fun d hd => ⟨_, rfl, fun s hs => ?_⟩, ?_, fun B s3 hr3 hB hBs => ?_⟩)))))))))
  · refine v_call (v_cons (v_v ((w d 1 (by decide)).trans hr0) (v_cons (v_op2 (v_v ((w d 3 (by decide)).trans hp) (v_c (og (ix_parts0 _ n L) (v_nil ?_))))))))
    exact v_pegs hs ⟨hn0, hn⟩ fun l s' hl hr' _ => ⟨hr', l, rfl, hl⟩
  · show ((upto k).map D.int).length ≤ LINE
    rw [List.length_map, hu]
    omega
  · have hBl : B.length = k.toNat := by
      rw [hB]
      show ((upto k).map D.int).length = _
      rw [List.length_map, hu]
    obtain ⟨M, eM, hMo, hM⟩ := law_order_ok (L := B) (by omega) fun N nd h => by
      have := nd.length_le_of_subset h
      omega
    have := hMo.nodup.length_le_of_subset fun x hx => (hM x).mp hx
    exact v_nil (v_P (stills1 (a := .lst (tupsL B)) (still_tups B)) eM (q M s3 hMo (fun s hs => hBs s ((hM s).mp hs)) (by omega) hr3))
theorem law_true (ns : List Int) (hl : ns.length ≤ 63) : m_law [.scr ns] = .ok (.bl true) := by
  have hLINE : LINE = 16777216 := rfl
  refine v_mP rfl ?_
  show (b_law [some (.scr ns), none, none, none, none, none, none, none, none, none, none, none, none, none, none, none, none, none] []).G3 _
  unfold b_law
  (repeat (first | (first | ((with_reducible apply v_v); exact rfl) | ((with_reducible apply v_len); exact rfl) | with_reducible first | refine v_c ?_ | refine v_op2 ?_ | refine v_cons ?_ | refine v_nil ?_ | refine v_B ?_ | refine v_L ?_ | refine v_LN ?_ | refine v_B1 ?_ | refine v_L1 ?_ | refine v_D ?_ | refine v_DN ?_ | (refine v_tup ?_) | refine v_lst ?_ | refine v_newL ?_ | refine v_call ?_ | refine v_callP ?_ | refine v_make ?_ | refine v_fld ?_ | refine v_neg ?_ | refine v_Rev ?_ | refine v_cut ?_ | refine v_oN ?_ | refine v_oS ?_ | refine v_And ?_ | refine v_Or ?_ | refine v_Not ?_ | refine v_If ?_ | refine v_Chain ?_ | refine v_App ?_ | refine v_Upd ?_ | refine v_DE ?_ | refine v_DEN ?_ | refine v_rg1 ?_ | refine v_rg2 ?_ | refine v_LRg ?_ | refine v_LRgN ?_ | refine v_TRg ?_ | refine v_tV ?_ | refine v_tAnd ?_ | refine v_tOr ?_ | refine v_tNot ?_ | refine v_tYes ?_) | (with_reducible first | refine v_Seq ?_ | refine v_nx ?_ | (refine v_Asg ?_) | refine v_AsgT ?_ | refine v_Ret ?_ | refine v_RetN ?_ | refine v_Expr ?_ | refine v_sIf ?_ | refine v_Nil ?_ | refine v_gV ?_ | refine v_gTup2 ?_ | refine v_gTup3 ?_ | refine v_gTup4 ?_ | refine v_gSub ?_ | refine v_Par ?_ | refine v_Par3 ?_ | refine v_par2 ?_ | refine v_par3 ?_ | refine v_FSet ?_ | refine v_nrt ?_ | refine v_nbk ?_ | refine v_nct ?_ | refine v_Break ?_ | refine v_Cont ?_ | refine v_tnx ?_ | refine v_tct ?_ | refine v_tbk ?_ | refine v_trt ?_ | refine v_fin ?_ | refine two_t ?_ | refine two_f ?_ | refine two_n ?_ | refine isB ?_ | refine isI ?_) | (with_reducible first | refine og (dAdd_int _ _ _) ?_ | refine og (dSub_int _ _ _) ?_ | refine og (dLt_int _ _ _) ?_ | refine og (dGt_int _ _ _) ?_ | refine og (dLe_int _ _ _) ?_ | refine og (dGe_int _ _ _) ?_ | refine og (dEq_int _ _ _) ?_ | refine og (dNe_int _ _ _) ?_ | refine og (dIs_non _ _) ?_ | refine og (dIsNot_non _ _) ?_ | refine og (fld_many _ _ _) ?_ | refine og (fld_leaps _ _ _) ?_ | refine og (dIn_ints rfl) ?_ | refine og (dNotIn_ints rfl) ?_ | refine og (dEq_tup _ _ _) ?_ | refine og (dNe_tup _ _ _) ?_ | refine og (dLt_tup _ _ _) ?_)))
  refine v_For D.int (upto 3) (fun _ env s => Env68 ns env ∧ RowOk s) ?_ (fun done a rest hd env s hI => ?_) (fun env s hI => ?_)
  · refine v_iRng (v_c (isI ⟨by omega, rfl, ⟨_, _, _, _, _, _, _, _, _, _, _, _, _, _, _, _, rfl⟩, ⟨ns, 0, 25268, 0, rfl, by omega⟩⟩))
  · obtain ⟨⟨e2, e3, e4, e5, e6, e7, e8, e9, e10, e11, e12, e13, e14, e15, e16, e17, rfl⟩, hr⟩ := hI
    (repeat (first | (first | ((with_reducible apply v_v); exact rfl) | ((with_reducible apply v_len); exact rfl) | with_reducible first | refine v_c ?_ | refine v_op2 ?_ | refine v_cons ?_ | refine v_nil ?_ | refine v_B ?_ | refine v_L ?_ | refine v_LN ?_ | refine v_B1 ?_ | refine v_L1 ?_ | refine v_D ?_ | refine v_DN ?_ | (refine v_tup ?_) | refine v_lst ?_ | refine v_newL ?_ | refine v_call ?_ | refine v_callP ?_ | refine v_make ?_ | refine v_fld ?_ | refine v_neg ?_ | refine v_Rev ?_ | refine v_cut ?_ | refine v_oN ?_ | refine v_oS ?_ | refine v_And ?_ | refine v_Or ?_ | refine v_Not ?_ | refine v_If ?_ | refine v_Chain ?_ | refine v_App ?_ | refine v_Upd ?_ | refine v_DE ?_ | refine v_DEN ?_ | refine v_rg1 ?_ | refine v_rg2 ?_ | refine v_LRg ?_ | refine v_LRgN ?_ | refine v_TRg ?_ | refine v_tV ?_ | refine v_tAnd ?_ | refine v_tOr ?_ | refine v_tNot ?_ | refine v_tYes ?_) | (with_reducible first | refine v_Seq ?_ | refine v_nx ?_ | (refine v_Asg ?_) | refine v_AsgT ?_ | refine v_Ret ?_ | refine v_RetN ?_ | refine v_Expr ?_ | refine v_sIf ?_ | refine v_Nil ?_ | refine v_gV ?_ | refine v_gTup2 ?_ | refine v_gTup3 ?_ | refine v_gTup4 ?_ | refine v_gSub ?_ | refine v_Par ?_ | refine v_Par3 ?_ | refine v_par2 ?_ | refine v_par3 ?_ | refine v_FSet ?_ | refine v_nrt ?_ | refine v_nbk ?_ | refine v_nct ?_ | refine v_Break ?_ | refine v_Cont ?_ | refine v_tnx ?_ | refine v_tct ?_ | refine v_tbk ?_ | refine v_trt ?_ | refine v_fin ?_ | refine two_t ?_ | refine two_f ?_ | refine two_n ?_ | refine isB ?_ | refine isI ?_) | (with_reducible first | refine og (dAdd_int _ _ _) ?_ | refine og (dSub_int _ _ _) ?_ | refine og (dLt_int _ _ _) ?_ | refine og (dGt_int _ _ _) ?_ | refine og (dLe_int _ _ _) ?_ | refine og (dGe_int _ _ _) ?_ | refine og (dEq_int _ _ _) ?_ | refine og (dNe_int _ _ _) ?_ | refine og (dIs_non _ _) ?_ | refine og (dIsNot_non _ _) ?_ | refine og (fld_many _ _ _) ?_ | refine og (fld_leaps _ _ _) ?_ | refine og (dIn_ints rfl) ?_ | refine og (dNotIn_ints rfl) ?_ | refine og (dEq_tup _ _ _) ?_ | refine og (dNe_tup _ _ _) ?_ | refine og (dLt_tup _ _ _) ?_)))
    refine v_parts hr (by omega) (by omega) fun n L s1 hP hn hr1 _ => ?_
    have hlo := hP.lo
    have hL := hP.leap
    have hLl := hP.few
    have hn0 : 0 ≤ n := by omega
    have hn6 : n ≤ 6 := by omega
    obtain ⟨E, eE, hEo, hE⟩ := law_all_ok hlo hn
    have hEs : ∀ t ∈ E, Stand n t := fun t ht => (hE t).mp ht
    have hE64 := few64 hn6 hEo.nodup hEs
    (repeat (first | (first | ((with_reducible apply v_v); exact rfl) | ((with_reducible apply v_len); exact rfl) | with_reducible first | refine v_c ?_ | refine v_op2 ?_ | refine v_cons ?_ | refine v_nil ?_ | refine v_B ?_ | refine v_L ?_ | refine v_LN ?_ | refine v_B1 ?_ | refine v_L1 ?_ | refine v_D ?_ | refine v_DN ?_ | (refine v_tup ?_) | refine v_lst ?_ | refine v_newL ?_ | refine v_call ?_ | refine v_callP ?_ | refine v_make ?_ | refine v_fld ?_ | refine v_neg ?_ | refine v_Rev ?_ | refine v_cut ?_ | refine v_oN ?_ | refine v_oS ?_ | refine v_And ?_ | refine v_Or ?_ | refine v_Not ?_ | refine v_If ?_ | refine v_Chain ?_ | refine v_App ?_ | refine v_Upd ?_ | refine v_DE ?_ | refine v_DEN ?_ | refine v_rg1 ?_ | refine v_rg2 ?_ | refine v_LRg ?_ | refine v_LRgN ?_ | refine v_TRg ?_ | refine v_tV ?_ | refine v_tAnd ?_ | refine v_tOr ?_ | refine v_tNot ?_ | refine v_tYes ?_) | (with_reducible first | refine v_Seq ?_ | refine v_nx ?_ | (refine v_Asg ?_) | refine v_AsgT ?_ | refine v_Ret ?_ | refine v_RetN ?_ | refine v_Expr ?_ | refine v_sIf ?_ | refine v_Nil ?_ | refine v_gV ?_ | refine v_gTup2 ?_ | refine v_gTup3 ?_ | refine v_gTup4 ?_ | refine v_gSub ?_ | refine v_Par ?_ | refine v_Par3 ?_ | refine v_par2 ?_ | refine v_par3 ?_ | refine v_FSet ?_ | refine v_nrt ?_ | refine v_nbk ?_ | refine v_nct ?_ | refine v_Break ?_ | refine v_Cont ?_ | refine v_tnx ?_ | refine v_tct ?_ | refine v_tbk ?_ | refine v_trt ?_ | refine v_fin ?_ | refine two_t ?_ | refine two_f ?_ | refine two_n ?_ | refine isB ?_ | refine isI ?_) | (with_reducible first | refine og (dAdd_int _ _ _) ?_ | refine og (dSub_int _ _ _) ?_ | refine og (dLt_int _ _ _) ?_ | refine og (dGt_int _ _ _) ?_ | refine og (dLe_int _ _ _) ?_ | refine og (dGe_int _ _ _) ?_ | refine og (dEq_int _ _ _) ?_ | refine og (dNe_int _ _ _) ?_ | refine og (dIs_non _ _) ?_ | refine og (dIsNot_non _ _) ?_ | refine og (fld_many _ _ _) ?_ | refine og (fld_leaps _ _ _) ?_ | refine og (dIn_ints rfl) ?_ | refine og (dNotIn_ints rfl) ?_ | refine og (dEq_tup _ _ _) ?_ | refine og (dNe_tup _ _ _) ?_ | refine og (dLt_tup _ _ _) ?_)))
    refine ⟨stills1 (still_parts n L), _, board_ok hP, ?_⟩
    (repeat (first | (first | ((with_reducible apply v_v); exact rfl) | ((with_reducible apply v_len); exact rfl) | with_reducible first | refine v_c ?_ | refine v_op2 ?_ | refine v_cons ?_ | refine v_nil ?_ | refine v_B ?_ | refine v_L ?_ | refine v_LN ?_ | refine v_B1 ?_ | refine v_L1 ?_ | refine v_D ?_ | refine v_DN ?_ | (refine v_tup ?_) | refine v_lst ?_ | refine v_newL ?_ | refine v_call ?_ | refine v_callP ?_ | refine v_make ?_ | refine v_fld ?_ | refine v_neg ?_ | refine v_Rev ?_ | refine v_cut ?_ | refine v_oN ?_ | refine v_oS ?_ | refine v_And ?_ | refine v_Or ?_ | refine v_Not ?_ | refine v_If ?_ | refine v_Chain ?_ | refine v_App ?_ | refine v_Upd ?_ | refine v_DE ?_ | refine v_DEN ?_ | refine v_rg1 ?_ | refine v_rg2 ?_ | refine v_LRg ?_ | refine v_LRgN ?_ | refine v_TRg ?_ | refine v_tV ?_ | refine v_tAnd ?_ | refine v_tOr ?_ | refine v_tNot ?_ | refine v_tYes ?_) | (with_reducible first | refine v_Seq ?_ | refine v_nx ?_ | (refine v_Asg ?_) | refine v_AsgT ?_ | refine v_Ret ?_ | refine v_RetN ?_ | refine v_Expr ?_ | refine v_sIf ?_ | refine v_Nil ?_ | refine v_gV ?_ | refine v_gTup2 ?_ | refine v_gTup3 ?_ | refine v_gTup4 ?_ | refine v_gSub ?_ | refine v_Par ?_ | refine v_Par3 ?_ | refine v_par2 ?_ | refine v_par3 ?_ | refine v_FSet ?_ | refine v_nrt ?_ | refine v_nbk ?_ | refine v_nct ?_ | refine v_Break ?_ | refine v_Cont ?_ | refine v_tnx ?_ | refine v_tct ?_ | refine v_tbk ?_ | refine v_trt ?_ | refine v_fin ?_ | refine two_t ?_ | refine two_f ?_ | refine two_n ?_ | refine isB ?_ | refine isI ?_) | (with_reducible first | refine og (dAdd_int _ _ _) ?_ | refine og (dSub_int _ _ _) ?_ | refine og (dLt_int _ _ _) ?_ | refine og (dGt_int _ _ _) ?_ | refine og (dLe_int _ _ _) ?_ | refine og (dGe_int _ _ _) ?_ | refine og (dEq_int _ _ _) ?_ | refine og (dNe_int _ _ _) ?_ | refine og (dIs_non _ _) ?_ | refine og (dIsNot_non _ _) ?_ | refine og (fld_many _ _ _) ?_ | refine og (fld_leaps _ _ _) ?_ | refine og (dIn_ints rfl) ?_ | refine og (dNotIn_ints rfl) ?_ | refine og (dEq_tup _ _ _) ?_ | refine og (dNe_tup _ _ _) ?_ | refine og (dLt_tup _ _ _) ?_)))
    refine og (ix_parts0 _ n L) ?_
    (repeat (first | (first | ((with_reducible apply v_v); exact rfl) | ((with_reducible apply v_len); exact rfl) | with_reducible first | refine v_c ?_ | refine v_op2 ?_ | refine v_cons ?_ | refine v_nil ?_ | refine v_B ?_ | refine v_L ?_ | refine v_LN ?_ | refine v_B1 ?_ | refine v_L1 ?_ | refine v_D ?_ | refine v_DN ?_ | (refine v_tup ?_) | refine v_lst ?_ | refine v_newL ?_ | refine v_call ?_ | refine v_callP ?_ | refine v_make ?_ | refine v_fld ?_ | refine v_neg ?_ | refine v_Rev ?_ | refine v_cut ?_ | refine v_oN ?_ | refine v_oS ?_ | refine v_And ?_ | refine v_Or ?_ | refine v_Not ?_ | refine v_If ?_ | refine v_Chain ?_ | refine v_App ?_ | refine v_Upd ?_ | refine v_DE ?_ | refine v_DEN ?_ | refine v_rg1 ?_ | refine v_rg2 ?_ | refine v_LRg ?_ | refine v_LRgN ?_ | refine v_TRg ?_ | refine v_tV ?_ | refine v_tAnd ?_ | refine v_tOr ?_ | refine v_tNot ?_ | refine v_tYes ?_) | (with_reducible first | refine v_Seq ?_ | refine v_nx ?_ | (refine v_Asg ?_) | refine v_AsgT ?_ | refine v_Ret ?_ | refine v_RetN ?_ | refine v_Expr ?_ | refine v_sIf ?_ | refine v_Nil ?_ | refine v_gV ?_ | refine v_gTup2 ?_ | refine v_gTup3 ?_ | refine v_gTup4 ?_ | refine v_gSub ?_ | refine v_Par ?_ | refine v_Par3 ?_ | refine v_par2 ?_ | refine v_par3 ?_ | refine v_FSet ?_ | refine v_nrt ?_ | refine v_nbk ?_ | refine v_nct ?_ | refine v_Break ?_ | refine v_Cont ?_ | refine v_tnx ?_ | refine v_tct ?_ | refine v_tbk ?_ | refine v_trt ?_ | refine v_fin ?_ | refine two_t ?_ | refine two_f ?_ | refine two_n ?_ | refine isB ?_ | refine isI ?_) | (with_reducible first | refine og (dAdd_int _ _ _) ?_ | refine og (dSub_int _ _ _) ?_ | refine og (dLt_int _ _ _) ?_ | refine og (dGt_int _ _ _) ?_ | refine og (dLe_int _ _ _) ?_ | refine og (dGe_int _ _ _) ?_ | refine og (dEq_int _ _ _) ?_ | refine og (dNe_int _ _ _) ?_ | refine og (dIs_non _ _) ?_ | refine og (dIsNot_non _ _) ?_ | refine og (fld_many _ _ _) ?_ | refine og (fld_leaps _ _ _) ?_ | refine og (dIn_ints rfl) ?_ | refine og (dNotIn_ints rfl) ?_ | refine og (dEq_tup _ _ _) ?_ | refine og (dNe_tup _ _ _) ?_ | refine og (dLt_tup _ _ _) ?_)))
    refine v_P rfl eE ?_
    (repeat (first | (first | ((with_reducible apply v_v); exact rfl) | ((with_reducible apply v_len); exact rfl) | with_reducible first | refine v_c ?_ | refine v_op2 ?_ | refine v_cons ?_ | refine v_nil ?_ | refine v_B ?_ | refine v_L ?_ | refine v_LN ?_ | refine v_B1 ?_ | refine v_L1 ?_ | refine v_D ?_ | refine v_DN ?_ | (refine v_tup ?_) | refine v_lst ?_ | refine v_newL ?_ | refine v_call ?_ | refine v_callP ?_ | refine v_make ?_ | refine v_fld ?_ | refine v_neg ?_ | refine v_Rev ?_ | refine v_cut ?_ | refine v_oN ?_ | refine v_oS ?_ | refine v_And ?_ | refine v_Or ?_ | refine v_Not ?_ | refine v_If ?_ | refine v_Chain ?_ | refine v_App ?_ | refine v_Upd ?_ | refine v_DE ?_ | refine v_DEN ?_ | refine v_rg1 ?_ | refine v_rg2 ?_ | refine v_LRg ?_ | refine v_LRgN ?_ | refine v_TRg ?_ | refine v_tV ?_ | refine v_tAnd ?_ | refine v_tOr ?_ | refine v_tNot ?_ | refine v_tYes ?_) | (with_reducible first | refine v_Seq ?_ | refine v_nx ?_ | (refine v_Asg ?_) | refine v_AsgT ?_ | refine v_Ret ?_ | refine v_RetN ?_ | refine v_Expr ?_ | refine v_sIf ?_ | refine v_Nil ?_ | refine v_gV ?_ | refine v_gTup2 ?_ | refine v_gTup3 ?_ | refine v_gTup4 ?_ | refine v_gSub ?_ | refine v_Par ?_ | refine v_Par3 ?_ | refine v_par2 ?_ | refine v_par3 ?_ | refine v_FSet ?_ | refine v_nrt ?_ | refine v_nbk ?_ | refine v_nct ?_ | refine v_Break ?_ | refine v_Cont ?_ | refine v_tnx ?_ | refine v_tct ?_ | refine v_tbk ?_ | refine v_trt ?_ | refine v_fin ?_ | refine two_t ?_ | refine two_f ?_ | refine two_n ?_ | refine isB ?_ | refine isI ?_) | (with_reducible first | refine og (dAdd_int _ _ _) ?_ | refine og (dSub_int _ _ _) ?_ | refine og (dLt_int _ _ _) ?_ | refine og (dGt_int _ _ _) ?_ | refine og (dLe_int _ _ _) ?_ | refine og (dGe_int _ _ _) ?_ | refine og (dEq_int _ _ _) ?_ | refine og (dNe_int _ _ _) ?_ | refine og (dIs_non _ _) ?_ | refine og (dIsNot_non _ _) ?_ | refine og (fld_many _ _ _) ?_ | refine og (fld_leaps _ _ _) ?_ | refine og (dIn_ints rfl) ?_ | refine og (dNotIn_ints rfl) ?_ | refine og (dEq_tup _ _ _) ?_ | refine og (dNe_tup _ _ _) ?_ | refine og (dLt_tup _ _ _) ?_)))
    (try dsimp only [List.set_cons_zero, List.set_cons_succ])
    refine drawn_rows (L := L) hn0 (by omega) hr1 ?_ ?_ ?_ fun A s2 hAo hAs hA4 hr2 => ?_
    · rfl
    · rfl
    · exact Nat.le_of_ble_eq_true rfl
    (repeat (first | (first | ((with_reducible apply v_v); exact rfl) | ((with_reducible apply v_len); exact rfl) | with_reducible first | refine v_c ?_ | refine v_op2 ?_ | refine v_cons ?_ | refine v_nil ?_ | refine v_B ?_ | refine v_L ?_ | refine v_LN ?_ | refine v_B1 ?_ | refine v_L1 ?_ | refine v_D ?_ | refine v_DN ?_ | (refine v_tup ?_) | refine v_lst ?_ | refine v_newL ?_ | refine v_call ?_ | refine v_callP ?_ | refine v_make ?_ | refine v_fld ?_ | refine v_neg ?_ | refine v_Rev ?_ | refine v_cut ?_ | refine v_oN ?_ | refine v_oS ?_ | refine v_And ?_ | refine v_Or ?_ | refine v_Not ?_ | refine v_If ?_ | refine v_Chain ?_ | refine v_App ?_ | refine v_Upd ?_ | refine v_DE ?_ | refine v_DEN ?_ | refine v_rg1 ?_ | refine v_rg2 ?_ | refine v_LRg ?_ | refine v_LRgN ?_ | refine v_TRg ?_ | refine v_tV ?_ | refine v_tAnd ?_ | refine v_tOr ?_ | refine v_tNot ?_ | refine v_tYes ?_) | (with_reducible first | refine v_Seq ?_ | refine v_nx ?_ | (refine v_Asg ?_) | refine v_AsgT ?_ | refine v_Ret ?_ | refine v_RetN ?_ | refine v_Expr ?_ | refine v_sIf ?_ | refine v_Nil ?_ | refine v_gV ?_ | refine v_gTup2 ?_ | refine v_gTup3 ?_ | refine v_gTup4 ?_ | refine v_gSub ?_ | refine v_Par ?_ | refine v_Par3 ?_ | refine v_par2 ?_ | refine v_par3 ?_ | refine v_FSet ?_ | refine v_nrt ?_ | refine v_nbk ?_ | refine v_nct ?_ | refine v_Break ?_ | refine v_Cont ?_ | refine v_tnx ?_ | refine v_tct ?_ | refine v_tbk ?_ | refine v_trt ?_ | refine v_fin ?_ | refine two_t ?_ | refine two_f ?_ | refine two_n ?_ | refine isB ?_ | refine isI ?_) | (with_reducible first | refine og (dAdd_int _ _ _) ?_ | refine og (dSub_int _ _ _) ?_ | refine og (dLt_int _ _ _) ?_ | refine og (dGt_int _ _ _) ?_ | refine og (dLe_int _ _ _) ?_ | refine og (dGe_int _ _ _) ?_ | refine og (dEq_int _ _ _) ?_ | refine og (dNe_int _ _ _) ?_ | refine og (dIs_non _ _) ?_ | refine og (dIsNot_non _ _) ?_ | refine og (fld_many _ _ _) ?_ | refine og (fld_leaps _ _ _) ?_ | refine og (dIn_ints rfl) ?_ | refine og (dNotIn_ints rfl) ?_ | refine og (dEq_tup _ _ _) ?_ | refine og (dNe_tup _ _ _) ?_ | refine og (dLt_tup _ _ _) ?_)))
    (try dsimp only [List.set_cons_zero, List.set_cons_succ])
    refine drawn_rows (L := L) hn0 (by omega) hr2 ?_ ?_ ?_ fun B s3 hBo hBs hB4 hr3 => ?_
    · rfl
    · rfl
    · exact Nat.le_of_ble_eq_true rfl
    (repeat (first | (first | ((with_reducible apply v_v); exact rfl) | ((with_reducible apply v_len); exact rfl) | with_reducible first | refine v_c ?_ | refine v_op2 ?_ | refine v_cons ?_ | refine v_nil ?_ | refine v_B ?_ | refine v_L ?_ | refine v_LN ?_ | refine v_B1 ?_ | refine v_L1 ?_ | refine v_D ?_ | refine v_DN ?_ | (refine v_tup ?_) | refine v_lst ?_ | refine v_newL ?_ | refine v_call ?_ | refine v_callP ?_ | refine v_make ?_ | refine v_fld ?_ | refine v_neg ?_ | refine v_Rev ?_ | refine v_cut ?_ | refine v_oN ?_ | refine v_oS ?_ | refine v_And ?_ | refine v_Or ?_ | refine v_Not ?_ | refine v_If ?_ | refine v_Chain ?_ | refine v_App ?_ | refine v_Upd ?_ | refine v_DE ?_ | refine v_DEN ?_ | refine v_rg1 ?_ | refine v_rg2 ?_ | refine v_LRg ?_ | refine v_LRgN ?_ | refine v_TRg ?_ | refine v_tV ?_ | refine v_tAnd ?_ | refine v_tOr ?_ | refine v_tNot ?_ | refine v_tYes ?_) | (with_reducible first | refine v_Seq ?_ | refine v_nx ?_ | (refine v_Asg ?_) | refine v_AsgT ?_ | refine v_Ret ?_ | refine v_RetN ?_ | refine v_Expr ?_ | refine v_sIf ?_ | refine v_Nil ?_ | refine v_gV ?_ | refine v_gTup2 ?_ | refine v_gTup3 ?_ | refine v_gTup4 ?_ | refine v_gSub ?_ | refine v_Par ?_ | refine v_Par3 ?_ | refine v_par2 ?_ | refine v_par3 ?_ | refine v_FSet ?_ | refine v_nrt ?_ | refine v_nbk ?_ | refine v_nct ?_ | refine v_Break ?_ | refine v_Cont ?_ | refine v_tnx ?_ | refine v_tct ?_ | refine v_tbk ?_ | refine v_trt ?_ | refine v_fin ?_ | refine two_t ?_ | refine two_f ?_ | refine two_n ?_ | refine isB ?_ | refine isI ?_) | (with_reducible first | refine og (dAdd_int _ _ _) ?_ | refine og (dSub_int _ _ _) ?_ | refine og (dLt_int _ _ _) ?_ | refine og (dGt_int _ _ _) ?_ | refine og (dLe_int _ _ _) ?_ | refine og (dGe_int _ _ _) ?_ | refine og (dEq_int _ _ _) ?_ | refine og (dNe_int _ _ _) ?_ | refine og (dIs_non _ _) ?_ | refine og (dIsNot_non _ _) ?_ | refine og (fld_many _ _ _) ?_ | refine og (fld_leaps _ _ _) ?_ | refine og (dIn_ints rfl) ?_ | refine og (dNotIn_ints rfl) ?_ | refine og (dEq_tup _ _ _) ?_ | refine og (dNe_tup _ _ _) ?_ | refine og (dLt_tup _ _ _) ?_)))
    (try dsimp only [List.set_cons_zero, List.set_cons_succ])
    obtain ⟨F, eF, hFo, hF⟩ := least_ok hn0 hn6 hL hAo hAs
    obtain ⟨G, eG, hGo, hG⟩ := least_ok hn0 hn6 hL hBo hBs
    have hFs : ∀ t ∈ F, Stand n t := fun t ht => ((hF t).mp ht).stand hL hAs
    have hGs : ∀ t ∈ G, Stand n t := fun t ht => ((hG t).mp ht).stand hL hBs
    have hF64 := few64 hn6 hFo.nodup hFs
    have hG64 := few64 hn6 hGo.nodup hGs
    have cF := clo_closed hF
    refine v_P (stills2 (still_board n L) (still_tups A)) eF ?_
    (repeat (first | (first | ((with_reducible apply v_v); exact rfl) | ((with_reducible apply v_len); exact rfl) | with_reducible first | refine v_c ?_ | refine v_op2 ?_ | refine v_cons ?_ | refine v_nil ?_ | refine v_B ?_ | refine v_L ?_ | refine v_LN ?_ | refine v_B1 ?_ | refine v_L1 ?_ | refine v_D ?_ | refine v_DN ?_ | (refine v_tup ?_) | refine v_lst ?_ | refine v_newL ?_ | refine v_call ?_ | refine v_callP ?_ | refine v_make ?_ | refine v_fld ?_ | refine v_neg ?_ | refine v_Rev ?_ | refine v_cut ?_ | refine v_oN ?_ | refine v_oS ?_ | refine v_And ?_ | refine v_Or ?_ | refine v_Not ?_ | refine v_If ?_ | refine v_Chain ?_ | refine v_App ?_ | refine v_Upd ?_ | refine v_DE ?_ | refine v_DEN ?_ | refine v_rg1 ?_ | refine v_rg2 ?_ | refine v_LRg ?_ | refine v_LRgN ?_ | refine v_TRg ?_ | refine v_tV ?_ | refine v_tAnd ?_ | refine v_tOr ?_ | refine v_tNot ?_ | refine v_tYes ?_) | (with_reducible first | refine v_Seq ?_ | refine v_nx ?_ | (refine v_Asg ?_) | refine v_AsgT ?_ | refine v_Ret ?_ | refine v_RetN ?_ | refine v_Expr ?_ | refine v_sIf ?_ | refine v_Nil ?_ | refine v_gV ?_ | refine v_gTup2 ?_ | refine v_gTup3 ?_ | refine v_gTup4 ?_ | refine v_gSub ?_ | refine v_Par ?_ | refine v_Par3 ?_ | refine v_par2 ?_ | refine v_par3 ?_ | refine v_FSet ?_ | refine v_nrt ?_ | refine v_nbk ?_ | refine v_nct ?_ | refine v_Break ?_ | refine v_Cont ?_ | refine v_tnx ?_ | refine v_tct ?_ | refine v_tbk ?_ | refine v_trt ?_ | refine v_fin ?_ | refine two_t ?_ | refine two_f ?_ | refine two_n ?_ | refine isB ?_ | refine isI ?_) | (with_reducible first | refine og (dAdd_int _ _ _) ?_ | refine og (dSub_int _ _ _) ?_ | refine og (dLt_int _ _ _) ?_ | refine og (dGt_int _ _ _) ?_ | refine og (dLe_int _ _ _) ?_ | refine og (dGe_int _ _ _) ?_ | refine og (dEq_int _ _ _) ?_ | refine og (dNe_int _ _ _) ?_ | refine og (dIs_non _ _) ?_ | refine og (dIsNot_non _ _) ?_ | refine og (fld_many _ _ _) ?_ | refine og (fld_leaps _ _ _) ?_ | refine og (dIn_ints rfl) ?_ | refine og (dNotIn_ints rfl) ?_ | refine og (dEq_tup _ _ _) ?_ | refine og (dNe_tup _ _ _) ?_ | refine og (dLt_tup _ _ _) ?_)))
    refine v_P (stills2 (still_board n L) (still_tups B)) eG ?_
    (repeat (first | (first | ((with_reducible apply v_v); exact rfl) | ((with_reducible apply v_len); exact rfl) | with_reducible first | refine v_c ?_ | refine v_op2 ?_ | refine v_cons ?_ | refine v_nil ?_ | refine v_B ?_ | refine v_L ?_ | refine v_LN ?_ | refine v_B1 ?_ | refine v_L1 ?_ | refine v_D ?_ | refine v_DN ?_ | (refine v_tup ?_) | refine v_lst ?_ | refine v_newL ?_ | refine v_call ?_ | refine v_callP ?_ | refine v_make ?_ | refine v_fld ?_ | refine v_neg ?_ | refine v_Rev ?_ | refine v_cut ?_ | refine v_oN ?_ | refine v_oS ?_ | refine v_And ?_ | refine v_Or ?_ | refine v_Not ?_ | refine v_If ?_ | refine v_Chain ?_ | refine v_App ?_ | refine v_Upd ?_ | refine v_DE ?_ | refine v_DEN ?_ | refine v_rg1 ?_ | refine v_rg2 ?_ | refine v_LRg ?_ | refine v_LRgN ?_ | refine v_TRg ?_ | refine v_tV ?_ | refine v_tAnd ?_ | refine v_tOr ?_ | refine v_tNot ?_ | refine v_tYes ?_) | (with_reducible first | refine v_Seq ?_ | refine v_nx ?_ | (refine v_Asg ?_) | refine v_AsgT ?_ | refine v_Ret ?_ | refine v_RetN ?_ | refine v_Expr ?_ | refine v_sIf ?_ | refine v_Nil ?_ | refine v_gV ?_ | refine v_gTup2 ?_ | refine v_gTup3 ?_ | refine v_gTup4 ?_ | refine v_gSub ?_ | refine v_Par ?_ | refine v_Par3 ?_ | refine v_par2 ?_ | refine v_par3 ?_ | refine v_FSet ?_ | refine v_nrt ?_ | refine v_nbk ?_ | refine v_nct ?_ | refine v_Break ?_ | refine v_Cont ?_ | refine v_tnx ?_ | refine v_tct ?_ | refine v_tbk ?_ | refine v_trt ?_ | refine v_fin ?_ | refine two_t ?_ | refine two_f ?_ | refine two_n ?_ | refine isB ?_ | refine isI ?_) | (with_reducible first | refine og (dAdd_int _ _ _) ?_ | refine og (dSub_int _ _ _) ?_ | refine og (dLt_int _ _ _) ?_ | refine og (dGt_int _ _ _) ?_ | refine og (dLe_int _ _ _) ?_ | refine og (dGe_int _ _ _) ?_ | refine og (dEq_int _ _ _) ?_ | refine og (dNe_int _ _ _) ?_ | refine og (dIs_non _ _) ?_ | refine og (dIsNot_non _ _) ?_ | refine og (fld_many _ _ _) ?_ | refine og (fld_leaps _ _ _) ?_ | refine og (dIn_ints rfl) ?_ | refine og (dNotIn_ints rfl) ?_ | refine og (dEq_tup _ _ _) ?_ | refine og (dNe_tup _ _ _) ?_ | refine og (dLt_tup _ _ _) ?_)))
    (try dsimp only [List.set_cons_zero, List.set_cons_succ])
    obtain ⟨b, eb, hb⟩ := is_closed_ok hn0 hn6 hL hFo hFs
    have hb := hb.mpr cF
    subst hb
    refine v_P (stills2 (still_board n L) (still_tups F)) eb ?_
    (repeat (first | (first | ((with_reducible apply v_v); exact rfl) | ((with_reducible apply v_len); exact rfl) | with_reducible first | refine v_c ?_ | refine v_op2 ?_ | refine v_cons ?_ | refine v_nil ?_ | refine v_B ?_ | refine v_L ?_ | refine v_LN ?_ | refine v_B1 ?_ | refine v_L1 ?_ | refine v_D ?_ | refine v_DN ?_ | (refine v_tup ?_) | refine v_lst ?_ | refine v_newL ?_ | refine v_call ?_ | refine v_callP ?_ | refine v_make ?_ | refine v_fld ?_ | refine v_neg ?_ | refine v_Rev ?_ | refine v_cut ?_ | refine v_oN ?_ | refine v_oS ?_ | refine v_And ?_ | refine v_Or ?_ | refine v_Not ?_ | refine v_If ?_ | refine v_Chain ?_ | refine v_App ?_ | refine v_Upd ?_ | refine v_DE ?_ | refine v_DEN ?_ | refine v_rg1 ?_ | refine v_rg2 ?_ | refine v_LRg ?_ | refine v_LRgN ?_ | refine v_TRg ?_ | refine v_tV ?_ | refine v_tAnd ?_ | refine v_tOr ?_ | refine v_tNot ?_ | refine v_tYes ?_) | (with_reducible first | refine v_Seq ?_ | refine v_nx ?_ | (refine v_Asg ?_) | refine v_AsgT ?_ | refine v_Ret ?_ | refine v_RetN ?_ | refine v_Expr ?_ | refine v_sIf ?_ | refine v_Nil ?_ | refine v_gV ?_ | refine v_gTup2 ?_ | refine v_gTup3 ?_ | refine v_gTup4 ?_ | refine v_gSub ?_ | refine v_Par ?_ | refine v_Par3 ?_ | refine v_par2 ?_ | refine v_par3 ?_ | refine v_FSet ?_ | refine v_nrt ?_ | refine v_nbk ?_ | refine v_nct ?_ | refine v_Break ?_ | refine v_Cont ?_ | refine v_tnx ?_ | refine v_tct ?_ | refine v_tbk ?_ | refine v_trt ?_ | refine v_fin ?_ | refine two_t ?_ | refine two_f ?_ | refine two_n ?_ | refine isB ?_ | refine isI ?_) | (with_reducible first | refine og (dAdd_int _ _ _) ?_ | refine og (dSub_int _ _ _) ?_ | refine og (dLt_int _ _ _) ?_ | refine og (dGt_int _ _ _) ?_ | refine og (dLe_int _ _ _) ?_ | refine og (dGe_int _ _ _) ?_ | refine og (dEq_int _ _ _) ?_ | refine og (dNe_int _ _ _) ?_ | refine og (dIs_non _ _) ?_ | refine og (dIsNot_non _ _) ?_ | refine og (fld_many _ _ _) ?_ | refine og (fld_leaps _ _ _) ?_ | refine og (dIn_ints rfl) ?_ | refine og (dNotIn_ints rfl) ?_ | refine og (dEq_tup _ _ _) ?_ | refine og (dNe_tup _ _ _) ?_ | refine og (dLt_tup _ _ _) ?_)))
    refine v_P (stills2 (still_tups A) (still_tups F)) (under_sub (A := A) (B := F) rfl rfl (by omega) fun a ha => (hF a).mpr ⟨a, ha, .refl⟩) ?_
    (repeat (first | (first | ((with_reducible apply v_v); exact rfl) | ((with_reducible apply v_len); exact rfl) | with_reducible first | refine v_c ?_ | refine v_op2 ?_ | refine v_cons ?_ | refine v_nil ?_ | refine v_B ?_ | refine v_L ?_ | refine v_LN ?_ | refine v_B1 ?_ | refine v_L1 ?_ | refine v_D ?_ | refine v_DN ?_ | (refine v_tup ?_) | refine v_lst ?_ | refine v_newL ?_ | refine v_call ?_ | refine v_callP ?_ | refine v_make ?_ | refine v_fld ?_ | refine v_neg ?_ | refine v_Rev ?_ | refine v_cut ?_ | refine v_oN ?_ | refine v_oS ?_ | refine v_And ?_ | refine v_Or ?_ | refine v_Not ?_ | refine v_If ?_ | refine v_Chain ?_ | refine v_App ?_ | refine v_Upd ?_ | refine v_DE ?_ | refine v_DEN ?_ | refine v_rg1 ?_ | refine v_rg2 ?_ | refine v_LRg ?_ | refine v_LRgN ?_ | refine v_TRg ?_ | refine v_tV ?_ | refine v_tAnd ?_ | refine v_tOr ?_ | refine v_tNot ?_ | refine v_tYes ?_) | (with_reducible first | refine v_Seq ?_ | refine v_nx ?_ | (refine v_Asg ?_) | refine v_AsgT ?_ | refine v_Ret ?_ | refine v_RetN ?_ | refine v_Expr ?_ | refine v_sIf ?_ | refine v_Nil ?_ | refine v_gV ?_ | refine v_gTup2 ?_ | refine v_gTup3 ?_ | refine v_gTup4 ?_ | refine v_gSub ?_ | refine v_Par ?_ | refine v_Par3 ?_ | refine v_par2 ?_ | refine v_par3 ?_ | refine v_FSet ?_ | refine v_nrt ?_ | refine v_nbk ?_ | refine v_nct ?_ | refine v_Break ?_ | refine v_Cont ?_ | refine v_tnx ?_ | refine v_tct ?_ | refine v_tbk ?_ | refine v_trt ?_ | refine v_fin ?_ | refine two_t ?_ | refine two_f ?_ | refine two_n ?_ | refine isB ?_ | refine isI ?_) | (with_reducible first | refine og (dAdd_int _ _ _) ?_ | refine og (dSub_int _ _ _) ?_ | refine og (dLt_int _ _ _) ?_ | refine og (dGt_int _ _ _) ?_ | refine og (dLe_int _ _ _) ?_ | refine og (dGe_int _ _ _) ?_ | refine og (dEq_int _ _ _) ?_ | refine og (dNe_int _ _ _) ?_ | refine og (dIs_non _ _) ?_ | refine og (dIsNot_non _ _) ?_ | refine og (fld_many _ _ _) ?_ | refine og (fld_leaps _ _ _) ?_ | refine og (dIn_ints rfl) ?_ | refine og (dNotIn_ints rfl) ?_ | refine og (dEq_tup _ _ _) ?_ | refine og (dNe_tup _ _ _) ?_ | refine og (dLt_tup _ _ _) ?_)))
    obtain ⟨F2, eF2, hF2o, hF2⟩ := least_ok hn0 hn6 hL hFo hFs
    have : F2 = F := ordP_uniq hF2o hFo fun t => by
      rw [hF2]
      exact ⟨fun ⟨s, hs, r⟩ => cl_rch cF hs r, fun ht => ⟨t, ht, .refl⟩⟩
    subst this
    refine v_P (stills2 (still_board n L) (still_tups F2)) eF2 ?_
    (repeat (first | (first | ((with_reducible apply v_v); exact rfl) | ((with_reducible apply v_len); exact rfl) | with_reducible first | refine v_c ?_ | refine v_op2 ?_ | refine v_cons ?_ | refine v_nil ?_ | refine v_B ?_ | refine v_L ?_ | refine v_LN ?_ | refine v_B1 ?_ | refine v_L1 ?_ | refine v_D ?_ | refine v_DN ?_ | (refine v_tup ?_) | refine v_lst ?_ | refine v_newL ?_ | refine v_call ?_ | refine v_callP ?_ | refine v_make ?_ | refine v_fld ?_ | refine v_neg ?_ | refine v_Rev ?_ | refine v_cut ?_ | refine v_oN ?_ | refine v_oS ?_ | refine v_And ?_ | refine v_Or ?_ | refine v_Not ?_ | refine v_If ?_ | refine v_Chain ?_ | refine v_App ?_ | refine v_Upd ?_ | refine v_DE ?_ | refine v_DEN ?_ | refine v_rg1 ?_ | refine v_rg2 ?_ | refine v_LRg ?_ | refine v_LRgN ?_ | refine v_TRg ?_ | refine v_tV ?_ | refine v_tAnd ?_ | refine v_tOr ?_ | refine v_tNot ?_ | refine v_tYes ?_) | (with_reducible first | refine v_Seq ?_ | refine v_nx ?_ | (refine v_Asg ?_) | refine v_AsgT ?_ | refine v_Ret ?_ | refine v_RetN ?_ | refine v_Expr ?_ | refine v_sIf ?_ | refine v_Nil ?_ | refine v_gV ?_ | refine v_gTup2 ?_ | refine v_gTup3 ?_ | refine v_gTup4 ?_ | refine v_gSub ?_ | refine v_Par ?_ | refine v_Par3 ?_ | refine v_par2 ?_ | refine v_par3 ?_ | refine v_FSet ?_ | refine v_nrt ?_ | refine v_nbk ?_ | refine v_nct ?_ | refine v_Break ?_ | refine v_Cont ?_ | refine v_tnx ?_ | refine v_tct ?_ | refine v_tbk ?_ | refine v_trt ?_ | refine v_fin ?_ | refine two_t ?_ | refine two_f ?_ | refine two_n ?_ | refine isB ?_ | refine isI ?_) | (with_reducible first | refine og (dAdd_int _ _ _) ?_ | refine og (dSub_int _ _ _) ?_ | refine og (dLt_int _ _ _) ?_ | refine og (dGt_int _ _ _) ?_ | refine og (dLe_int _ _ _) ?_ | refine og (dGe_int _ _ _) ?_ | refine og (dEq_int _ _ _) ?_ | refine og (dNe_int _ _ _) ?_ | refine og (dIs_non _ _) ?_ | refine og (dIsNot_non _ _) ?_ | refine og (fld_many _ _ _) ?_ | refine og (fld_leaps _ _ _) ?_ | refine og (dIn_ints rfl) ?_ | refine og (dNotIn_ints rfl) ?_ | refine og (dEq_tup _ _ _) ?_ | refine og (dNe_tup _ _ _) ?_ | refine og (dLt_tup _ _ _) ?_)))
    refine og (dNe_tups _ F2 F2) (isB (two_n (two_y rfl ?_)))
    (repeat (first | (first | ((with_reducible apply v_v); exact rfl) | ((with_reducible apply v_len); exact rfl) | with_reducible first | refine v_c ?_ | refine v_op2 ?_ | refine v_cons ?_ | refine v_nil ?_ | refine v_B ?_ | refine v_L ?_ | refine v_LN ?_ | refine v_B1 ?_ | refine v_L1 ?_ | refine v_D ?_ | refine v_DN ?_ | (refine v_tup ?_) | refine v_lst ?_ | refine v_newL ?_ | refine v_call ?_ | refine v_callP ?_ | refine v_make ?_ | refine v_fld ?_ | refine v_neg ?_ | refine v_Rev ?_ | refine v_cut ?_ | refine v_oN ?_ | refine v_oS ?_ | refine v_And ?_ | refine v_Or ?_ | refine v_Not ?_ | refine v_If ?_ | refine v_Chain ?_ | refine v_App ?_ | refine v_Upd ?_ | refine v_DE ?_ | refine v_DEN ?_ | refine v_rg1 ?_ | refine v_rg2 ?_ | refine v_LRg ?_ | refine v_LRgN ?_ | refine v_TRg ?_ | refine v_tV ?_ | refine v_tAnd ?_ | refine v_tOr ?_ | refine v_tNot ?_ | refine v_tYes ?_) | (with_reducible first | refine v_Seq ?_ | refine v_nx ?_ | (refine v_Asg ?_) | refine v_AsgT ?_ | refine v_Ret ?_ | refine v_RetN ?_ | refine v_Expr ?_ | refine v_sIf ?_ | refine v_Nil ?_ | refine v_gV ?_ | refine v_gTup2 ?_ | refine v_gTup3 ?_ | refine v_gTup4 ?_ | refine v_gSub ?_ | refine v_Par ?_ | refine v_Par3 ?_ | refine v_par2 ?_ | refine v_par3 ?_ | refine v_FSet ?_ | refine v_nrt ?_ | refine v_nbk ?_ | refine v_nct ?_ | refine v_Break ?_ | refine v_Cont ?_ | refine v_tnx ?_ | refine v_tct ?_ | refine v_tbk ?_ | refine v_trt ?_ | refine v_fin ?_ | refine two_t ?_ | refine two_f ?_ | refine two_n ?_ | refine isB ?_ | refine isI ?_) | (with_reducible first | refine og (dAdd_int _ _ _) ?_ | refine og (dSub_int _ _ _) ?_ | refine og (dLt_int _ _ _) ?_ | refine og (dGt_int _ _ _) ?_ | refine og (dLe_int _ _ _) ?_ | refine og (dGe_int _ _ _) ?_ | refine og (dEq_int _ _ _) ?_ | refine og (dNe_int _ _ _) ?_ | refine og (dIs_non _ _) ?_ | refine og (dIsNot_non _ _) ?_ | refine og (fld_many _ _ _) ?_ | refine og (fld_leaps _ _ _) ?_ | refine og (dIn_ints rfl) ?_ | refine og (dNotIn_ints rfl) ?_ | refine og (dEq_tup _ _ _) ?_ | refine og (dNe_tup _ _ _) ?_ | refine og (dLt_tup _ _ _) ?_)))
    refine og (add_tupsT _ A B (by omega)) ?_
    (repeat (first | (first | ((with_reducible apply v_v); exact rfl) | ((with_reducible apply v_len); exact rfl) | with_reducible first | refine v_c ?_ | refine v_op2 ?_ | refine v_cons ?_ | refine v_nil ?_ | refine v_B ?_ | refine v_L ?_ | refine v_LN ?_ | refine v_B1 ?_ | refine v_L1 ?_ | refine v_D ?_ | refine v_DN ?_ | (refine v_tup ?_) | refine v_lst ?_ | refine v_newL ?_ | refine v_call ?_ | refine v_callP ?_ | refine v_make ?_ | refine v_fld ?_ | refine v_neg ?_ | refine v_Rev ?_ | refine v_cut ?_ | refine v_oN ?_ | refine v_oS ?_ | refine v_And ?_ | refine v_Or ?_ | refine v_Not ?_ | refine v_If ?_ | refine v_Chain ?_ | refine v_App ?_ | refine v_Upd ?_ | refine v_DE ?_ | refine v_DEN ?_ | refine v_rg1 ?_ | refine v_rg2 ?_ | refine v_LRg ?_ | refine v_LRgN ?_ | refine v_TRg ?_ | refine v_tV ?_ | refine v_tAnd ?_ | refine v_tOr ?_ | refine v_tNot ?_ | refine v_tYes ?_) | (with_reducible first | refine v_Seq ?_ | refine v_nx ?_ | (refine v_Asg ?_) | refine v_AsgT ?_ | refine v_Ret ?_ | refine v_RetN ?_ | refine v_Expr ?_ | refine v_sIf ?_ | refine v_Nil ?_ | refine v_gV ?_ | refine v_gTup2 ?_ | refine v_gTup3 ?_ | refine v_gTup4 ?_ | refine v_gSub ?_ | refine v_Par ?_ | refine v_Par3 ?_ | refine v_par2 ?_ | refine v_par3 ?_ | refine v_FSet ?_ | refine v_nrt ?_ | refine v_nbk ?_ | refine v_nct ?_ | refine v_Break ?_ | refine v_Cont ?_ | refine v_tnx ?_ | refine v_tct ?_ | refine v_tbk ?_ | refine v_trt ?_ | refine v_fin ?_ | refine two_t ?_ | refine two_f ?_ | refine two_n ?_ | refine isB ?_ | refine isI ?_) | (with_reducible first | refine og (dAdd_int _ _ _) ?_ | refine og (dSub_int _ _ _) ?_ | refine og (dLt_int _ _ _) ?_ | refine og (dGt_int _ _ _) ?_ | refine og (dLe_int _ _ _) ?_ | refine og (dGe_int _ _ _) ?_ | refine og (dEq_int _ _ _) ?_ | refine og (dNe_int _ _ _) ?_ | refine og (dIs_non _ _) ?_ | refine og (dIsNot_non _ _) ?_ | refine og (fld_many _ _ _) ?_ | refine og (fld_leaps _ _ _) ?_ | refine og (dIn_ints rfl) ?_ | refine og (dNotIn_ints rfl) ?_ | refine og (dEq_tup _ _ _) ?_ | refine og (dNe_tup _ _ _) ?_ | refine og (dLt_tup _ _ _) ?_)))
    obtain ⟨C, eC, hCo, hC⟩ := law_order_gen (L := A ++ B) (d := tupsT (A ++ B)) rfl (by rw [List.length_append]; omega) fun N nd h => by
      have := nd.length_le_of_subset h
      rw [List.length_append] at this
      omega
    have hCs : ∀ s ∈ C, Stand n s := fun s hs => by
      rcases List.mem_append.mp ((hC s).mp hs) with z | z
      · exact hAs s z
      · exact hBs s z
    refine v_P (stills1 (a := tupsT (A ++ B)) (still_tups _)) eC ?_
    (repeat (first | (first | ((with_reducible apply v_v); exact rfl) | ((with_reducible apply v_len); exact rfl) | with_reducible first | refine v_c ?_ | refine v_op2 ?_ | refine v_cons ?_ | refine v_nil ?_ | refine v_B ?_ | refine v_L ?_ | refine v_LN ?_ | refine v_B1 ?_ | refine v_L1 ?_ | refine v_D ?_ | refine v_DN ?_ | (refine v_tup ?_) | refine v_lst ?_ | refine v_newL ?_ | refine v_call ?_ | refine v_callP ?_ | refine v_make ?_ | refine v_fld ?_ | refine v_neg ?_ | refine v_Rev ?_ | refine v_cut ?_ | refine v_oN ?_ | refine v_oS ?_ | refine v_And ?_ | refine v_Or ?_ | refine v_Not ?_ | refine v_If ?_ | refine v_Chain ?_ | refine v_App ?_ | refine v_Upd ?_ | refine v_DE ?_ | refine v_DEN ?_ | refine v_rg1 ?_ | refine v_rg2 ?_ | refine v_LRg ?_ | refine v_LRgN ?_ | refine v_TRg ?_ | refine v_tV ?_ | refine v_tAnd ?_ | refine v_tOr ?_ | refine v_tNot ?_ | refine v_tYes ?_) | (with_reducible first | refine v_Seq ?_ | refine v_nx ?_ | (refine v_Asg ?_) | refine v_AsgT ?_ | refine v_Ret ?_ | refine v_RetN ?_ | refine v_Expr ?_ | refine v_sIf ?_ | refine v_Nil ?_ | refine v_gV ?_ | refine v_gTup2 ?_ | refine v_gTup3 ?_ | refine v_gTup4 ?_ | refine v_gSub ?_ | refine v_Par ?_ | refine v_Par3 ?_ | refine v_par2 ?_ | refine v_par3 ?_ | refine v_FSet ?_ | refine v_nrt ?_ | refine v_nbk ?_ | refine v_nct ?_ | refine v_Break ?_ | refine v_Cont ?_ | refine v_tnx ?_ | refine v_tct ?_ | refine v_tbk ?_ | refine v_trt ?_ | refine v_fin ?_ | refine two_t ?_ | refine two_f ?_ | refine two_n ?_ | refine isB ?_ | refine isI ?_) | (with_reducible first | refine og (dAdd_int _ _ _) ?_ | refine og (dSub_int _ _ _) ?_ | refine og (dLt_int _ _ _) ?_ | refine og (dGt_int _ _ _) ?_ | refine og (dLe_int _ _ _) ?_ | refine og (dGe_int _ _ _) ?_ | refine og (dEq_int _ _ _) ?_ | refine og (dNe_int _ _ _) ?_ | refine og (dIs_non _ _) ?_ | refine og (dIsNot_non _ _) ?_ | refine og (fld_many _ _ _) ?_ | refine og (fld_leaps _ _ _) ?_ | refine og (dIn_ints rfl) ?_ | refine og (dNotIn_ints rfl) ?_ | refine og (dEq_tup _ _ _) ?_ | refine og (dNe_tup _ _ _) ?_ | refine og (dLt_tup _ _ _) ?_)))
    obtain ⟨H, eH, hHo, hH⟩ := least_ok hn0 hn6 hL hCo hCs
    refine v_P (stills2 (still_board n L) (still_tups C)) eH ?_
    (repeat (first | (first | ((with_reducible apply v_v); exact rfl) | ((with_reducible apply v_len); exact rfl) | with_reducible first | refine v_c ?_ | refine v_op2 ?_ | refine v_cons ?_ | refine v_nil ?_ | refine v_B ?_ | refine v_L ?_ | refine v_LN ?_ | refine v_B1 ?_ | refine v_L1 ?_ | refine v_D ?_ | refine v_DN ?_ | (refine v_tup ?_) | refine v_lst ?_ | refine v_newL ?_ | refine v_call ?_ | refine v_callP ?_ | refine v_make ?_ | refine v_fld ?_ | refine v_neg ?_ | refine v_Rev ?_ | refine v_cut ?_ | refine v_oN ?_ | refine v_oS ?_ | refine v_And ?_ | refine v_Or ?_ | refine v_Not ?_ | refine v_If ?_ | refine v_Chain ?_ | refine v_App ?_ | refine v_Upd ?_ | refine v_DE ?_ | refine v_DEN ?_ | refine v_rg1 ?_ | refine v_rg2 ?_ | refine v_LRg ?_ | refine v_LRgN ?_ | refine v_TRg ?_ | refine v_tV ?_ | refine v_tAnd ?_ | refine v_tOr ?_ | refine v_tNot ?_ | refine v_tYes ?_) | (with_reducible first | refine v_Seq ?_ | refine v_nx ?_ | (refine v_Asg ?_) | refine v_AsgT ?_ | refine v_Ret ?_ | refine v_RetN ?_ | refine v_Expr ?_ | refine v_sIf ?_ | refine v_Nil ?_ | refine v_gV ?_ | refine v_gTup2 ?_ | refine v_gTup3 ?_ | refine v_gTup4 ?_ | refine v_gSub ?_ | refine v_Par ?_ | refine v_Par3 ?_ | refine v_par2 ?_ | refine v_par3 ?_ | refine v_FSet ?_ | refine v_nrt ?_ | refine v_nbk ?_ | refine v_nct ?_ | refine v_Break ?_ | refine v_Cont ?_ | refine v_tnx ?_ | refine v_tct ?_ | refine v_tbk ?_ | refine v_trt ?_ | refine v_fin ?_ | refine two_t ?_ | refine two_f ?_ | refine two_n ?_ | refine isB ?_ | refine isI ?_) | (with_reducible first | refine og (dAdd_int _ _ _) ?_ | refine og (dSub_int _ _ _) ?_ | refine og (dLt_int _ _ _) ?_ | refine og (dGt_int _ _ _) ?_ | refine og (dLe_int _ _ _) ?_ | refine og (dGe_int _ _ _) ?_ | refine og (dEq_int _ _ _) ?_ | refine og (dNe_int _ _ _) ?_ | refine og (dIs_non _ _) ?_ | refine og (dIsNot_non _ _) ?_ | refine og (fld_many _ _ _) ?_ | refine og (fld_leaps _ _ _) ?_ | refine og (dIn_ints rfl) ?_ | refine og (dNotIn_ints rfl) ?_ | refine og (dEq_tup _ _ _) ?_ | refine og (dNe_tup _ _ _) ?_ | refine og (dLt_tup _ _ _) ?_)))
    refine og (add_tupsT _ F2 G (by omega)) ?_
    (repeat (first | (first | ((with_reducible apply v_v); exact rfl) | ((with_reducible apply v_len); exact rfl) | with_reducible first | refine v_c ?_ | refine v_op2 ?_ | refine v_cons ?_ | refine v_nil ?_ | refine v_B ?_ | refine v_L ?_ | refine v_LN ?_ | refine v_B1 ?_ | refine v_L1 ?_ | refine v_D ?_ | refine v_DN ?_ | (refine v_tup ?_) | refine v_lst ?_ | refine v_newL ?_ | refine v_call ?_ | refine v_callP ?_ | refine v_make ?_ | refine v_fld ?_ | refine v_neg ?_ | refine v_Rev ?_ | refine v_cut ?_ | refine v_oN ?_ | refine v_oS ?_ | refine v_And ?_ | refine v_Or ?_ | refine v_Not ?_ | refine v_If ?_ | refine v_Chain ?_ | refine v_App ?_ | refine v_Upd ?_ | refine v_DE ?_ | refine v_DEN ?_ | refine v_rg1 ?_ | refine v_rg2 ?_ | refine v_LRg ?_ | refine v_LRgN ?_ | refine v_TRg ?_ | refine v_tV ?_ | refine v_tAnd ?_ | refine v_tOr ?_ | refine v_tNot ?_ | refine v_tYes ?_) | (with_reducible first | refine v_Seq ?_ | refine v_nx ?_ | (refine v_Asg ?_) | refine v_AsgT ?_ | refine v_Ret ?_ | refine v_RetN ?_ | refine v_Expr ?_ | refine v_sIf ?_ | refine v_Nil ?_ | refine v_gV ?_ | refine v_gTup2 ?_ | refine v_gTup3 ?_ | refine v_gTup4 ?_ | refine v_gSub ?_ | refine v_Par ?_ | refine v_Par3 ?_ | refine v_par2 ?_ | refine v_par3 ?_ | refine v_FSet ?_ | refine v_nrt ?_ | refine v_nbk ?_ | refine v_nct ?_ | refine v_Break ?_ | refine v_Cont ?_ | refine v_tnx ?_ | refine v_tct ?_ | refine v_tbk ?_ | refine v_trt ?_ | refine v_fin ?_ | refine two_t ?_ | refine two_f ?_ | refine two_n ?_ | refine isB ?_ | refine isI ?_) | (with_reducible first | refine og (dAdd_int _ _ _) ?_ | refine og (dSub_int _ _ _) ?_ | refine og (dLt_int _ _ _) ?_ | refine og (dGt_int _ _ _) ?_ | refine og (dLe_int _ _ _) ?_ | refine og (dGe_int _ _ _) ?_ | refine og (dEq_int _ _ _) ?_ | refine og (dNe_int _ _ _) ?_ | refine og (dIs_non _ _) ?_ | refine og (dIsNot_non _ _) ?_ | refine og (fld_many _ _ _) ?_ | refine og (fld_leaps _ _ _) ?_ | refine og (dIn_ints rfl) ?_ | refine og (dNotIn_ints rfl) ?_ | refine og (dEq_tup _ _ _) ?_ | refine og (dNe_tup _ _ _) ?_ | refine og (dLt_tup _ _ _) ?_)))
    obtain ⟨K, eK, hKo, hK⟩ := law_order_gen (L := F2 ++ G) (d := tupsT (F2 ++ G)) rfl (by rw [List.length_append]; omega) fun N nd h => by
      have hs : ∀ t ∈ N, Stand n t := fun t ht => by
        rcases List.mem_append.mp (h t ht) with z | z
        · exact hFs t z
        · exact hGs t z
      have h1 := nd.length_le_of_subset (l₂ := E) fun t ht => (hE t).mpr (hs t ht)
      have h2 : E.length ≤ 32 := by
        have h3 := hEo.nodup.length_le_of_subset (l₂ := subs (upto 5)) fun t ht => stand_sub (n := 5) ⟨(hEs t ht).pw, fun k hk => by have := (hEs t ht).rng k hk; omega⟩
        rw [subs_len] at h3
        exact h3
      omega
    refine v_P (stills1 (a := tupsT (F2 ++ G)) (still_tups _)) eK ?_
    have : H = K := ordP_uniq hHo hKo fun t => by
      rw [hH, hK, List.mem_append, hF, hG]
      constructor
      · rintro ⟨s, hs, r⟩
        rcases List.mem_append.mp ((hC s).mp hs) with z | z
        · exact .inl ⟨s, z, r⟩
        · exact .inr ⟨s, z, r⟩
      · rintro (⟨s, hs, r⟩ | ⟨s, hs, r⟩)
        · exact ⟨s, (hC s).mpr (List.mem_append.mpr (.inl hs)), r⟩
        · exact ⟨s, (hC s).mpr (List.mem_append.mpr (.inr hs)), r⟩
    subst this
    refine og (dNe_tups _ H H) (isB (two_n (two_y rfl ?_)))
    (repeat (first | (first | ((with_reducible apply v_v); exact rfl) | ((with_reducible apply v_len); exact rfl) | with_reducible first | refine v_c ?_ | refine v_op2 ?_ | refine v_cons ?_ | refine v_nil ?_ | refine v_B ?_ | refine v_L ?_ | refine v_LN ?_ | refine v_B1 ?_ | refine v_L1 ?_ | refine v_D ?_ | refine v_DN ?_ | (refine v_tup ?_) | refine v_lst ?_ | refine v_newL ?_ | refine v_call ?_ | refine v_callP ?_ | refine v_make ?_ | refine v_fld ?_ | refine v_neg ?_ | refine v_Rev ?_ | refine v_cut ?_ | refine v_oN ?_ | refine v_oS ?_ | refine v_And ?_ | refine v_Or ?_ | refine v_Not ?_ | refine v_If ?_ | refine v_Chain ?_ | refine v_App ?_ | refine v_Upd ?_ | refine v_DE ?_ | refine v_DEN ?_ | refine v_rg1 ?_ | refine v_rg2 ?_ | refine v_LRg ?_ | refine v_LRgN ?_ | refine v_TRg ?_ | refine v_tV ?_ | refine v_tAnd ?_ | refine v_tOr ?_ | refine v_tNot ?_ | refine v_tYes ?_) | (with_reducible first | refine v_Seq ?_ | refine v_nx ?_ | (refine v_Asg ?_) | refine v_AsgT ?_ | refine v_Ret ?_ | refine v_RetN ?_ | refine v_Expr ?_ | refine v_sIf ?_ | refine v_Nil ?_ | refine v_gV ?_ | refine v_gTup2 ?_ | refine v_gTup3 ?_ | refine v_gTup4 ?_ | refine v_gSub ?_ | refine v_Par ?_ | refine v_Par3 ?_ | refine v_par2 ?_ | refine v_par3 ?_ | refine v_FSet ?_ | refine v_nrt ?_ | refine v_nbk ?_ | refine v_nct ?_ | refine v_Break ?_ | refine v_Cont ?_ | refine v_tnx ?_ | refine v_tct ?_ | refine v_tbk ?_ | refine v_trt ?_ | refine v_fin ?_ | refine two_t ?_ | refine two_f ?_ | refine two_n ?_ | refine isB ?_ | refine isI ?_) | (with_reducible first | refine og (dAdd_int _ _ _) ?_ | refine og (dSub_int _ _ _) ?_ | refine og (dLt_int _ _ _) ?_ | refine og (dGt_int _ _ _) ?_ | refine og (dLe_int _ _ _) ?_ | refine og (dGe_int _ _ _) ?_ | refine og (dEq_int _ _ _) ?_ | refine og (dNe_int _ _ _) ?_ | refine og (dIs_non _ _) ?_ | refine og (dIsNot_non _ _) ?_ | refine og (fld_many _ _ _) ?_ | refine og (fld_leaps _ _ _) ?_ | refine og (dIn_ints rfl) ?_ | refine og (dNotIn_ints rfl) ?_ | refine og (dEq_tup _ _ _) ?_ | refine og (dNe_tup _ _ _) ?_ | refine og (dLt_tup _ _ _) ?_)))
    -- low, high
    refine v_comp intsT E (fun k => !decide (k ∈ A)) intsT (v_iSeq (v_v rfl (og rfl ⟨rfl, rfl, fun k hk => item1 ?_ fun _ => ?_, by omega, ?_⟩)))
    · exact v_tV (v_op2 (v_v rfl (v_v rfl (og (dNotIn_T (S := A) rfl) (isB ⟨rfl, rfl⟩)))))
    · exact v_v rfl ⟨rfl, rfl⟩
    (repeat (first | (first | ((with_reducible apply v_v); exact rfl) | ((with_reducible apply v_len); exact rfl) | with_reducible first | refine v_c ?_ | refine v_op2 ?_ | refine v_cons ?_ | refine v_nil ?_ | refine v_B ?_ | refine v_L ?_ | refine v_LN ?_ | refine v_B1 ?_ | refine v_L1 ?_ | refine v_D ?_ | refine v_DN ?_ | (refine v_tup ?_) | refine v_lst ?_ | refine v_newL ?_ | refine v_call ?_ | refine v_callP ?_ | refine v_make ?_ | refine v_fld ?_ | refine v_neg ?_ | refine v_Rev ?_ | refine v_cut ?_ | refine v_oN ?_ | refine v_oS ?_ | refine v_And ?_ | refine v_Or ?_ | refine v_Not ?_ | refine v_If ?_ | refine v_Chain ?_ | refine v_App ?_ | refine v_Upd ?_ | refine v_DE ?_ | refine v_DEN ?_ | refine v_rg1 ?_ | refine v_rg2 ?_ | refine v_LRg ?_ | refine v_LRgN ?_ | refine v_TRg ?_ | refine v_tV ?_ | refine v_tAnd ?_ | refine v_tOr ?_ | refine v_tNot ?_ | refine v_tYes ?_) | (with_reducible first | refine v_Seq ?_ | refine v_nx ?_ | (refine v_Asg ?_) | refine v_AsgT ?_ | refine v_Ret ?_ | refine v_RetN ?_ | refine v_Expr ?_ | refine v_sIf ?_ | refine v_Nil ?_ | refine v_gV ?_ | refine v_gTup2 ?_ | refine v_gTup3 ?_ | refine v_gTup4 ?_ | refine v_gSub ?_ | refine v_Par ?_ | refine v_Par3 ?_ | refine v_par2 ?_ | refine v_par3 ?_ | refine v_FSet ?_ | refine v_nrt ?_ | refine v_nbk ?_ | refine v_nct ?_ | refine v_Break ?_ | refine v_Cont ?_ | refine v_tnx ?_ | refine v_tct ?_ | refine v_tbk ?_ | refine v_trt ?_ | refine v_fin ?_ | refine two_t ?_ | refine two_f ?_ | refine two_n ?_ | refine isB ?_ | refine isI ?_) | (with_reducible first | refine og (dAdd_int _ _ _) ?_ | refine og (dSub_int _ _ _) ?_ | refine og (dLt_int _ _ _) ?_ | refine og (dGt_int _ _ _) ?_ | refine og (dLe_int _ _ _) ?_ | refine og (dGe_int _ _ _) ?_ | refine og (dEq_int _ _ _) ?_ | refine og (dNe_int _ _ _) ?_ | refine og (dIs_non _ _) ?_ | refine og (dIsNot_non _ _) ?_ | refine og (fld_many _ _ _) ?_ | refine og (fld_leaps _ _ _) ?_ | refine og (dIn_ints rfl) ?_ | refine og (dNotIn_ints rfl) ?_ | refine og (dEq_tup _ _ _) ?_ | refine og (dNe_tup _ _ _) ?_ | refine og (dLt_tup _ _ _) ?_)))
    refine v_comp intsT E (fun k => !decide (k ∈ B)) intsT (v_iSeq (v_v rfl (og rfl ⟨rfl, rfl, fun k hk => item1 ?_ fun _ => ?_, by omega, ?_⟩)))
    · exact v_tV (v_op2 (v_v rfl (v_v rfl (og (dNotIn_T (S := B) rfl) (isB ⟨rfl, rfl⟩)))))
    · exact v_v rfl ⟨rfl, rfl⟩
    (repeat (first | (first | ((with_reducible apply v_v); exact rfl) | ((with_reducible apply v_len); exact rfl) | with_reducible first | refine v_c ?_ | refine v_op2 ?_ | refine v_cons ?_ | refine v_nil ?_ | refine v_B ?_ | refine v_L ?_ | refine v_LN ?_ | refine v_B1 ?_ | refine v_L1 ?_ | refine v_D ?_ | refine v_DN ?_ | (refine v_tup ?_) | refine v_lst ?_ | refine v_newL ?_ | refine v_call ?_ | refine v_callP ?_ | refine v_make ?_ | refine v_fld ?_ | refine v_neg ?_ | refine v_Rev ?_ | refine v_cut ?_ | refine v_oN ?_ | refine v_oS ?_ | refine v_And ?_ | refine v_Or ?_ | refine v_Not ?_ | refine v_If ?_ | refine v_Chain ?_ | refine v_App ?_ | refine v_Upd ?_ | refine v_DE ?_ | refine v_DEN ?_ | refine v_rg1 ?_ | refine v_rg2 ?_ | refine v_LRg ?_ | refine v_LRgN ?_ | refine v_TRg ?_ | refine v_tV ?_ | refine v_tAnd ?_ | refine v_tOr ?_ | refine v_tNot ?_ | refine v_tYes ?_) | (with_reducible first | refine v_Seq ?_ | refine v_nx ?_ | (refine v_Asg ?_) | refine v_AsgT ?_ | refine v_Ret ?_ | refine v_RetN ?_ | refine v_Expr ?_ | refine v_sIf ?_ | refine v_Nil ?_ | refine v_gV ?_ | refine v_gTup2 ?_ | refine v_gTup3 ?_ | refine v_gTup4 ?_ | refine v_gSub ?_ | refine v_Par ?_ | refine v_Par3 ?_ | refine v_par2 ?_ | refine v_par3 ?_ | refine v_FSet ?_ | refine v_nrt ?_ | refine v_nbk ?_ | refine v_nct ?_ | refine v_Break ?_ | refine v_Cont ?_ | refine v_tnx ?_ | refine v_tct ?_ | refine v_tbk ?_ | refine v_trt ?_ | refine v_fin ?_ | refine two_t ?_ | refine two_f ?_ | refine two_n ?_ | refine isB ?_ | refine isI ?_) | (with_reducible first | refine og (dAdd_int _ _ _) ?_ | refine og (dSub_int _ _ _) ?_ | refine og (dLt_int _ _ _) ?_ | refine og (dGt_int _ _ _) ?_ | refine og (dLe_int _ _ _) ?_ | refine og (dGe_int _ _ _) ?_ | refine og (dEq_int _ _ _) ?_ | refine og (dNe_int _ _ _) ?_ | refine og (dIs_non _ _) ?_ | refine og (dIsNot_non _ _) ?_ | refine og (fld_many _ _ _) ?_ | refine og (fld_leaps _ _ _) ?_ | refine og (dIn_ints rfl) ?_ | refine og (dNotIn_ints rfl) ?_ | refine og (dEq_tup _ _ _) ?_ | refine og (dNe_tup _ _ _) ?_ | refine og (dLt_tup _ _ _) ?_)))
    (try dsimp only [List.set_cons_zero, List.set_cons_succ])
    have hlo1 := hEo.filter fun k => !decide (k ∈ A)
    have hhi1 := hEo.filter fun k => !decide (k ∈ B)
    have hlo2 : ∀ t ∈ E.filter (fun k => !decide (k ∈ A)), Stand n t := fun t ht => hEs t (List.mem_filter.mp ht).1
    have hhi2 : ∀ t ∈ E.filter (fun k => !decide (k ∈ B)), Stand n t := fun t ht => hEs t (List.mem_filter.mp ht).1
    generalize E.filter (fun k => !decide (k ∈ A)) = lo at hlo1 hlo2 ⊢
    generalize E.filter (fun k => !decide (k ∈ B)) = hi at hhi1 hhi2 ⊢
    have lo64 := few64 hn6 hlo1.nodup hlo2
    have hi64 := few64 hn6 hhi1.nodup hhi2
    obtain ⟨T, eT, hTo, hT⟩ := great_closed_ok hn0 hn6 hL hLl hlo1 hlo2
    obtain ⟨U, eU, hUo, hU⟩ := great_closed_ok hn0 hn6 hL hLl hhi1 hhi2
    have hTs : ∀ t ∈ T, Stand n t := fun t ht => hlo2 t ((hT t).mp ht).self
    have hUs : ∀ t ∈ U, Stand n t := fun t ht => hhi2 t ((hU t).mp ht).self
    have hT64 := few64 hn6 hTo.nodup hTs
    have cT : Cl L T := fun s hs l hl hc => (hT _).mpr fun u hu => (hT s).mp hs u (.one hl hc hu)
    refine og (d := tupsT lo) rfl ?_
    (repeat (first | (first | ((with_reducible apply v_v); exact rfl) | ((with_reducible apply v_len); exact rfl) | with_reducible first | refine v_c ?_ | refine v_op2 ?_ | refine v_cons ?_ | refine v_nil ?_ | refine v_B ?_ | refine v_L ?_ | refine v_LN ?_ | refine v_B1 ?_ | refine v_L1 ?_ | refine v_D ?_ | refine v_DN ?_ | (refine v_tup ?_) | refine v_lst ?_ | refine v_newL ?_ | refine v_call ?_ | refine v_callP ?_ | refine v_make ?_ | refine v_fld ?_ | refine v_neg ?_ | refine v_Rev ?_ | refine v_cut ?_ | refine v_oN ?_ | refine v_oS ?_ | refine v_And ?_ | refine v_Or ?_ | refine v_Not ?_ | refine v_If ?_ | refine v_Chain ?_ | refine v_App ?_ | refine v_Upd ?_ | refine v_DE ?_ | refine v_DEN ?_ | refine v_rg1 ?_ | refine v_rg2 ?_ | refine v_LRg ?_ | refine v_LRgN ?_ | refine v_TRg ?_ | refine v_tV ?_ | refine v_tAnd ?_ | refine v_tOr ?_ | refine v_tNot ?_ | refine v_tYes ?_) | (with_reducible first | refine v_Seq ?_ | refine v_nx ?_ | (refine v_Asg ?_) | refine v_AsgT ?_ | refine v_Ret ?_ | refine v_RetN ?_ | refine v_Expr ?_ | refine v_sIf ?_ | refine v_Nil ?_ | refine v_gV ?_ | refine v_gTup2 ?_ | refine v_gTup3 ?_ | refine v_gTup4 ?_ | refine v_gSub ?_ | refine v_Par ?_ | refine v_Par3 ?_ | refine v_par2 ?_ | refine v_par3 ?_ | refine v_FSet ?_ | refine v_nrt ?_ | refine v_nbk ?_ | refine v_nct ?_ | refine v_Break ?_ | refine v_Cont ?_ | refine v_tnx ?_ | refine v_tct ?_ | refine v_tbk ?_ | refine v_trt ?_ | refine v_fin ?_ | refine two_t ?_ | refine two_f ?_ | refine two_n ?_ | refine isB ?_ | refine isI ?_) | (with_reducible first | refine og (dAdd_int _ _ _) ?_ | refine og (dSub_int _ _ _) ?_ | refine og (dLt_int _ _ _) ?_ | refine og (dGt_int _ _ _) ?_ | refine og (dLe_int _ _ _) ?_ | refine og (dGe_int _ _ _) ?_ | refine og (dEq_int _ _ _) ?_ | refine og (dNe_int _ _ _) ?_ | refine og (dIs_non _ _) ?_ | refine og (dIsNot_non _ _) ?_ | refine og (fld_many _ _ _) ?_ | refine og (fld_leaps _ _ _) ?_ | refine og (dIn_ints rfl) ?_ | refine og (dNotIn_ints rfl) ?_ | refine og (dEq_tup _ _ _) ?_ | refine og (dNe_tup _ _ _) ?_ | refine og (dLt_tup _ _ _) ?_)))
    refine v_P (stills2 (still_board n L) (still_tups lo)) eT ?_
    (repeat (first | (first | ((with_reducible apply v_v); exact rfl) | ((with_reducible apply v_len); exact rfl) | with_reducible first | refine v_c ?_ | refine v_op2 ?_ | refine v_cons ?_ | refine v_nil ?_ | refine v_B ?_ | refine v_L ?_ | refine v_LN ?_ | refine v_B1 ?_ | refine v_L1 ?_ | refine v_D ?_ | refine v_DN ?_ | (refine v_tup ?_) | refine v_lst ?_ | refine v_newL ?_ | refine v_call ?_ | refine v_callP ?_ | refine v_make ?_ | refine v_fld ?_ | refine v_neg ?_ | refine v_Rev ?_ | refine v_cut ?_ | refine v_oN ?_ | refine v_oS ?_ | refine v_And ?_ | refine v_Or ?_ | refine v_Not ?_ | refine v_If ?_ | refine v_Chain ?_ | refine v_App ?_ | refine v_Upd ?_ | refine v_DE ?_ | refine v_DEN ?_ | refine v_rg1 ?_ | refine v_rg2 ?_ | refine v_LRg ?_ | refine v_LRgN ?_ | refine v_TRg ?_ | refine v_tV ?_ | refine v_tAnd ?_ | refine v_tOr ?_ | refine v_tNot ?_ | refine v_tYes ?_) | (with_reducible first | refine v_Seq ?_ | refine v_nx ?_ | (refine v_Asg ?_) | refine v_AsgT ?_ | refine v_Ret ?_ | refine v_RetN ?_ | refine v_Expr ?_ | refine v_sIf ?_ | refine v_Nil ?_ | refine v_gV ?_ | refine v_gTup2 ?_ | refine v_gTup3 ?_ | refine v_gTup4 ?_ | refine v_gSub ?_ | refine v_Par ?_ | refine v_Par3 ?_ | refine v_par2 ?_ | refine v_par3 ?_ | refine v_FSet ?_ | refine v_nrt ?_ | refine v_nbk ?_ | refine v_nct ?_ | refine v_Break ?_ | refine v_Cont ?_ | refine v_tnx ?_ | refine v_tct ?_ | refine v_tbk ?_ | refine v_trt ?_ | refine v_fin ?_ | refine two_t ?_ | refine two_f ?_ | refine two_n ?_ | refine isB ?_ | refine isI ?_) | (with_reducible first | refine og (dAdd_int _ _ _) ?_ | refine og (dSub_int _ _ _) ?_ | refine og (dLt_int _ _ _) ?_ | refine og (dGt_int _ _ _) ?_ | refine og (dLe_int _ _ _) ?_ | refine og (dGe_int _ _ _) ?_ | refine og (dEq_int _ _ _) ?_ | refine og (dNe_int _ _ _) ?_ | refine og (dIs_non _ _) ?_ | refine og (dIsNot_non _ _) ?_ | refine og (fld_many _ _ _) ?_ | refine og (fld_leaps _ _ _) ?_ | refine og (dIn_ints rfl) ?_ | refine og (dNotIn_ints rfl) ?_ | refine og (dEq_tup _ _ _) ?_ | refine og (dNe_tup _ _ _) ?_ | refine og (dLt_tup _ _ _) ?_)))
    refine og (d := tupsT hi) rfl ?_
    (repeat (first | (first | ((with_reducible apply v_v); exact rfl) | ((with_reducible apply v_len); exact rfl) | with_reducible first | refine v_c ?_ | refine v_op2 ?_ | refine v_cons ?_ | refine v_nil ?_ | refine v_B ?_ | refine v_L ?_ | refine v_LN ?_ | refine v_B1 ?_ | refine v_L1 ?_ | refine v_D ?_ | refine v_DN ?_ | (refine v_tup ?_) | refine v_lst ?_ | refine v_newL ?_ | refine v_call ?_ | refine v_callP ?_ | refine v_make ?_ | refine v_fld ?_ | refine v_neg ?_ | refine v_Rev ?_ | refine v_cut ?_ | refine v_oN ?_ | refine v_oS ?_ | refine v_And ?_ | refine v_Or ?_ | refine v_Not ?_ | refine v_If ?_ | refine v_Chain ?_ | refine v_App ?_ | refine v_Upd ?_ | refine v_DE ?_ | refine v_DEN ?_ | refine v_rg1 ?_ | refine v_rg2 ?_ | refine v_LRg ?_ | refine v_LRgN ?_ | refine v_TRg ?_ | refine v_tV ?_ | refine v_tAnd ?_ | refine v_tOr ?_ | refine v_tNot ?_ | refine v_tYes ?_) | (with_reducible first | refine v_Seq ?_ | refine v_nx ?_ | (refine v_Asg ?_) | refine v_AsgT ?_ | refine v_Ret ?_ | refine v_RetN ?_ | refine v_Expr ?_ | refine v_sIf ?_ | refine v_Nil ?_ | refine v_gV ?_ | refine v_gTup2 ?_ | refine v_gTup3 ?_ | refine v_gTup4 ?_ | refine v_gSub ?_ | refine v_Par ?_ | refine v_Par3 ?_ | refine v_par2 ?_ | refine v_par3 ?_ | refine v_FSet ?_ | refine v_nrt ?_ | refine v_nbk ?_ | refine v_nct ?_ | refine v_Break ?_ | refine v_Cont ?_ | refine v_tnx ?_ | refine v_tct ?_ | refine v_tbk ?_ | refine v_trt ?_ | refine v_fin ?_ | refine two_t ?_ | refine two_f ?_ | refine two_n ?_ | refine isB ?_ | refine isI ?_) | (with_reducible first | refine og (dAdd_int _ _ _) ?_ | refine og (dSub_int _ _ _) ?_ | refine og (dLt_int _ _ _) ?_ | refine og (dGt_int _ _ _) ?_ | refine og (dLe_int _ _ _) ?_ | refine og (dGe_int _ _ _) ?_ | refine og (dEq_int _ _ _) ?_ | refine og (dNe_int _ _ _) ?_ | refine og (dIs_non _ _) ?_ | refine og (dIsNot_non _ _) ?_ | refine og (fld_many _ _ _) ?_ | refine og (fld_leaps _ _ _) ?_ | refine og (dIn_ints rfl) ?_ | refine og (dNotIn_ints rfl) ?_ | refine og (dEq_tup _ _ _) ?_ | refine og (dNe_tup _ _ _) ?_ | refine og (dLt_tup _ _ _) ?_)))
    refine v_P (stills2 (still_board n L) (still_tups hi)) eU ?_
    (repeat (first | (first | ((with_reducible apply v_v); exact rfl) | ((with_reducible apply v_len); exact rfl) | with_reducible first | refine v_c ?_ | refine v_op2 ?_ | refine v_cons ?_ | refine v_nil ?_ | refine v_B ?_ | refine v_L ?_ | refine v_LN ?_ | refine v_B1 ?_ | refine v_L1 ?_ | refine v_D ?_ | refine v_DN ?_ | (refine v_tup ?_) | refine v_lst ?_ | refine v_newL ?_ | refine v_call ?_ | refine v_callP ?_ | refine v_make ?_ | refine v_fld ?_ | refine v_neg ?_ | refine v_Rev ?_ | refine v_cut ?_ | refine v_oN ?_ | refine v_oS ?_ | refine v_And ?_ | refine v_Or ?_ | refine v_Not ?_ | refine v_If ?_ | refine v_Chain ?_ | refine v_App ?_ | refine v_Upd ?_ | refine v_DE ?_ | refine v_DEN ?_ | refine v_rg1 ?_ | refine v_rg2 ?_ | refine v_LRg ?_ | refine v_LRgN ?_ | refine v_TRg ?_ | refine v_tV ?_ | refine v_tAnd ?_ | refine v_tOr ?_ | refine v_tNot ?_ | refine v_tYes ?_) | (with_reducible first | refine v_Seq ?_ | refine v_nx ?_ | (refine v_Asg ?_) | refine v_AsgT ?_ | refine v_Ret ?_ | refine v_RetN ?_ | refine v_Expr ?_ | refine v_sIf ?_ | refine v_Nil ?_ | refine v_gV ?_ | refine v_gTup2 ?_ | refine v_gTup3 ?_ | refine v_gTup4 ?_ | refine v_gSub ?_ | refine v_Par ?_ | refine v_Par3 ?_ | refine v_par2 ?_ | refine v_par3 ?_ | refine v_FSet ?_ | refine v_nrt ?_ | refine v_nbk ?_ | refine v_nct ?_ | refine v_Break ?_ | refine v_Cont ?_ | refine v_tnx ?_ | refine v_tct ?_ | refine v_tbk ?_ | refine v_trt ?_ | refine v_fin ?_ | refine two_t ?_ | refine two_f ?_ | refine two_n ?_ | refine isB ?_ | refine isI ?_) | (with_reducible first | refine og (dAdd_int _ _ _) ?_ | refine og (dSub_int _ _ _) ?_ | refine og (dLt_int _ _ _) ?_ | refine og (dGt_int _ _ _) ?_ | refine og (dLe_int _ _ _) ?_ | refine og (dGe_int _ _ _) ?_ | refine og (dEq_int _ _ _) ?_ | refine og (dNe_int _ _ _) ?_ | refine og (dIs_non _ _) ?_ | refine og (dIsNot_non _ _) ?_ | refine og (fld_many _ _ _) ?_ | refine og (fld_leaps _ _ _) ?_ | refine og (dIn_ints rfl) ?_ | refine og (dNotIn_ints rfl) ?_ | refine og (dEq_tup _ _ _) ?_ | refine og (dNe_tup _ _ _) ?_ | refine og (dLt_tup _ _ _) ?_)))
    (try dsimp only [List.set_cons_zero, List.set_cons_succ])
    obtain ⟨b, eb, hb⟩ := is_closed_ok hn0 hn6 hL hTo hTs
    have hb := hb.mpr cT
    subst hb
    refine v_P (stills2 (still_board n L) (still_tups T)) eb ?_
    (repeat (first | (first | ((with_reducible apply v_v); exact rfl) | ((with_reducible apply v_len); exact rfl) | with_reducible first | refine v_c ?_ | refine v_op2 ?_ | refine v_cons ?_ | refine v_nil ?_ | refine v_B ?_ | refine v_L ?_ | refine v_LN ?_ | refine v_B1 ?_ | refine v_L1 ?_ | refine v_D ?_ | refine v_DN ?_ | (refine v_tup ?_) | refine v_lst ?_ | refine v_newL ?_ | refine v_call ?_ | refine v_callP ?_ | refine v_make ?_ | refine v_fld ?_ | refine v_neg ?_ | refine v_Rev ?_ | refine v_cut ?_ | refine v_oN ?_ | refine v_oS ?_ | refine v_And ?_ | refine v_Or ?_ | refine v_Not ?_ | refine v_If ?_ | refine v_Chain ?_ | refine v_App ?_ | refine v_Upd ?_ | refine v_DE ?_ | refine v_DEN ?_ | refine v_rg1 ?_ | refine v_rg2 ?_ | refine v_LRg ?_ | refine v_LRgN ?_ | refine v_TRg ?_ | refine v_tV ?_ | refine v_tAnd ?_ | refine v_tOr ?_ | refine v_tNot ?_ | refine v_tYes ?_) | (with_reducible first | refine v_Seq ?_ | refine v_nx ?_ | (refine v_Asg ?_) | refine v_AsgT ?_ | refine v_Ret ?_ | refine v_RetN ?_ | refine v_Expr ?_ | refine v_sIf ?_ | refine v_Nil ?_ | refine v_gV ?_ | refine v_gTup2 ?_ | refine v_gTup3 ?_ | refine v_gTup4 ?_ | refine v_gSub ?_ | refine v_Par ?_ | refine v_Par3 ?_ | refine v_par2 ?_ | refine v_par3 ?_ | refine v_FSet ?_ | refine v_nrt ?_ | refine v_nbk ?_ | refine v_nct ?_ | refine v_Break ?_ | refine v_Cont ?_ | refine v_tnx ?_ | refine v_tct ?_ | refine v_tbk ?_ | refine v_trt ?_ | refine v_fin ?_ | refine two_t ?_ | refine two_f ?_ | refine two_n ?_ | refine isB ?_ | refine isI ?_) | (with_reducible first | refine og (dAdd_int _ _ _) ?_ | refine og (dSub_int _ _ _) ?_ | refine og (dLt_int _ _ _) ?_ | refine og (dGt_int _ _ _) ?_ | refine og (dLe_int _ _ _) ?_ | refine og (dGe_int _ _ _) ?_ | refine og (dEq_int _ _ _) ?_ | refine og (dNe_int _ _ _) ?_ | refine og (dIs_non _ _) ?_ | refine og (dIsNot_non _ _) ?_ | refine og (fld_many _ _ _) ?_ | refine og (fld_leaps _ _ _) ?_ | refine og (dIn_ints rfl) ?_ | refine og (dNotIn_ints rfl) ?_ | refine og (dEq_tup _ _ _) ?_ | refine og (dNe_tup _ _ _) ?_ | refine og (dLt_tup _ _ _) ?_)))
    refine v_P (stills2 (still_tups T) (show still (.lst (tupsL lo)) = true from still_tups lo)) (under_sub (A := T) (B := lo) rfl rfl (by omega) fun a ha => ((hT a).mp ha).self) ?_
    (repeat (first | (first | ((with_reducible apply v_v); exact rfl) | ((with_reducible apply v_len); exact rfl) | with_reducible first | refine v_c ?_ | refine v_op2 ?_ | refine v_cons ?_ | refine v_nil ?_ | refine v_B ?_ | refine v_L ?_ | refine v_LN ?_ | refine v_B1 ?_ | refine v_L1 ?_ | refine v_D ?_ | refine v_DN ?_ | (refine v_tup ?_) | refine v_lst ?_ | refine v_newL ?_ | refine v_call ?_ | refine v_callP ?_ | refine v_make ?_ | refine v_fld ?_ | refine v_neg ?_ | refine v_Rev ?_ | refine v_cut ?_ | refine v_oN ?_ | refine v_oS ?_ | refine v_And ?_ | refine v_Or ?_ | refine v_Not ?_ | refine v_If ?_ | refine v_Chain ?_ | refine v_App ?_ | refine v_Upd ?_ | refine v_DE ?_ | refine v_DEN ?_ | refine v_rg1 ?_ | refine v_rg2 ?_ | refine v_LRg ?_ | refine v_LRgN ?_ | refine v_TRg ?_ | refine v_tV ?_ | refine v_tAnd ?_ | refine v_tOr ?_ | refine v_tNot ?_ | refine v_tYes ?_) | (with_reducible first | refine v_Seq ?_ | refine v_nx ?_ | (refine v_Asg ?_) | refine v_AsgT ?_ | refine v_Ret ?_ | refine v_RetN ?_ | refine v_Expr ?_ | refine v_sIf ?_ | refine v_Nil ?_ | refine v_gV ?_ | refine v_gTup2 ?_ | refine v_gTup3 ?_ | refine v_gTup4 ?_ | refine v_gSub ?_ | refine v_Par ?_ | refine v_Par3 ?_ | refine v_par2 ?_ | refine v_par3 ?_ | refine v_FSet ?_ | refine v_nrt ?_ | refine v_nbk ?_ | refine v_nct ?_ | refine v_Break ?_ | refine v_Cont ?_ | refine v_tnx ?_ | refine v_tct ?_ | refine v_tbk ?_ | refine v_trt ?_ | refine v_fin ?_ | refine two_t ?_ | refine two_f ?_ | refine two_n ?_ | refine isB ?_ | refine isI ?_) | (with_reducible first | refine og (dAdd_int _ _ _) ?_ | refine og (dSub_int _ _ _) ?_ | refine og (dLt_int _ _ _) ?_ | refine og (dGt_int _ _ _) ?_ | refine og (dLe_int _ _ _) ?_ | refine og (dGe_int _ _ _) ?_ | refine og (dEq_int _ _ _) ?_ | refine og (dNe_int _ _ _) ?_ | refine og (dIs_non _ _) ?_ | refine og (dIsNot_non _ _) ?_ | refine og (fld_many _ _ _) ?_ | refine og (fld_leaps _ _ _) ?_ | refine og (dIn_ints rfl) ?_ | refine og (dNotIn_ints rfl) ?_ | refine og (dEq_tup _ _ _) ?_ | refine og (dNe_tup _ _ _) ?_ | refine og (dLt_tup _ _ _) ?_)))
    obtain ⟨T2, eT2, hT2o, hT2⟩ := great_closed_ok hn0 hn6 hL hLl hTo hTs
    have : T2 = T := ordP_uniq hT2o hTo fun t => by
      rw [hT2]
      exact ⟨fun h => h.self, fun ht u hu => cl_rch cT ht hu⟩
    subst this
    refine v_P (stills2 (still_board n L) (still_tups T2)) eT2 ?_
    (repeat (first | (first | ((with_reducible apply v_v); exact rfl) | ((with_reducible apply v_len); exact rfl) | with_reducible first | refine v_c ?_ | refine v_op2 ?_ | refine v_cons ?_ | refine v_nil ?_ | refine v_B ?_ | refine v_L ?_ | refine v_LN ?_ | refine v_B1 ?_ | refine v_L1 ?_ | refine v_D ?_ | refine v_DN ?_ | (refine v_tup ?_) | refine v_lst ?_ | refine v_newL ?_ | refine v_call ?_ | refine v_callP ?_ | refine v_make ?_ | refine v_fld ?_ | refine v_neg ?_ | refine v_Rev ?_ | refine v_cut ?_ | refine v_oN ?_ | refine v_oS ?_ | refine v_And ?_ | refine v_Or ?_ | refine v_Not ?_ | refine v_If ?_ | refine v_Chain ?_ | refine v_App ?_ | refine v_Upd ?_ | refine v_DE ?_ | refine v_DEN ?_ | refine v_rg1 ?_ | refine v_rg2 ?_ | refine v_LRg ?_ | refine v_LRgN ?_ | refine v_TRg ?_ | refine v_tV ?_ | refine v_tAnd ?_ | refine v_tOr ?_ | refine v_tNot ?_ | refine v_tYes ?_) | (with_reducible first | refine v_Seq ?_ | refine v_nx ?_ | (refine v_Asg ?_) | refine v_AsgT ?_ | refine v_Ret ?_ | refine v_RetN ?_ | refine v_Expr ?_ | refine v_sIf ?_ | refine v_Nil ?_ | refine v_gV ?_ | refine v_gTup2 ?_ | refine v_gTup3 ?_ | refine v_gTup4 ?_ | refine v_gSub ?_ | refine v_Par ?_ | refine v_Par3 ?_ | refine v_par2 ?_ | refine v_par3 ?_ | refine v_FSet ?_ | refine v_nrt ?_ | refine v_nbk ?_ | refine v_nct ?_ | refine v_Break ?_ | refine v_Cont ?_ | refine v_tnx ?_ | refine v_tct ?_ | refine v_tbk ?_ | refine v_trt ?_ | refine v_fin ?_ | refine two_t ?_ | refine two_f ?_ | refine two_n ?_ | refine isB ?_ | refine isI ?_) | (with_reducible first | refine og (dAdd_int _ _ _) ?_ | refine og (dSub_int _ _ _) ?_ | refine og (dLt_int _ _ _) ?_ | refine og (dGt_int _ _ _) ?_ | refine og (dLe_int _ _ _) ?_ | refine og (dGe_int _ _ _) ?_ | refine og (dEq_int _ _ _) ?_ | refine og (dNe_int _ _ _) ?_ | refine og (dIs_non _ _) ?_ | refine og (dIsNot_non _ _) ?_ | refine og (fld_many _ _ _) ?_ | refine og (fld_leaps _ _ _) ?_ | refine og (dIn_ints rfl) ?_ | refine og (dNotIn_ints rfl) ?_ | refine og (dEq_tup _ _ _) ?_ | refine og (dNe_tup _ _ _) ?_ | refine og (dLt_tup _ _ _) ?_)))
    refine og (dNe_tups _ T2 T2) (isB (two_n (two_y rfl ?_)))
    (repeat (first | (first | ((with_reducible apply v_v); exact rfl) | ((with_reducible apply v_len); exact rfl) | with_reducible first | refine v_c ?_ | refine v_op2 ?_ | refine v_cons ?_ | refine v_nil ?_ | refine v_B ?_ | refine v_L ?_ | refine v_LN ?_ | refine v_B1 ?_ | refine v_L1 ?_ | refine v_D ?_ | refine v_DN ?_ | (refine v_tup ?_) | refine v_lst ?_ | refine v_newL ?_ | refine v_call ?_ | refine v_callP ?_ | refine v_make ?_ | refine v_fld ?_ | refine v_neg ?_ | refine v_Rev ?_ | refine v_cut ?_ | refine v_oN ?_ | refine v_oS ?_ | refine v_And ?_ | refine v_Or ?_ | refine v_Not ?_ | refine v_If ?_ | refine v_Chain ?_ | refine v_App ?_ | refine v_Upd ?_ | refine v_DE ?_ | refine v_DEN ?_ | refine v_rg1 ?_ | refine v_rg2 ?_ | refine v_LRg ?_ | refine v_LRgN ?_ | refine v_TRg ?_ | refine v_tV ?_ | refine v_tAnd ?_ | refine v_tOr ?_ | refine v_tNot ?_ | refine v_tYes ?_) | (with_reducible first | refine v_Seq ?_ | refine v_nx ?_ | (refine v_Asg ?_) | refine v_AsgT ?_ | refine v_Ret ?_ | refine v_RetN ?_ | refine v_Expr ?_ | refine v_sIf ?_ | refine v_Nil ?_ | refine v_gV ?_ | refine v_gTup2 ?_ | refine v_gTup3 ?_ | refine v_gTup4 ?_ | refine v_gSub ?_ | refine v_Par ?_ | refine v_Par3 ?_ | refine v_par2 ?_ | refine v_par3 ?_ | refine v_FSet ?_ | refine v_nrt ?_ | refine v_nbk ?_ | refine v_nct ?_ | refine v_Break ?_ | refine v_Cont ?_ | refine v_tnx ?_ | refine v_tct ?_ | refine v_tbk ?_ | refine v_trt ?_ | refine v_fin ?_ | refine two_t ?_ | refine two_f ?_ | refine two_n ?_ | refine isB ?_ | refine isI ?_) | (with_reducible first | refine og (dAdd_int _ _ _) ?_ | refine og (dSub_int _ _ _) ?_ | refine og (dLt_int _ _ _) ?_ | refine og (dGt_int _ _ _) ?_ | refine og (dLe_int _ _ _) ?_ | refine og (dGe_int _ _ _) ?_ | refine og (dEq_int _ _ _) ?_ | refine og (dNe_int _ _ _) ?_ | refine og (dIs_non _ _) ?_ | refine og (dIsNot_non _ _) ?_ | refine og (fld_many _ _ _) ?_ | refine og (fld_leaps _ _ _) ?_ | refine og (dIn_ints rfl) ?_ | refine og (dNotIn_ints rfl) ?_ | refine og (dEq_tup _ _ _) ?_ | refine og (dNe_tup _ _ _) ?_ | refine og (dLt_tup _ _ _) ?_)))
    refine v_comp intsT lo (fun k => decide (k ∈ hi)) intsT (v_iSeq (v_v rfl (og rfl ⟨rfl, rfl, fun k hk => item1 ?_ fun _ => ?_, by omega, ?_⟩)))
    · exact v_tV (v_op2 (v_v rfl (v_v rfl (og (dIn_T (S := hi) rfl) (isB ⟨rfl, rfl⟩)))))
    · exact v_v rfl ⟨rfl, rfl⟩
    (repeat (first | (first | ((with_reducible apply v_v); exact rfl) | ((with_reducible apply v_len); exact rfl) | with_reducible first | refine v_c ?_ | refine v_op2 ?_ | refine v_cons ?_ | refine v_nil ?_ | refine v_B ?_ | refine v_L ?_ | refine v_LN ?_ | refine v_B1 ?_ | refine v_L1 ?_ | refine v_D ?_ | refine v_DN ?_ | (refine v_tup ?_) | refine v_lst ?_ | refine v_newL ?_ | refine v_call ?_ | refine v_callP ?_ | refine v_make ?_ | refine v_fld ?_ | refine v_neg ?_ | refine v_Rev ?_ | refine v_cut ?_ | refine v_oN ?_ | refine v_oS ?_ | refine v_And ?_ | refine v_Or ?_ | refine v_Not ?_ | refine v_If ?_ | refine v_Chain ?_ | refine v_App ?_ | refine v_Upd ?_ | refine v_DE ?_ | refine v_DEN ?_ | refine v_rg1 ?_ | refine v_rg2 ?_ | refine v_LRg ?_ | refine v_LRgN ?_ | refine v_TRg ?_ | refine v_tV ?_ | refine v_tAnd ?_ | refine v_tOr ?_ | refine v_tNot ?_ | refine v_tYes ?_) | (with_reducible first | refine v_Seq ?_ | refine v_nx ?_ | (refine v_Asg ?_) | refine v_AsgT ?_ | refine v_Ret ?_ | refine v_RetN ?_ | refine v_Expr ?_ | refine v_sIf ?_ | refine v_Nil ?_ | refine v_gV ?_ | refine v_gTup2 ?_ | refine v_gTup3 ?_ | refine v_gTup4 ?_ | refine v_gSub ?_ | refine v_Par ?_ | refine v_Par3 ?_ | refine v_par2 ?_ | refine v_par3 ?_ | refine v_FSet ?_ | refine v_nrt ?_ | refine v_nbk ?_ | refine v_nct ?_ | refine v_Break ?_ | refine v_Cont ?_ | refine v_tnx ?_ | refine v_tct ?_ | refine v_tbk ?_ | refine v_trt ?_ | refine v_fin ?_ | refine two_t ?_ | refine two_f ?_ | refine two_n ?_ | refine isB ?_ | refine isI ?_) | (with_reducible first | refine og (dAdd_int _ _ _) ?_ | refine og (dSub_int _ _ _) ?_ | refine og (dLt_int _ _ _) ?_ | refine og (dGt_int _ _ _) ?_ | refine og (dLe_int _ _ _) ?_ | refine og (dGe_int _ _ _) ?_ | refine og (dEq_int _ _ _) ?_ | refine og (dNe_int _ _ _) ?_ | refine og (dIs_non _ _) ?_ | refine og (dIsNot_non _ _) ?_ | refine og (fld_many _ _ _) ?_ | refine og (fld_leaps _ _ _) ?_ | refine og (dIn_ints rfl) ?_ | refine og (dNotIn_ints rfl) ?_ | refine og (dEq_tup _ _ _) ?_ | refine og (dNe_tup _ _ _) ?_ | refine og (dLt_tup _ _ _) ?_)))
    refine og (d := tupsT (lo.filter fun k => decide (k ∈ hi))) rfl ?_
    (repeat (first | (first | ((with_reducible apply v_v); exact rfl) | ((with_reducible apply v_len); exact rfl) | with_reducible first | refine v_c ?_ | refine v_op2 ?_ | refine v_cons ?_ | refine v_nil ?_ | refine v_B ?_ | refine v_L ?_ | refine v_LN ?_ | refine v_B1 ?_ | refine v_L1 ?_ | refine v_D ?_ | refine v_DN ?_ | (refine v_tup ?_) | refine v_lst ?_ | refine v_newL ?_ | refine v_call ?_ | refine v_callP ?_ | refine v_make ?_ | refine v_fld ?_ | refine v_neg ?_ | refine v_Rev ?_ | refine v_cut ?_ | refine v_oN ?_ | refine v_oS ?_ | refine v_And ?_ | refine v_Or ?_ | refine v_Not ?_ | refine v_If ?_ | refine v_Chain ?_ | refine v_App ?_ | refine v_Upd ?_ | refine v_DE ?_ | refine v_DEN ?_ | refine v_rg1 ?_ | refine v_rg2 ?_ | refine v_LRg ?_ | refine v_LRgN ?_ | refine v_TRg ?_ | refine v_tV ?_ | refine v_tAnd ?_ | refine v_tOr ?_ | refine v_tNot ?_ | refine v_tYes ?_) | (with_reducible first | refine v_Seq ?_ | refine v_nx ?_ | (refine v_Asg ?_) | refine v_AsgT ?_ | refine v_Ret ?_ | refine v_RetN ?_ | refine v_Expr ?_ | refine v_sIf ?_ | refine v_Nil ?_ | refine v_gV ?_ | refine v_gTup2 ?_ | refine v_gTup3 ?_ | refine v_gTup4 ?_ | refine v_gSub ?_ | refine v_Par ?_ | refine v_Par3 ?_ | refine v_par2 ?_ | refine v_par3 ?_ | refine v_FSet ?_ | refine v_nrt ?_ | refine v_nbk ?_ | refine v_nct ?_ | refine v_Break ?_ | refine v_Cont ?_ | refine v_tnx ?_ | refine v_tct ?_ | refine v_tbk ?_ | refine v_trt ?_ | refine v_fin ?_ | refine two_t ?_ | refine two_f ?_ | refine two_n ?_ | refine isB ?_ | refine isI ?_) | (with_reducible first | refine og (dAdd_int _ _ _) ?_ | refine og (dSub_int _ _ _) ?_ | refine og (dLt_int _ _ _) ?_ | refine og (dGt_int _ _ _) ?_ | refine og (dLe_int _ _ _) ?_ | refine og (dGe_int _ _ _) ?_ | refine og (dEq_int _ _ _) ?_ | refine og (dNe_int _ _ _) ?_ | refine og (dIs_non _ _) ?_ | refine og (dIsNot_non _ _) ?_ | refine og (fld_many _ _ _) ?_ | refine og (fld_leaps _ _ _) ?_ | refine og (dIn_ints rfl) ?_ | refine og (dNotIn_ints rfl) ?_ | refine og (dEq_tup _ _ _) ?_ | refine og (dNe_tup _ _ _) ?_ | refine og (dLt_tup _ _ _) ?_)))
    obtain ⟨I, eI, hIo, hI⟩ := great_closed_ok hn0 hn6 hL hLl (hlo1.filter fun k => decide (k ∈ hi)) fun s hs => hlo2 s (List.mem_filter.mp hs).1
    refine v_P (stills2 (still_board n L) (still_tups _)) eI ?_
    (repeat (first | (first | ((with_reducible apply v_v); exact rfl) | ((with_reducible apply v_len); exact rfl) | with_reducible first | refine v_c ?_ | refine v_op2 ?_ | refine v_cons ?_ | refine v_nil ?_ | refine v_B ?_ | refine v_L ?_ | refine v_LN ?_ | refine v_B1 ?_ | refine v_L1 ?_ | refine v_D ?_ | refine v_DN ?_ | (refine v_tup ?_) | refine v_lst ?_ | refine v_newL ?_ | refine v_call ?_ | refine v_callP ?_ | refine v_make ?_ | refine v_fld ?_ | refine v_neg ?_ | refine v_Rev ?_ | refine v_cut ?_ | refine v_oN ?_ | refine v_oS ?_ | refine v_And ?_ | refine v_Or ?_ | refine v_Not ?_ | refine v_If ?_ | refine v_Chain ?_ | refine v_App ?_ | refine v_Upd ?_ | refine v_DE ?_ | refine v_DEN ?_ | refine v_rg1 ?_ | refine v_rg2 ?_ | refine v_LRg ?_ | refine v_LRgN ?_ | refine v_TRg ?_ | refine v_tV ?_ | refine v_tAnd ?_ | refine v_tOr ?_ | refine v_tNot ?_ | refine v_tYes ?_) | (with_reducible first | refine v_Seq ?_ | refine v_nx ?_ | (refine v_Asg ?_) | refine v_AsgT ?_ | refine v_Ret ?_ | refine v_RetN ?_ | refine v_Expr ?_ | refine v_sIf ?_ | refine v_Nil ?_ | refine v_gV ?_ | refine v_gTup2 ?_ | refine v_gTup3 ?_ | refine v_gTup4 ?_ | refine v_gSub ?_ | refine v_Par ?_ | refine v_Par3 ?_ | refine v_par2 ?_ | refine v_par3 ?_ | refine v_FSet ?_ | refine v_nrt ?_ | refine v_nbk ?_ | refine v_nct ?_ | refine v_Break ?_ | refine v_Cont ?_ | refine v_tnx ?_ | refine v_tct ?_ | refine v_tbk ?_ | refine v_trt ?_ | refine v_fin ?_ | refine two_t ?_ | refine two_f ?_ | refine two_n ?_ | refine isB ?_ | refine isI ?_) | (with_reducible first | refine og (dAdd_int _ _ _) ?_ | refine og (dSub_int _ _ _) ?_ | refine og (dLt_int _ _ _) ?_ | refine og (dGt_int _ _ _) ?_ | refine og (dLe_int _ _ _) ?_ | refine og (dGe_int _ _ _) ?_ | refine og (dEq_int _ _ _) ?_ | refine og (dNe_int _ _ _) ?_ | refine og (dIs_non _ _) ?_ | refine og (dIsNot_non _ _) ?_ | refine og (fld_many _ _ _) ?_ | refine og (fld_leaps _ _ _) ?_ | refine og (dIn_ints rfl) ?_ | refine og (dNotIn_ints rfl) ?_ | refine og (dEq_tup _ _ _) ?_ | refine og (dNe_tup _ _ _) ?_ | refine og (dLt_tup _ _ _) ?_)))
    refine v_comp intsT T2 (fun k => decide (k ∈ U)) intsT (v_iSeq (v_v rfl (og rfl ⟨rfl, rfl, fun k hk => item1 ?_ fun _ => ?_, by omega, ?_⟩)))
    · exact v_tV (v_op2 (v_v rfl (v_v rfl (og (dIn_T (S := U) rfl) (isB ⟨rfl, rfl⟩)))))
    · exact v_v rfl ⟨rfl, rfl⟩
    (repeat (first | (first | ((with_reducible apply v_v); exact rfl) | ((with_reducible apply v_len); exact rfl) | with_reducible first | refine v_c ?_ | refine v_op2 ?_ | refine v_cons ?_ | refine v_nil ?_ | refine v_B ?_ | refine v_L ?_ | refine v_LN ?_ | refine v_B1 ?_ | refine v_L1 ?_ | refine v_D ?_ | refine v_DN ?_ | (refine v_tup ?_) | refine v_lst ?_ | refine v_newL ?_ | refine v_call ?_ | refine v_callP ?_ | refine v_make ?_ | refine v_fld ?_ | refine v_neg ?_ | refine v_Rev ?_ | refine v_cut ?_ | refine v_oN ?_ | refine v_oS ?_ | refine v_And ?_ | refine v_Or ?_ | refine v_Not ?_ | refine v_If ?_ | refine v_Chain ?_ | refine v_App ?_ | refine v_Upd ?_ | refine v_DE ?_ | refine v_DEN ?_ | refine v_rg1 ?_ | refine v_rg2 ?_ | refine v_LRg ?_ | refine v_LRgN ?_ | refine v_TRg ?_ | refine v_tV ?_ | refine v_tAnd ?_ | refine v_tOr ?_ | refine v_tNot ?_ | refine v_tYes ?_) | (with_reducible first | refine v_Seq ?_ | refine v_nx ?_ | (refine v_Asg ?_) | refine v_AsgT ?_ | refine v_Ret ?_ | refine v_RetN ?_ | refine v_Expr ?_ | refine v_sIf ?_ | refine v_Nil ?_ | refine v_gV ?_ | refine v_gTup2 ?_ | refine v_gTup3 ?_ | refine v_gTup4 ?_ | refine v_gSub ?_ | refine v_Par ?_ | refine v_Par3 ?_ | refine v_par2 ?_ | refine v_par3 ?_ | refine v_FSet ?_ | refine v_nrt ?_ | refine v_nbk ?_ | refine v_nct ?_ | refine v_Break ?_ | refine v_Cont ?_ | refine v_tnx ?_ | refine v_tct ?_ | refine v_tbk ?_ | refine v_trt ?_ | refine v_fin ?_ | refine two_t ?_ | refine two_f ?_ | refine two_n ?_ | refine isB ?_ | refine isI ?_) | (with_reducible first | refine og (dAdd_int _ _ _) ?_ | refine og (dSub_int _ _ _) ?_ | refine og (dLt_int _ _ _) ?_ | refine og (dGt_int _ _ _) ?_ | refine og (dLe_int _ _ _) ?_ | refine og (dGe_int _ _ _) ?_ | refine og (dEq_int _ _ _) ?_ | refine og (dNe_int _ _ _) ?_ | refine og (dIs_non _ _) ?_ | refine og (dIsNot_non _ _) ?_ | refine og (fld_many _ _ _) ?_ | refine og (fld_leaps _ _ _) ?_ | refine og (dIn_ints rfl) ?_ | refine og (dNotIn_ints rfl) ?_ | refine og (dEq_tup _ _ _) ?_ | refine og (dNe_tup _ _ _) ?_ | refine og (dLt_tup _ _ _) ?_)))
    refine og (d := tupsT (T2.filter fun k => decide (k ∈ U))) rfl ?_
    have : I = T2.filter fun k => decide (k ∈ U) := ordP_uniq hIo (hTo.filter _) fun t => by
      rw [hI, List.mem_filter, hT, decide_eq_true_iff, hU]
      constructor
      · intro h
        exact ⟨fun u hu => (List.mem_filter.mp (h u hu)).1, fun u hu => of_decide_eq_true (List.mem_filter.mp (h u hu)).2⟩
      · rintro ⟨h1, h2⟩ u hu
        exact List.mem_filter.mpr ⟨h1 u hu, decide_eq_true (h2 u hu)⟩
    rw [this]
    refine og (dNe_tups _ _ _) (isB (two_n (two_y rfl ?_)))
    (repeat (first | (first | ((with_reducible apply v_v); exact rfl) | ((with_reducible apply v_len); exact rfl) | with_reducible first | refine v_c ?_ | refine v_op2 ?_ | refine v_cons ?_ | refine v_nil ?_ | refine v_B ?_ | refine v_L ?_ | refine v_LN ?_ | refine v_B1 ?_ | refine v_L1 ?_ | refine v_D ?_ | refine v_DN ?_ | (refine v_tup ?_) | refine v_lst ?_ | refine v_newL ?_ | refine v_call ?_ | refine v_callP ?_ | refine v_make ?_ | refine v_fld ?_ | refine v_neg ?_ | refine v_Rev ?_ | refine v_cut ?_ | refine v_oN ?_ | refine v_oS ?_ | refine v_And ?_ | refine v_Or ?_ | refine v_Not ?_ | refine v_If ?_ | refine v_Chain ?_ | refine v_App ?_ | refine v_Upd ?_ | refine v_DE ?_ | refine v_DEN ?_ | refine v_rg1 ?_ | refine v_rg2 ?_ | refine v_LRg ?_ | refine v_LRgN ?_ | refine v_TRg ?_ | refine v_tV ?_ | refine v_tAnd ?_ | refine v_tOr ?_ | refine v_tNot ?_ | refine v_tYes ?_) | (with_reducible first | refine v_Seq ?_ | refine v_nx ?_ | (refine v_Asg ?_) | refine v_AsgT ?_ | refine v_Ret ?_ | refine v_RetN ?_ | refine v_Expr ?_ | refine v_sIf ?_ | refine v_Nil ?_ | refine v_gV ?_ | refine v_gTup2 ?_ | refine v_gTup3 ?_ | refine v_gTup4 ?_ | refine v_gSub ?_ | refine v_Par ?_ | refine v_Par3 ?_ | refine v_par2 ?_ | refine v_par3 ?_ | refine v_FSet ?_ | refine v_nrt ?_ | refine v_nbk ?_ | refine v_nct ?_ | refine v_Break ?_ | refine v_Cont ?_ | refine v_tnx ?_ | refine v_tct ?_ | refine v_tbk ?_ | refine v_trt ?_ | refine v_fin ?_ | refine two_t ?_ | refine two_f ?_ | refine two_n ?_ | refine isB ?_ | refine isI ?_) | (with_reducible first | refine og (dAdd_int _ _ _) ?_ | refine og (dSub_int _ _ _) ?_ | refine og (dLt_int _ _ _) ?_ | refine og (dGt_int _ _ _) ?_ | refine og (dLe_int _ _ _) ?_ | refine og (dGe_int _ _ _) ?_ | refine og (dEq_int _ _ _) ?_ | refine og (dNe_int _ _ _) ?_ | refine og (dIs_non _ _) ?_ | refine og (dIsNot_non _ _) ?_ | refine og (fld_many _ _ _) ?_ | refine og (fld_leaps _ _ _) ?_ | refine og (dIn_ints rfl) ?_ | refine og (dNotIn_ints rfl) ?_ | refine og (dEq_tup _ _ _) ?_ | refine og (dNe_tup _ _ _) ?_ | refine og (dLt_tup _ _ _) ?_)))
    refine og (ix_parts0 _ n L) ?_
    (repeat (first | (first | ((with_reducible apply v_v); exact rfl) | ((with_reducible apply v_len); exact rfl) | with_reducible first | refine v_c ?_ | refine v_op2 ?_ | refine v_cons ?_ | refine v_nil ?_ | refine v_B ?_ | refine v_L ?_ | refine v_LN ?_ | refine v_B1 ?_ | refine v_L1 ?_ | refine v_D ?_ | refine v_DN ?_ | (refine v_tup ?_) | refine v_lst ?_ | refine v_newL ?_ | refine v_call ?_ | refine v_callP ?_ | refine v_make ?_ | refine v_fld ?_ | refine v_neg ?_ | refine v_Rev ?_ | refine v_cut ?_ | refine v_oN ?_ | refine v_oS ?_ | refine v_And ?_ | refine v_Or ?_ | refine v_Not ?_ | refine v_If ?_ | refine v_Chain ?_ | refine v_App ?_ | refine v_Upd ?_ | refine v_DE ?_ | refine v_DEN ?_ | refine v_rg1 ?_ | refine v_rg2 ?_ | refine v_LRg ?_ | refine v_LRgN ?_ | refine v_TRg ?_ | refine v_tV ?_ | refine v_tAnd ?_ | refine v_tOr ?_ | refine v_tNot ?_ | refine v_tYes ?_) | (with_reducible first | refine v_Seq ?_ | refine v_nx ?_ | (refine v_Asg ?_) | refine v_AsgT ?_ | refine v_Ret ?_ | refine v_RetN ?_ | refine v_Expr ?_ | refine v_sIf ?_ | refine v_Nil ?_ | refine v_gV ?_ | refine v_gTup2 ?_ | refine v_gTup3 ?_ | refine v_gTup4 ?_ | refine v_gSub ?_ | refine v_Par ?_ | refine v_Par3 ?_ | refine v_par2 ?_ | refine v_par3 ?_ | refine v_FSet ?_ | refine v_nrt ?_ | refine v_nbk ?_ | refine v_nct ?_ | refine v_Break ?_ | refine v_Cont ?_ | refine v_tnx ?_ | refine v_tct ?_ | refine v_tbk ?_ | refine v_trt ?_ | refine v_fin ?_ | refine two_t ?_ | refine two_f ?_ | refine two_n ?_ | refine isB ?_ | refine isI ?_) | (with_reducible first | refine og (dAdd_int _ _ _) ?_ | refine og (dSub_int _ _ _) ?_ | refine og (dLt_int _ _ _) ?_ | refine og (dGt_int _ _ _) ?_ | refine og (dLe_int _ _ _) ?_ | refine og (dGe_int _ _ _) ?_ | refine og (dEq_int _ _ _) ?_ | refine og (dNe_int _ _ _) ?_ | refine og (dIs_non _ _) ?_ | refine og (dIsNot_non _ _) ?_ | refine og (fld_many _ _ _) ?_ | refine og (fld_leaps _ _ _) ?_ | refine og (dIn_ints rfl) ?_ | refine og (dNotIn_ints rfl) ?_ | refine og (dEq_tup _ _ _) ?_ | refine og (dNe_tup _ _ _) ?_ | refine og (dLt_tup _ _ _) ?_)))
    refine v_pegs hr3 ⟨hn0, by omega⟩ fun g s4 hg hr4 _ => ?_
    (repeat (first | (first | ((with_reducible apply v_v); exact rfl) | ((with_reducible apply v_len); exact rfl) | with_reducible first | refine v_c ?_ | refine v_op2 ?_ | refine v_cons ?_ | refine v_nil ?_ | refine v_B ?_ | refine v_L ?_ | refine v_LN ?_ | refine v_B1 ?_ | refine v_L1 ?_ | refine v_D ?_ | refine v_DN ?_ | (refine v_tup ?_) | refine v_lst ?_ | refine v_newL ?_ | refine v_call ?_ | refine v_callP ?_ | refine v_make ?_ | refine v_fld ?_ | refine v_neg ?_ | refine v_Rev ?_ | refine v_cut ?_ | refine v_oN ?_ | refine v_oS ?_ | refine v_And ?_ | refine v_Or ?_ | refine v_Not ?_ | refine v_If ?_ | refine v_Chain ?_ | refine v_App ?_ | refine v_Upd ?_ | refine v_DE ?_ | refine v_DEN ?_ | refine v_rg1 ?_ | refine v_rg2 ?_ | refine v_LRg ?_ | refine v_LRgN ?_ | refine v_TRg ?_ | refine v_tV ?_ | refine v_tAnd ?_ | refine v_tOr ?_ | refine v_tNot ?_ | refine v_tYes ?_) | (with_reducible first | refine v_Seq ?_ | refine v_nx ?_ | (refine v_Asg ?_) | refine v_AsgT ?_ | refine v_Ret ?_ | refine v_RetN ?_ | refine v_Expr ?_ | refine v_sIf ?_ | refine v_Nil ?_ | refine v_gV ?_ | refine v_gTup2 ?_ | refine v_gTup3 ?_ | refine v_gTup4 ?_ | refine v_gSub ?_ | refine v_Par ?_ | refine v_Par3 ?_ | refine v_par2 ?_ | refine v_par3 ?_ | refine v_FSet ?_ | refine v_nrt ?_ | refine v_nbk ?_ | refine v_nct ?_ | refine v_Break ?_ | refine v_Cont ?_ | refine v_tnx ?_ | refine v_tct ?_ | refine v_tbk ?_ | refine v_trt ?_ | refine v_fin ?_ | refine two_t ?_ | refine two_f ?_ | refine two_n ?_ | refine isB ?_ | refine isI ?_) | (with_reducible first | refine og (dAdd_int _ _ _) ?_ | refine og (dSub_int _ _ _) ?_ | refine og (dLt_int _ _ _) ?_ | refine og (dGt_int _ _ _) ?_ | refine og (dLe_int _ _ _) ?_ | refine og (dGe_int _ _ _) ?_ | refine og (dEq_int _ _ _) ?_ | refine og (dNe_int _ _ _) ?_ | refine og (dIs_non _ _) ?_ | refine og (dIsNot_non _ _) ?_ | refine og (fld_many _ _ _) ?_ | refine og (fld_leaps _ _ _) ?_ | refine og (dIn_ints rfl) ?_ | refine og (dNotIn_ints rfl) ?_ | refine og (dEq_tup _ _ _) ?_ | refine og (dNe_tup _ _ _) ?_ | refine og (dLt_tup _ _ _) ?_)))
    (try dsimp only [List.set_cons_zero, List.set_cons_succ])
    obtain ⟨W, eW, hWo, hW⟩ := widest_ok hn0 hn6 hL hg
    refine v_P (stills2 (still_board n L) (stills_ints g)) eW ?_
    (repeat (first | (first | ((with_reducible apply v_v); exact rfl) | ((with_reducible apply v_len); exact rfl) | with_reducible first | refine v_c ?_ | refine v_op2 ?_ | refine v_cons ?_ | refine v_nil ?_ | refine v_B ?_ | refine v_L ?_ | refine v_LN ?_ | refine v_B1 ?_ | refine v_L1 ?_ | refine v_D ?_ | refine v_DN ?_ | (refine v_tup ?_) | refine v_lst ?_ | refine v_newL ?_ | refine v_call ?_ | refine v_callP ?_ | refine v_make ?_ | refine v_fld ?_ | refine v_neg ?_ | refine v_Rev ?_ | refine v_cut ?_ | refine v_oN ?_ | refine v_oS ?_ | refine v_And ?_ | refine v_Or ?_ | refine v_Not ?_ | refine v_If ?_ | refine v_Chain ?_ | refine v_App ?_ | refine v_Upd ?_ | refine v_DE ?_ | refine v_DEN ?_ | refine v_rg1 ?_ | refine v_rg2 ?_ | refine v_LRg ?_ | refine v_LRgN ?_ | refine v_TRg ?_ | refine v_tV ?_ | refine v_tAnd ?_ | refine v_tOr ?_ | refine v_tNot ?_ | refine v_tYes ?_) | (with_reducible first | refine v_Seq ?_ | refine v_nx ?_ | (refine v_Asg ?_) | refine v_AsgT ?_ | refine v_Ret ?_ | refine v_RetN ?_ | refine v_Expr ?_ | refine v_sIf ?_ | refine v_Nil ?_ | refine v_gV ?_ | refine v_gTup2 ?_ | refine v_gTup3 ?_ | refine v_gTup4 ?_ | refine v_gSub ?_ | refine v_Par ?_ | refine v_Par3 ?_ | refine v_par2 ?_ | refine v_par3 ?_ | refine v_FSet ?_ | refine v_nrt ?_ | refine v_nbk ?_ | refine v_nct ?_ | refine v_Break ?_ | refine v_Cont ?_ | refine v_tnx ?_ | refine v_tct ?_ | refine v_tbk ?_ | refine v_trt ?_ | refine v_fin ?_ | refine two_t ?_ | refine two_f ?_ | refine two_n ?_ | refine isB ?_ | refine isI ?_) | (with_reducible first | refine og (dAdd_int _ _ _) ?_ | refine og (dSub_int _ _ _) ?_ | refine og (dLt_int _ _ _) ?_ | refine og (dGt_int _ _ _) ?_ | refine og (dLe_int _ _ _) ?_ | refine og (dGe_int _ _ _) ?_ | refine og (dEq_int _ _ _) ?_ | refine og (dNe_int _ _ _) ?_ | refine og (dIs_non _ _) ?_ | refine og (dIsNot_non _ _) ?_ | refine og (fld_many _ _ _) ?_ | refine og (fld_leaps _ _ _) ?_ | refine og (dIn_ints rfl) ?_ | refine og (dNotIn_ints rfl) ?_ | refine og (dEq_tup _ _ _) ?_ | refine og (dNe_tup _ _ _) ?_ | refine og (dLt_tup _ _ _) ?_)))
    (try dsimp only [List.set_cons_zero, List.set_cons_succ])
    refine v_comp intsT E (fun k => !decide (k = g)) intsT (v_iSeq (v_v rfl (og rfl ⟨rfl, rfl, fun k hk => item1 ?_ fun _ => ?_, by omega, ?_⟩)))
    · exact v_tV (v_op2 (v_v rfl (v_v rfl (og (dNe_tup _ _ _) (isB ⟨rfl, rfl⟩)))))
    · exact v_v rfl ⟨rfl, rfl⟩
    (repeat (first | (first | ((with_reducible apply v_v); exact rfl) | ((with_reducible apply v_len); exact rfl) | with_reducible first | refine v_c ?_ | refine v_op2 ?_ | refine v_cons ?_ | refine v_nil ?_ | refine v_B ?_ | refine v_L ?_ | refine v_LN ?_ | refine v_B1 ?_ | refine v_L1 ?_ | refine v_D ?_ | refine v_DN ?_ | (refine v_tup ?_) | refine v_lst ?_ | refine v_newL ?_ | refine v_call ?_ | refine v_callP ?_ | refine v_make ?_ | refine v_fld ?_ | refine v_neg ?_ | refine v_Rev ?_ | refine v_cut ?_ | refine v_oN ?_ | refine v_oS ?_ | refine v_And ?_ | refine v_Or ?_ | refine v_Not ?_ | refine v_If ?_ | refine v_Chain ?_ | refine v_App ?_ | refine v_Upd ?_ | refine v_DE ?_ | refine v_DEN ?_ | refine v_rg1 ?_ | refine v_rg2 ?_ | refine v_LRg ?_ | refine v_LRgN ?_ | refine v_TRg ?_ | refine v_tV ?_ | refine v_tAnd ?_ | refine v_tOr ?_ | refine v_tNot ?_ | refine v_tYes ?_) | (with_reducible first | refine v_Seq ?_ | refine v_nx ?_ | (refine v_Asg ?_) | refine v_AsgT ?_ | refine v_Ret ?_ | refine v_RetN ?_ | refine v_Expr ?_ | refine v_sIf ?_ | refine v_Nil ?_ | refine v_gV ?_ | refine v_gTup2 ?_ | refine v_gTup3 ?_ | refine v_gTup4 ?_ | refine v_gSub ?_ | refine v_Par ?_ | refine v_Par3 ?_ | refine v_par2 ?_ | refine v_par3 ?_ | refine v_FSet ?_ | refine v_nrt ?_ | refine v_nbk ?_ | refine v_nct ?_ | refine v_Break ?_ | refine v_Cont ?_ | refine v_tnx ?_ | refine v_tct ?_ | refine v_tbk ?_ | refine v_trt ?_ | refine v_fin ?_ | refine two_t ?_ | refine two_f ?_ | refine two_n ?_ | refine isB ?_ | refine isI ?_) | (with_reducible first | refine og (dAdd_int _ _ _) ?_ | refine og (dSub_int _ _ _) ?_ | refine og (dLt_int _ _ _) ?_ | refine og (dGt_int _ _ _) ?_ | refine og (dLe_int _ _ _) ?_ | refine og (dGe_int _ _ _) ?_ | refine og (dEq_int _ _ _) ?_ | refine og (dNe_int _ _ _) ?_ | refine og (dIs_non _ _) ?_ | refine og (dIsNot_non _ _) ?_ | refine og (fld_many _ _ _) ?_ | refine og (fld_leaps _ _ _) ?_ | refine og (dIn_ints rfl) ?_ | refine og (dNotIn_ints rfl) ?_ | refine og (dEq_tup _ _ _) ?_ | refine og (dNe_tup _ _ _) ?_ | refine og (dLt_tup _ _ _) ?_)))
    refine og (d := tupsT (E.filter fun k => !decide (k = g))) rfl ?_
    (repeat (first | (first | ((with_reducible apply v_v); exact rfl) | ((with_reducible apply v_len); exact rfl) | with_reducible first | refine v_c ?_ | refine v_op2 ?_ | refine v_cons ?_ | refine v_nil ?_ | refine v_B ?_ | refine v_L ?_ | refine v_LN ?_ | refine v_B1 ?_ | refine v_L1 ?_ | refine v_D ?_ | refine v_DN ?_ | (refine v_tup ?_) | refine v_lst ?_ | refine v_newL ?_ | refine v_call ?_ | refine v_callP ?_ | refine v_make ?_ | refine v_fld ?_ | refine v_neg ?_ | refine v_Rev ?_ | refine v_cut ?_ | refine v_oN ?_ | refine v_oS ?_ | refine v_And ?_ | refine v_Or ?_ | refine v_Not ?_ | refine v_If ?_ | refine v_Chain ?_ | refine v_App ?_ | refine v_Upd ?_ | refine v_DE ?_ | refine v_DEN ?_ | refine v_rg1 ?_ | refine v_rg2 ?_ | refine v_LRg ?_ | refine v_LRgN ?_ | refine v_TRg ?_ | refine v_tV ?_ | refine v_tAnd ?_ | refine v_tOr ?_ | refine v_tNot ?_ | refine v_tYes ?_) | (with_reducible first | refine v_Seq ?_ | refine v_nx ?_ | (refine v_Asg ?_) | refine v_AsgT ?_ | refine v_Ret ?_ | refine v_RetN ?_ | refine v_Expr ?_ | refine v_sIf ?_ | refine v_Nil ?_ | refine v_gV ?_ | refine v_gTup2 ?_ | refine v_gTup3 ?_ | refine v_gTup4 ?_ | refine v_gSub ?_ | refine v_Par ?_ | refine v_Par3 ?_ | refine v_par2 ?_ | refine v_par3 ?_ | refine v_FSet ?_ | refine v_nrt ?_ | refine v_nbk ?_ | refine v_nct ?_ | refine v_Break ?_ | refine v_Cont ?_ | refine v_tnx ?_ | refine v_tct ?_ | refine v_tbk ?_ | refine v_trt ?_ | refine v_fin ?_ | refine two_t ?_ | refine two_f ?_ | refine two_n ?_ | refine isB ?_ | refine isI ?_) | (with_reducible first | refine og (dAdd_int _ _ _) ?_ | refine og (dSub_int _ _ _) ?_ | refine og (dLt_int _ _ _) ?_ | refine og (dGt_int _ _ _) ?_ | refine og (dLe_int _ _ _) ?_ | refine og (dGe_int _ _ _) ?_ | refine og (dEq_int _ _ _) ?_ | refine og (dNe_int _ _ _) ?_ | refine og (dIs_non _ _) ?_ | refine og (dIsNot_non _ _) ?_ | refine og (fld_many _ _ _) ?_ | refine og (fld_leaps _ _ _) ?_ | refine og (dIn_ints rfl) ?_ | refine og (dNotIn_ints rfl) ?_ | refine og (dEq_tup _ _ _) ?_ | refine og (dNe_tup _ _ _) ?_ | refine og (dLt_tup _ _ _) ?_)))
    obtain ⟨X, eX, hXo, hX⟩ := great_closed_ok hn0 hn6 hL hLl (hEo.filter fun k => !decide (k = g)) fun s hs => hEs s (List.mem_filter.mp hs).1
    refine v_P (stills2 (still_board n L) (still_tups _)) eX ?_
    have : X = W := ordP_uniq hXo hWo fun t => by
      rw [hX, hW]
      constructor
      · intro h
        refine ⟨hEs t (List.mem_filter.mp h.self).1, fun r => ?_⟩
        have := (List.mem_filter.mp (h g r)).2
        simp at this
      · rintro ⟨h1, h2⟩ u hu
        refine List.mem_filter.mpr ⟨(hE u).mpr (hu.stand hL h1), ?_⟩
        have : u ≠ g := fun e => h2 (e ▸ hu)
        simp [this]
    subst this
    refine og (dNe_tups _ X X) (isB (two_n (two_y rfl ?_)))
    (repeat (first | (first | ((with_reducible apply v_v); exact rfl) | ((with_reducible apply v_len); exact rfl) | with_reducible first | refine v_c ?_ | refine v_op2 ?_ | refine v_cons ?_ | refine v_nil ?_ | refine v_B ?_ | refine v_L ?_ | refine v_LN ?_ | refine v_B1 ?_ | refine v_L1 ?_ | refine v_D ?_ | refine v_DN ?_ | (refine v_tup ?_) | refine v_lst ?_ | refine v_newL ?_ | refine v_call ?_ | refine v_callP ?_ | refine v_make ?_ | refine v_fld ?_ | refine v_neg ?_ | refine v_Rev ?_ | refine v_cut ?_ | refine v_oN ?_ | refine v_oS ?_ | refine v_And ?_ | refine v_Or ?_ | refine v_Not ?_ | refine v_If ?_ | refine v_Chain ?_ | refine v_App ?_ | refine v_Upd ?_ | refine v_DE ?_ | refine v_DEN ?_ | refine v_rg1 ?_ | refine v_rg2 ?_ | refine v_LRg ?_ | refine v_LRgN ?_ | refine v_TRg ?_ | refine v_tV ?_ | refine v_tAnd ?_ | refine v_tOr ?_ | refine v_tNot ?_ | refine v_tYes ?_) | (with_reducible first | refine v_Seq ?_ | refine v_nx ?_ | (refine v_Asg ?_) | refine v_AsgT ?_ | refine v_Ret ?_ | refine v_RetN ?_ | refine v_Expr ?_ | refine v_sIf ?_ | refine v_Nil ?_ | refine v_gV ?_ | refine v_gTup2 ?_ | refine v_gTup3 ?_ | refine v_gTup4 ?_ | refine v_gSub ?_ | refine v_Par ?_ | refine v_Par3 ?_ | refine v_par2 ?_ | refine v_par3 ?_ | refine v_FSet ?_ | refine v_nrt ?_ | refine v_nbk ?_ | refine v_nct ?_ | refine v_Break ?_ | refine v_Cont ?_ | refine v_tnx ?_ | refine v_tct ?_ | refine v_tbk ?_ | refine v_trt ?_ | refine v_fin ?_ | refine two_t ?_ | refine two_f ?_ | refine two_n ?_ | refine isB ?_ | refine isI ?_) | (with_reducible first | refine og (dAdd_int _ _ _) ?_ | refine og (dSub_int _ _ _) ?_ | refine og (dLt_int _ _ _) ?_ | refine og (dGt_int _ _ _) ?_ | refine og (dLe_int _ _ _) ?_ | refine og (dGe_int _ _ _) ?_ | refine og (dEq_int _ _ _) ?_ | refine og (dNe_int _ _ _) ?_ | refine og (dIs_non _ _) ?_ | refine og (dIsNot_non _ _) ?_ | refine og (fld_many _ _ _) ?_ | refine og (fld_leaps _ _ _) ?_ | refine og (dIn_ints rfl) ?_ | refine og (dNotIn_ints rfl) ?_ | refine og (dEq_tup _ _ _) ?_ | refine og (dNe_tup _ _ _) ?_ | refine og (dLt_tup _ _ _) ?_)))
    obtain ⟨Y, eY, hYo, hY⟩ := back_ok hn0 hn6 hL hg
    refine v_comp intsT E (fun k => !decide (k ∈ Y)) intsT (v_iSeq (v_v rfl (og rfl ⟨rfl, rfl, fun k hk => item1 ?_ fun _ => ?_, by omega, ?_⟩)))
    · refine v_tV (v_op2 (v_v rfl (v_callP (v_cons (v_v rfl (v_cons (v_v rfl (v_nil (v_P (stills2 (still_board n L) (stills_ints g)) eY ?_)))))))))
      exact og (dNotIn_T (S := Y) rfl) (isB ⟨rfl, rfl⟩)
    · exact v_v rfl ⟨rfl, rfl⟩
    (repeat (first | (first | ((with_reducible apply v_v); exact rfl) | ((with_reducible apply v_len); exact rfl) | with_reducible first | refine v_c ?_ | refine v_op2 ?_ | refine v_cons ?_ | refine v_nil ?_ | refine v_B ?_ | refine v_L ?_ | refine v_LN ?_ | refine v_B1 ?_ | refine v_L1 ?_ | refine v_D ?_ | refine v_DN ?_ | (refine v_tup ?_) | refine v_lst ?_ | refine v_newL ?_ | refine v_call ?_ | refine v_callP ?_ | refine v_make ?_ | refine v_fld ?_ | refine v_neg ?_ | refine v_Rev ?_ | refine v_cut ?_ | refine v_oN ?_ | refine v_oS ?_ | refine v_And ?_ | refine v_Or ?_ | refine v_Not ?_ | refine v_If ?_ | refine v_Chain ?_ | refine v_App ?_ | refine v_Upd ?_ | refine v_DE ?_ | refine v_DEN ?_ | refine v_rg1 ?_ | refine v_rg2 ?_ | refine v_LRg ?_ | refine v_LRgN ?_ | refine v_TRg ?_ | refine v_tV ?_ | refine v_tAnd ?_ | refine v_tOr ?_ | refine v_tNot ?_ | refine v_tYes ?_) | (with_reducible first | refine v_Seq ?_ | refine v_nx ?_ | (refine v_Asg ?_) | refine v_AsgT ?_ | refine v_Ret ?_ | refine v_RetN ?_ | refine v_Expr ?_ | refine v_sIf ?_ | refine v_Nil ?_ | refine v_gV ?_ | refine v_gTup2 ?_ | refine v_gTup3 ?_ | refine v_gTup4 ?_ | refine v_gSub ?_ | refine v_Par ?_ | refine v_Par3 ?_ | refine v_par2 ?_ | refine v_par3 ?_ | refine v_FSet ?_ | refine v_nrt ?_ | refine v_nbk ?_ | refine v_nct ?_ | refine v_Break ?_ | refine v_Cont ?_ | refine v_tnx ?_ | refine v_tct ?_ | refine v_tbk ?_ | refine v_trt ?_ | refine v_fin ?_ | refine two_t ?_ | refine two_f ?_ | refine two_n ?_ | refine isB ?_ | refine isI ?_) | (with_reducible first | refine og (dAdd_int _ _ _) ?_ | refine og (dSub_int _ _ _) ?_ | refine og (dLt_int _ _ _) ?_ | refine og (dGt_int _ _ _) ?_ | refine og (dLe_int _ _ _) ?_ | refine og (dGe_int _ _ _) ?_ | refine og (dEq_int _ _ _) ?_ | refine og (dNe_int _ _ _) ?_ | refine og (dIs_non _ _) ?_ | refine og (dIsNot_non _ _) ?_ | refine og (fld_many _ _ _) ?_ | refine og (fld_leaps _ _ _) ?_ | refine og (dIn_ints rfl) ?_ | refine og (dNotIn_ints rfl) ?_ | refine og (dEq_tup _ _ _) ?_ | refine og (dNe_tup _ _ _) ?_ | refine og (dLt_tup _ _ _) ?_)))
    refine og (d := tupsT (E.filter fun k => !decide (k ∈ Y))) rfl ?_
    have : E.filter (fun k => !decide (k ∈ Y)) = X := ordP_uniq (hEo.filter _) hWo fun t => by
      rw [List.mem_filter, hE, hW]
      have hYt := hY t
      constructor
      · rintro ⟨h1, h2⟩
        exact ⟨h1, fun r => by simp [hYt.mpr ⟨h1, r⟩] at h2⟩
      · rintro ⟨h1, h2⟩
        exact ⟨h1, by simpa using fun z => h2 (hYt.mp z).2⟩
    rw [this]
    refine og (dNe_tups _ X X) (isB (two_n (two_y rfl ?_)))
    (repeat (first | (first | ((with_reducible apply v_v); exact rfl) | ((with_reducible apply v_len); exact rfl) | with_reducible first | refine v_c ?_ | refine v_op2 ?_ | refine v_cons ?_ | refine v_nil ?_ | refine v_B ?_ | refine v_L ?_ | refine v_LN ?_ | refine v_B1 ?_ | refine v_L1 ?_ | refine v_D ?_ | refine v_DN ?_ | (refine v_tup ?_) | refine v_lst ?_ | refine v_newL ?_ | refine v_call ?_ | refine v_callP ?_ | refine v_make ?_ | refine v_fld ?_ | refine v_neg ?_ | refine v_Rev ?_ | refine v_cut ?_ | refine v_oN ?_ | refine v_oS ?_ | refine v_And ?_ | refine v_Or ?_ | refine v_Not ?_ | refine v_If ?_ | refine v_Chain ?_ | refine v_App ?_ | refine v_Upd ?_ | refine v_DE ?_ | refine v_DEN ?_ | refine v_rg1 ?_ | refine v_rg2 ?_ | refine v_LRg ?_ | refine v_LRgN ?_ | refine v_TRg ?_ | refine v_tV ?_ | refine v_tAnd ?_ | refine v_tOr ?_ | refine v_tNot ?_ | refine v_tYes ?_) | (with_reducible first | refine v_Seq ?_ | refine v_nx ?_ | (refine v_Asg ?_) | refine v_AsgT ?_ | refine v_Ret ?_ | refine v_RetN ?_ | refine v_Expr ?_ | refine v_sIf ?_ | refine v_Nil ?_ | refine v_gV ?_ | refine v_gTup2 ?_ | refine v_gTup3 ?_ | refine v_gTup4 ?_ | refine v_gSub ?_ | refine v_Par ?_ | refine v_Par3 ?_ | refine v_par2 ?_ | refine v_par3 ?_ | refine v_FSet ?_ | refine v_nrt ?_ | refine v_nbk ?_ | refine v_nct ?_ | refine v_Break ?_ | refine v_Cont ?_ | refine v_tnx ?_ | refine v_tct ?_ | refine v_tbk ?_ | refine v_trt ?_ | refine v_fin ?_ | refine two_t ?_ | refine two_f ?_ | refine two_n ?_ | refine isB ?_ | refine isI ?_) | (with_reducible first | refine og (dAdd_int _ _ _) ?_ | refine og (dSub_int _ _ _) ?_ | refine og (dLt_int _ _ _) ?_ | refine og (dGt_int _ _ _) ?_ | refine og (dLe_int _ _ _) ?_ | refine og (dGe_int _ _ _) ?_ | refine og (dEq_int _ _ _) ?_ | refine og (dNe_int _ _ _) ?_ | refine og (dIs_non _ _) ?_ | refine og (dIsNot_non _ _) ?_ | refine og (fld_many _ _ _) ?_ | refine og (fld_leaps _ _ _) ?_ | refine og (dIn_ints rfl) ?_ | refine og (dNotIn_ints rfl) ?_ | refine og (dEq_tup _ _ _) ?_ | refine og (dNe_tup _ _ _) ?_ | refine og (dLt_tup _ _ _) ?_)))
    obtain ⟨p, eS, hp⟩ := sources_ok hn0 hn6 hL hLl hFo hFs
    have hSs : ∀ t ∈ F2.filter p, Stand n t := fun t ht => hFs t (List.mem_filter.mp ht).1
    have hgen := by_sources hn0 hn6 hL hFs hp
    refine v_P (stills2 (still_board n L) (still_tups F2)) eS ?_
    (repeat (first | (first | ((with_reducible apply v_v); exact rfl) | ((with_reducible apply v_len); exact rfl) | with_reducible first | refine v_c ?_ | refine v_op2 ?_ | refine v_cons ?_ | refine v_nil ?_ | refine v_B ?_ | refine v_L ?_ | refine v_LN ?_ | refine v_B1 ?_ | refine v_L1 ?_ | refine v_D ?_ | refine v_DN ?_ | (refine v_tup ?_) | refine v_lst ?_ | refine v_newL ?_ | refine v_call ?_ | refine v_callP ?_ | refine v_make ?_ | refine v_fld ?_ | refine v_neg ?_ | refine v_Rev ?_ | refine v_cut ?_ | refine v_oN ?_ | refine v_oS ?_ | refine v_And ?_ | refine v_Or ?_ | refine v_Not ?_ | refine v_If ?_ | refine v_Chain ?_ | refine v_App ?_ | refine v_Upd ?_ | refine v_DE ?_ | refine v_DEN ?_ | refine v_rg1 ?_ | refine v_rg2 ?_ | refine v_LRg ?_ | refine v_LRgN ?_ | refine v_TRg ?_ | refine v_tV ?_ | refine v_tAnd ?_ | refine v_tOr ?_ | refine v_tNot ?_ | refine v_tYes ?_) | (with_reducible first | refine v_Seq ?_ | refine v_nx ?_ | (refine v_Asg ?_) | refine v_AsgT ?_ | refine v_Ret ?_ | refine v_RetN ?_ | refine v_Expr ?_ | refine v_sIf ?_ | refine v_Nil ?_ | refine v_gV ?_ | refine v_gTup2 ?_ | refine v_gTup3 ?_ | refine v_gTup4 ?_ | refine v_gSub ?_ | refine v_Par ?_ | refine v_Par3 ?_ | refine v_par2 ?_ | refine v_par3 ?_ | refine v_FSet ?_ | refine v_nrt ?_ | refine v_nbk ?_ | refine v_nct ?_ | refine v_Break ?_ | refine v_Cont ?_ | refine v_tnx ?_ | refine v_tct ?_ | refine v_tbk ?_ | refine v_trt ?_ | refine v_fin ?_ | refine two_t ?_ | refine two_f ?_ | refine two_n ?_ | refine isB ?_ | refine isI ?_) | (with_reducible first | refine og (dAdd_int _ _ _) ?_ | refine og (dSub_int _ _ _) ?_ | refine og (dLt_int _ _ _) ?_ | refine og (dGt_int _ _ _) ?_ | refine og (dLe_int _ _ _) ?_ | refine og (dGe_int _ _ _) ?_ | refine og (dEq_int _ _ _) ?_ | refine og (dNe_int _ _ _) ?_ | refine og (dIs_non _ _) ?_ | refine og (dIsNot_non _ _) ?_ | refine og (fld_many _ _ _) ?_ | refine og (fld_leaps _ _ _) ?_ | refine og (dIn_ints rfl) ?_ | refine og (dNotIn_ints rfl) ?_ | refine og (dEq_tup _ _ _) ?_ | refine og (dNe_tup _ _ _) ?_ | refine og (dLt_tup _ _ _) ?_)))
    obtain ⟨Z, eZ, hZo, hZ⟩ := least_ok hn0 hn6 hL (hFo.filter p) hSs
    refine v_P (stills2 (still_board n L) (still_tups _)) eZ ?_
    have : Z = F2 := ordP_uniq hZo hFo fun t => by
      rw [hZ]
      exact ⟨fun ⟨s, hs, r⟩ => cl_rch cF (List.mem_filter.mp hs).1 r, fun ht => hgen t ht⟩
    rw [this]
    (repeat (first | (first | ((with_reducible apply v_v); exact rfl) | ((with_reducible apply v_len); exact rfl) | with_reducible first | refine v_c ?_ | refine v_op2 ?_ | refine v_cons ?_ | refine v_nil ?_ | refine v_B ?_ | refine v_L ?_ | refine v_LN ?_ | refine v_B1 ?_ | refine v_L1 ?_ | refine v_D ?_ | refine v_DN ?_ | (refine v_tup ?_) | refine v_lst ?_ | refine v_newL ?_ | refine v_call ?_ | refine v_callP ?_ | refine v_make ?_ | refine v_fld ?_ | refine v_neg ?_ | refine v_Rev ?_ | refine v_cut ?_ | refine v_oN ?_ | refine v_oS ?_ | refine v_And ?_ | refine v_Or ?_ | refine v_Not ?_ | refine v_If ?_ | refine v_Chain ?_ | refine v_App ?_ | refine v_Upd ?_ | refine v_DE ?_ | refine v_DEN ?_ | refine v_rg1 ?_ | refine v_rg2 ?_ | refine v_LRg ?_ | refine v_LRgN ?_ | refine v_TRg ?_ | refine v_tV ?_ | refine v_tAnd ?_ | refine v_tOr ?_ | refine v_tNot ?_ | refine v_tYes ?_) | (with_reducible first | refine v_Seq ?_ | refine v_nx ?_ | (refine v_Asg ?_) | refine v_AsgT ?_ | refine v_Ret ?_ | refine v_RetN ?_ | refine v_Expr ?_ | refine v_sIf ?_ | refine v_Nil ?_ | refine v_gV ?_ | refine v_gTup2 ?_ | refine v_gTup3 ?_ | refine v_gTup4 ?_ | refine v_gSub ?_ | refine v_Par ?_ | refine v_Par3 ?_ | refine v_par2 ?_ | refine v_par3 ?_ | refine v_FSet ?_ | refine v_nrt ?_ | refine v_nbk ?_ | refine v_nct ?_ | refine v_Break ?_ | refine v_Cont ?_ | refine v_tnx ?_ | refine v_tct ?_ | refine v_tbk ?_ | refine v_trt ?_ | refine v_fin ?_ | refine two_t ?_ | refine two_f ?_ | refine two_n ?_ | refine isB ?_ | refine isI ?_) | (with_reducible first | refine og (dAdd_int _ _ _) ?_ | refine og (dSub_int _ _ _) ?_ | refine og (dLt_int _ _ _) ?_ | refine og (dGt_int _ _ _) ?_ | refine og (dLe_int _ _ _) ?_ | refine og (dGe_int _ _ _) ?_ | refine og (dEq_int _ _ _) ?_ | refine og (dNe_int _ _ _) ?_ | refine og (dIs_non _ _) ?_ | refine og (dIsNot_non _ _) ?_ | refine og (fld_many _ _ _) ?_ | refine og (fld_leaps _ _ _) ?_ | refine og (dIn_ints rfl) ?_ | refine og (dNotIn_ints rfl) ?_ | refine og (dEq_tup _ _ _) ?_ | refine og (dNe_tup _ _ _) ?_ | refine og (dLt_tup _ _ _) ?_)))
    refine og (dNe_tups _ F2 F2) (isB (two_n (two_y rfl ?_)))
    (repeat (first | (first | ((with_reducible apply v_v); exact rfl) | ((with_reducible apply v_len); exact rfl) | with_reducible first | refine v_c ?_ | refine v_op2 ?_ | refine v_cons ?_ | refine v_nil ?_ | refine v_B ?_ | refine v_L ?_ | refine v_LN ?_ | refine v_B1 ?_ | refine v_L1 ?_ | refine v_D ?_ | refine v_DN ?_ | (refine v_tup ?_) | refine v_lst ?_ | refine v_newL ?_ | refine v_call ?_ | refine v_callP ?_ | refine v_make ?_ | refine v_fld ?_ | refine v_neg ?_ | refine v_Rev ?_ | refine v_cut ?_ | refine v_oN ?_ | refine v_oS ?_ | refine v_And ?_ | refine v_Or ?_ | refine v_Not ?_ | refine v_If ?_ | refine v_Chain ?_ | refine v_App ?_ | refine v_Upd ?_ | refine v_DE ?_ | refine v_DEN ?_ | refine v_rg1 ?_ | refine v_rg2 ?_ | refine v_LRg ?_ | refine v_LRgN ?_ | refine v_TRg ?_ | refine v_tV ?_ | refine v_tAnd ?_ | refine v_tOr ?_ | refine v_tNot ?_ | refine v_tYes ?_) | (with_reducible first | refine v_Seq ?_ | refine v_nx ?_ | (refine v_Asg ?_) | refine v_AsgT ?_ | refine v_Ret ?_ | refine v_RetN ?_ | refine v_Expr ?_ | refine v_sIf ?_ | refine v_Nil ?_ | refine v_gV ?_ | refine v_gTup2 ?_ | refine v_gTup3 ?_ | refine v_gTup4 ?_ | refine v_gSub ?_ | refine v_Par ?_ | refine v_Par3 ?_ | refine v_par2 ?_ | refine v_par3 ?_ | refine v_FSet ?_ | refine v_nrt ?_ | refine v_nbk ?_ | refine v_nct ?_ | refine v_Break ?_ | refine v_Cont ?_ | refine v_tnx ?_ | refine v_tct ?_ | refine v_tbk ?_ | refine v_trt ?_ | refine v_fin ?_ | refine two_t ?_ | refine two_f ?_ | refine two_n ?_ | refine isB ?_ | refine isI ?_) | (with_reducible first | refine og (dAdd_int _ _ _) ?_ | refine og (dSub_int _ _ _) ?_ | refine og (dLt_int _ _ _) ?_ | refine og (dGt_int _ _ _) ?_ | refine og (dLe_int _ _ _) ?_ | refine og (dGe_int _ _ _) ?_ | refine og (dEq_int _ _ _) ?_ | refine og (dNe_int _ _ _) ?_ | refine og (dIs_non _ _) ?_ | refine og (dIsNot_non _ _) ?_ | refine og (fld_many _ _ _) ?_ | refine og (fld_leaps _ _ _) ?_ | refine og (dIn_ints rfl) ?_ | refine og (dNotIn_ints rfl) ?_ | refine og (dEq_tup _ _ _) ?_ | refine og (dNe_tup _ _ _) ?_ | refine og (dLt_tup _ _ _) ?_)))
    refine v_P (stills2 (still_board n L) (still_tups F2)) eS ?_
    (repeat (first | (first | ((with_reducible apply v_v); exact rfl) | ((with_reducible apply v_len); exact rfl) | with_reducible first | refine v_c ?_ | refine v_op2 ?_ | refine v_cons ?_ | refine v_nil ?_ | refine v_B ?_ | refine v_L ?_ | refine v_LN ?_ | refine v_B1 ?_ | refine v_L1 ?_ | refine v_D ?_ | refine v_DN ?_ | (refine v_tup ?_) | refine v_lst ?_ | refine v_newL ?_ | refine v_call ?_ | refine v_callP ?_ | refine v_make ?_ | refine v_fld ?_ | refine v_neg ?_ | refine v_Rev ?_ | refine v_cut ?_ | refine v_oN ?_ | refine v_oS ?_ | refine v_And ?_ | refine v_Or ?_ | refine v_Not ?_ | refine v_If ?_ | refine v_Chain ?_ | refine v_App ?_ | refine v_Upd ?_ | refine v_DE ?_ | refine v_DEN ?_ | refine v_rg1 ?_ | refine v_rg2 ?_ | refine v_LRg ?_ | refine v_LRgN ?_ | refine v_TRg ?_ | refine v_tV ?_ | refine v_tAnd ?_ | refine v_tOr ?_ | refine v_tNot ?_ | refine v_tYes ?_) | (with_reducible first | refine v_Seq ?_ | refine v_nx ?_ | (refine v_Asg ?_) | refine v_AsgT ?_ | refine v_Ret ?_ | refine v_RetN ?_ | refine v_Expr ?_ | refine v_sIf ?_ | refine v_Nil ?_ | refine v_gV ?_ | refine v_gTup2 ?_ | refine v_gTup3 ?_ | refine v_gTup4 ?_ | refine v_gSub ?_ | refine v_Par ?_ | refine v_Par3 ?_ | refine v_par2 ?_ | refine v_par3 ?_ | refine v_FSet ?_ | refine v_nrt ?_ | refine v_nbk ?_ | refine v_nct ?_ | refine v_Break ?_ | refine v_Cont ?_ | refine v_tnx ?_ | refine v_tct ?_ | refine v_tbk ?_ | refine v_trt ?_ | refine v_fin ?_ | refine two_t ?_ | refine two_f ?_ | refine two_n ?_ | refine isB ?_ | refine isI ?_) | (with_reducible first | refine og (dAdd_int _ _ _) ?_ | refine og (dSub_int _ _ _) ?_ | refine og (dLt_int _ _ _) ?_ | refine og (dGt_int _ _ _) ?_ | refine og (dLe_int _ _ _) ?_ | refine og (dGe_int _ _ _) ?_ | refine og (dEq_int _ _ _) ?_ | refine og (dNe_int _ _ _) ?_ | refine og (dIs_non _ _) ?_ | refine og (dIsNot_non _ _) ?_ | refine og (fld_many _ _ _) ?_ | refine og (fld_leaps _ _ _) ?_ | refine og (dIn_ints rfl) ?_ | refine og (dNotIn_ints rfl) ?_ | refine og (dEq_tup _ _ _) ?_ | refine og (dNe_tup _ _ _) ?_ | refine og (dLt_tup _ _ _) ?_)))
    have hfl := List.length_filter_le p F2
    refine v_P (stills2 (still_tups (F2.filter p)) (still_tups A)) (under_sub (A := F2.filter p) (B := A) rfl rfl (by omega) fun a ha => ?_) ?_
    · obtain ⟨h1, h2⟩ := List.mem_filter.mp ha
      obtain ⟨s, hs, r⟩ := (hF a).mp h1
      have := no_way cF ((hp a).mp h2) ((hF s).mpr ⟨s, hs, .refl⟩) r
      rw [← this]; exact hs
    (repeat (first | (first | ((with_reducible apply v_v); exact rfl) | ((with_reducible apply v_len); exact rfl) | with_reducible first | refine v_c ?_ | refine v_op2 ?_ | refine v_cons ?_ | refine v_nil ?_ | refine v_B ?_ | refine v_L ?_ | refine v_LN ?_ | refine v_B1 ?_ | refine v_L1 ?_ | refine v_D ?_ | refine v_DN ?_ | (refine v_tup ?_) | refine v_lst ?_ | refine v_newL ?_ | refine v_call ?_ | refine v_callP ?_ | refine v_make ?_ | refine v_fld ?_ | refine v_neg ?_ | refine v_Rev ?_ | refine v_cut ?_ | refine v_oN ?_ | refine v_oS ?_ | refine v_And ?_ | refine v_Or ?_ | refine v_Not ?_ | refine v_If ?_ | refine v_Chain ?_ | refine v_App ?_ | refine v_Upd ?_ | refine v_DE ?_ | refine v_DEN ?_ | refine v_rg1 ?_ | refine v_rg2 ?_ | refine v_LRg ?_ | refine v_LRgN ?_ | refine v_TRg ?_ | refine v_tV ?_ | refine v_tAnd ?_ | refine v_tOr ?_ | refine v_tNot ?_ | refine v_tYes ?_) | (with_reducible first | refine v_Seq ?_ | refine v_nx ?_ | (refine v_Asg ?_) | refine v_AsgT ?_ | refine v_Ret ?_ | refine v_RetN ?_ | refine v_Expr ?_ | refine v_sIf ?_ | refine v_Nil ?_ | refine v_gV ?_ | refine v_gTup2 ?_ | refine v_gTup3 ?_ | refine v_gTup4 ?_ | refine v_gSub ?_ | refine v_Par ?_ | refine v_Par3 ?_ | refine v_par2 ?_ | refine v_par3 ?_ | refine v_FSet ?_ | refine v_nrt ?_ | refine v_nbk ?_ | refine v_nct ?_ | refine v_Break ?_ | refine v_Cont ?_ | refine v_tnx ?_ | refine v_tct ?_ | refine v_tbk ?_ | refine v_trt ?_ | refine v_fin ?_ | refine two_t ?_ | refine two_f ?_ | refine two_n ?_ | refine isB ?_ | refine isI ?_) | (with_reducible first | refine og (dAdd_int _ _ _) ?_ | refine og (dSub_int _ _ _) ?_ | refine og (dLt_int _ _ _) ?_ | refine og (dGt_int _ _ _) ?_ | refine og (dLe_int _ _ _) ?_ | refine og (dGe_int _ _ _) ?_ | refine og (dEq_int _ _ _) ?_ | refine og (dNe_int _ _ _) ?_ | refine og (dIs_non _ _) ?_ | refine og (dIsNot_non _ _) ?_ | refine og (fld_many _ _ _) ?_ | refine og (fld_leaps _ _ _) ?_ | refine og (dIn_ints rfl) ?_ | refine og (dNotIn_ints rfl) ?_ | refine og (dEq_tup _ _ _) ?_ | refine og (dNe_tup _ _ _) ?_ | refine og (dLt_tup _ _ _) ?_)))
    exact ⟨⟨_, _, _, _, _, _, _, _, _, _, _, _, _, _, _, _, rfl⟩, hr4⟩
  · obtain ⟨⟨e2, e3, e4, e5, e6, e7, e8, e9, e10, e11, e12, e13, e14, e15, e16, e17, rfl⟩, hr⟩ := hI
    (repeat (first | (first | ((with_reducible apply v_v); exact rfl) | ((with_reducible apply v_len); exact rfl) | with_reducible first | refine v_c ?_ | refine v_op2 ?_ | refine v_cons ?_ | refine v_nil ?_ | refine v_B ?_ | refine v_L ?_ | refine v_LN ?_ | refine v_B1 ?_ | refine v_L1 ?_ | refine v_D ?_ | refine v_DN ?_ | (refine v_tup ?_) | refine v_lst ?_ | refine v_newL ?_ | refine v_call ?_ | refine v_callP ?_ | refine v_make ?_ | refine v_fld ?_ | refine v_neg ?_ | refine v_Rev ?_ | refine v_cut ?_ | refine v_oN ?_ | refine v_oS ?_ | refine v_And ?_ | refine v_Or ?_ | refine v_Not ?_ | refine v_If ?_ | refine v_Chain ?_ | refine v_App ?_ | refine v_Upd ?_ | refine v_DE ?_ | refine v_DEN ?_ | refine v_rg1 ?_ | refine v_rg2 ?_ | refine v_LRg ?_ | refine v_LRgN ?_ | refine v_TRg ?_ | refine v_tV ?_ | refine v_tAnd ?_ | refine v_tOr ?_ | refine v_tNot ?_ | refine v_tYes ?_) | (with_reducible first | refine v_Seq ?_ | refine v_nx ?_ | (refine v_Asg ?_) | refine v_AsgT ?_ | refine v_Ret ?_ | refine v_RetN ?_ | refine v_Expr ?_ | refine v_sIf ?_ | refine v_Nil ?_ | refine v_gV ?_ | refine v_gTup2 ?_ | refine v_gTup3 ?_ | refine v_gTup4 ?_ | refine v_gSub ?_ | refine v_Par ?_ | refine v_Par3 ?_ | refine v_par2 ?_ | refine v_par3 ?_ | refine v_FSet ?_ | refine v_nrt ?_ | refine v_nbk ?_ | refine v_nct ?_ | refine v_Break ?_ | refine v_Cont ?_ | refine v_tnx ?_ | refine v_tct ?_ | refine v_tbk ?_ | refine v_trt ?_ | refine v_fin ?_ | refine two_t ?_ | refine two_f ?_ | refine two_n ?_ | refine isB ?_ | refine isI ?_) | (with_reducible first | refine og (dAdd_int _ _ _) ?_ | refine og (dSub_int _ _ _) ?_ | refine og (dLt_int _ _ _) ?_ | refine og (dGt_int _ _ _) ?_ | refine og (dLe_int _ _ _) ?_ | refine og (dGe_int _ _ _) ?_ | refine og (dEq_int _ _ _) ?_ | refine og (dNe_int _ _ _) ?_ | refine og (dIs_non _ _) ?_ | refine og (dIsNot_non _ _) ?_ | refine og (fld_many _ _ _) ?_ | refine og (fld_leaps _ _ _) ?_ | refine og (dIn_ints rfl) ?_ | refine og (dNotIn_ints rfl) ?_ | refine og (dEq_tup _ _ _) ?_ | refine og (dNe_tup _ _ _) ?_ | refine og (dLt_tup _ _ _) ?_)))
    exact fin_rt rfl
end Px
set_option maxRecDepth 100000
set_option maxHeartbeats 4000000
/-! derivations, printed -/
namespace Px
open PySem PySem.Spec
open L2
def top (i : Nat) : Stmt := PySem.Challenge.pw_leaptover_k68_closures_are_closures.main.body.getD i (.Pass ⟨0, 0, 0, 0⟩)
def clsBody : Stmt → List Stmt
  | .ClassDef (body := b) .. => b
  | _ => []
def mth (i j : Nat) : Stmt := (clsBody (top i)).getD j (.Pass ⟨0, 0, 0, 0⟩)
structure Fx (K : PySem.W.Frag) (mg : Str → Option Value) (base : Heap) : Prop where
  f_all : mg "all" = none
  f_bool : mg "bool" = none
  f_dict : mg "dict" = none
  f_enumerate : mg "enumerate" = none
  f_int : mg "int" = none
  f_isinstance : mg "isinstance" = none
  f_len : mg "len" = none
  f_list : mg "list" = none
  f_range : mg "range" = none
  f_set : mg "set" = none
  f_sorted : mg "sorted" = none
  f_tuple : mg "tuple" = none
  c_MOST_LEAPS : ∃ t, mg "MOST_LEAPS" = some (.int 60 t)
  c_MOST_PLACES : ∃ t, mg "MOST_PLACES" = some (.int 12 t)
  cls_Board : Cls K (He.ga K "Board")
  na_Board_leaps : NoAttr K (He.ga K "Board") "leaps"
  na_Board_many : NoAttr K (He.ga K "Board") "many"
  lam_in_order : LamB K mg base "in_order"
  lam_all_standings : LamB K mg base "all_standings"
  d__law_taken : DefF K mg "_law_taken" (top 39)
  d__law_draw_parts : DefF K mg "_law_draw_parts" (top 40)
  d__law_order : DefF K mg "_law_order" (top 42)
  d__law_draw_pegs : DefF K mg "_law_draw_pegs" (top 41)
  d_first_false : DefF K mg "first_false" (top 8)
  d_is_number : DefF K mg "is_number" (top 6)
  d_is_between : DefF K mg "is_between" (top 7)
  d_wrong_peg : DefF K mg "wrong_peg" (top 17)
  d_need_pegs : DefF K mg "need_pegs" (top 19)
  d_in_order : DefF K mg "in_order" (top 28)
  d_can_undo : DefF K mg "can_undo" (top 23)
  d_undone : DefF K mg "undone" (top 25)
  d_backed : DefF K mg "backed" (top 29)
  d_places_of : DefF K mg "places_of" (top 15)
  d_all_standings : DefF K mg "all_standings" (top 20)
  d_widest_bar : DefF K mg "widest_bar" (top 36)
  d_is_leap : DefF K mg "is_leap" (top 12)
  d_wrong_part : DefF K mg "wrong_part" (top 13)
  i_Board : DefI K mg "Board" "Board.__init__" (mth 14 0)
  d__law_all : DefF K mg "_law_all" (top 43)
  d_is_pegs : DefF K mg "is_pegs" (top 18)
  d_need_set : DefF K mg "need_set" (top 30)
  d_can_do : DefF K mg "can_do" (top 22)
  d_done : DefF K mg "done" (top 24)
  d_all_from : DefF K mg "all_from" (top 27)
  d_least_closed : DefF K mg "least_closed" (top 34)
  d_greatest_closed : DefF K mg "greatest_closed" (top 35)
  d_first_left : DefF K mg "first_left" (top 31)
  d_is_closed : DefF K mg "is_closed" (top 32)
  d__law_under : DefF K mg "_law_under" (top 44)
  d_sources_of : DefF K mg "sources_of" (top 37)
  d_law : DefF K mg "law" (top 45)
section
variable {P : Program} {w : World} {K : PySem.W.Frag} {mg : Str → Option Value} {base : Heap}
abbrev n__law_taken : List Str := ["row", "amount", "found", "cell"]
theorem sc__law_taken : FnScope n__law_taken ["row", "amount"] (defScope (top 39)) := ⟨rfl, rfl, rfl, by decide +kernel, rfl, by decide +kernel, by decide +kernel⟩
theorem bb__law_taken : BindsBy "_law_taken" (top 39) ["row", "amount"] := fun _ _ _ _ _ _ us hl => match us, hl with | [_, _], _ => rfl
theorem k__law_taken (F : Fx K mg base) : CalM P w K mg base "_law_taken" 1 2 m__law_taken :=
  cal_M (st := (top 39)) (N := n__law_taken) (ps := ["row", "amount"]) (k := 0) (m := b__law_taken) F.d__law_taken sc__law_taken bb__law_taken fun f cdv A outer s H E h hp ho => (dss_cons (ds_if (dt_cmp (o_gt h.hu) (de_ix h.hu (de_v rfl (by first | exact .inl rfl | exact .inr (.inl rfl) | exact .inr (.inr rfl))) de_int) de_int) (dss_cons (ds_set h.nd rfl (by first | exact .inl rfl | exact .inr rfl) (de_op o_mod (de_tf c_int (by rfl) (by rfl) F.f_int (da_cons (de_ix h.hu (de_v rfl (by first | exact .inl rfl | exact .inr (.inl rfl) | exact .inr (.inr rfl))) de_int) da_nil)) (de_v rfl (by first | exact .inl rfl | exact .inr (.inl rfl) | exact .inr (.inr rfl)))))
    (dss_cons (ds_asg (de_op o_div (de_ix h.hu (de_v rfl (by first | exact .inl rfl | exact .inr (.inl rfl) | exact .inr (.inr rfl))) de_int) (de_v rfl (by first | exact .inl rfl | exact .inr (.inl rfl) | exact .inr (.inr rfl)))) (dg_sub h.hu (de_v rfl (by first | exact .inl rfl | exact .inr (.inl rfl) | exact .inr (.inr rfl))) de_int))
    (dss_one (ds_ret (de_v rfl (by first | exact .inl rfl | exact .inr (.inl rfl) | exact .inr (.inr rfl))))))) dss_nil)
    (dss_cons (ds_asg (de_op o_add (de_ix h.hu (de_v rfl (by first | exact .inl rfl | exact .inr (.inl rfl) | exact .inr (.inr rfl))) de_int) de_int) (dg_sub h.hu (de_v rfl (by first | exact .inl rfl | exact .inr (.inl rfl) | exact .inr (.inr rfl))) de_int))
    (dss_cons (ds_if (dt_cmp (o_gt h.hu) (de_ix h.hu (de_v rfl (by first | exact .inl rfl | exact .inr (.inl rfl) | exact .inr (.inr rfl))) de_int) (de_bf c_len (by rfl) (by rfl) F.f_len (da_cons (de_ix h.hu (de_v rfl (by first | exact .inl rfl | exact .inr (.inl rfl) | exact .inr (.inr rfl))) de_int) da_nil))) (dss_cons (ds_asg (de_op o_mod (de_tf c_int (by rfl) (by rfl) F.f_int (da_cons (de_op o_add (de_op o_mul (de_ix h.hu (de_v rfl (by first | exact .inl rfl | exact .inr (.inl rfl) | exact .inr (.inr rfl))) de_int) de_int) de_int) da_nil)) de_int) (dg_sub h.hu (de_v rfl (by first | exact .inl rfl | exact .inr (.inl rfl) | exact .inr (.inr rfl))) de_int))
    (dss_one (ds_ret (de_op o_mod (de_tf c_int (by rfl) (by rfl) F.f_int (da_cons (de_op o_div (de_ix h.hu (de_v rfl (by first | exact .inl rfl | exact .inr (.inl rfl) | exact .inr (.inr rfl))) de_int) de_int) da_nil)) (de_v rfl (by first | exact .inl rfl | exact .inr (.inl rfl) | exact .inr (.inr rfl))))))) dss_nil)
    (dss_cons (ds_set h.nd rfl (by first | exact .inl rfl | exact .inr rfl) (de_ix h.hu (de_ix h.hu (de_v rfl (by first | exact .inl rfl | exact .inr (.inl rfl) | exact .inr (.inr rfl))) de_int) (de_op o_sub (de_ix h.hu (de_v rfl (by first | exact .inl rfl | exact .inr (.inl rfl) | exact .inr (.inr rfl))) de_int) de_int)))
    (dss_cons (ds_asg (de_op o_mod (de_tf c_int (by rfl) (by rfl) F.f_int (da_cons (de_op o_add (de_op o_add (de_op o_mul (de_ix h.hu (de_v rfl (by first | exact .inl rfl | exact .inr (.inl rfl) | exact .inr (.inr rfl))) de_int) de_int) (de_v rfl (by first | exact .inl rfl | exact .inr (.inl rfl) | exact .inr (.inr rfl)))) de_int) da_nil)) de_int) (dg_sub h.hu (de_v rfl (by first | exact .inl rfl | exact .inr (.inl rfl) | exact .inr (.inr rfl))) de_int))
    (dss_cons (ds_if (dt_cmp (o_ge h.hu) (de_v rfl (by first | exact .inl rfl | exact .inr (.inl rfl) | exact .inr (.inr rfl))) (de_op o_pow de_int de_int)) (dss_cons (ds_asg (de_op o_div (de_v rfl (by first | exact .inl rfl | exact .inr (.inl rfl) | exact .inr (.inr rfl))) (de_v rfl (by first | exact .inl rfl | exact .inr (.inl rfl) | exact .inr (.inr rfl)))) (dg_sub h.hu (de_v rfl (by first | exact .inl rfl | exact .inr (.inl rfl) | exact .inr (.inr rfl))) de_int))
    (dss_one (ds_ret (de_op o_mod (de_tf c_int (by rfl) (by rfl) F.f_int (da_cons (de_v rfl (by first | exact .inl rfl | exact .inr (.inl rfl) | exact .inr (.inr rfl))) da_nil)) (de_v rfl (by first | exact .inl rfl | exact .inr (.inl rfl) | exact .inr (.inr rfl))))))) dss_nil)
    (dss_one (ds_ret (de_op o_mod (de_tf c_int (by rfl) (by rfl) F.f_int (da_cons (de_op o_add (de_op o_mul (de_op o_mod (de_tf c_int (by rfl) (by rfl) F.f_int (da_cons (de_v rfl (by first | exact .inl rfl | exact .inr (.inl rfl) | exact .inr (.inr rfl))) da_nil)) de_int) de_int) (de_op o_div (de_ix h.hu (de_v rfl (by first | exact .inl rfl | exact .inr (.inl rfl) | exact .inr (.inr rfl))) de_int) de_int)) da_nil)) (de_v rfl (by first | exact .inl rfl | exact .inr (.inl rfl) | exact .inr (.inr rfl))))))))))))
abbrev n__law_draw_parts : List Str := ["row", "most", "many", "line", "leaps", "k", "rest", "leap", "j", "one"]
theorem sc__law_draw_parts : FnScope n__law_draw_parts ["row", "most"] (defScope (top 40)) := ⟨rfl, rfl, rfl, by decide +kernel, rfl, by decide +kernel, by decide +kernel⟩
theorem bb__law_draw_parts : BindsBy "_law_draw_parts" (top 40) ["row", "most"] := fun _ _ _ _ _ _ us hl => match us, hl with | [_, _], _ => rfl
theorem k__law_draw_parts (F : Fx K mg base) : CalM P w K mg base "_law_draw_parts" 2 2 m__law_draw_parts :=
  cal_M (st := (top 40)) (N := n__law_draw_parts) (ps := ["row", "most"]) (k := 1) (m := b__law_draw_parts) F.d__law_draw_parts sc__law_draw_parts bb__law_draw_parts fun f cdv A outer s H E h hp ho => (dss_cons (ds_set h.nd rfl (by first | exact .inl rfl | exact .inr rfl) (de_op o_add de_int (de_M h hp (k__law_taken F) (by decide) (da_cons (de_v rfl (by first | exact .inl rfl | exact .inr (.inl rfl) | exact .inr (.inr rfl))) (da_cons (de_op o_sub (de_v rfl (by first | exact .inl rfl | exact .inr (.inl rfl) | exact .inr (.inr rfl))) de_int) da_nil)) ((aCons_len (aCons_len aNil_len))))))
    (dss_cons (ds_if (dt_cmp (o_eq h.hu) (de_M h hp (k__law_taken F) (by decide) (da_cons (de_v rfl (by first | exact .inl rfl | exact .inr (.inl rfl) | exact .inr (.inr rfl))) (da_cons de_int da_nil)) ((aCons_len (aCons_len aNil_len)))) de_int) (dss_cons (ds_setLc h.calm h.nd rfl rfl (sw_true rfl rfl rfl (by kernel_rfl)) (di_rng1 (by rfl) F.f_range (da_cons (de_op o_sub (de_v rfl (by first | exact .inl rfl | exact .inr (.inl rfl) | exact .inr (.inr rfl))) de_int) da_nil) ((aCons_len aNil_len))) (blkOk_by (own := [("k", 5)]) (by kernel_rfl)) (ct_v (by decide)) (fun _ _ _ _ _ => (pg_name h.nd rfl (by first | exact .inl rfl | exact .inr rfl))) (fun _ _ _ _ _ => dts_nil) (fun _ _ _ _ _ => (de_tup (da_cons (de_v rfl (by first | exact .inl rfl | exact .inr (.inl rfl) | exact .inr (.inr rfl))) (da_cons (de_op o_add (de_v rfl (by first | exact .inl rfl | exact .inr (.inl rfl) | exact .inr (.inr rfl))) de_int) (da_cons (de_op o_add (de_v rfl (by first | exact .inl rfl | exact .inr (.inl rfl) | exact .inr (.inr rfl))) de_int) da_nil))))) (.inl rfl))
    (dss_one (ds_ret (de_tup (da_cons (de_v rfl (by first | exact .inl rfl | exact .inr (.inl rfl) | exact .inr (.inr rfl))) (da_cons (de_tf c_tuple (by rfl) (by rfl) F.f_tuple (da_cons (de_bl' (c_sort h.calm h.hu) (by rfl) (by rfl) F.f_sorted (da_cons (de_op o_add (de_v rfl (by first | exact .inl rfl | exact .inr (.inl rfl) | exact .inr (.inr rfl))) (de_comp h.calm h.nd (di_seq (de_v rfl (by first | exact .inl rfl | exact .inr (.inl rfl) | exact .inr (.inr rfl)))) (blkOk_by (own := [("leap", 7)]) (by kernel_rfl)) (ct_v (by decide)) (fun _ _ _ _ _ => (pg_name h.nd rfl (by first | exact .inl rfl | exact .inr rfl))) (fun _ _ _ _ _ => dts_nil) (fun _ _ _ _ _ => (de_rev (de_v rfl (by first | exact .inl rfl | exact .inr (.inl rfl) | exact .inr (.inr rfl))))))) da_nil)) da_nil)) da_nil)))))) dss_nil)
    (dss_cons (ds_set h.nd rfl (by first | exact .inl rfl | exact .inr rfl) (de_lst da_nil))
    (dss_cons (ds_for ho h.calm (di_rng1 (by rfl) F.f_range (da_cons (de_op o_add de_int (de_M h hp (k__law_taken F) (by decide) (da_cons (de_v rfl (by first | exact .inl rfl | exact .inr (.inl rfl) | exact .inr (.inr rfl))) (da_cons de_int da_nil)) ((aCons_len (aCons_len aNil_len))))) da_nil) ((aCons_len aNil_len))) (dg_v h.nd rfl (by first | exact .inl rfl | exact .inr rfl)) (dss_cons (ds_set h.nd rfl (by first | exact .inl rfl | exact .inr rfl) (de_lRg h.calm (by rfl) F.f_list (dr_1 (by rfl) F.f_range (de_v rfl (by first | exact .inl rfl | exact .inr (.inl rfl) | exact .inr (.inr rfl))))))
    (dss_cons (ds_set h.nd rfl (by first | exact .inl rfl | exact .inr rfl) (de_lst da_nil))
    (dss_cons (ds_for ho h.calm (di_rng1 (by rfl) F.f_range (da_cons de_int da_nil) ((aCons_len aNil_len))) (dg_v h.nd rfl (by first | exact .inl rfl | exact .inr rfl)) (dss_cons (ds_set h.nd rfl (by first | exact .inl rfl | exact .inr rfl) (de_op o_add (de_v rfl (by first | exact .inl rfl | exact .inr (.inl rfl) | exact .inr (.inr rfl))) (de_lst (da_cons (de_ix h.hu (de_v rfl (by first | exact .inl rfl | exact .inr (.inl rfl) | exact .inr (.inr rfl))) (de_M h hp (k__law_taken F) (by decide) (da_cons (de_v rfl (by first | exact .inl rfl | exact .inr (.inl rfl) | exact .inr (.inr rfl))) (da_cons (de_bf c_len (by rfl) (by rfl) F.f_len (da_cons (de_v rfl (by first | exact .inl rfl | exact .inr (.inl rfl) | exact .inr (.inr rfl))) da_nil)) da_nil)) ((aCons_len (aCons_len aNil_len))))) da_nil))))
    (dss_one (ds_setLc h.calm h.nd rfl rfl (sw_true rfl rfl rfl (by kernel_rfl)) (di_seq (de_v rfl (by first | exact .inl rfl | exact .inr (.inl rfl) | exact .inr (.inr rfl)))) (blkOk_by (own := [("one", 9)]) (by kernel_rfl)) (ct_v (by decide)) (fun _ _ _ _ _ => (pg_name h.nd rfl (by first | exact .inl rfl | exact .inr rfl))) (fun _ _ _ _ _ => (dts_one (dt_cmp (o_notIn h.blk.hu) (de_v rfl (by first | exact .inl rfl | exact .inr (.inl rfl) | exact .inr (.inr rfl))) (de_v rfl (by first | exact .inl rfl | exact .inr (.inl rfl) | exact .inr (.inr rfl)))))) (fun _ _ _ _ _ => (de_v rfl (by first | exact .inl rfl | exact .inr (.inl rfl) | exact .inr (.inr rfl)))) (.inl rfl)))))
    (dss_one (ds_set h.nd rfl (by first | exact .inl rfl | exact .inr rfl) (de_op o_add (de_v rfl (by first | exact .inl rfl | exact .inr (.inl rfl) | exact .inr (.inr rfl))) (de_lst (da_cons (de_tf c_tuple (by rfl) (by rfl) F.f_tuple (da_cons (de_v rfl (by first | exact .inl rfl | exact .inr (.inl rfl) | exact .inr (.inr rfl))) da_nil)) da_nil)))))))))
    (dss_one (ds_ret (de_tup (da_cons (de_v rfl (by first | exact .inl rfl | exact .inr (.inl rfl) | exact .inr (.inr rfl))) (da_cons (de_tf c_tuple (by rfl) (by rfl) F.f_tuple (da_cons (de_sortedSet h.calm h.hu (by rfl) F.f_sorted (by rfl) F.f_set (de_v rfl (by first | exact .inl rfl | exact .inr (.inl rfl) | exact .inr (.inr rfl)))) da_nil)) da_nil)))))))))
abbrev n__law_order : List Str := ["rows", "pair", "one"]
theorem sc__law_order : FnScope n__law_order ["rows"] (defScope (top 42)) := ⟨rfl, rfl, rfl, by decide +kernel, rfl, by decide +kernel, by decide +kernel⟩
theorem bb__law_order : BindsBy "_law_order" (top 42) ["rows"] := fun _ _ _ _ _ _ us hl => match us, hl with | [_], _ => rfl
theorem k__law_order (F : Fx K mg base) : CalP P w K mg base "_law_order" 1 1 m__law_order :=
  cal_P (st := (top 42)) (N := n__law_order) (ps := ["rows"]) (k := 0) (m := b__law_order) F.d__law_order sc__law_order bb__law_order fun f cdv A outer s H E h hp ho => (dss_one (ds_ret (de_tf c_tuple (by rfl) (by rfl) F.f_tuple (da_cons (de_comp h.calm h.nd (di_seq (de_sortedSet h.calm h.hu (by rfl) F.f_sorted (by rfl) F.f_set (de_comp h.calm h.nd (di_seq (de_v rfl (by first | exact .inl rfl | exact .inr (.inl rfl) | exact .inr (.inr rfl)))) (blkOk_by (own := [("one", 2)]) (by kernel_rfl)) (ct_v (by decide)) (fun _ _ _ _ _ => (pg_name h.nd rfl (by first | exact .inl rfl | exact .inr rfl))) (fun _ _ _ _ _ => dts_nil) (fun _ _ _ _ _ => (de_tup (da_cons (de_bf c_len (by rfl) (by rfl) F.f_len (da_cons (de_v rfl (by first | exact .inl rfl | exact .inr (.inl rfl) | exact .inr (.inr rfl))) da_nil)) (da_cons (de_v rfl (by first | exact .inl rfl | exact .inr (.inl rfl) | exact .inr (.inr rfl))) da_nil))))))) (blkOk_by (own := [("pair", 1)]) (by kernel_rfl)) (ct_v (by decide)) (fun _ _ _ _ _ => (pg_name h.nd rfl (by first | exact .inl rfl | exact .inr rfl))) (fun _ _ _ _ _ => dts_nil) (fun _ _ _ _ _ => (de_ix h.blk.hu (de_v rfl (by first | exact .inl rfl | exact .inr (.inl rfl) | exact .inr (.inr rfl))) de_int))) da_nil))))
abbrev n__law_draw_pegs : List Str := ["row", "many", "k"]
theorem sc__law_draw_pegs : FnScope n__law_draw_pegs ["row", "many"] (defScope (top 41)) := ⟨rfl, rfl, rfl, by decide +kernel, rfl, by decide +kernel, by decide +kernel⟩
theorem bb__law_draw_pegs : BindsBy "_law_draw_pegs" (top 41) ["row", "many"] := fun _ _ _ _ _ _ us hl => match us, hl with | [_, _], _ => rfl
theorem k__law_draw_pegs (F : Fx K mg base) : CalM P w K mg base "_law_draw_pegs" 2 2 m__law_draw_pegs :=
  cal_M (st := (top 41)) (N := n__law_draw_pegs) (ps := ["row", "many"]) (k := 1) (m := b__law_draw_pegs) F.d__law_draw_pegs sc__law_draw_pegs bb__law_draw_pegs fun f cdv A outer s H E h hp ho => (dss_one (ds_ret (de_tf c_tuple (by rfl) (by rfl) F.f_tuple (da_cons (de_comp h.calm h.nd (di_rng1 (by rfl) F.f_range (da_cons (de_v rfl (by first | exact .inl rfl | exact .inr (.inl rfl) | exact .inr (.inr rfl))) da_nil) ((aCons_len aNil_len))) (blkOk_by (own := [("k", 2)]) (by kernel_rfl)) (ct_v (by decide)) (fun _ _ _ _ _ => (pg_name h.nd rfl (by first | exact .inl rfl | exact .inr rfl))) (fun _ _ _ _ _ => (dts_one (dt_cmp (o_gt h.blk.hu) (de_M h.blk passN (k__law_taken F) (by decide) (da_cons (de_v rfl (by first | exact .inl rfl | exact .inr (.inl rfl) | exact .inr (.inr rfl))) (da_cons de_int da_nil)) ((aCons_len (aCons_len aNil_len)))) de_int))) (fun _ _ _ _ _ => (de_v rfl (by first | exact .inl rfl | exact .inr (.inl rfl) | exact .inr (.inr rfl))))) da_nil))))
abbrev n_first_false : List Str := ["marks", "place", "mark"]
theorem sc_first_false : FnScope n_first_false ["marks"] (defScope (top 8)) := ⟨rfl, rfl, rfl, by decide +kernel, rfl, by decide +kernel, by decide +kernel⟩
theorem bb_first_false : BindsBy "first_false" (top 8) ["marks"] := fun _ _ _ _ _ _ us hl => match us, hl with | [_], _ => rfl
theorem k_first_false (F : Fx K mg base) : CalP P w K mg base "first_false" 1 1 m_first_false :=
  cal_P (st := (top 8)) (N := n_first_false) (ps := ["marks"]) (k := 0) (m := b_first_false) F.d_first_false sc_first_false bb_first_false fun f cdv A outer s H E h hp ho => (dss_cons (ds_for ho h.calm (di_en (by rfl) F.f_enumerate (de_v rfl (by first | exact .inl rfl | exact .inr (.inl rfl) | exact .inr (.inr rfl)))) (dg_tup h.calm (dgs_cons (dg_v h.nd rfl (by first | exact .inl rfl | exact .inr rfl)) (dgs_cons (dg_v h.nd rfl (by first | exact .inl rfl | exact .inr rfl)) dgs_nil))) (dss_one (ds_if (dt_not (dt_v (de_v rfl (by first | exact .inl rfl | exact .inr (.inl rfl) | exact .inr (.inr rfl))))) (dss_one (ds_ret (de_v rfl (by first | exact .inl rfl | exact .inr (.inl rfl) | exact .inr (.inr rfl))))) dss_nil)))
    (dss_one (ds_ret de_non)))
abbrev n_is_number : List Str := ["value"]
theorem sc_is_number : FnScope n_is_number ["value"] (defScope (top 6)) := ⟨rfl, rfl, rfl, by decide +kernel, rfl, by decide +kernel, by decide +kernel⟩
theorem bb_is_number : BindsBy "is_number" (top 6) ["value"] := fun _ _ _ _ _ _ us hl => match us, hl with | [_], _ => rfl
theorem k_is_number (F : Fx K mg base) : CalP P w K mg base "is_number" 1 1 m_is_number :=
  cal_P (st := (top 6)) (N := n_is_number) (ps := ["value"]) (k := 0) (m := b_is_number) F.d_is_number sc_is_number bb_is_number fun f cdv A outer s H E h hp ho => (dss_one (ds_ret (de_and (de_isi tyk_int (by rfl) F.f_isinstance (by rfl) F.f_int (by rfl) (de_v rfl (by first | exact .inl rfl | exact .inr (.inl rfl) | exact .inr (.inr rfl)))) (de_one (de_not (de_isi tyk_bool (by rfl) F.f_isinstance (by rfl) F.f_bool (by rfl) (de_v rfl (by first | exact .inl rfl | exact .inr (.inl rfl) | exact .inr (.inr rfl)))))))))
abbrev n_is_between : List Str := ["value", "low", "high"]
theorem sc_is_between : FnScope n_is_between ["value", "low", "high"] (defScope (top 7)) := ⟨rfl, rfl, rfl, by decide +kernel, rfl, by decide +kernel, by decide +kernel⟩
theorem bb_is_between : BindsBy "is_between" (top 7) ["value", "low", "high"] := fun _ _ _ _ _ _ us hl => match us, hl with | [_, _, _], _ => rfl
theorem k_is_between (F : Fx K mg base) : CalP P w K mg base "is_between" 2 3 m_is_between :=
  cal_P (st := (top 7)) (N := n_is_between) (ps := ["value", "low", "high"]) (k := 1) (m := b_is_between) F.d_is_between sc_is_between bb_is_between fun f cdv A outer s H E h hp ho => (dss_one (ds_ret (de_and (de_P h hp (k_is_number F) (by decide) (da_cons (de_v rfl (by first | exact .inl rfl | exact .inr (.inl rfl) | exact .inr (.inr rfl))) da_nil) ((aCons_len aNil_len))) (de_one (de_chain (o_le h.hu) (o_le h.hu) (de_v rfl (by first | exact .inl rfl | exact .inr (.inl rfl) | exact .inr (.inr rfl))) (de_v rfl (by first | exact .inl rfl | exact .inr (.inl rfl) | exact .inr (.inr rfl))) (de_v rfl (by first | exact .inl rfl | exact .inr (.inl rfl) | exact .inr (.inr rfl))))))))
abbrev n_wrong_peg : List Str := ["board", "value", "marks", "place", "one", "is_right"]
theorem sc_wrong_peg : FnScope n_wrong_peg ["board", "value"] (defScope (top 17)) := ⟨rfl, rfl, rfl, by decide +kernel, rfl, by decide +kernel, by decide +kernel⟩
theorem bb_wrong_peg : BindsBy "wrong_peg" (top 17) ["board", "value"] := fun _ _ _ _ _ _ us hl => match us, hl with | [_, _], _ => rfl
theorem k_wrong_peg (F : Fx K mg base) : CalP P w K mg base "wrong_peg" 3 2 m_wrong_peg :=
  cal_P (st := (top 17)) (N := n_wrong_peg) (ps := ["board", "value"]) (k := 2) (m := b_wrong_peg) F.d_wrong_peg sc_wrong_peg bb_wrong_peg fun f cdv A outer s H E h hp ho => (dss_cons (ds_if (dt_not (dt_v (de_isi tyk_tuple (by rfl) F.f_isinstance (by rfl) F.f_tuple (by rfl) (de_v rfl (by first | exact .inl rfl | exact .inr (.inl rfl) | exact .inr (.inr rfl)))))) (dss_one (ds_ret (de_neg de_int))) dss_nil)
    (dss_cons (ds_set h.nd rfl (by first | exact .inl rfl | exact .inr rfl) (de_newL da_nil))
    (dss_cons (ds_for ho h.calm (di_en (by rfl) F.f_enumerate (de_v rfl (by first | exact .inl rfl | exact .inr (.inl rfl) | exact .inr (.inr rfl)))) (dg_tup h.calm (dgs_cons (dg_v h.nd rfl (by first | exact .inl rfl | exact .inr rfl)) (dgs_cons (dg_v h.nd rfl (by first | exact .inl rfl | exact .inr rfl)) dgs_nil))) (dss_cons (ds_set h.nd rfl (by first | exact .inl rfl | exact .inr rfl) (de_P h hp (k_is_between F) (by decide) (da_cons (de_v rfl (by first | exact .inl rfl | exact .inr (.inl rfl) | exact .inr (.inr rfl))) (da_cons de_int (da_cons (de_op o_sub (de_fld F.cls_Board F.na_Board_many (de_v rfl (by first | exact .inl rfl | exact .inr (.inl rfl) | exact .inr (.inr rfl)))) de_int) da_nil))) ((aCons_len (aCons_len (aCons_len aNil_len))))))
    (dss_cons (ds_if (dt_of (dw_and (dt_v (de_v rfl (by first | exact .inl rfl | exact .inr (.inl rfl) | exact .inr (.inr rfl)))) (dw_and (dt_cmp (o_gt h.hu) (de_v rfl (by first | exact .inl rfl | exact .inr (.inl rfl) | exact .inr (.inr rfl))) de_int) (dw_and1 (dt_v (de_ix h.hu (de_v rfl (by first | exact .inl rfl | exact .inr (.inl rfl) | exact .inr (.inr rfl))) (de_neg de_int))))))) (dss_one (ds_set h.nd rfl (by first | exact .inl rfl | exact .inr rfl) (de_cmp (o_lt h.hu) (de_ix h.hu (de_v rfl (by first | exact .inl rfl | exact .inr (.inl rfl) | exact .inr (.inr rfl))) (de_op o_sub (de_v rfl (by first | exact .inl rfl | exact .inr (.inl rfl) | exact .inr (.inr rfl))) de_int)) (de_v rfl (by first | exact .inl rfl | exact .inr (.inl rfl) | exact .inr (.inr rfl)))))) dss_nil)
    (dss_one (ds_expr (de_app (de_v rfl (by first | exact .inl rfl | exact .inr (.inl rfl) | exact .inr (.inr rfl))) (de_v rfl (by first | exact .inl rfl | exact .inr (.inl rfl) | exact .inr (.inr rfl)))))))))
    (dss_one (ds_ret (de_P h hp (k_first_false F) (by decide) (da_cons (de_v rfl (by first | exact .inl rfl | exact .inr (.inl rfl) | exact .inr (.inr rfl))) da_nil) ((aCons_len aNil_len))))))))
abbrev n_need_pegs : List Str := ["board", "value", "wrong"]
theorem sc_need_pegs : FnScope n_need_pegs ["board", "value"] (defScope (top 19)) := ⟨rfl, rfl, rfl, by decide +kernel, rfl, by decide +kernel, by decide +kernel⟩
theorem bb_need_pegs : BindsBy "need_pegs" (top 19) ["board", "value"] := fun _ _ _ _ _ _ us hl => match us, hl with | [_, _], _ => rfl
theorem k_need_pegs (F : Fx K mg base) : CalP P w K mg base "need_pegs" 4 2 m_need_pegs :=
  cal_P (st := (top 19)) (N := n_need_pegs) (ps := ["board", "value"]) (k := 3) (m := b_need_pegs) F.d_need_pegs sc_need_pegs bb_need_pegs fun f cdv A outer s H E h hp ho => (dss_cons (ds_set h.nd rfl (by first | exact .inl rfl | exact .inr rfl) (de_P h hp (k_wrong_peg F) (by decide) (da_cons (de_v rfl (by first | exact .inl rfl | exact .inr (.inl rfl) | exact .inr (.inr rfl))) (da_cons (de_v rfl (by first | exact .inl rfl | exact .inr (.inl rfl) | exact .inr (.inr rfl))) da_nil)) ((aCons_len (aCons_len aNil_len)))))
    (dss_one (ds_if (dt_cmp o_isNot (de_v rfl (by first | exact .inl rfl | exact .inr (.inl rfl) | exact .inr (.inr rfl))) de_non) (dss_one ds_never) dss_nil)))
abbrev n_in_order : List Str := ["standings"]
theorem sc_in_order : FnScope n_in_order ["standings"] (defScope (top 28)) := ⟨rfl, rfl, rfl, by decide +kernel, rfl, by decide +kernel, by decide +kernel⟩
theorem bb_in_order : BindsBy "in_order" (top 28) ["standings"] := fun _ _ _ _ _ _ us hl => match us, hl with | [_], _ => rfl
theorem k_in_order (F : Fx K mg base) : CalP P w K mg base "in_order" 1 1 m_in_order :=
  cal_PL (st := (top 28)) (N := n_in_order) (ps := ["standings"]) (k := 0) (m := b_in_order) F.d_in_order F.lam_in_order sc_in_order bb_in_order fun f cdv A outer s H E h hp ho L => (dss_one (ds_ret (de_tf c_tuple (by rfl) (by rfl) F.f_tuple (da_cons (de_sortK h.hr L rfl (by rfl) F.f_sorted F.f_len (by rfl) kLen_ok ⟨rfl, rfl, rfl, by decide, by decide, rfl, rfl, by decide, by decide, by decide⟩ (de_v rfl (by first | exact .inl rfl | exact .inr (.inl rfl) | exact .inr (.inr rfl)))) da_nil))))
abbrev n_can_undo : List Str := ["pegs", "leap"]
theorem sc_can_undo : FnScope n_can_undo ["pegs", "leap"] (defScope (top 23)) := ⟨rfl, rfl, rfl, by decide +kernel, rfl, by decide +kernel, by decide +kernel⟩
theorem bb_can_undo : BindsBy "can_undo" (top 23) ["pegs", "leap"] := fun _ _ _ _ _ _ us hl => match us, hl with | [_, _], _ => rfl
theorem k_can_undo (F : Fx K mg base) : CalP P w K mg base "can_undo" 1 2 m_can_undo :=
  cal_P (st := (top 23)) (N := n_can_undo) (ps := ["pegs", "leap"]) (k := 0) (m := b_can_undo) F.d_can_undo sc_can_undo bb_can_undo fun f cdv A outer s H E h hp ho => (dss_one (ds_ret (de_and (de_cmp (o_in h.hu) (de_ix h.hu (de_v rfl (by first | exact .inl rfl | exact .inr (.inl rfl) | exact .inr (.inr rfl))) de_int) (de_v rfl (by first | exact .inl rfl | exact .inr (.inl rfl) | exact .inr (.inr rfl)))) (de_and (de_cmp (o_notIn h.hu) (de_ix h.hu (de_v rfl (by first | exact .inl rfl | exact .inr (.inl rfl) | exact .inr (.inr rfl))) de_int) (de_v rfl (by first | exact .inl rfl | exact .inr (.inl rfl) | exact .inr (.inr rfl)))) (de_one (de_cmp (o_notIn h.hu) (de_ix h.hu (de_v rfl (by first | exact .inl rfl | exact .inr (.inl rfl) | exact .inr (.inr rfl))) de_int) (de_v rfl (by first | exact .inl rfl | exact .inr (.inl rfl) | exact .inr (.inr rfl)))))))))
abbrev n_undone : List Str := ["pegs", "leap", "one"]
theorem sc_undone : FnScope n_undone ["pegs", "leap"] (defScope (top 25)) := ⟨rfl, rfl, rfl, by decide +kernel, rfl, by decide +kernel, by decide +kernel⟩
theorem bb_undone : BindsBy "undone" (top 25) ["pegs", "leap"] := fun _ _ _ _ _ _ us hl => match us, hl with | [_, _], _ => rfl
theorem k_undone (F : Fx K mg base) : CalP P w K mg base "undone" 1 2 m_undone :=
  cal_P (st := (top 25)) (N := n_undone) (ps := ["pegs", "leap"]) (k := 0) (m := b_undone) F.d_undone sc_undone bb_undone fun f cdv A outer s H E h hp ho => (dss_one (ds_ret (de_tf c_tuple (by rfl) (by rfl) F.f_tuple (da_cons (de_bl' (c_sort h.calm h.hu) (by rfl) (by rfl) F.f_sorted (da_cons (de_op o_add (de_comp h.calm h.nd (di_seq (de_v rfl (by first | exact .inl rfl | exact .inr (.inl rfl) | exact .inr (.inr rfl)))) (blkOk_by (own := [("one", 2)]) (by kernel_rfl)) (ct_v (by decide)) (fun _ _ _ _ _ => (pg_name h.nd rfl (by first | exact .inl rfl | exact .inr rfl))) (fun _ _ _ _ _ => (dts_one (dt_cmp (o_ne h.blk.hu) (de_v rfl (by first | exact .inl rfl | exact .inr (.inl rfl) | exact .inr (.inr rfl))) (de_ix h.blk.hu (de_v rfl (by first | exact .inl rfl | exact .inr (.inl rfl) | exact .inr (.inr rfl))) de_int)))) (fun _ _ _ _ _ => (de_v rfl (by first | exact .inl rfl | exact .inr (.inl rfl) | exact .inr (.inr rfl))))) (de_tl (c_list2 h.calm) (by rfl) (by rfl) F.f_list (da_cons (de_cut (de_v rfl (by first | exact .inl rfl | exact .inr (.inl rfl) | exact .inr (.inr rfl))) do_none (do_some de_int)) da_nil))) da_nil)) da_nil))))
abbrev n_backed : List Str := ["board", "pegs", "found", "waiting", "here", "leap", "there"]
theorem sc_backed : FnScope n_backed ["board", "pegs"] (defScope (top 29)) := ⟨rfl, rfl, rfl, by decide +kernel, rfl, by decide +kernel, by decide +kernel⟩
theorem bb_backed : BindsBy "backed" (top 29) ["board", "pegs"] := fun _ _ _ _ _ _ us hl => match us, hl with | [_, _], _ => rfl
theorem k_backed (F : Fx K mg base) : CalP P w K mg base "backed" 5 2 m_backed :=
  cal_P (st := (top 29)) (N := n_backed) (ps := ["board", "pegs"]) (k := 4) (m := b_backed) F.d_backed sc_backed bb_backed fun f cdv A outer s H E h hp ho => (dss_cons (ds_expr (de_P h hp (k_need_pegs F) (by decide) (da_cons (de_v rfl (by first | exact .inl rfl | exact .inr (.inl rfl) | exact .inr (.inr rfl))) (da_cons (de_v rfl (by first | exact .inl rfl | exact .inr (.inl rfl) | exact .inr (.inr rfl))) da_nil)) ((aCons_len (aCons_len aNil_len)))))
    (dss_cons (ds_par h.calm h.nd rfl rfl (by decide) rfl rfl (da_cons (de_disp1 h.hu rfl (by first | exact .inl rfl | exact .inr (.inl rfl) | exact .inr (.inr rfl)) pe_bl (fun _ _ _ => rfl)) (da_cons (de_newL (da_cons (de_v rfl (by first | exact .inl rfl | exact .inr (.inl rfl) | exact .inr (.inr rfl))) da_nil)) da_nil)) rfl)
    (dss_cons (ds_while ho (dt_cmp (o_ne h.hu) (de_v rfl (by first | exact .inl rfl | exact .inr (.inl rfl) | exact .inr (.inr rfl))) (de_lst da_nil)) (dss_cons (ds_set h.nd rfl (by first | exact .inl rfl | exact .inr rfl) (de_pop (de_v rfl (by first | exact .inl rfl | exact .inr (.inl rfl) | exact .inr (.inr rfl)))))
    (dss_one (ds_for ho h.calm (di_seq (de_fld F.cls_Board F.na_Board_leaps (de_v rfl (by first | exact .inl rfl | exact .inr (.inl rfl) | exact .inr (.inr rfl))))) (dg_v h.nd rfl (by first | exact .inl rfl | exact .inr rfl)) (dss_one (ds_if (dt_v (de_P h hp (k_can_undo F) (by decide) (da_cons (de_v rfl (by first | exact .inl rfl | exact .inr (.inl rfl) | exact .inr (.inr rfl))) (da_cons (de_v rfl (by first | exact .inl rfl | exact .inr (.inl rfl) | exact .inr (.inr rfl))) da_nil)) ((aCons_len (aCons_len aNil_len))))) (dss_cons (ds_set h.nd rfl (by first | exact .inl rfl | exact .inr rfl) (de_P h hp (k_undone F) (by decide) (da_cons (de_v rfl (by first | exact .inl rfl | exact .inr (.inl rfl) | exact .inr (.inr rfl))) (da_cons (de_v rfl (by first | exact .inl rfl | exact .inr (.inl rfl) | exact .inr (.inr rfl))) da_nil)) ((aCons_len (aCons_len aNil_len)))))
    (dss_one (ds_if (dt_cmp (o_notIn h.hu) (de_v rfl (by first | exact .inl rfl | exact .inr (.inl rfl) | exact .inr (.inr rfl))) (de_v rfl (by first | exact .inl rfl | exact .inr (.inl rfl) | exact .inr (.inr rfl)))) (dss_cons (ds_asg de_bl (dg_sub h.hu (de_v rfl (by first | exact .inl rfl | exact .inr (.inl rfl) | exact .inr (.inr rfl))) (de_v rfl (by first | exact .inl rfl | exact .inr (.inl rfl) | exact .inr (.inr rfl)))))
    (dss_one (ds_expr (de_app (de_v rfl (by first | exact .inl rfl | exact .inr (.inl rfl) | exact .inr (.inr rfl))) (de_v rfl (by first | exact .inl rfl | exact .inr (.inl rfl) | exact .inr (.inr rfl))))))) dss_nil))) dss_nil))))))
    (dss_one (ds_ret (de_P h hp (k_in_order F) (by decide) (da_cons (de_tl (c_list2 h.calm) (by rfl) (by rfl) F.f_list (da_cons (de_v rfl (by first | exact .inl rfl | exact .inr (.inl rfl) | exact .inr (.inr rfl))) da_nil)) da_nil) ((aCons_len aNil_len))))))))
abbrev n_places_of : List Str := ["board"]
theorem sc_places_of : FnScope n_places_of ["board"] (defScope (top 15)) := ⟨rfl, rfl, rfl, by decide +kernel, rfl, by decide +kernel, by decide +kernel⟩
theorem bb_places_of : BindsBy "places_of" (top 15) ["board"] := fun _ _ _ _ _ _ us hl => match us, hl with | [_], _ => rfl
theorem k_places_of (F : Fx K mg base) : CalP P w K mg base "places_of" 1 1 m_places_of :=
  cal_P (st := (top 15)) (N := n_places_of) (ps := ["board"]) (k := 0) (m := b_places_of) F.d_places_of sc_places_of bb_places_of fun f cdv A outer s H E h hp ho => (dss_one (ds_ret (de_tRg h.calm (by rfl) F.f_tuple (dr_1 (by rfl) F.f_range (de_fld F.cls_Board F.na_Board_many (de_v rfl (by first | exact .inl rfl | exact .inr (.inl rfl) | exact .inr (.inr rfl))))))))
abbrev n_all_standings : List Str := ["board", "found", "place", "row"]
theorem sc_all_standings : FnScope n_all_standings ["board"] (defScope (top 20)) := ⟨rfl, rfl, rfl, by decide +kernel, rfl, by decide +kernel, by decide +kernel⟩
theorem bb_all_standings : BindsBy "all_standings" (top 20) ["board"] := fun _ _ _ _ _ _ us hl => match us, hl with | [_], _ => rfl
theorem k_all_standings (F : Fx K mg base) : CalP P w K mg base "all_standings" 2 1 m_all_standings :=
  cal_PL (st := (top 20)) (N := n_all_standings) (ps := ["board"]) (k := 1) (m := b_all_standings) F.d_all_standings F.lam_all_standings sc_all_standings bb_all_standings fun f cdv A outer s H E h hp ho L => (dss_cons (ds_set h.nd rfl (by first | exact .inl rfl | exact .inr rfl) (de_lst (da_cons (de_tup da_nil) da_nil)))
    (dss_cons (ds_for ho h.calm (di_seq (de_P h hp (k_places_of F) (by decide) (da_cons (de_v rfl (by first | exact .inl rfl | exact .inr (.inl rfl) | exact .inr (.inr rfl))) da_nil) ((aCons_len aNil_len)))) (dg_v h.nd rfl (by first | exact .inl rfl | exact .inr rfl)) (dss_one (ds_set h.nd rfl (by first | exact .inl rfl | exact .inr rfl) (de_op o_add (de_v rfl (by first | exact .inl rfl | exact .inr (.inl rfl) | exact .inr (.inr rfl))) (de_comp h.calm h.nd (di_seq (de_v rfl (by first | exact .inl rfl | exact .inr (.inl rfl) | exact .inr (.inr rfl)))) (blkOk_by (own := [("row", 3)]) (by kernel_rfl)) (ct_v (by decide)) (fun _ _ _ _ _ => (pg_name h.nd rfl (by first | exact .inl rfl | exact .inr rfl))) (fun _ _ _ _ _ => dts_nil) (fun _ _ _ _ _ => (de_op o_add (de_v rfl (by first | exact .inl rfl | exact .inr (.inl rfl) | exact .inr (.inr rfl))) (de_tup (da_cons (de_v rfl (by first | exact .inl rfl | exact .inr (.inl rfl) | exact .inr (.inr rfl))) da_nil)))))))))
    (dss_one (ds_ret (de_tf c_tuple (by rfl) (by rfl) F.f_tuple (da_cons (de_sortK h.hr L rfl (by rfl) F.f_sorted F.f_len (by rfl) kLen_ok ⟨rfl, rfl, rfl, by decide, by decide, rfl, rfl, by decide, by decide, by decide⟩ (de_v rfl (by first | exact .inl rfl | exact .inr (.inl rfl) | exact .inr (.inr rfl)))) da_nil))))))
abbrev n_widest_bar : List Str := ["board", "goal", "known", "one"]
theorem sc_widest_bar : FnScope n_widest_bar ["board", "goal"] (defScope (top 36)) := ⟨rfl, rfl, rfl, by decide +kernel, rfl, by decide +kernel, by decide +kernel⟩
theorem bb_widest_bar : BindsBy "widest_bar" (top 36) ["board", "goal"] := fun _ _ _ _ _ _ us hl => match us, hl with | [_, _], _ => rfl
theorem k_widest_bar (F : Fx K mg base) : CalP P w K mg base "widest_bar" 6 2 m_widest_bar :=
  cal_P (st := (top 36)) (N := n_widest_bar) (ps := ["board", "goal"]) (k := 5) (m := b_widest_bar) F.d_widest_bar sc_widest_bar bb_widest_bar fun f cdv A outer s H E h hp ho => (dss_cons (ds_expr (de_P h hp (k_need_pegs F) (by decide) (da_cons (de_v rfl (by first | exact .inl rfl | exact .inr (.inl rfl) | exact .inr (.inr rfl))) (da_cons (de_v rfl (by first | exact .inl rfl | exact .inr (.inl rfl) | exact .inr (.inr rfl))) da_nil)) ((aCons_len (aCons_len aNil_len)))))
    (dss_cons (ds_set h.nd rfl (by first | exact .inl rfl | exact .inr rfl) (de_dp2 h.calm h.hu (by rfl) F.f_dict (da_cons (de_comp h.calm h.nd (di_seq (de_P h hp (k_backed F) (by decide) (da_cons (de_v rfl (by first | exact .inl rfl | exact .inr (.inl rfl) | exact .inr (.inr rfl))) (da_cons (de_v rfl (by first | exact .inl rfl | exact .inr (.inl rfl) | exact .inr (.inr rfl))) da_nil)) ((aCons_len (aCons_len aNil_len))))) (blkOk_by (own := [("one", 3)]) (by kernel_rfl)) (ct_v (by decide)) (fun _ _ _ _ _ => (pg_name h.nd rfl (by first | exact .inl rfl | exact .inr rfl))) (fun _ _ _ _ _ => dts_nil) (fun _ _ _ _ _ => (de_tup (da_cons (de_v rfl (by first | exact .inl rfl | exact .inr (.inl rfl) | exact .inr (.inr rfl))) (da_cons de_bl da_nil))))) da_nil)))
    (dss_one (ds_ret (de_tf c_tuple (by rfl) (by rfl) F.f_tuple (da_cons (de_comp h.calm h.nd (di_seq (de_P h hp (k_all_standings F) (by decide) (da_cons (de_v rfl (by first | exact .inl rfl | exact .inr (.inl rfl) | exact .inr (.inr rfl))) da_nil) ((aCons_len aNil_len)))) (blkOk_by (own := [("one", 3)]) (by kernel_rfl)) (ct_v (by decide)) (fun _ _ _ _ _ => (pg_name h.nd rfl (by first | exact .inl rfl | exact .inr rfl))) (fun _ _ _ _ _ => (dts_one (dt_cmp (o_notIn h.blk.hu) (de_v rfl (by first | exact .inl rfl | exact .inr (.inl rfl) | exact .inr (.inr rfl))) (de_v rfl (by first | exact .inl rfl | exact .inr (.inl rfl) | exact .inr (.inr rfl)))))) (fun _ _ _ _ _ => (de_v rfl (by first | exact .inl rfl | exact .inr (.inl rfl) | exact .inr (.inr rfl))))) da_nil))))))
abbrev n_is_leap : List Str := ["value", "many", "one"]
theorem sc_is_leap : FnScope n_is_leap ["value", "many"] (defScope (top 12)) := ⟨rfl, rfl, rfl, by decide +kernel, rfl, by decide +kernel, by decide +kernel⟩
theorem bb_is_leap : BindsBy "is_leap" (top 12) ["value", "many"] := fun _ _ _ _ _ _ us hl => match us, hl with | [_, _], _ => rfl
theorem k_is_leap (F : Fx K mg base) : CalP P w K mg base "is_leap" 3 2 m_is_leap :=
  cal_P (st := (top 12)) (N := n_is_leap) (ps := ["value", "many"]) (k := 2) (m := b_is_leap) F.d_is_leap sc_is_leap bb_is_leap fun f cdv A outer s H E h hp ho => (dss_cons (ds_if (dt_of (dw_or (dt_not (dt_v (de_isi tyk_tuple (by rfl) F.f_isinstance (by rfl) F.f_tuple (by rfl) (de_v rfl (by first | exact .inl rfl | exact .inr (.inl rfl) | exact .inr (.inr rfl)))))) (dw_or1 (dt_cmp (o_ne h.hu) (de_bf c_len (by rfl) (by rfl) F.f_len (da_cons (de_v rfl (by first | exact .inl rfl | exact .inr (.inl rfl) | exact .inr (.inr rfl))) da_nil)) de_int)))) (dss_one (ds_ret de_bl)) dss_nil)
    (dss_one (ds_ret (de_and (de_bf (c_all h.calm) (by rfl) (by rfl) F.f_all (da_cons (de_comp h.calm h.nd (di_seq (de_v rfl (by first | exact .inl rfl | exact .inr (.inl rfl) | exact .inr (.inr rfl)))) (blkOk_by (own := [("one", 2)]) (by kernel_rfl)) (ct_v (by decide)) (fun _ _ _ _ _ => (pg_name h.nd rfl (by first | exact .inl rfl | exact .inr rfl))) (fun _ _ _ _ _ => dts_nil) (fun _ _ _ _ _ => (de_P h.blk passN (k_is_between F) (by decide) (da_cons (de_v rfl (by first | exact .inl rfl | exact .inr (.inl rfl) | exact .inr (.inr rfl))) (da_cons de_int (da_cons (de_op o_sub (de_v rfl (by first | exact .inl rfl | exact .inr (.inl rfl) | exact .inr (.inr rfl))) de_int) da_nil))) ((aCons_len (aCons_len (aCons_len aNil_len))))))) da_nil)) (de_one (de_cmp (o_eq h.hu) (de_lenSet h.calm h.hu (by rfl) F.f_len (by rfl) F.f_set (de_v rfl (by first | exact .inl rfl | exact .inr (.inl rfl) | exact .inr (.inr rfl)))) de_int))))))
abbrev n_wrong_part : List Str := ["value", "many", "leaps", "marks", "place", "leap", "is_right", "wrong"]
theorem sc_wrong_part : FnScope n_wrong_part ["value"] (defScope (top 13)) := ⟨rfl, rfl, rfl, by decide +kernel, rfl, by decide +kernel, by decide +kernel⟩
theorem bb_wrong_part : BindsBy "wrong_part" (top 13) ["value"] := fun _ _ _ _ _ _ us hl => match us, hl with | [_], _ => rfl
theorem k_wrong_part (F : Fx K mg base) : CalP P w K mg base "wrong_part" 4 1 m_wrong_part :=
  cal_P (st := (top 13)) (N := n_wrong_part) (ps := ["value"]) (k := 3) (m := b_wrong_part) F.d_wrong_part sc_wrong_part bb_wrong_part fun f cdv A outer s H E h hp ho => (dss_cons (ds_if (dt_of (dw_or (dt_not (dt_v (de_isi tyk_tuple (by rfl) F.f_isinstance (by rfl) F.f_tuple (by rfl) (de_v rfl (by first | exact .inl rfl | exact .inr (.inl rfl) | exact .inr (.inr rfl)))))) (dw_or (dt_cmp (o_ne h.hu) (de_bf c_len (by rfl) (by rfl) F.f_len (da_cons (de_v rfl (by first | exact .inl rfl | exact .inr (.inl rfl) | exact .inr (.inr rfl))) da_nil)) de_int) (dw_or1 (dt_not (dt_v (de_P h hp (k_is_between F) (by decide) (da_cons (de_ix h.hu (de_v rfl (by first | exact .inl rfl | exact .inr (.inl rfl) | exact .inr (.inr rfl))) de_int) (da_cons de_int (da_cons (de_gint F.c_MOST_PLACES) da_nil))) ((aCons_len (aCons_len (aCons_len aNil_len))))))))))) (dss_one (ds_ret de_int)) dss_nil)
    (dss_cons (ds_asg (de_v rfl (by first | exact .inl rfl | exact .inr (.inl rfl) | exact .inr (.inr rfl))) (dg_tup h.calm (dgs_cons (dg_v h.nd rfl (by first | exact .inl rfl | exact .inr rfl)) (dgs_cons (dg_v h.nd rfl (by first | exact .inl rfl | exact .inr rfl)) dgs_nil))))
    (dss_cons (ds_if (dt_of (dw_or (dt_not (dt_v (de_isi tyk_tuple (by rfl) F.f_isinstance (by rfl) F.f_tuple (by rfl) (de_v rfl (by first | exact .inl rfl | exact .inr (.inl rfl) | exact .inr (.inr rfl)))))) (dw_or1 (dt_cmp (o_gt h.hu) (de_bf c_len (by rfl) (by rfl) F.f_len (da_cons (de_v rfl (by first | exact .inl rfl | exact .inr (.inl rfl) | exact .inr (.inr rfl))) da_nil)) (de_gint F.c_MOST_LEAPS))))) (dss_one (ds_ret de_int)) dss_nil)
    (dss_cons (ds_set h.nd rfl (by first | exact .inl rfl | exact .inr rfl) (de_newL da_nil))
    (dss_cons (ds_for ho h.calm (di_en (by rfl) F.f_enumerate (de_v rfl (by first | exact .inl rfl | exact .inr (.inl rfl) | exact .inr (.inr rfl)))) (dg_tup h.calm (dgs_cons (dg_v h.nd rfl (by first | exact .inl rfl | exact .inr rfl)) (dgs_cons (dg_v h.nd rfl (by first | exact .inl rfl | exact .inr rfl)) dgs_nil))) (dss_cons (ds_set h.nd rfl (by first | exact .inl rfl | exact .inr rfl) (de_P h hp (k_is_leap F) (by decide) (da_cons (de_v rfl (by first | exact .inl rfl | exact .inr (.inl rfl) | exact .inr (.inr rfl))) (da_cons (de_v rfl (by first | exact .inl rfl | exact .inr (.inl rfl) | exact .inr (.inr rfl))) da_nil)) ((aCons_len (aCons_len aNil_len)))))
    (dss_cons (ds_if (dt_of (dw_and (dt_v (de_v rfl (by first | exact .inl rfl | exact .inr (.inl rfl) | exact .inr (.inr rfl)))) (dw_and (dt_cmp (o_gt h.hu) (de_v rfl (by first | exact .inl rfl | exact .inr (.inl rfl) | exact .inr (.inr rfl))) de_int) (dw_and1 (dt_v (de_ix h.hu (de_v rfl (by first | exact .inl rfl | exact .inr (.inl rfl) | exact .inr (.inr rfl))) (de_neg de_int))))))) (dss_one (ds_set h.nd rfl (by first | exact .inl rfl | exact .inr rfl) (de_cmp (o_lt h.hu) (de_ix h.hu (de_v rfl (by first | exact .inl rfl | exact .inr (.inl rfl) | exact .inr (.inr rfl))) (de_op o_sub (de_v rfl (by first | exact .inl rfl | exact .inr (.inl rfl) | exact .inr (.inr rfl))) de_int)) (de_v rfl (by first | exact .inl rfl | exact .inr (.inl rfl) | exact .inr (.inr rfl)))))) dss_nil)
    (dss_one (ds_expr (de_app (de_v rfl (by first | exact .inl rfl | exact .inr (.inl rfl) | exact .inr (.inr rfl))) (de_v rfl (by first | exact .inl rfl | exact .inr (.inl rfl) | exact .inr (.inr rfl)))))))))
    (dss_cons (ds_set h.nd rfl (by first | exact .inl rfl | exact .inr rfl) (de_P h hp (k_first_false F) (by decide) (da_cons (de_v rfl (by first | exact .inl rfl | exact .inr (.inl rfl) | exact .inr (.inr rfl))) da_nil) ((aCons_len aNil_len))))
    (dss_one (ds_ret (de_if (dt_cmp o_is (de_v rfl (by first | exact .inl rfl | exact .inr (.inl rfl) | exact .inr (.inr rfl))) de_non) de_non (de_op o_add (de_v rfl (by first | exact .inl rfl | exact .inr (.inl rfl) | exact .inr (.inr rfl))) de_int))))))))))
abbrev n_Board : List Str := ["self", "parts", "wrong"]
theorem sc_Board : FnScope n_Board ["self", "parts"] (defScope (mth 14 0)) := ⟨rfl, rfl, rfl, by decide +kernel, rfl, by decide +kernel, by decide +kernel⟩
theorem bb_Board : BindsI "Board.__init__" (mth 14 0) ["self", "parts"] := fun _ _ _ _ _ _ us hl => match us, hl with | [_, _], _ => rfl
theorem k_Board (F : Fx K mg base) : CalI P w K mg base "Board" 5 1 m_Board :=
  cal_I (c := "Board") (qual := "Board.__init__") (st := (mth 14 0)) (N := n_Board) (ps := ["self", "parts"]) (k := 4) (n := 1) (m := b_Board) F.i_Board sc_Board rfl bb_Board fun f cdv A outer s H E h hp ho => (dss_cons (ds_set h.nd rfl (by first | exact .inl rfl | exact .inr rfl) (de_P h hp (k_wrong_part F) (by decide) (da_cons (de_v rfl (by first | exact .inl rfl | exact .inr (.inl rfl) | exact .inr (.inr rfl))) da_nil) ((aCons_len aNil_len))))
    (dss_cons (ds_if (dt_cmp o_isNot (de_v rfl (by first | exact .inl rfl | exact .inr (.inl rfl) | exact .inr (.inr rfl))) de_non) (dss_one ds_never) dss_nil)
    (dss_cons (ds_fset F.cls_Board F.na_Board_many (de_v rfl (by first | exact .inl rfl | exact .inr (.inl rfl) | exact .inr (.inr rfl))) (de_ix h.hu (de_v rfl (by first | exact .inl rfl | exact .inr (.inl rfl) | exact .inr (.inr rfl))) de_int))
    (dss_one (ds_fset F.cls_Board F.na_Board_leaps (de_v rfl (by first | exact .inl rfl | exact .inr (.inl rfl) | exact .inr (.inr rfl))) (de_ix h.hu (de_v rfl (by first | exact .inl rfl | exact .inr (.inl rfl) | exact .inr (.inr rfl))) de_int))))))
abbrev n__law_all : List Str := ["many", "bits", "k"]
theorem sc__law_all : FnScope n__law_all ["many"] (defScope (top 43)) := ⟨rfl, rfl, rfl, by decide +kernel, rfl, by decide +kernel, by decide +kernel⟩
theorem bb__law_all : BindsBy "_law_all" (top 43) ["many"] := fun _ _ _ _ _ _ us hl => match us, hl with | [_], _ => rfl
theorem k__law_all (F : Fx K mg base) : CalP P w K mg base "_law_all" 2 1 m__law_all :=
  cal_P (st := (top 43)) (N := n__law_all) (ps := ["many"]) (k := 1) (m := b__law_all) F.d__law_all sc__law_all bb__law_all fun f cdv A outer s H E h hp ho => (dss_one (ds_ret (de_P h hp (k__law_order F) (by decide) (da_cons (de_comp h.calm h.nd (di_rng1 (by rfl) F.f_range (da_cons (de_op o_shl de_int (de_v rfl (by first | exact .inl rfl | exact .inr (.inl rfl) | exact .inr (.inr rfl)))) da_nil) ((aCons_len aNil_len))) (blkOk_by (own := [("bits", 1)]) (by kernel_rfl)) (ct_v (by decide)) (fun _ _ _ _ _ => (pg_name h.nd rfl (by first | exact .inl rfl | exact .inr rfl))) (fun _ _ _ _ _ => dts_nil) (fun _ _ _ _ _ => (de_tf c_tuple (by rfl) (by rfl) F.f_tuple (da_cons (de_comp h.blk.calm h.blk.nd (di_rng1 (by rfl) F.f_range (da_cons (de_v rfl (by first | exact .inl rfl | exact .inr (.inl rfl) | exact .inr (.inr rfl))) da_nil) ((aCons_len aNil_len))) (blkOk_by (own := [("k", 2)]) (by kernel_rfl)) (ct_v (by decide)) (fun _ _ _ _ _ => (pg_name h.blk.nd rfl (by first | exact .inl rfl | exact .inr rfl))) (fun _ _ _ _ _ => (dts_one (dt_cmp (o_eq h.blk.blk.hu) (de_op o_and (de_op o_shr (de_v rfl (by first | exact .inl rfl | exact .inr (.inl rfl) | exact .inr (.inr rfl))) (de_v rfl (by first | exact .inl rfl | exact .inr (.inl rfl) | exact .inr (.inr rfl)))) de_int) de_int))) (fun _ _ _ _ _ => (de_v rfl (by first | exact .inl rfl | exact .inr (.inl rfl) | exact .inr (.inr rfl))))) da_nil)))) da_nil) ((aCons_len aNil_len)))))
abbrev n_is_pegs : List Str := ["board", "value"]
theorem sc_is_pegs : FnScope n_is_pegs ["board", "value"] (defScope (top 18)) := ⟨rfl, rfl, rfl, by decide +kernel, rfl, by decide +kernel, by decide +kernel⟩
theorem bb_is_pegs : BindsBy "is_pegs" (top 18) ["board", "value"] := fun _ _ _ _ _ _ us hl => match us, hl with | [_, _], _ => rfl
theorem k_is_pegs (F : Fx K mg base) : CalP P w K mg base "is_pegs" 4 2 m_is_pegs :=
  cal_P (st := (top 18)) (N := n_is_pegs) (ps := ["board", "value"]) (k := 3) (m := b_is_pegs) F.d_is_pegs sc_is_pegs bb_is_pegs fun f cdv A outer s H E h hp ho => (dss_one (ds_ret (de_cmp o_is (de_P h hp (k_wrong_peg F) (by decide) (da_cons (de_v rfl (by first | exact .inl rfl | exact .inr (.inl rfl) | exact .inr (.inr rfl))) (da_cons (de_v rfl (by first | exact .inl rfl | exact .inr (.inl rfl) | exact .inr (.inr rfl))) da_nil)) ((aCons_len (aCons_len aNil_len)))) de_non)))
abbrev n_need_set : List Str := ["board", "standings", "marks", "place", "one", "is_right", "last", "wrong"]
theorem sc_need_set : FnScope n_need_set ["board", "standings"] (defScope (top 30)) := ⟨rfl, rfl, rfl, by decide +kernel, rfl, by decide +kernel, by decide +kernel⟩
theorem bb_need_set : BindsBy "need_set" (top 30) ["board", "standings"] := fun _ _ _ _ _ _ us hl => match us, hl with | [_, _], _ => rfl
theorem k_need_set (F : Fx K mg base) : CalP P w K mg base "need_set" 5 2 m_need_set :=
  cal_P (st := (top 30)) (N := n_need_set) (ps := ["board", "standings"]) (k := 4) (m := b_need_set) F.d_need_set sc_need_set bb_need_set fun f cdv A outer s H E h hp ho => (dss_cons (ds_if (dt_not (dt_v (de_isi tyk_tuple (by rfl) F.f_isinstance (by rfl) F.f_tuple (by rfl) (de_v rfl (by first | exact .inl rfl | exact .inr (.inl rfl) | exact .inr (.inr rfl)))))) (dss_one ds_never) dss_nil)
    (dss_cons (ds_set h.nd rfl (by first | exact .inl rfl | exact .inr rfl) (de_newL da_nil))
    (dss_cons (ds_for ho h.calm (di_en (by rfl) F.f_enumerate (de_v rfl (by first | exact .inl rfl | exact .inr (.inl rfl) | exact .inr (.inr rfl)))) (dg_tup h.calm (dgs_cons (dg_v h.nd rfl (by first | exact .inl rfl | exact .inr rfl)) (dgs_cons (dg_v h.nd rfl (by first | exact .inl rfl | exact .inr rfl)) dgs_nil))) (dss_cons (ds_set h.nd rfl (by first | exact .inl rfl | exact .inr rfl) (de_P h hp (k_is_pegs F) (by decide) (da_cons (de_v rfl (by first | exact .inl rfl | exact .inr (.inl rfl) | exact .inr (.inr rfl))) (da_cons (de_v rfl (by first | exact .inl rfl | exact .inr (.inl rfl) | exact .inr (.inr rfl))) da_nil)) ((aCons_len (aCons_len aNil_len)))))
    (dss_cons (ds_if (dt_of (dw_and (dt_v (de_v rfl (by first | exact .inl rfl | exact .inr (.inl rfl) | exact .inr (.inr rfl)))) (dw_and (dt_cmp (o_gt h.hu) (de_v rfl (by first | exact .inl rfl | exact .inr (.inl rfl) | exact .inr (.inr rfl))) de_int) (dw_and1 (dt_v (de_ix h.hu (de_v rfl (by first | exact .inl rfl | exact .inr (.inl rfl) | exact .inr (.inr rfl))) (de_neg de_int))))))) (dss_cons (ds_set h.nd rfl (by first | exact .inl rfl | exact .inr rfl) (de_ix h.hu (de_v rfl (by first | exact .inl rfl | exact .inr (.inl rfl) | exact .inr (.inr rfl))) (de_op o_sub (de_v rfl (by first | exact .inl rfl | exact .inr (.inl rfl) | exact .inr (.inr rfl))) de_int)))
    (dss_one (ds_set h.nd rfl (by first | exact .inl rfl | exact .inr rfl) (de_cmp (o_lt h.hu) (de_tup (da_cons (de_bf c_len (by rfl) (by rfl) F.f_len (da_cons (de_v rfl (by first | exact .inl rfl | exact .inr (.inl rfl) | exact .inr (.inr rfl))) da_nil)) (da_cons (de_v rfl (by first | exact .inl rfl | exact .inr (.inl rfl) | exact .inr (.inr rfl))) da_nil))) (de_tup (da_cons (de_bf c_len (by rfl) (by rfl) F.f_len (da_cons (de_v rfl (by first | exact .inl rfl | exact .inr (.inl rfl) | exact .inr (.inr rfl))) da_nil)) (da_cons (de_v rfl (by first | exact .inl rfl | exact .inr (.inl rfl) | exact .inr (.inr rfl))) da_nil))))))) dss_nil)
    (dss_one (ds_expr (de_app (de_v rfl (by first | exact .inl rfl | exact .inr (.inl rfl) | exact .inr (.inr rfl))) (de_v rfl (by first | exact .inl rfl | exact .inr (.inl rfl) | exact .inr (.inr rfl)))))))))
    (dss_cons (ds_set h.nd rfl (by first | exact .inl rfl | exact .inr rfl) (de_P h hp (k_first_false F) (by decide) (da_cons (de_v rfl (by first | exact .inl rfl | exact .inr (.inl rfl) | exact .inr (.inr rfl))) da_nil) ((aCons_len aNil_len))))
    (dss_one (ds_if (dt_cmp o_isNot (de_v rfl (by first | exact .inl rfl | exact .inr (.inl rfl) | exact .inr (.inr rfl))) de_non) (dss_one ds_never) dss_nil))))))
abbrev n_can_do : List Str := ["pegs", "leap"]
theorem sc_can_do : FnScope n_can_do ["pegs", "leap"] (defScope (top 22)) := ⟨rfl, rfl, rfl, by decide +kernel, rfl, by decide +kernel, by decide +kernel⟩
theorem bb_can_do : BindsBy "can_do" (top 22) ["pegs", "leap"] := fun _ _ _ _ _ _ us hl => match us, hl with | [_, _], _ => rfl
theorem k_can_do (F : Fx K mg base) : CalP P w K mg base "can_do" 1 2 m_can_do :=
  cal_P (st := (top 22)) (N := n_can_do) (ps := ["pegs", "leap"]) (k := 0) (m := b_can_do) F.d_can_do sc_can_do bb_can_do fun f cdv A outer s H E h hp ho => (dss_one (ds_ret (de_and (de_cmp (o_in h.hu) (de_ix h.hu (de_v rfl (by first | exact .inl rfl | exact .inr (.inl rfl) | exact .inr (.inr rfl))) de_int) (de_v rfl (by first | exact .inl rfl | exact .inr (.inl rfl) | exact .inr (.inr rfl)))) (de_and (de_cmp (o_in h.hu) (de_ix h.hu (de_v rfl (by first | exact .inl rfl | exact .inr (.inl rfl) | exact .inr (.inr rfl))) de_int) (de_v rfl (by first | exact .inl rfl | exact .inr (.inl rfl) | exact .inr (.inr rfl)))) (de_one (de_cmp (o_notIn h.hu) (de_ix h.hu (de_v rfl (by first | exact .inl rfl | exact .inr (.inl rfl) | exact .inr (.inr rfl))) de_int) (de_v rfl (by first | exact .inl rfl | exact .inr (.inl rfl) | exact .inr (.inr rfl)))))))))
abbrev n_done : List Str := ["pegs", "leap", "one"]
theorem sc_done : FnScope n_done ["pegs", "leap"] (defScope (top 24)) := ⟨rfl, rfl, rfl, by decide +kernel, rfl, by decide +kernel, by decide +kernel⟩
theorem bb_done : BindsBy "done" (top 24) ["pegs", "leap"] := fun _ _ _ _ _ _ us hl => match us, hl with | [_, _], _ => rfl
theorem k_done (F : Fx K mg base) : CalP P w K mg base "done" 1 2 m_done :=
  cal_P (st := (top 24)) (N := n_done) (ps := ["pegs", "leap"]) (k := 0) (m := b_done) F.d_done sc_done bb_done fun f cdv A outer s H E h hp ho => (dss_one (ds_ret (de_tf c_tuple (by rfl) (by rfl) F.f_tuple (da_cons (de_bl' (c_sort h.calm h.hu) (by rfl) (by rfl) F.f_sorted (da_cons (de_op o_add (de_comp h.calm h.nd (di_seq (de_v rfl (by first | exact .inl rfl | exact .inr (.inl rfl) | exact .inr (.inr rfl)))) (blkOk_by (own := [("one", 2)]) (by kernel_rfl)) (ct_v (by decide)) (fun _ _ _ _ _ => (pg_name h.nd rfl (by first | exact .inl rfl | exact .inr rfl))) (fun _ _ _ _ _ => (dts_one (dt_cmp (o_notIn h.blk.hu) (de_v rfl (by first | exact .inl rfl | exact .inr (.inl rfl) | exact .inr (.inr rfl))) (de_cut (de_v rfl (by first | exact .inl rfl | exact .inr (.inl rfl) | exact .inr (.inr rfl))) do_none (do_some de_int))))) (fun _ _ _ _ _ => (de_v rfl (by first | exact .inl rfl | exact .inr (.inl rfl) | exact .inr (.inr rfl))))) (de_lst (da_cons (de_ix h.hu (de_v rfl (by first | exact .inl rfl | exact .inr (.inl rfl) | exact .inr (.inr rfl))) de_int) da_nil))) da_nil)) da_nil))))
abbrev n_all_from : List Str := ["board", "pegs", "found", "waiting", "here", "leap", "there"]
theorem sc_all_from : FnScope n_all_from ["board", "pegs"] (defScope (top 27)) := ⟨rfl, rfl, rfl, by decide +kernel, rfl, by decide +kernel, by decide +kernel⟩
theorem bb_all_from : BindsBy "all_from" (top 27) ["board", "pegs"] := fun _ _ _ _ _ _ us hl => match us, hl with | [_, _], _ => rfl
theorem k_all_from (F : Fx K mg base) : CalP P w K mg base "all_from" 2 2 m_all_from :=
  cal_P (st := (top 27)) (N := n_all_from) (ps := ["board", "pegs"]) (k := 1) (m := b_all_from) F.d_all_from sc_all_from bb_all_from fun f cdv A outer s H E h hp ho => (dss_cons (ds_par h.calm h.nd rfl rfl (by decide) rfl rfl (da_cons (de_disp1 h.hu rfl (by first | exact .inl rfl | exact .inr (.inl rfl) | exact .inr (.inr rfl)) pe_bl (fun _ _ _ => rfl)) (da_cons (de_newL (da_cons (de_v rfl (by first | exact .inl rfl | exact .inr (.inl rfl) | exact .inr (.inr rfl))) da_nil)) da_nil)) rfl)
    (dss_cons (ds_while ho (dt_cmp (o_ne h.hu) (de_v rfl (by first | exact .inl rfl | exact .inr (.inl rfl) | exact .inr (.inr rfl))) (de_lst da_nil)) (dss_cons (ds_set h.nd rfl (by first | exact .inl rfl | exact .inr rfl) (de_pop (de_v rfl (by first | exact .inl rfl | exact .inr (.inl rfl) | exact .inr (.inr rfl)))))
    (dss_one (ds_for ho h.calm (di_seq (de_fld F.cls_Board F.na_Board_leaps (de_v rfl (by first | exact .inl rfl | exact .inr (.inl rfl) | exact .inr (.inr rfl))))) (dg_v h.nd rfl (by first | exact .inl rfl | exact .inr rfl)) (dss_one (ds_if (dt_v (de_P h hp (k_can_do F) (by decide) (da_cons (de_v rfl (by first | exact .inl rfl | exact .inr (.inl rfl) | exact .inr (.inr rfl))) (da_cons (de_v rfl (by first | exact .inl rfl | exact .inr (.inl rfl) | exact .inr (.inr rfl))) da_nil)) ((aCons_len (aCons_len aNil_len))))) (dss_cons (ds_set h.nd rfl (by first | exact .inl rfl | exact .inr rfl) (de_P h hp (k_done F) (by decide) (da_cons (de_v rfl (by first | exact .inl rfl | exact .inr (.inl rfl) | exact .inr (.inr rfl))) (da_cons (de_v rfl (by first | exact .inl rfl | exact .inr (.inl rfl) | exact .inr (.inr rfl))) da_nil)) ((aCons_len (aCons_len aNil_len)))))
    (dss_one (ds_if (dt_cmp (o_notIn h.hu) (de_v rfl (by first | exact .inl rfl | exact .inr (.inl rfl) | exact .inr (.inr rfl))) (de_v rfl (by first | exact .inl rfl | exact .inr (.inl rfl) | exact .inr (.inr rfl)))) (dss_cons (ds_asg de_bl (dg_sub h.hu (de_v rfl (by first | exact .inl rfl | exact .inr (.inl rfl) | exact .inr (.inr rfl))) (de_v rfl (by first | exact .inl rfl | exact .inr (.inl rfl) | exact .inr (.inr rfl)))))
    (dss_one (ds_expr (de_app (de_v rfl (by first | exact .inl rfl | exact .inr (.inl rfl) | exact .inr (.inr rfl))) (de_v rfl (by first | exact .inl rfl | exact .inr (.inl rfl) | exact .inr (.inr rfl))))))) dss_nil))) dss_nil))))))
    (dss_one (ds_ret (de_v rfl (by first | exact .inl rfl | exact .inr (.inl rfl) | exact .inr (.inr rfl)))))))
abbrev n_least_closed : List Str := ["board", "standings", "found", "one"]
theorem sc_least_closed : FnScope n_least_closed ["board", "standings"] (defScope (top 34)) := ⟨rfl, rfl, rfl, by decide +kernel, rfl, by decide +kernel, by decide +kernel⟩
theorem bb_least_closed : BindsBy "least_closed" (top 34) ["board", "standings"] := fun _ _ _ _ _ _ us hl => match us, hl with | [_, _], _ => rfl
theorem k_least_closed (F : Fx K mg base) : CalP P w K mg base "least_closed" 6 2 m_least_closed :=
  cal_P (st := (top 34)) (N := n_least_closed) (ps := ["board", "standings"]) (k := 5) (m := b_least_closed) F.d_least_closed sc_least_closed bb_least_closed fun f cdv A outer s H E h hp ho => (dss_cons (ds_expr (de_P h hp (k_need_set F) (by decide) (da_cons (de_v rfl (by first | exact .inl rfl | exact .inr (.inl rfl) | exact .inr (.inr rfl))) (da_cons (de_v rfl (by first | exact .inl rfl | exact .inr (.inl rfl) | exact .inr (.inr rfl))) da_nil)) ((aCons_len (aCons_len aNil_len)))))
    (dss_cons (ds_set h.nd rfl (by first | exact .inl rfl | exact .inr rfl) de_dEN)
    (dss_cons (ds_for ho h.calm (di_seq (de_v rfl (by first | exact .inl rfl | exact .inr (.inl rfl) | exact .inr (.inr rfl)))) (dg_v h.nd rfl (by first | exact .inl rfl | exact .inr rfl)) (dss_one (ds_expr (de_upd2 h.hu (de_v rfl (by first | exact .inl rfl | exact .inr (.inl rfl) | exact .inr (.inr rfl))) (de_P h hp (k_all_from F) (by decide) (da_cons (de_v rfl (by first | exact .inl rfl | exact .inr (.inl rfl) | exact .inr (.inr rfl))) (da_cons (de_v rfl (by first | exact .inl rfl | exact .inr (.inl rfl) | exact .inr (.inr rfl))) da_nil)) ((aCons_len (aCons_len aNil_len))))))))
    (dss_one (ds_ret (de_P h hp (k_in_order F) (by decide) (da_cons (de_tl (c_list2 h.calm) (by rfl) (by rfl) F.f_list (da_cons (de_v rfl (by first | exact .inl rfl | exact .inr (.inl rfl) | exact .inr (.inr rfl))) da_nil)) da_nil) ((aCons_len aNil_len))))))))
abbrev n_greatest_closed : List Str := ["board", "standings", "left", "here", "leap"]
theorem sc_greatest_closed : FnScope n_greatest_closed ["board", "standings"] (defScope (top 35)) := ⟨rfl, rfl, rfl, by decide +kernel, rfl, by decide +kernel, by decide +kernel⟩
theorem bb_greatest_closed : BindsBy "greatest_closed" (top 35) ["board", "standings"] := fun _ _ _ _ _ _ us hl => match us, hl with | [_, _], _ => rfl
theorem k_greatest_closed (F : Fx K mg base) : CalP P w K mg base "greatest_closed" 6 2 m_greatest_closed :=
  cal_P (st := (top 35)) (N := n_greatest_closed) (ps := ["board", "standings"]) (k := 5) (m := b_greatest_closed) F.d_greatest_closed sc_greatest_closed bb_greatest_closed fun f cdv A outer s H E h hp ho => (dss_cons (ds_expr (de_P h hp (k_need_set F) (by decide) (da_cons (de_v rfl (by first | exact .inl rfl | exact .inr (.inl rfl) | exact .inr (.inr rfl))) (da_cons (de_v rfl (by first | exact .inl rfl | exact .inr (.inl rfl) | exact .inr (.inr rfl))) da_nil)) ((aCons_len (aCons_len aNil_len)))))
    (dss_cons (ds_set h.nd rfl (by first | exact .inl rfl | exact .inr rfl) de_dEN)
    (dss_cons (ds_for ho h.calm (di_seq (de_v rfl (by first | exact .inl rfl | exact .inr (.inl rfl) | exact .inr (.inr rfl)))) (dg_v h.nd rfl (by first | exact .inl rfl | exact .inr rfl)) (dss_one (ds_if (dt_v (de_bf (c_all h.calm) (by rfl) (by rfl) F.f_all (da_cons (de_comp h.calm h.nd (di_seq (de_fld F.cls_Board F.na_Board_leaps (de_v rfl (by first | exact .inl rfl | exact .inr (.inl rfl) | exact .inr (.inr rfl))))) (blkOk_by (own := [("leap", 4)]) (by kernel_rfl)) (ct_v (by decide)) (fun _ _ _ _ _ => (pg_name h.nd rfl (by first | exact .inl rfl | exact .inr rfl))) (fun _ _ _ _ _ => (dts_one (dt_v (de_P h.blk passN (k_can_do F) (by decide) (da_cons (de_v rfl (by first | exact .inl rfl | exact .inr (.inl rfl) | exact .inr (.inr rfl))) (da_cons (de_v rfl (by first | exact .inl rfl | exact .inr (.inl rfl) | exact .inr (.inr rfl))) da_nil)) ((aCons_len (aCons_len aNil_len))))))) (fun _ _ _ _ _ => (de_cmp (o_in h.blk.hu) (de_P h.blk passN (k_done F) (by decide) (da_cons (de_v rfl (by first | exact .inl rfl | exact .inr (.inl rfl) | exact .inr (.inr rfl))) (da_cons (de_v rfl (by first | exact .inl rfl | exact .inr (.inl rfl) | exact .inr (.inr rfl))) da_nil)) ((aCons_len (aCons_len aNil_len)))) (de_v rfl (by first | exact .inl rfl | exact .inr (.inl rfl) | exact .inr (.inr rfl)))))) da_nil))) (dss_one (ds_asg de_bl (dg_sub h.hu (de_v rfl (by first | exact .inl rfl | exact .inr (.inl rfl) | exact .inr (.inr rfl))) (de_v rfl (by first | exact .inl rfl | exact .inr (.inl rfl) | exact .inr (.inr rfl)))))) dss_nil)))
    (dss_one (ds_ret (de_P h hp (k_in_order F) (by decide) (da_cons (de_tl (c_list2 h.calm) (by rfl) (by rfl) F.f_list (da_cons (de_v rfl (by first | exact .inl rfl | exact .inr (.inl rfl) | exact .inr (.inr rfl))) da_nil)) da_nil) ((aCons_len aNil_len))))))))
abbrev n_first_left : List Str := ["board", "standings", "known", "one", "leap"]
theorem sc_first_left : FnScope n_first_left ["board", "standings"] (defScope (top 31)) := ⟨rfl, rfl, rfl, by decide +kernel, rfl, by decide +kernel, by decide +kernel⟩
theorem bb_first_left : BindsBy "first_left" (top 31) ["board", "standings"] := fun _ _ _ _ _ _ us hl => match us, hl with | [_, _], _ => rfl
theorem k_first_left (F : Fx K mg base) : CalP P w K mg base "first_left" 6 2 m_first_left :=
  cal_P (st := (top 31)) (N := n_first_left) (ps := ["board", "standings"]) (k := 5) (m := b_first_left) F.d_first_left sc_first_left bb_first_left fun f cdv A outer s H E h hp ho => (dss_cons (ds_expr (de_P h hp (k_need_set F) (by decide) (da_cons (de_v rfl (by first | exact .inl rfl | exact .inr (.inl rfl) | exact .inr (.inr rfl))) (da_cons (de_v rfl (by first | exact .inl rfl | exact .inr (.inl rfl) | exact .inr (.inr rfl))) da_nil)) ((aCons_len (aCons_len aNil_len)))))
    (dss_cons (ds_set h.nd rfl (by first | exact .inl rfl | exact .inr rfl) (de_dp2 h.calm h.hu (by rfl) F.f_dict (da_cons (de_comp h.calm h.nd (di_seq (de_v rfl (by first | exact .inl rfl | exact .inr (.inl rfl) | exact .inr (.inr rfl)))) (blkOk_by (own := [("one", 3)]) (by kernel_rfl)) (ct_v (by decide)) (fun _ _ _ _ _ => (pg_name h.nd rfl (by first | exact .inl rfl | exact .inr rfl))) (fun _ _ _ _ _ => dts_nil) (fun _ _ _ _ _ => (de_tup (da_cons (de_v rfl (by first | exact .inl rfl | exact .inr (.inl rfl) | exact .inr (.inr rfl))) (da_cons de_bl da_nil))))) da_nil)))
    (dss_cons (ds_for ho h.calm (di_seq (de_v rfl (by first | exact .inl rfl | exact .inr (.inl rfl) | exact .inr (.inr rfl)))) (dg_v h.nd rfl (by first | exact .inl rfl | exact .inr rfl)) (dss_one (ds_for ho h.calm (di_seq (de_fld F.cls_Board F.na_Board_leaps (de_v rfl (by first | exact .inl rfl | exact .inr (.inl rfl) | exact .inr (.inr rfl))))) (dg_v h.nd rfl (by first | exact .inl rfl | exact .inr rfl)) (dss_one (ds_if (dt_of (dw_and (dt_v (de_P h hp (k_can_do F) (by decide) (da_cons (de_v rfl (by first | exact .inl rfl | exact .inr (.inl rfl) | exact .inr (.inr rfl))) (da_cons (de_v rfl (by first | exact .inl rfl | exact .inr (.inl rfl) | exact .inr (.inr rfl))) da_nil)) ((aCons_len (aCons_len aNil_len))))) (dw_and1 (dt_cmp (o_notIn h.hu) (de_P h hp (k_done F) (by decide) (da_cons (de_v rfl (by first | exact .inl rfl | exact .inr (.inl rfl) | exact .inr (.inr rfl))) (da_cons (de_v rfl (by first | exact .inl rfl | exact .inr (.inl rfl) | exact .inr (.inr rfl))) da_nil)) ((aCons_len (aCons_len aNil_len)))) (de_v rfl (by first | exact .inl rfl | exact .inr (.inl rfl) | exact .inr (.inr rfl))))))) (dss_one (ds_ret (de_tup (da_cons (de_v rfl (by first | exact .inl rfl | exact .inr (.inl rfl) | exact .inr (.inr rfl))) (da_cons (de_v rfl (by first | exact .inl rfl | exact .inr (.inl rfl) | exact .inr (.inr rfl))) da_nil))))) dss_nil)))))
    (dss_one (ds_ret de_non)))))
abbrev n_is_closed : List Str := ["board", "standings"]
theorem sc_is_closed : FnScope n_is_closed ["board", "standings"] (defScope (top 32)) := ⟨rfl, rfl, rfl, by decide +kernel, rfl, by decide +kernel, by decide +kernel⟩
theorem bb_is_closed : BindsBy "is_closed" (top 32) ["board", "standings"] := fun _ _ _ _ _ _ us hl => match us, hl with | [_, _], _ => rfl
theorem k_is_closed (F : Fx K mg base) : CalP P w K mg base "is_closed" 7 2 m_is_closed :=
  cal_P (st := (top 32)) (N := n_is_closed) (ps := ["board", "standings"]) (k := 6) (m := b_is_closed) F.d_is_closed sc_is_closed bb_is_closed fun f cdv A outer s H E h hp ho => (dss_one (ds_ret (de_cmp o_is (de_P h hp (k_first_left F) (by decide) (da_cons (de_v rfl (by first | exact .inl rfl | exact .inr (.inl rfl) | exact .inr (.inr rfl))) (da_cons (de_v rfl (by first | exact .inl rfl | exact .inr (.inl rfl) | exact .inr (.inr rfl))) da_nil)) ((aCons_len (aCons_len aNil_len)))) de_non)))
abbrev n__law_under : List Str := ["one", "other", "told"]
theorem sc__law_under : FnScope n__law_under ["one", "other"] (defScope (top 44)) := ⟨rfl, rfl, rfl, by decide +kernel, rfl, by decide +kernel, by decide +kernel⟩
theorem bb__law_under : BindsBy "_law_under" (top 44) ["one", "other"] := fun _ _ _ _ _ _ us hl => match us, hl with | [_, _], _ => rfl
theorem k__law_under (F : Fx K mg base) : CalP P w K mg base "_law_under" 1 2 m__law_under :=
  cal_P (st := (top 44)) (N := n__law_under) (ps := ["one", "other"]) (k := 0) (m := b__law_under) F.d__law_under sc__law_under bb__law_under fun f cdv A outer s H E h hp ho => (dss_one (ds_ret (de_cmp (o_eq h.hu) (de_comp h.calm h.nd (di_seq (de_v rfl (by first | exact .inl rfl | exact .inr (.inl rfl) | exact .inr (.inr rfl)))) (blkOk_by (own := [("told", 2)]) (by kernel_rfl)) (ct_v (by decide)) (fun _ _ _ _ _ => (pg_name h.nd rfl (by first | exact .inl rfl | exact .inr rfl))) (fun _ _ _ _ _ => (dts_one (dt_cmp (o_notIn h.blk.hu) (de_v rfl (by first | exact .inl rfl | exact .inr (.inl rfl) | exact .inr (.inr rfl))) (de_v rfl (by first | exact .inl rfl | exact .inr (.inl rfl) | exact .inr (.inr rfl)))))) (fun _ _ _ _ _ => (de_v rfl (by first | exact .inl rfl | exact .inr (.inl rfl) | exact .inr (.inr rfl))))) (de_lst da_nil))))
abbrev n_sources_of : List Str := ["board", "standings", "led", "here", "leap", "one"]
theorem sc_sources_of : FnScope n_sources_of ["board", "standings"] (defScope (top 37)) := ⟨rfl, rfl, rfl, by decide +kernel, rfl, by decide +kernel, by decide +kernel⟩
theorem bb_sources_of : BindsBy "sources_of" (top 37) ["board", "standings"] := fun _ _ _ _ _ _ us hl => match us, hl with | [_, _], _ => rfl
theorem k_sources_of (F : Fx K mg base) : CalP P w K mg base "sources_of" 6 2 m_sources_of :=
  cal_P (st := (top 37)) (N := n_sources_of) (ps := ["board", "standings"]) (k := 5) (m := b_sources_of) F.d_sources_of sc_sources_of bb_sources_of fun f cdv A outer s H E h hp ho => (dss_cons (ds_expr (de_P h hp (k_need_set F) (by decide) (da_cons (de_v rfl (by first | exact .inl rfl | exact .inr (.inl rfl) | exact .inr (.inr rfl))) (da_cons (de_v rfl (by first | exact .inl rfl | exact .inr (.inl rfl) | exact .inr (.inr rfl))) da_nil)) ((aCons_len (aCons_len aNil_len)))))
    (dss_cons (ds_set h.nd rfl (by first | exact .inl rfl | exact .inr rfl) de_dEN)
    (dss_cons (ds_for ho h.calm (di_seq (de_v rfl (by first | exact .inl rfl | exact .inr (.inl rfl) | exact .inr (.inr rfl)))) (dg_v h.nd rfl (by first | exact .inl rfl | exact .inr rfl)) (dss_one (ds_expr (de_upd2 h.hu (de_v rfl (by first | exact .inl rfl | exact .inr (.inl rfl) | exact .inr (.inr rfl))) (de_dp2 h.calm h.hu (by rfl) F.f_dict (da_cons (de_comp h.calm h.nd (di_seq (de_fld F.cls_Board F.na_Board_leaps (de_v rfl (by first | exact .inl rfl | exact .inr (.inl rfl) | exact .inr (.inr rfl))))) (blkOk_by (own := [("leap", 4)]) (by kernel_rfl)) (ct_v (by decide)) (fun _ _ _ _ _ => (pg_name h.nd rfl (by first | exact .inl rfl | exact .inr rfl))) (fun _ _ _ _ _ => (dts_one (dt_v (de_P h.blk passN (k_can_do F) (by decide) (da_cons (de_v rfl (by first | exact .inl rfl | exact .inr (.inl rfl) | exact .inr (.inr rfl))) (da_cons (de_v rfl (by first | exact .inl rfl | exact .inr (.inl rfl) | exact .inr (.inr rfl))) da_nil)) ((aCons_len (aCons_len aNil_len))))))) (fun _ _ _ _ _ => (de_tup (da_cons (de_P h.blk passN (k_done F) (by decide) (da_cons (de_v rfl (by first | exact .inl rfl | exact .inr (.inl rfl) | exact .inr (.inr rfl))) (da_cons (de_v rfl (by first | exact .inl rfl | exact .inr (.inl rfl) | exact .inr (.inr rfl))) da_nil)) ((aCons_len (aCons_len aNil_len)))) (da_cons de_bl da_nil))))) da_nil))))))
    (dss_one (ds_ret (de_tf c_tuple (by rfl) (by rfl) F.f_tuple (da_cons (de_comp h.calm h.nd (di_seq (de_v rfl (by first | exact .inl rfl | exact .inr (.inl rfl) | exact .inr (.inr rfl)))) (blkOk_by (own := [("one", 5)]) (by kernel_rfl)) (ct_v (by decide)) (fun _ _ _ _ _ => (pg_name h.nd rfl (by first | exact .inl rfl | exact .inr rfl))) (fun _ _ _ _ _ => (dts_one (dt_cmp (o_notIn h.blk.hu) (de_v rfl (by first | exact .inl rfl | exact .inr (.inl rfl) | exact .inr (.inr rfl))) (de_v rfl (by first | exact .inl rfl | exact .inr (.inl rfl) | exact .inr (.inr rfl)))))) (fun _ _ _ _ _ => (de_v rfl (by first | exact .inl rfl | exact .inr (.inl rfl) | exact .inr (.inr rfl))))) da_nil)))))))
abbrev n_law : List Str := ["script", "row", "turn", "parts", "board", "every", "one", "two", "first", "second", "low", "high", "third", "fourth", "goal", "bar", "k", "told"]
theorem sc_law : FnScope n_law ["script"] (defScope (top 45)) := ⟨rfl, rfl, rfl, by decide +kernel, rfl, by decide +kernel, by decide +kernel⟩
theorem bb_law : BindsBy "law" (top 45) ["script"] := fun _ _ _ _ _ _ us hl => match us, hl with | [_], _ => rfl
theorem k_law (D : DefF K mg "law" (top 45)) : LawFn2 P w K mg (fun base => Fx K mg base) 8 m_law :=
  cal_L2 (st := (top 45)) (N := n_law) (k := 7) (m := b_law) D sc_law bb_law fun base F f cdv A outer s H E h hp ho => (dss_cons (ds_set h.nd rfl (by first | exact .inl rfl | exact .inr rfl) (de_newL (da_cons (de_v rfl (by first | exact .inl rfl | exact .inr (.inl rfl) | exact .inr (.inr rfl))) (da_cons de_int (da_cons de_int (da_cons de_int da_nil))))))
    (dss_cons (ds_for ho h.calm (di_rng1 (by rfl) F.f_range (da_cons de_int da_nil) ((aCons_len aNil_len))) (dg_v h.nd rfl (by first | exact .inl rfl | exact .inr rfl)) (dss_cons (ds_set h.nd rfl (by first | exact .inl rfl | exact .inr rfl) (de_M h hp (k__law_draw_parts F) (by decide) (da_cons (de_v rfl (by first | exact .inl rfl | exact .inr (.inl rfl) | exact .inr (.inr rfl))) (da_cons de_int da_nil)) ((aCons_len (aCons_len aNil_len)))))
    (dss_cons (ds_asg (de_tup (da_cons (de_I h hp (k_Board F) (by decide) (da_cons (de_v rfl (by first | exact .inl rfl | exact .inr (.inl rfl) | exact .inr (.inr rfl))) da_nil) ((aCons_len aNil_len))) (da_cons (de_P h hp (k__law_all F) (by decide) (da_cons (de_ix h.hu (de_v rfl (by first | exact .inl rfl | exact .inr (.inl rfl) | exact .inr (.inr rfl))) de_int) da_nil) ((aCons_len aNil_len))) da_nil))) (dg_tup h.calm (dgs_cons (dg_v h.nd rfl (by first | exact .inl rfl | exact .inr rfl)) (dgs_cons (dg_v h.nd rfl (by first | exact .inl rfl | exact .inr rfl)) dgs_nil))))
    (dss_cons (ds_set h.nd rfl (by first | exact .inl rfl | exact .inr rfl) (de_P h hp (k__law_order F) (by decide) (da_cons (de_comp h.calm h.nd (di_rng1 (by rfl) F.f_range (da_cons (de_M h hp (k__law_taken F) (by decide) (da_cons (de_v rfl (by first | exact .inl rfl | exact .inr (.inl rfl) | exact .inr (.inr rfl))) (da_cons de_int da_nil)) ((aCons_len (aCons_len aNil_len)))) da_nil) ((aCons_len aNil_len))) (blkOk_by (own := [("k", 16)]) (by kernel_rfl)) (ct_v (by decide)) (fun _ _ _ _ _ => (pg_name h.nd rfl (by first | exact .inl rfl | exact .inr rfl))) (fun _ _ _ _ _ => dts_nil) (fun _ _ _ _ _ => (de_M h.blk passN (k__law_draw_pegs F) (by decide) (da_cons (de_v rfl (by first | exact .inl rfl | exact .inr (.inl rfl) | exact .inr (.inr rfl))) (da_cons (de_ix h.blk.hu (de_v rfl (by first | exact .inl rfl | exact .inr (.inl rfl) | exact .inr (.inr rfl))) de_int) da_nil)) ((aCons_len (aCons_len aNil_len)))))) da_nil) ((aCons_len aNil_len))))
    (dss_cons (ds_set h.nd rfl (by first | exact .inl rfl | exact .inr rfl) (de_P h hp (k__law_order F) (by decide) (da_cons (de_comp h.calm h.nd (di_rng1 (by rfl) F.f_range (da_cons (de_M h hp (k__law_taken F) (by decide) (da_cons (de_v rfl (by first | exact .inl rfl | exact .inr (.inl rfl) | exact .inr (.inr rfl))) (da_cons de_int da_nil)) ((aCons_len (aCons_len aNil_len)))) da_nil) ((aCons_len aNil_len))) (blkOk_by (own := [("k", 16)]) (by kernel_rfl)) (ct_v (by decide)) (fun _ _ _ _ _ => (pg_name h.nd rfl (by first | exact .inl rfl | exact .inr rfl))) (fun _ _ _ _ _ => dts_nil) (fun _ _ _ _ _ => (de_M h.blk passN (k__law_draw_pegs F) (by decide) (da_cons (de_v rfl (by first | exact .inl rfl | exact .inr (.inl rfl) | exact .inr (.inr rfl))) (da_cons (de_ix h.blk.hu (de_v rfl (by first | exact .inl rfl | exact .inr (.inl rfl) | exact .inr (.inr rfl))) de_int) da_nil)) ((aCons_len (aCons_len aNil_len)))))) da_nil) ((aCons_len aNil_len))))
    (dss_cons (ds_par h.calm h.nd rfl rfl (by decide) rfl rfl (da_cons (de_P h hp (k_least_closed F) (by decide) (da_cons (de_v rfl (by first | exact .inl rfl | exact .inr (.inl rfl) | exact .inr (.inr rfl))) (da_cons (de_v rfl (by first | exact .inl rfl | exact .inr (.inl rfl) | exact .inr (.inr rfl))) da_nil)) ((aCons_len (aCons_len aNil_len)))) (da_cons (de_P h hp (k_least_closed F) (by decide) (da_cons (de_v rfl (by first | exact .inl rfl | exact .inr (.inl rfl) | exact .inr (.inr rfl))) (da_cons (de_v rfl (by first | exact .inl rfl | exact .inr (.inl rfl) | exact .inr (.inr rfl))) da_nil)) ((aCons_len (aCons_len aNil_len)))) da_nil)) rfl)
    (dss_cons (ds_if (dt_of (dw_or (dt_not (dt_v (de_P h hp (k_is_closed F) (by decide) (da_cons (de_v rfl (by first | exact .inl rfl | exact .inr (.inl rfl) | exact .inr (.inr rfl))) (da_cons (de_v rfl (by first | exact .inl rfl | exact .inr (.inl rfl) | exact .inr (.inr rfl))) da_nil)) ((aCons_len (aCons_len aNil_len)))))) (dw_or (dt_not (dt_v (de_P h hp (k__law_under F) (by decide) (da_cons (de_v rfl (by first | exact .inl rfl | exact .inr (.inl rfl) | exact .inr (.inr rfl))) (da_cons (de_v rfl (by first | exact .inl rfl | exact .inr (.inl rfl) | exact .inr (.inr rfl))) da_nil)) ((aCons_len (aCons_len aNil_len)))))) (dw_or1 (dt_cmp (o_ne h.hu) (de_P h hp (k_least_closed F) (by decide) (da_cons (de_v rfl (by first | exact .inl rfl | exact .inr (.inl rfl) | exact .inr (.inr rfl))) (da_cons (de_v rfl (by first | exact .inl rfl | exact .inr (.inl rfl) | exact .inr (.inr rfl))) da_nil)) ((aCons_len (aCons_len aNil_len)))) (de_v rfl (by first | exact .inl rfl | exact .inr (.inl rfl) | exact .inr (.inr rfl)))))))) (dss_one (ds_ret de_bl)) dss_nil)
    (dss_cons (ds_if (dt_cmp (o_ne h.hu) (de_P h hp (k_least_closed F) (by decide) (da_cons (de_v rfl (by first | exact .inl rfl | exact .inr (.inl rfl) | exact .inr (.inr rfl))) (da_cons (de_P h hp (k__law_order F) (by decide) (da_cons (de_op o_add (de_v rfl (by first | exact .inl rfl | exact .inr (.inl rfl) | exact .inr (.inr rfl))) (de_v rfl (by first | exact .inl rfl | exact .inr (.inl rfl) | exact .inr (.inr rfl)))) da_nil) ((aCons_len aNil_len))) da_nil)) ((aCons_len (aCons_len aNil_len)))) (de_P h hp (k__law_order F) (by decide) (da_cons (de_op o_add (de_v rfl (by first | exact .inl rfl | exact .inr (.inl rfl) | exact .inr (.inr rfl))) (de_v rfl (by first | exact .inl rfl | exact .inr (.inl rfl) | exact .inr (.inr rfl)))) da_nil) ((aCons_len aNil_len)))) (dss_one (ds_ret de_bl)) dss_nil)
    (dss_cons (ds_asg (de_tup (da_cons (de_comp h.calm h.nd (di_seq (de_v rfl (by first | exact .inl rfl | exact .inr (.inl rfl) | exact .inr (.inr rfl)))) (blkOk_by (own := [("told", 17)]) (by kernel_rfl)) (ct_v (by decide)) (fun _ _ _ _ _ => (pg_name h.nd rfl (by first | exact .inl rfl | exact .inr rfl))) (fun _ _ _ _ _ => (dts_one (dt_cmp (o_notIn h.blk.hu) (de_v rfl (by first | exact .inl rfl | exact .inr (.inl rfl) | exact .inr (.inr rfl))) (de_v rfl (by first | exact .inl rfl | exact .inr (.inl rfl) | exact .inr (.inr rfl)))))) (fun _ _ _ _ _ => (de_v rfl (by first | exact .inl rfl | exact .inr (.inl rfl) | exact .inr (.inr rfl))))) (da_cons (de_comp h.calm h.nd (di_seq (de_v rfl (by first | exact .inl rfl | exact .inr (.inl rfl) | exact .inr (.inr rfl)))) (blkOk_by (own := [("told", 17)]) (by kernel_rfl)) (ct_v (by decide)) (fun _ _ _ _ _ => (pg_name h.nd rfl (by first | exact .inl rfl | exact .inr rfl))) (fun _ _ _ _ _ => (dts_one (dt_cmp (o_notIn h.blk.hu) (de_v rfl (by first | exact .inl rfl | exact .inr (.inl rfl) | exact .inr (.inr rfl))) (de_v rfl (by first | exact .inl rfl | exact .inr (.inl rfl) | exact .inr (.inr rfl)))))) (fun _ _ _ _ _ => (de_v rfl (by first | exact .inl rfl | exact .inr (.inl rfl) | exact .inr (.inr rfl))))) da_nil))) (dg_tup h.calm (dgs_cons (dg_v h.nd rfl (by first | exact .inl rfl | exact .inr rfl)) (dgs_cons (dg_v h.nd rfl (by first | exact .inl rfl | exact .inr rfl)) dgs_nil))))
    (dss_cons (ds_asg (de_tup (da_cons (de_P h hp (k_greatest_closed F) (by decide) (da_cons (de_v rfl (by first | exact .inl rfl | exact .inr (.inl rfl) | exact .inr (.inr rfl))) (da_cons (de_tf c_tuple (by rfl) (by rfl) F.f_tuple (da_cons (de_v rfl (by first | exact .inl rfl | exact .inr (.inl rfl) | exact .inr (.inr rfl))) da_nil)) da_nil)) ((aCons_len (aCons_len aNil_len)))) (da_cons (de_P h hp (k_greatest_closed F) (by decide) (da_cons (de_v rfl (by first | exact .inl rfl | exact .inr (.inl rfl) | exact .inr (.inr rfl))) (da_cons (de_tf c_tuple (by rfl) (by rfl) F.f_tuple (da_cons (de_v rfl (by first | exact .inl rfl | exact .inr (.inl rfl) | exact .inr (.inr rfl))) da_nil)) da_nil)) ((aCons_len (aCons_len aNil_len)))) da_nil))) (dg_tup h.calm (dgs_cons (dg_v h.nd rfl (by first | exact .inl rfl | exact .inr rfl)) (dgs_cons (dg_v h.nd rfl (by first | exact .inl rfl | exact .inr rfl)) dgs_nil))))
    (dss_cons (ds_if (dt_of (dw_or (dt_not (dt_v (de_P h hp (k_is_closed F) (by decide) (da_cons (de_v rfl (by first | exact .inl rfl | exact .inr (.inl rfl) | exact .inr (.inr rfl))) (da_cons (de_v rfl (by first | exact .inl rfl | exact .inr (.inl rfl) | exact .inr (.inr rfl))) da_nil)) ((aCons_len (aCons_len aNil_len)))))) (dw_or (dt_not (dt_v (de_P h hp (k__law_under F) (by decide) (da_cons (de_v rfl (by first | exact .inl rfl | exact .inr (.inl rfl) | exact .inr (.inr rfl))) (da_cons (de_v rfl (by first | exact .inl rfl | exact .inr (.inl rfl) | exact .inr (.inr rfl))) da_nil)) ((aCons_len (aCons_len aNil_len)))))) (dw_or1 (dt_cmp (o_ne h.hu) (de_P h hp (k_greatest_closed F) (by decide) (da_cons (de_v rfl (by first | exact .inl rfl | exact .inr (.inl rfl) | exact .inr (.inr rfl))) (da_cons (de_v rfl (by first | exact .inl rfl | exact .inr (.inl rfl) | exact .inr (.inr rfl))) da_nil)) ((aCons_len (aCons_len aNil_len)))) (de_v rfl (by first | exact .inl rfl | exact .inr (.inl rfl) | exact .inr (.inr rfl)))))))) (dss_one (ds_ret de_bl)) dss_nil)
    (dss_cons (ds_if (dt_cmp (o_ne h.hu) (de_P h hp (k_greatest_closed F) (by decide) (da_cons (de_v rfl (by first | exact .inl rfl | exact .inr (.inl rfl) | exact .inr (.inr rfl))) (da_cons (de_tf c_tuple (by rfl) (by rfl) F.f_tuple (da_cons (de_comp h.calm h.nd (di_seq (de_v rfl (by first | exact .inl rfl | exact .inr (.inl rfl) | exact .inr (.inr rfl)))) (blkOk_by (own := [("told", 17)]) (by kernel_rfl)) (ct_v (by decide)) (fun _ _ _ _ _ => (pg_name h.nd rfl (by first | exact .inl rfl | exact .inr rfl))) (fun _ _ _ _ _ => (dts_one (dt_cmp (o_in h.blk.hu) (de_v rfl (by first | exact .inl rfl | exact .inr (.inl rfl) | exact .inr (.inr rfl))) (de_v rfl (by first | exact .inl rfl | exact .inr (.inl rfl) | exact .inr (.inr rfl)))))) (fun _ _ _ _ _ => (de_v rfl (by first | exact .inl rfl | exact .inr (.inl rfl) | exact .inr (.inr rfl))))) da_nil)) da_nil)) ((aCons_len (aCons_len aNil_len)))) (de_tf c_tuple (by rfl) (by rfl) F.f_tuple (da_cons (de_comp h.calm h.nd (di_seq (de_v rfl (by first | exact .inl rfl | exact .inr (.inl rfl) | exact .inr (.inr rfl)))) (blkOk_by (own := [("told", 17)]) (by kernel_rfl)) (ct_v (by decide)) (fun _ _ _ _ _ => (pg_name h.nd rfl (by first | exact .inl rfl | exact .inr rfl))) (fun _ _ _ _ _ => (dts_one (dt_cmp (o_in h.blk.hu) (de_v rfl (by first | exact .inl rfl | exact .inr (.inl rfl) | exact .inr (.inr rfl))) (de_v rfl (by first | exact .inl rfl | exact .inr (.inl rfl) | exact .inr (.inr rfl)))))) (fun _ _ _ _ _ => (de_v rfl (by first | exact .inl rfl | exact .inr (.inl rfl) | exact .inr (.inr rfl))))) da_nil))) (dss_one (ds_ret de_bl)) dss_nil)
    (dss_cons (ds_set h.nd rfl (by first | exact .inl rfl | exact .inr rfl) (de_M h hp (k__law_draw_pegs F) (by decide) (da_cons (de_v rfl (by first | exact .inl rfl | exact .inr (.inl rfl) | exact .inr (.inr rfl))) (da_cons (de_ix h.hu (de_v rfl (by first | exact .inl rfl | exact .inr (.inl rfl) | exact .inr (.inr rfl))) de_int) da_nil)) ((aCons_len (aCons_len aNil_len)))))
    (dss_cons (ds_set h.nd rfl (by first | exact .inl rfl | exact .inr rfl) (de_P h hp (k_widest_bar F) (by decide) (da_cons (de_v rfl (by first | exact .inl rfl | exact .inr (.inl rfl) | exact .inr (.inr rfl))) (da_cons (de_v rfl (by first | exact .inl rfl | exact .inr (.inl rfl) | exact .inr (.inr rfl))) da_nil)) ((aCons_len (aCons_len aNil_len)))))
    (dss_cons (ds_if (dt_of (dw_or (dt_cmp (o_ne h.hu) (de_v rfl (by first | exact .inl rfl | exact .inr (.inl rfl) | exact .inr (.inr rfl))) (de_P h hp (k_greatest_closed F) (by decide) (da_cons (de_v rfl (by first | exact .inl rfl | exact .inr (.inl rfl) | exact .inr (.inr rfl))) (da_cons (de_tf c_tuple (by rfl) (by rfl) F.f_tuple (da_cons (de_comp h.calm h.nd (di_seq (de_v rfl (by first | exact .inl rfl | exact .inr (.inl rfl) | exact .inr (.inr rfl)))) (blkOk_by (own := [("told", 17)]) (by kernel_rfl)) (ct_v (by decide)) (fun _ _ _ _ _ => (pg_name h.nd rfl (by first | exact .inl rfl | exact .inr rfl))) (fun _ _ _ _ _ => (dts_one (dt_cmp (o_ne h.blk.hu) (de_v rfl (by first | exact .inl rfl | exact .inr (.inl rfl) | exact .inr (.inr rfl))) (de_v rfl (by first | exact .inl rfl | exact .inr (.inl rfl) | exact .inr (.inr rfl)))))) (fun _ _ _ _ _ => (de_v rfl (by first | exact .inl rfl | exact .inr (.inl rfl) | exact .inr (.inr rfl))))) da_nil)) da_nil)) ((aCons_len (aCons_len aNil_len))))) (dw_or1 (dt_cmp (o_ne h.hu) (de_v rfl (by first | exact .inl rfl | exact .inr (.inl rfl) | exact .inr (.inr rfl))) (de_tf c_tuple (by rfl) (by rfl) F.f_tuple (da_cons (de_comp h.calm h.nd (di_seq (de_v rfl (by first | exact .inl rfl | exact .inr (.inl rfl) | exact .inr (.inr rfl)))) (blkOk_by (own := [("told", 17)]) (by kernel_rfl)) (ct_v (by decide)) (fun _ _ _ _ _ => (pg_name h.nd rfl (by first | exact .inl rfl | exact .inr rfl))) (fun _ _ _ _ _ => (dts_one (dt_cmp (o_notIn h.blk.hu) (de_v rfl (by first | exact .inl rfl | exact .inr (.inl rfl) | exact .inr (.inr rfl))) (de_P h.blk passN (k_backed F) (by decide) (da_cons (de_v rfl (by first | exact .inl rfl | exact .inr (.inl rfl) | exact .inr (.inr rfl))) (da_cons (de_v rfl (by first | exact .inl rfl | exact .inr (.inl rfl) | exact .inr (.inr rfl))) da_nil)) ((aCons_len (aCons_len aNil_len))))))) (fun _ _ _ _ _ => (de_v rfl (by first | exact .inl rfl | exact .inr (.inl rfl) | exact .inr (.inr rfl))))) da_nil)))))) (dss_one (ds_ret de_bl)) dss_nil)
    (dss_one (ds_if (dt_of (dw_or (dt_cmp (o_ne h.hu) (de_P h hp (k_least_closed F) (by decide) (da_cons (de_v rfl (by first | exact .inl rfl | exact .inr (.inl rfl) | exact .inr (.inr rfl))) (da_cons (de_P h hp (k_sources_of F) (by decide) (da_cons (de_v rfl (by first | exact .inl rfl | exact .inr (.inl rfl) | exact .inr (.inr rfl))) (da_cons (de_v rfl (by first | exact .inl rfl | exact .inr (.inl rfl) | exact .inr (.inr rfl))) da_nil)) ((aCons_len (aCons_len aNil_len)))) da_nil)) ((aCons_len (aCons_len aNil_len)))) (de_v rfl (by first | exact .inl rfl | exact .inr (.inl rfl) | exact .inr (.inr rfl)))) (dw_or1 (dt_not (dt_v (de_P h hp (k__law_under F) (by decide) (da_cons (de_P h hp (k_sources_of F) (by decide) (da_cons (de_v rfl (by first | exact .inl rfl | exact .inr (.inl rfl) | exact .inr (.inr rfl))) (da_cons (de_v rfl (by first | exact .inl rfl | exact .inr (.inl rfl) | exact .inr (.inr rfl))) da_nil)) ((aCons_len (aCons_len aNil_len)))) (da_cons (de_v rfl (by first | exact .inl rfl | exact .inr (.inl rfl) | exact .inr (.inr rfl))) da_nil)) ((aCons_len (aCons_len aNil_len))))))))) (dss_one (ds_ret de_bl)) dss_nil)))))))))))))))))
    (dss_one (ds_ret de_bl))))
end
end Px
set_option maxRecDepth 100000
set_option maxHeartbeats 0
/-! the head, printed -/
namespace Px
open PySem PySem.Spec L2
def d_0 : He.DefD := ⟨("_law_taken", none), "_law_taken", "_law_taken", defArgs (top 39), defBody (top 39), defScope (top 39), [], []⟩
def d_1 : He.DefD := ⟨("_law_draw_parts", none), "_law_draw_parts", "_law_draw_parts", defArgs (top 40), defBody (top 40), defScope (top 40), [], []⟩
def d_2 : He.DefD := ⟨("_law_order", none), "_law_order", "_law_order", defArgs (top 42), defBody (top 42), defScope (top 42), [], []⟩
def d_3 : He.DefD := ⟨("_law_draw_pegs", none), "_law_draw_pegs", "_law_draw_pegs", defArgs (top 41), defBody (top 41), defScope (top 41), [], []⟩
def d_4 : He.DefD := ⟨("first_false", none), "first_false", "first_false", defArgs (top 8), defBody (top 8), defScope (top 8), [], []⟩
def d_5 : He.DefD := ⟨("is_number", none), "is_number", "is_number", defArgs (top 6), defBody (top 6), defScope (top 6), [], []⟩
def d_6 : He.DefD := ⟨("is_between", none), "is_between", "is_between", defArgs (top 7), defBody (top 7), defScope (top 7), [], []⟩
def d_7 : He.DefD := ⟨("wrong_peg", none), "wrong_peg", "wrong_peg", defArgs (top 17), defBody (top 17), defScope (top 17), [], []⟩
def d_8 : He.DefD := ⟨("need_pegs", none), "need_pegs", "need_pegs", defArgs (top 19), defBody (top 19), defScope (top 19), [], []⟩
def d_9 : He.DefD := ⟨("in_order", none), "in_order", "in_order", defArgs (top 28), defBody (top 28), defScope (top 28), [], []⟩
def d_10 : He.DefD := ⟨("can_undo", none), "can_undo", "can_undo", defArgs (top 23), defBody (top 23), defScope (top 23), [], []⟩
def d_11 : He.DefD := ⟨("undone", none), "undone", "undone", defArgs (top 25), defBody (top 25), defScope (top 25), [], []⟩
def d_12 : He.DefD := ⟨("backed", none), "backed", "backed", defArgs (top 29), defBody (top 29), defScope (top 29), [], []⟩
def d_13 : He.DefD := ⟨("places_of", none), "places_of", "places_of", defArgs (top 15), defBody (top 15), defScope (top 15), [], []⟩
def d_14 : He.DefD := ⟨("all_standings", none), "all_standings", "all_standings", defArgs (top 20), defBody (top 20), defScope (top 20), [], []⟩
def d_15 : He.DefD := ⟨("widest_bar", none), "widest_bar", "widest_bar", defArgs (top 36), defBody (top 36), defScope (top 36), [], []⟩
def d_16 : He.DefD := ⟨("is_leap", none), "is_leap", "is_leap", defArgs (top 12), defBody (top 12), defScope (top 12), [], []⟩
def d_17 : He.DefD := ⟨("wrong_part", none), "wrong_part", "wrong_part", defArgs (top 13), defBody (top 13), defScope (top 13), [], []⟩
def d_18 : He.DefD := ⟨("Board", some "__init__"), "__init__", "Board.__init__", defArgs (mth 14 0), defBody (mth 14 0), defScope (mth 14 0), [], []⟩
def d_19 : He.DefD := ⟨("_law_all", none), "_law_all", "_law_all", defArgs (top 43), defBody (top 43), defScope (top 43), [], []⟩
def d_20 : He.DefD := ⟨("is_pegs", none), "is_pegs", "is_pegs", defArgs (top 18), defBody (top 18), defScope (top 18), [], []⟩
def d_21 : He.DefD := ⟨("need_set", none), "need_set", "need_set", defArgs (top 30), defBody (top 30), defScope (top 30), [], []⟩
def d_22 : He.DefD := ⟨("can_do", none), "can_do", "can_do", defArgs (top 22), defBody (top 22), defScope (top 22), [], []⟩
def d_23 : He.DefD := ⟨("done", none), "done", "done", defArgs (top 24), defBody (top 24), defScope (top 24), [], []⟩
def d_24 : He.DefD := ⟨("all_from", none), "all_from", "all_from", defArgs (top 27), defBody (top 27), defScope (top 27), [], []⟩
def d_25 : He.DefD := ⟨("least_closed", none), "least_closed", "least_closed", defArgs (top 34), defBody (top 34), defScope (top 34), [], []⟩
def d_26 : He.DefD := ⟨("greatest_closed", none), "greatest_closed", "greatest_closed", defArgs (top 35), defBody (top 35), defScope (top 35), [], []⟩
def d_27 : He.DefD := ⟨("first_left", none), "first_left", "first_left", defArgs (top 31), defBody (top 31), defScope (top 31), [], []⟩
def d_28 : He.DefD := ⟨("is_closed", none), "is_closed", "is_closed", defArgs (top 32), defBody (top 32), defScope (top 32), [], []⟩
def d_29 : He.DefD := ⟨("_law_under", none), "_law_under", "_law_under", defArgs (top 44), defBody (top 44), defScope (top 44), [], []⟩
def d_30 : He.DefD := ⟨("sources_of", none), "sources_of", "sources_of", defArgs (top 37), defBody (top 37), defScope (top 37), [], []⟩
def d_31 : He.DefD := ⟨("law", none), "law", "law", defArgs (top 45), defBody (top 45), defScope (top 45), [], []⟩
def fnD : List He.DefD := [d_0, d_1, d_2, d_3, d_4, d_5, d_6, d_7, d_8, d_9, d_10, d_11, d_12, d_13, d_14, d_15, d_16, d_17, d_18, d_19, d_20, d_21, d_22, d_23, d_24, d_25, d_26, d_27, d_28, d_29, d_30, d_31]
def faD0 : List He.Fa := [.free "all", .free "bool", .free "dict", .free "enumerate", .free "int", .free "isinstance", .free "len", .free "list", .free "range", .free "set", .free "sorted", .free "tuple", .int "MOST_LEAPS" 60, .int "MOST_PLACES" 12, .cls "Board"]
def faD1 : List He.Fa := [.noat "Board" "leaps", .noat "Board" "many", .glo "in_order", .glo "all_standings", .glo "_law_taken", .glo "_law_draw_parts", .glo "_law_order", .glo "_law_draw_pegs", .glo "first_false", .glo "is_number", .glo "is_between", .glo "wrong_peg", .glo "need_pegs", .glo "can_undo", .glo "undone"]
def faD2 : List He.Fa := [.glo "backed", .glo "places_of", .glo "widest_bar", .glo "is_leap", .glo "wrong_part", .glo "Board", .mkr "Board", .glo "_law_all", .glo "is_pegs", .glo "need_set", .glo "can_do", .glo "done", .glo "all_from", .glo "least_closed", .glo "greatest_closed"]
def faD3 : List He.Fa := [.glo "first_left", .glo "is_closed", .glo "_law_under", .glo "sources_of", .glo "law"]
def faD : List He.Fa := faD0 ++ faD1 ++ faD2 ++ faD3

def loose0 : List PySem.Str := ["LeapError", "BadBoard", "BadPegs", "BadSet", "is_number", "is_between", "first_false", "MOST_PLACES", "MOST_LEAPS", "is_leap", "wrong_part", "Board", "places_of", "wrong_peg", "is_pegs", "need_pegs", "all_standings", "can_do", "can_undo", "done"]
def loose1 : List PySem.Str := ["undone", "all_from", "in_order", "backed", "need_set", "first_left", "is_closed", "least_closed", "greatest_closed", "widest_bar", "sources_of", "_law_taken", "_law_draw_parts", "_law_draw_pegs", "_law_order", "_law_all", "_law_under"]
def loose : List PySem.Str := loose0 ++ loose1

abbrev Rw : PySem.W.OpenRow := PySem.W.OpenLaw.row PySem.Challenge.rw_leaptover_k68_closures_are_closures
def presD : List Str := ["law", "in_order", "all_standings"]
def tfD : List He.Defn := presD.map fun x => (x, none)
def exD : PySem.W.Frag → Bool := lamSay presD
abbrev hk : PySem.W.Hook := He.hookX 4 faD fnD [] tfD exD
def ob (s : PySem.W.SharedT) : He.AlX := He.obsX 4 faD fnD [] tfD exD (HandSHeadRun.getT s)
theorem ob_eq (s : PySem.W.SharedT) : ob s = hk.obs s.abs := He.obsX_eq (HandSHeadRun.getT_eq s)
theorem run (w : World) : HandSHeadRun.RunEq Rw (PySem.W.view Rw.prog [45]) hk ob 20000 loose w := by
  intro os
  kernel_rfl
theorem ns_of {K : PySem.W.Frag} {mg : Str → Option Value} {x : Str} (c : (He.Fa.glo x).ok K = true) (hm : mg x = some (.ref (He.ga K x))) : ∀ f, mg x = some (.ref f) → PySem.W.nsIn K mainGlobals x = some (some (.ref f)) := fun f hf => by
  rw [hm] at hf; cases hf; exact He.eqO_ok c
theorem says0 {w : World} {h : Heap} {K : PySem.W.Frag} (c : He.SaysX faD fnD [] tfD exD w h K) : He.SaysD faD fnD K := congrArg (fun z : He.AlT => z.1) c.t
theorem lawD {K : PySem.W.Frag} {h : Heap} {mg : Str → Option Value} (X : K.In h) (G : h.Ns mainGlobals mg) (c0 : He.SaysD faD fnD K) : DefF K mg "law" (top 45) := (let ⟨fd, q⟩ := c0.def_ 31 (d := d_31) rfl; ⟨_, fd, q, He.glo_ok X G (c0.fact 49 (f := .glo "law") rfl)⟩)
theorem facts {w : World} {K : PySem.W.Frag} {h base : Heap} {mg : Str → Option Value} (X : K.In h) (G : h.Ns mainGlobals mg) (c : He.SaysX faD fnD [] tfD exD w h K) (hB : ∀ p ∈ tfD.map (He.cT K), LamX.TabB base mg p.1 p.2) : Fx K mg base :=
  have c0 := says0 c
  {
    f_all := He.free_ok X G (c0.fact 0 rfl)
    f_bool := He.free_ok X G (c0.fact 1 rfl)
    f_dict := He.free_ok X G (c0.fact 2 rfl)
    f_enumerate := He.free_ok X G (c0.fact 3 rfl)
    f_int := He.free_ok X G (c0.fact 4 rfl)
    f_isinstance := He.free_ok X G (c0.fact 5 rfl)
    f_len := He.free_ok X G (c0.fact 6 rfl)
    f_list := He.free_ok X G (c0.fact 7 rfl)
    f_range := He.free_ok X G (c0.fact 8 rfl)
    f_set := He.free_ok X G (c0.fact 9 rfl)
    f_sorted := He.free_ok X G (c0.fact 10 rfl)
    f_tuple := He.free_ok X G (c0.fact 11 rfl)
    c_MOST_LEAPS := He.int_ok X G (c0.fact 12 rfl)
    c_MOST_PLACES := He.int_ok X G (c0.fact 13 rfl)
    cls_Board := He.cls_ok (c0.fact 14 rfl)
    na_Board_leaps := He.noat_ok (c0.fact 15 rfl)
    na_Board_many := He.noat_ok (c0.fact 16 rfl)
    lam_in_order := lamB_of (pres := presD) c.more (by decide) (by decide) (fun y hy => hB _ (List.mem_map.mpr ⟨(y, none), List.mem_map.mpr ⟨y, hy, rfl⟩, rfl⟩)) (ns_of (c0.fact 17 (f := .glo "in_order") rfl) (He.glo_ok X G (c0.fact 17 (f := .glo "in_order") rfl)))
    lam_all_standings := lamB_of (pres := presD) c.more (by decide) (by decide) (fun y hy => hB _ (List.mem_map.mpr ⟨(y, none), List.mem_map.mpr ⟨y, hy, rfl⟩, rfl⟩)) (ns_of (c0.fact 18 (f := .glo "all_standings") rfl) (He.glo_ok X G (c0.fact 18 (f := .glo "all_standings") rfl)))
    d__law_taken := (let ⟨fd, q⟩ := c0.def_ 0 (d := d_0) rfl; ⟨_, fd, q, He.glo_ok X G (c0.fact 19 (f := .glo "_law_taken") rfl)⟩)
    d__law_draw_parts := (let ⟨fd, q⟩ := c0.def_ 1 (d := d_1) rfl; ⟨_, fd, q, He.glo_ok X G (c0.fact 20 (f := .glo "_law_draw_parts") rfl)⟩)
    d__law_order := (let ⟨fd, q⟩ := c0.def_ 2 (d := d_2) rfl; ⟨_, fd, q, He.glo_ok X G (c0.fact 21 (f := .glo "_law_order") rfl)⟩)
    d__law_draw_pegs := (let ⟨fd, q⟩ := c0.def_ 3 (d := d_3) rfl; ⟨_, fd, q, He.glo_ok X G (c0.fact 22 (f := .glo "_law_draw_pegs") rfl)⟩)
    d_first_false := (let ⟨fd, q⟩ := c0.def_ 4 (d := d_4) rfl; ⟨_, fd, q, He.glo_ok X G (c0.fact 23 (f := .glo "first_false") rfl)⟩)
    d_is_number := (let ⟨fd, q⟩ := c0.def_ 5 (d := d_5) rfl; ⟨_, fd, q, He.glo_ok X G (c0.fact 24 (f := .glo "is_number") rfl)⟩)
    d_is_between := (let ⟨fd, q⟩ := c0.def_ 6 (d := d_6) rfl; ⟨_, fd, q, He.glo_ok X G (c0.fact 25 (f := .glo "is_between") rfl)⟩)
    d_wrong_peg := (let ⟨fd, q⟩ := c0.def_ 7 (d := d_7) rfl; ⟨_, fd, q, He.glo_ok X G (c0.fact 26 (f := .glo "wrong_peg") rfl)⟩)
    d_need_pegs := (let ⟨fd, q⟩ := c0.def_ 8 (d := d_8) rfl; ⟨_, fd, q, He.glo_ok X G (c0.fact 27 (f := .glo "need_pegs") rfl)⟩)
    d_in_order := (let ⟨fd, q⟩ := c0.def_ 9 (d := d_9) rfl; ⟨_, fd, q, He.glo_ok X G (c0.fact 17 (f := .glo "in_order") rfl)⟩)
    d_can_undo := (let ⟨fd, q⟩ := c0.def_ 10 (d := d_10) rfl; ⟨_, fd, q, He.glo_ok X G (c0.fact 28 (f := .glo "can_undo") rfl)⟩)
    d_undone := (let ⟨fd, q⟩ := c0.def_ 11 (d := d_11) rfl; ⟨_, fd, q, He.glo_ok X G (c0.fact 29 (f := .glo "undone") rfl)⟩)
    d_backed := (let ⟨fd, q⟩ := c0.def_ 12 (d := d_12) rfl; ⟨_, fd, q, He.glo_ok X G (c0.fact 30 (f := .glo "backed") rfl)⟩)
    d_places_of := (let ⟨fd, q⟩ := c0.def_ 13 (d := d_13) rfl; ⟨_, fd, q, He.glo_ok X G (c0.fact 31 (f := .glo "places_of") rfl)⟩)
    d_all_standings := (let ⟨fd, q⟩ := c0.def_ 14 (d := d_14) rfl; ⟨_, fd, q, He.glo_ok X G (c0.fact 18 (f := .glo "all_standings") rfl)⟩)
    d_widest_bar := (let ⟨fd, q⟩ := c0.def_ 15 (d := d_15) rfl; ⟨_, fd, q, He.glo_ok X G (c0.fact 32 (f := .glo "widest_bar") rfl)⟩)
    d_is_leap := (let ⟨fd, q⟩ := c0.def_ 16 (d := d_16) rfl; ⟨_, fd, q, He.glo_ok X G (c0.fact 33 (f := .glo "is_leap") rfl)⟩)
    d_wrong_part := (let ⟨fd, q⟩ := c0.def_ 17 (d := d_17) rfl; ⟨_, fd, q, He.glo_ok X G (c0.fact 34 (f := .glo "wrong_part") rfl)⟩)
    i_Board := (let ⟨fd, q⟩ := c0.def_ 18 (d := d_18) rfl; ⟨_, fd, q, He.glo_ok X G (c0.fact 35 (f := .glo "Board") rfl), He.mkr_ok (c0.fact 36 (f := .mkr "Board") rfl)⟩)
    d__law_all := (let ⟨fd, q⟩ := c0.def_ 19 (d := d_19) rfl; ⟨_, fd, q, He.glo_ok X G (c0.fact 37 (f := .glo "_law_all") rfl)⟩)
    d_is_pegs := (let ⟨fd, q⟩ := c0.def_ 20 (d := d_20) rfl; ⟨_, fd, q, He.glo_ok X G (c0.fact 38 (f := .glo "is_pegs") rfl)⟩)
    d_need_set := (let ⟨fd, q⟩ := c0.def_ 21 (d := d_21) rfl; ⟨_, fd, q, He.glo_ok X G (c0.fact 39 (f := .glo "need_set") rfl)⟩)
    d_can_do := (let ⟨fd, q⟩ := c0.def_ 22 (d := d_22) rfl; ⟨_, fd, q, He.glo_ok X G (c0.fact 40 (f := .glo "can_do") rfl)⟩)
    d_done := (let ⟨fd, q⟩ := c0.def_ 23 (d := d_23) rfl; ⟨_, fd, q, He.glo_ok X G (c0.fact 41 (f := .glo "done") rfl)⟩)
    d_all_from := (let ⟨fd, q⟩ := c0.def_ 24 (d := d_24) rfl; ⟨_, fd, q, He.glo_ok X G (c0.fact 42 (f := .glo "all_from") rfl)⟩)
    d_least_closed := (let ⟨fd, q⟩ := c0.def_ 25 (d := d_25) rfl; ⟨_, fd, q, He.glo_ok X G (c0.fact 43 (f := .glo "least_closed") rfl)⟩)
    d_greatest_closed := (let ⟨fd, q⟩ := c0.def_ 26 (d := d_26) rfl; ⟨_, fd, q, He.glo_ok X G (c0.fact 44 (f := .glo "greatest_closed") rfl)⟩)
    d_first_left := (let ⟨fd, q⟩ := c0.def_ 27 (d := d_27) rfl; ⟨_, fd, q, He.glo_ok X G (c0.fact 45 (f := .glo "first_left") rfl)⟩)
    d_is_closed := (let ⟨fd, q⟩ := c0.def_ 28 (d := d_28) rfl; ⟨_, fd, q, He.glo_ok X G (c0.fact 46 (f := .glo "is_closed") rfl)⟩)
    d__law_under := (let ⟨fd, q⟩ := c0.def_ 29 (d := d_29) rfl; ⟨_, fd, q, He.glo_ok X G (c0.fact 47 (f := .glo "_law_under") rfl)⟩)
    d_sources_of := (let ⟨fd, q⟩ := c0.def_ 30 (d := d_30) rfl; ⟨_, fd, q, He.glo_ok X G (c0.fact 48 (f := .glo "sources_of") rfl)⟩)
    d_law := (let ⟨fd, q⟩ := c0.def_ 31 (d := d_31) rfl; ⟨_, fd, q, He.glo_ok X G (c0.fact 49 (f := .glo "law") rfl)⟩) }
end Px
set_option maxRecDepth 100000
set_option maxHeartbeats 0
open PySem PySem.W PySem.Calls PyProof.Rows
theorem PySem.Challenge.cw_leaptover_k68_closures_are_closures_holds : PySem.Challenge.rw_leaptover_k68_closures_are_closures.Holds := by
  w_on; o_law
  refine HandSHeadRun.head_any (r := OpenLaw.row PySem.Challenge.rw_leaptover_k68_closures_are_closures) (q := view (OpenLaw.row PySem.Challenge.rw_leaptover_k68_closures_are_closures).prog [45]) (H := Px.hk) (ob := Px.ob) (M := 20000) (loose := Px.loose) (d := HandSHeadRun.topDef (OpenLaw.row PySem.Challenge.rw_leaptover_k68_closures_are_closures).prog 45) (kwd := []) Px.ob_eq
    (by kernel_rfl) (fun s => by kernel_rfl) Px.run (by kernel_rfl) (by kernel_rfl) (by kernel_rfl) (by rfl) (by first | assumption | decide +kernel) (by decide +kernel) ⟨rfl, rfl, rfl, rfl, rfl, by decide +kernel⟩ ?hw ?hc
  case hw => w_witness2
  case hc =>
    refine Px.walk_tab (l := PySem.Challenge.rw_leaptover_k68_closures_are_closures) (n := 63) (k := 8) (x := "script") (CX := L2.CX0) rfl (by decide) (by kernel_rfl) ⟨rfl, by decide, by decide⟩ ?F (fun _ _ _ _ z => z)
    intro w mg fa h Y G hmg0
    obtain ⟨K, KX, c⟩ := Y
    have hmg : mg ("law" : PySem.Str) = some (.ref fa) := by
      have e : (HandSHeadRun.topDef (OpenLaw.row PySem.Challenge.rw_leaptover_k68_closures_are_closures).prog 45).name = ("law" : PySem.Str) := by kernel_rfl
      rw [← e]
      exact hmg0
    obtain ⟨f, fd, e1, hb, hF⟩ := Px.k_law (P := (PySem.Challenge.rw_leaptover_k68_closures_are_closures).prog) (w := w) (Px.lawD KX G (Px.says0 c))
    have e2 := hmg.symm.trans e1
    cases e2
    have mem : ∀ {Q : PySem.Addr × PySem.Addr → Prop}, (∀ p ∈ Px.tfD, Q (He.cT K p)) → ∀ q ∈ Px.tfD.map (He.cT K), Q q := fun hQ q hq => by
      obtain ⟨p, hp, e⟩ := List.mem_map.mp hq
      rw [← e]; exact hQ p hp
    exact ⟨K, fd, Px.tfD.map (He.cT K), fun vs H Q _ => Px.spP ⟨(PySem.Challenge.rw_leaptover_k68_closures_are_closures).prog, w, K⟩ 1 Px.m_law vs H Q Px.noE, KX, mem c.empty, mem c.out, mem (fun p hp => PySem.W.codeHd_of_K KX (c.hd p hp)), hb,
      fun H a ns hl hT hS => Px.law_sp (Z := ⟨(PySem.Challenge.rw_leaptover_k68_closures_are_closures).prog, w, K⟩) (Px.tabX_start (pres := Px.presD) c.more fun x hx => hT _ (List.mem_map.mpr ⟨(x, none), List.mem_map.mpr ⟨x, hx, rfl⟩, rfl⟩)) hS (Px.law_true ns hl),
      fun base _ _ hB => Px.fn_calm (hF base (Px.facts KX G c hB))⟩
