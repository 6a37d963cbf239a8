import PyProof.Rows.All
import HandS.ForMost
import HandS.Exc
import HandS.ExcOwn
import HandS.WordsExc
import HandS.WordsList
import HandS.TupAny
import HandS.TupMul
import HandS.TupLe
import HandS.IsInst
import HandS.Deep
import HandS.Zip
import HandS.Style
import HandS.Conv
import HandS.Flow
import HandS.Small
import HandS.Lambda
import KE.GoesMore
import KE.GoesEnum
import KE.DataCmp
import KE.DataMinMax
import KE.SortData
import PyProof.Rows.SumAny
import HandS.TupLen
import HandS.SortInts
import HandS.More
import HandS.DictTup
import HandS.Defaults
import HandS.HeadHook4
import HandS.ExcIs
import HandS.EndTab
import HandS.HeadWalk
import PySem.Challenge.RW_callskept_k56_shifts_needs_and_prices
import KE.KStateDown
import HandS.Head0
import HandS.Head1
import HandS.Head2
import HandS.HeadEnd
import HandS.HeadHook1
import HandS.HeadHook2
import HandS.HeadHook3
set_option Elab.async false
set_option linter.all false
set_option maxRecDepth 100000
set_option maxHeartbeats 4000000
/-! Mini: values as data, a store of what changes, and what HandS's readings ask of them. -/
namespace Mini
open PySem PySem.Spec PyProof.Rows L2

/-- data -/
inductive D where
  | non | bl (b : Bool) | int (i : Int) | str (x : Str) | tup (xs : List D)
  /-- a list that nobody changes any more -/
  | frl (xs : List D)
  /-- what may change: its place in the store -/
  | ref (n : Nat)
  /-- a def or class of the top -/
  | gl (x : Str)
  /-- the script -/
  | scr (xs : List Int)
  /-- a tuple of the top -/
  | ktp (xs : List D)

/-- what may change -/
inductive MO where
  | lst (xs : List D) | dK (kvs : List (Key × D)) | dT (kvs : List (List Key × D)) | ins (c : Str) (fs : List (Str × D))
abbrev Mem := List MO
structure Exc where
  cls : Str
  fs : List (Str × D)
inductive R (α : Type) where
  | ok (a : α) (M : Mem) | exc (x : Exc) (M : Mem) | stuck
def R.bind {α γ : Type} (r : R α) (f : α → Mem → R γ) : R γ := match r with
  | .ok a M => f a M
  | .exc x M => .exc x M
  | .stuck => .stuck
abbrev MEnv := List (Option D)
abbrev ME' := MEnv → Mem → R D
inductive Fl where
  | nx (ρ : MEnv) | rt (d : D)
abbrev MS' := MEnv → Mem → R Fl
abbrev Fn := List D → Mem → R D

/-! ### how data lies -/
structure Cf where
  K : PySem.W.Frag
  mg : Str → Option Value
  T : List (Addr × Str)
  /-- what is being made: nothing else lies there -/
  no : List Addr

def OutT (C : Cf) (β : List Addr) (H : Hp) (a : Addr) (vs : List V) : Prop := (a ∉ β ∧ a ∉ C.no) ∧ H a = some (.tup vs)
def OutK (C : Cf) (a : Addr) (vs : List V) : Prop :=
    ∃ (o : Obj) (its : Array Value) (n : Nat), C.K.lookup a = some o ∧ o.cls = .type "tuple" ∧ o.data = .seq its n ∧ its.size ≤ sizeLine ∧ Vals vs its.toList
/-- a list, or a list that is frozen -/
def LstF (u : HO) (vs : List V) : Prop := u = .lst vs ∨ ∃ o, u = .frz o (.lst vs)
theorem LstF.nt {u : HO} {vs : List V} (h : LstF u vs) (ps : Array Value) : u ≠ .tbl ps := by
  rcases h with e | ⟨o, e⟩ <;> (subst e; intro z; cases z)
def OutS (C : Cf) (β : List Addr) (H : Hp) (a : Addr) (vs : List V) : Prop :=
  (a ∉ β ∧ a ∉ C.no ∧ ∃ u, LstF u vs ∧ H a = some u) ∨
    ∃ (o : Obj) (its : Array Value) (n : Nat), C.K.lookup a = some o ∧ o.cls = .type "list" ∧ o.dict = none ∧ o.data = .seq its n ∧ its.size ≤ sizeLine ∧ Vals vs its.toList
mutual
inductive Rep (C : Cf) (β : List Addr) (H : Hp) : V → D → Prop
  | non : Rep C β H .non .non
  | bl (b : Bool) : Rep C β H (.bl b) (.bl b)
  | int (i : Int) : Rep C β H (.int i) (.int i)
  | str (x : Str) : Rep C β H (.str x) (.str x)
  | tup {a : Addr} {vs : List V} {ds : List D} : OutT C β H a vs → Reps C β H vs ds → Rep C β H (.ref a) (.tup ds)
  | frl {a : Addr} {vs : List V} {ds : List D} : a ∉ β ∧ a ∉ C.no → H a = some (.lst vs) → Reps C β H vs ds → Rep C β H (.ref a) (.frl ds)
  | ref {n : Nat} {a : Addr} : β[n]? = some a → Rep C β H (.ref a) (.ref n)
  | gl {x : Str} {a : Addr} : C.mg x = some (.ref a) → Rep C β H (.ref a) (.gl x)
  | scr {a : Addr} {xs : List Int} : OutS C β H a (xs.map V.int) → Rep C β H (.ref a) (.scr xs)
  | ktp {a : Addr} {vs : List V} {ds : List D} : OutK C a vs → Reps C β H vs ds → Rep C β H (.ref a) (.ktp ds)
inductive Reps (C : Cf) (β : List Addr) (H : Hp) : List V → List D → Prop
  | nil : Reps C β H [] []
  | cons {v : V} {vs : List V} {d : D} {ds : List D} : Rep C β H v d → Reps C β H vs ds → Reps C β H (v :: vs) (d :: ds)
end
def RepF (C : Cf) (β : List Addr) (H : Hp) : List (Str × V) → List (Str × D) → Prop := Paired fun p q => p.1 = q.1 ∧ Rep C β H p.2 q.2
def RepK {κ : Type} (C : Cf) (β : List Addr) (H : Hp) : List (κ × V) → List (κ × D) → Prop := Paired fun p q => p.1 = q.1 ∧ Rep C β H p.2 q.2
def ObjR (C : Cf) (β : List Addr) (H : Hp) (a : Addr) : MO → Prop
  | .lst ds => ∃ vs, H a = some (.lst vs) ∧ Reps C β H vs ds
  | .dK kds => ∃ kvs, H a = some (.dK kvs) ∧ RepK C β H kvs kds
  | .dT kds => ∃ kvs, H a = some (.dT kvs) ∧ RepK C β H kvs kds
  | .ins c fs => ∃ Ca dx fvs, C.mg c = some (.ref Ca) ∧ H a = some (.ins Ca dx fvs) ∧ RepF C β H fvs fs
structure Sim (C : Cf) (β : List Addr) (M : Mem) (H : Hp) : Prop where
  len : β.length = M.length
  nd : β.Nodup
  obj : ∀ (n : Nat) (o : MO), M[n]? = some o → ∃ a, β[n]? = some a ∧ ObjR C β H a o
  tabs : LamX.Tabs C.T H
  res : ∀ a ∈ C.no, a ∉ β ∧ ∃ xs, H a = some (.lst xs)
/-- nothing stands there, or a table -/
def Free (H : Hp) (b : Addr) : Prop := ∀ o, H b = some o → ∃ ps, o = .tbl ps
theorem free_of {H : Hp} {b : Addr} (h : H b = none) : Free H b := fun o e => by rw [h] at e; cases e
structure Grow (β : List Addr) (H : Hp) (β' : List Addr) (H' : Hp) : Prop where
  ext : ∃ e, β' = β ++ e ∧ ∀ b ∈ e, Free H b
  keep : ∀ b o, b ∉ β → H b = some o → (∀ ps, o ≠ .tbl ps) → H' b = some o
  there : ∀ b o, H b = some o → (∀ ps, o ≠ .tbl ps) → ∃ o', H' b = some o' ∧ ∀ ps, o' ≠ .tbl ps
section
variable {C : Cf} {β β1 β2 : List Addr} {H H1 H2 : Hp} {M : Mem}
theorem Grow.refl : Grow β H β H := ⟨⟨[], by simp, by simp⟩, fun _ _ _ h _ => h, fun _ o h n => ⟨o, h, n⟩⟩
theorem Grow.free (g : Grow β H β1 H1) {b : Addr} (h : Free H1 b) : Free H b := fun o e => by
  by_cases n : ∃ ps, o = .tbl ps
  · exact n
  · obtain ⟨o', e', n'⟩ := g.there b o e fun ps z => n ⟨ps, z⟩
    obtain ⟨ps, z⟩ := h o' e'
    exact absurd z (n' ps)
theorem Grow.trans (a : Grow β H β1 H1) (b : Grow β1 H1 β2 H2) : Grow β H β2 H2 := by
  obtain ⟨e1, rfl, f1⟩ := a.ext
  obtain ⟨e2, rfl, f2⟩ := b.ext
  refine ⟨⟨e1 ++ e2, by rw [List.append_assoc], fun x hx => ?_⟩, fun x o hx h n => ?_, fun x o h n => ?_⟩
  · rcases List.mem_append.mp hx with z | z
    · exact f1 x z
    · exact a.free (f2 x z)
  · refine b.keep x o (fun z => ?_) (a.keep x o hx h n) n
    rcases List.mem_append.mp z with z | z
    · exact hx z
    · obtain ⟨ps, e⟩ := f1 x z o h
      exact n ps e
  · obtain ⟨o', h', n'⟩ := a.there x o h n
    exact b.there x o' h' n'
theorem Grow.out (g : Grow β H β1 H1) {b : Addr} {o : HO} (hb : b ∉ β) (h : H b = some o) (n : ∀ ps, o ≠ .tbl ps := by intro _ z; cases z) : b ∉ β1 := fun z => by
  obtain ⟨e, rfl, f⟩ := g.ext
  rcases List.mem_append.mp z with z | z
  · exact hb z
  · obtain ⟨ps, e⟩ := f b z o h
    exact n ps e
theorem Grow.get (g : Grow β H β1 H1) {n : Nat} {a : Addr} (h : β[n]? = some a) : β1[n]? = some a := by
  obtain ⟨e, rfl, f⟩ := g.ext
  obtain ⟨hn, _⟩ := List.getElem?_eq_some_iff.mp h
  rw [List.getElem?_append_left hn]; exact h
theorem OutT.grow (g : Grow β H β1 H1) {a : Addr} {vs : List V} (h : OutT C β H a vs) : OutT C β1 H1 a vs :=
  ⟨⟨g.out h.1.1 h.2, h.1.2⟩, g.keep _ _ h.1.1 h.2 (fun _ z => by cases z)⟩
theorem OutS.grow (g : Grow β H β1 H1) {a : Addr} {vs : List V} (h : OutS C β H a vs) : OutS C β1 H1 a vs := by
  rcases h with ⟨h1, h3, u, hu, h2⟩ | h
  · exact .inl ⟨g.out h1 h2 hu.nt, h3, u, hu, g.keep _ _ h1 h2 hu.nt⟩
  · exact .inr h
theorem OutT.sq {a : Addr} {vs : List V} (h : OutT C β H a vs) : SqT C.K H a vs := .inl (.inl h.2)
theorem OutK.sq {a : Addr} {vs : List V} (h : OutK C a vs) : SqT C.K H a vs := .inr h
theorem OutS.sq {a : Addr} {vs : List V} (h : OutS C β H a vs) : SqL C.K H a vs := by
  rcases h with ⟨_, _, u, hu | ⟨o, hu⟩, e⟩ | h
  · subst hu; exact .inl (.inl e)
  · subst hu; exact .inl (.inr ⟨o, e⟩)
  · exact .inr h
mutual
theorem Rep.grow (g : Grow β H β1 H1) : ∀ {v : V} {d : D}, Rep C β H v d → Rep C β1 H1 v d
  | _, _, .non => .non
  | _, _, .bl b => .bl b
  | _, _, .int b => .int b
  | _, _, .str b => .str b
  | _, _, .tup a b => .tup (a.grow g) (Reps.grow g b)
  | _, _, .frl a b c => .frl ⟨g.out a.1 b, a.2⟩ (g.keep _ _ a.1 b (fun _ z => by cases z)) (Reps.grow g c)
  | _, _, .ref a => .ref (g.get a)
  | _, _, .gl a => .gl a
  | _, _, .scr a => .scr (a.grow g)
  | _, _, .ktp a b => .ktp a (Reps.grow g b)
theorem Reps.grow (g : Grow β H β1 H1) : ∀ {v : List V} {d : List D}, Reps C β H v d → Reps C β1 H1 v d
  | _, _, .nil => .nil
  | _, _, .cons a b => .cons (Rep.grow g a) (Reps.grow g b)
end
theorem RepF.grow (g : Grow β H β1 H1) {v : List (Str × V)} {d : List (Str × D)} (h : RepF C β H v d) : RepF C β1 H1 v d := Paired.mapP h fun _ _ x => ⟨x.1, x.2.grow g⟩
theorem RepK.grow {κ : Type} (g : Grow β H β1 H1) {v : List (κ × V)} {d : List (κ × D)} (h : RepK C β H v d) : RepK C β1 H1 v d := Paired.mapP h fun _ _ x => ⟨x.1, x.2.grow g⟩
theorem Reps.length : ∀ {vs : List V} {ds : List D}, Reps C β H vs ds → vs.length = ds.length
  | _, _, .nil => rfl
  | _, _, .cons _ b => by rw [List.length_cons, List.length_cons, b.length]
theorem Reps.get : ∀ {vs : List V} {ds : List D} {i : Nat} {d : D}, Reps C β H vs ds → ds[i]? = some d → ∃ v, vs[i]? = some v ∧ Rep C β H v d
  | _, _, _, _, .nil, e => by simp at e
  | _, _, 0, _, .cons r _, e => by simp at e; subst e; exact ⟨_, rfl, r⟩
  | _, _, i + 1, _, .cons _ t, e => by
    obtain ⟨v, h1, h2⟩ := Reps.get (i := i) t (by simpa using e)
    exact ⟨v, by simpa using h1, h2⟩
theorem Reps.append : ∀ {xs ys : List V} {us ws : List D}, Reps C β H xs us → Reps C β H ys ws → Reps C β H (xs ++ ys) (us ++ ws)
  | _, _, _, _, .nil, s => s
  | _, _, _, _, .cons r t, s => .cons r (Reps.append t s)
theorem Reps.take : ∀ {xs : List V} {us : List D} (n : Nat), Reps C β H xs us → Reps C β H (xs.take n) (us.take n)
  | _, _, 0, _ => .nil
  | _, _, _ + 1, .nil => .nil
  | _, _, n + 1, .cons r t => .cons r (Reps.take n t)
theorem Reps.drop : ∀ {xs : List V} {us : List D} (n : Nat), Reps C β H xs us → Reps C β H (xs.drop n) (us.drop n)
  | _, _, 0, r => r
  | _, _, _ + 1, .nil => .nil
  | _, _, n + 1, .cons _ t => Reps.drop n t
theorem Reps.set {x : V} {u : D} (r : Rep C β H x u) : ∀ {xs : List V} {us : List D} (i : Nat), Reps C β H xs us → Reps C β H (xs.set i x) (us.set i u)
  | _, _, _, .nil => .nil
  | _, _, 0, .cons _ t => .cons r t
  | _, _, i + 1, .cons q t => .cons q (Reps.set r i t)
theorem Reps.reverse : ∀ {xs : List V} {us : List D}, Reps C β H xs us → Reps C β H xs.reverse us.reverse
  | _, _, .nil => .nil
  | _, _, .cons r t => by
    rw [List.reverse_cons, List.reverse_cons]
    exact (Reps.reverse t).append (.cons r .nil)
theorem ObjR.grow (g : Grow β H β1 H1) {a : Addr} {o : MO} (h : ObjR C β H a o) (e : H1 a = H a) : ObjR C β1 H1 a o := by
  cases o with
  | lst ds => obtain ⟨vs, h1, h2⟩ := h; exact ⟨vs, e.trans h1, h2.grow g⟩
  | dK ds => obtain ⟨vs, h1, h2⟩ := h; exact ⟨vs, e.trans h1, h2.grow g⟩
  | dT ds => obtain ⟨vs, h1, h2⟩ := h; exact ⟨vs, e.trans h1, h2.grow g⟩
  | ins c fs => obtain ⟨Ca, dx, fv, h0, h1, h2⟩ := h; exact ⟨Ca, dx, fv, h0, e.trans h1, h2.grow g⟩
theorem ObjR.isSome {a : Addr} {o : MO} (h : ObjR C β H a o) : ∃ u, H a = some u := by
  cases o with
  | lst ds => obtain ⟨vs, h1, h2⟩ := h; exact ⟨_, h1⟩
  | dK ds => obtain ⟨vs, h1, h2⟩ := h; exact ⟨_, h1⟩
  | dT ds => obtain ⟨vs, h1, h2⟩ := h; exact ⟨_, h1⟩
  | ins c fs => obtain ⟨Ca, dx, fv, h0, h1, h2⟩ := h; exact ⟨_, h1⟩
theorem Sim.all (S : Sim C β M H) {a : Addr} (h : a ∈ β) : ∃ (n : Nat) (o : MO), β[n]? = some a ∧ M[n]? = some o ∧ ObjR C β H a o := by
  obtain ⟨n, hn, e⟩ := List.mem_iff_getElem.mp h
  have h1 : n < M.length := by rw [← S.len]; exact hn
  have e1 : β[n]? = some a := by rw [List.getElem?_eq_getElem hn, e]
  obtain ⟨b, e2, q⟩ := S.obj n M[n] (List.getElem?_eq_getElem h1)
  rw [e1] at e2; cases e2
  exact ⟨n, _, e1, List.getElem?_eq_getElem h1, q⟩
theorem Sim.isSome (S : Sim C β M H) {a : Addr} (h : a ∈ β) : ∃ u, H a = some u := by
  obtain ⟨_, _, _, _, q⟩ := S.all h
  exact q.isSome
theorem Sim.nin (S : Sim C β M H) {p : Addr} (h : H p = none) : p ∉ β := fun z => by
  obtain ⟨u, e⟩ := S.isSome z
  rw [h] at e; cases e
/-- a new thing that nobody changes -/
theorem grow_new {p : Addr} {o : HO} (h : H p = none) : Grow β H β (upd H p o) :=
  ⟨⟨[], by simp, by simp⟩, fun b u _ e _ => by rw [upd_ne (ne_of_none e h)]; exact e, fun b u e n => ⟨u, by rw [upd_ne (ne_of_none e h)]; exact e, n⟩⟩
theorem grow_add {p : Addr} {o : HO} (h : H p = none) : Grow β H (β ++ [p]) (upd H p o) :=
  ⟨⟨[p], rfl, fun b hb => by rw [List.mem_singleton.mp hb]; exact free_of h⟩, fun b u _ e _ => by rw [upd_ne (ne_of_none e h)]; exact e, fun b u e n => ⟨u, by rw [upd_ne (ne_of_none e h)]; exact e, n⟩⟩
theorem grow_put {p : Addr} {o : HO} (h : p ∈ β) (n : ∀ ps, o ≠ .tbl ps := by intro _ z; cases z) : Grow β H β (upd H p o) :=
  ⟨⟨[], by simp, by simp⟩, fun b u hb e _ => by rw [upd_ne (fun z => hb (by rw [z]; exact h))]; exact e, fun b u e nu => by
    by_cases z : b = p
    · rw [z, upd_same]; exact ⟨_, rfl, n⟩
    · exact ⟨u, by rw [upd_ne z]; exact e, nu⟩⟩
theorem tabs_new {T : List (Addr × Str)} {p : Addr} {o : HO} (t : LamX.Tabs T H) (h : H p = none) : LamX.Tabs T (upd H p o) := t.ext fun b u e => by rw [upd_ne (ne_of_none e h)]; exact e
/-- where nothing lies yet -/
theorem Sim.nno (S : Sim C β M H) {p : Addr} (h : H p = none) : p ∉ C.no := fun z => by
  obtain ⟨_, o, e⟩ := S.res p z
  rw [h] at e; cases e
theorem Sim.res_grow (S : Sim C β M H) (g : Grow β H β1 H1) : ∀ a ∈ C.no, a ∉ β1 ∧ ∃ xs, H1 a = some (.lst xs) := fun a ha => by
  obtain ⟨n, o, e⟩ := S.res a ha
  exact ⟨g.out n e, o, g.keep a _ n e fun _ z => by cases z⟩
theorem Sim.fresh (S : Sim C β M H) {p : Addr} {o : HO} (h : H p = none) : Sim C β M (upd H p o) :=
  ⟨S.len, S.nd, fun n u e => by
    obtain ⟨a, e1, q⟩ := S.obj n u e
    refine ⟨a, e1, q.grow (grow_new h) (upd_ne ?_)⟩
    obtain ⟨w, z⟩ := q.isSome
    exact ne_of_none z h, tabs_new S.tabs h, S.res_grow (grow_new h)⟩
theorem Sim.push (S : Sim C β M H) {p : Addr} {o : HO} {u : MO} (h : H p = none) (hu : ObjR C (β ++ [p]) (upd H p o) p u) : Sim C (β ++ [p]) (M ++ [u]) (upd H p o) :=
  ⟨by rw [List.length_append, List.length_append, S.len]; rfl, by
    rw [List.nodup_append]
    exact ⟨S.nd, by simp, fun a ha b hb e => S.nin h (by rw [List.mem_singleton.mp hb] at e; rw [← e]; exact ha)⟩, fun n w e => by
    by_cases hn : n < M.length
    · rw [List.getElem?_append_left hn] at e
      obtain ⟨a, e1, q⟩ := S.obj n w e
      refine ⟨a, (grow_add (o := o) h).get e1, q.grow (grow_add h) (upd_ne ?_)⟩
      obtain ⟨w, z⟩ := q.isSome
      exact ne_of_none z h
    · rw [List.getElem?_append_right (by omega)] at e
      have hz : n - M.length = 0 := by
        cases hq : n - M.length with
        | zero => rfl
        | succ k => rw [hq] at e; simp at e
      rw [hz] at e
      simp at e
      subst e
      refine ⟨p, ?_, hu⟩
      rw [List.getElem?_append_right (by rw [S.len]; omega), show n - β.length = 0 by rw [S.len]; exact hz]
      rfl, tabs_new S.tabs h, S.res_grow (grow_add h)⟩
theorem Sim.put (S : Sim C β M H) {n : Nat} {p : Addr} {o : HO} {u : MO} (hn : β[n]? = some p) (hu : ObjR C β (upd H p o) p u) (ht : ∀ ps, H p ≠ some (.tbl ps)) (hext : ∀ φ, H p ≠ some (.ext φ)) (nt : ∀ ps, o ≠ .tbl ps := by intro _ z; cases z) : Sim C β (M.set n u) (upd H p o) := by
  have hm : p ∈ β := List.mem_iff_getElem?.mpr ⟨n, hn⟩
  obtain ⟨hl, _⟩ := List.getElem?_eq_some_iff.mp hn
  refine ⟨by rw [List.length_set, S.len], S.nd, fun k w e => ?_, fun q hq => ?_, S.res_grow (grow_put hm nt)⟩
  · by_cases hk : k = n
    · subst hk
      rw [List.getElem?_set_self (by rw [← S.len]; exact hl)] at e
      cases e
      exact ⟨p, hn, hu⟩
    · rw [List.getElem?_set_ne (Ne.symm hk)] at e
      obtain ⟨a, e1, q⟩ := S.obj k w e
      refine ⟨a, e1, q.grow (grow_put hm nt) (upd_ne fun z => hk ?_)⟩
      subst z
      exact nd_ix S.nd e1 hn
  · obtain ⟨ps, h1, h2, h3⟩ := S.tabs q hq
    have np : q.1 ≠ p := fun z => ht ps (by rw [← z]; exact h1)
    refine ⟨ps, by rw [upd_ne np]; exact h1, h2, fun pos cv hc => ?_⟩
    obtain ⟨c, e1, e2⟩ := h3 pos cv hc
    refine ⟨c, e1, ?_⟩
    have nc : c ≠ p := fun z => hext _ (by rw [← z]; exact e2)
    rw [upd_ne nc]; exact e2
/-- one more place where something is being made -/
abbrev Cf.wno (C : Cf) (L : Addr) : Cf := { C with no := L :: C.no }
mutual
theorem Rep.lift {L : Addr} (hL : H L = none) : ∀ {v : V} {d : D}, Rep C β H v d → Rep (C.wno L) β H v d
  | _, _, .non => .non
  | _, _, .bl b => .bl b
  | _, _, .int b => .int b
  | _, _, .str b => .str b
  | _, _, .tup a b => .tup ⟨⟨a.1.1, fun z => (List.mem_cons.mp z).elim (fun e => by have h3 := a.2; rw [e, hL] at h3; cases h3) a.1.2⟩, a.2⟩ (Reps.lift hL b)
  | _, _, .frl a b c => .frl ⟨a.1, fun z => (List.mem_cons.mp z).elim (fun e => by rw [e, hL] at b; cases b) a.2⟩ b (Reps.lift hL c)
  | _, _, .ref a => .ref a
  | _, _, .gl a => .gl a
  | _, _, .scr a => .scr (a.elim (fun ⟨h1, h2, u, hu, h3⟩ => .inl ⟨h1, fun z => (List.mem_cons.mp z).elim (fun e => by rw [e, hL] at h3; cases h3) h2, u, hu, h3⟩) .inr)
  | _, _, .ktp a b => .ktp a (Reps.lift hL b)
theorem Reps.lift {L : Addr} (hL : H L = none) : ∀ {v : List V} {d : List D}, Reps C β H v d → Reps (C.wno L) β H v d
  | _, _, .nil => .nil
  | _, _, .cons a b => .cons (Rep.lift hL a) (Reps.lift hL b)
end
mutual
theorem Rep.drop {L : Addr} : ∀ {v : V} {d : D}, Rep (C.wno L) β H v d → Rep C β H v d
  | _, _, .non => .non
  | _, _, .bl b => .bl b
  | _, _, .int b => .int b
  | _, _, .str b => .str b
  | _, _, .tup a b => .tup ⟨⟨a.1.1, fun z => a.1.2 (List.mem_cons_of_mem _ z)⟩, a.2⟩ (Reps.dropNo b)
  | _, _, .frl a b c => .frl ⟨a.1, fun z => a.2 (List.mem_cons_of_mem _ z)⟩ b (Reps.dropNo c)
  | _, _, .ref a => .ref a
  | _, _, .gl a => .gl a
  | _, _, .scr a => .scr (a.elim (fun ⟨h1, h2, u, hu, h3⟩ => .inl ⟨h1, fun z => h2 (List.mem_cons_of_mem _ z), u, hu, h3⟩) .inr)
  | _, _, .ktp a b => .ktp a (Reps.dropNo b)
theorem Reps.dropNo {L : Addr} : ∀ {v : List V} {d : List D}, Reps (C.wno L) β H v d → Reps C β H v d
  | _, _, .nil => .nil
  | _, _, .cons a b => .cons (Rep.drop a) (Reps.dropNo b)
end
mutual
theorem Rep.over {L : Addr} {o : HO} (hL : L ∈ C.no) : ∀ {v : V} {d : D}, Rep C β H v d → Rep C β (upd H L o) v d
  | _, _, .non => .non
  | _, _, .bl b => .bl b
  | _, _, .int b => .int b
  | _, _, .str b => .str b
  | _, _, .tup a b => .tup ⟨a.1, by rw [upd_ne (fun e => a.1.2 (by rw [e]; exact hL))]; exact a.2⟩ (Reps.over hL b)
  | _, _, .frl a b c => .frl a (by rw [upd_ne (fun e => a.2 (by rw [e]; exact hL))]; exact b) (Reps.over hL c)
  | _, _, .ref a => .ref a
  | _, _, .gl a => .gl a
  | _, _, .scr a => .scr (a.elim (fun ⟨h1, h2, u, hu, h3⟩ => .inl ⟨h1, h2, u, hu, by rw [upd_ne (fun e => h2 (by rw [e]; exact hL))]; exact h3⟩) .inr)
  | _, _, .ktp a b => .ktp a (Reps.over hL b)
theorem Reps.over {L : Addr} {o : HO} (hL : L ∈ C.no) : ∀ {v : List V} {d : List D}, Reps C β H v d → Reps C β (upd H L o) v d
  | _, _, .nil => .nil
  | _, _, .cons a b => .cons (Rep.over hL a) (Reps.over hL b)
end
theorem ObjR.map {C' : Cf} {β' : List Addr} {H' : Hp} (e : C'.mg = C.mg) (r : ∀ v d, Rep C β H v d → Rep C' β' H' v d) (rs : ∀ v d, Reps C β H v d → Reps C' β' H' v d) {a : Addr} {o : MO} (h : ObjR C β H a o) (eh : H' a = H a) : ObjR C' β' H' a o := by
  cases o with
  | lst ds => obtain ⟨vs, h1, h2⟩ := h; exact ⟨vs, eh.trans h1, rs _ _ h2⟩
  | dK ds => obtain ⟨vs, h1, h2⟩ := h; exact ⟨vs, eh.trans h1, Paired.mapP h2 fun _ _ x => ⟨x.1, r _ _ x.2⟩⟩
  | dT ds => obtain ⟨vs, h1, h2⟩ := h; exact ⟨vs, eh.trans h1, Paired.mapP h2 fun _ _ x => ⟨x.1, r _ _ x.2⟩⟩
  | ins c fs => obtain ⟨Ca, dx, fv, h0, h1, h2⟩ := h; exact ⟨Ca, dx, fv, by rw [e]; exact h0, eh.trans h1, Paired.mapP h2 fun _ _ x => ⟨x.1, r _ _ x.2⟩⟩
theorem Sim.lift (S : Sim C β M H) {L : Addr} {xs : List V} (hL : H L = none) : Sim (C.wno L) β M (upd H L (.lst xs)) :=
  have S' := S.fresh (o := .lst xs) hL
  ⟨S'.len, S'.nd, fun n u e => by
    obtain ⟨a, e1, q⟩ := S.obj n u e
    refine ⟨a, e1, q.map (C := C) (C' := C.wno L) rfl (fun v d r => (r.lift (C := C) hL).grow (grow_new hL)) (fun v d r => (r.lift (C := C) hL).grow (grow_new hL)) (upd_ne ?_)⟩
    obtain ⟨w, z⟩ := q.isSome
    exact ne_of_none z hL, S'.tabs, fun a ha => by
    rcases List.mem_cons.mp ha with e | ha
    · rw [e]; exact ⟨S.nin hL, _, upd_same⟩
    · exact S'.res a ha⟩
theorem Sim.dropNo {L : Addr} (S : Sim (C.wno L) β M H) : Sim C β M H :=
  ⟨S.len, S.nd, fun n u e => by
    obtain ⟨a, e1, q⟩ := S.obj n u e
    exact ⟨a, e1, q.map (C := C.wno L) (C' := C) rfl (fun v d r => r.drop) (fun v d r => r.dropNo) rfl⟩, S.tabs, fun a ha => S.res a (List.mem_cons_of_mem _ ha)⟩
theorem Sim.over {L : Addr} {xs : List V} (S : Sim C β M H) (hL : L ∈ C.no) (ht : ∀ ps, H L ≠ some (.tbl ps)) (hext : ∀ φ, H L ≠ some (.ext φ)) : Sim C β M (upd H L (.lst xs)) :=
  ⟨S.len, S.nd, fun n u e => by
    obtain ⟨a, e1, q⟩ := S.obj n u e
    refine ⟨a, e1, q.map (C' := C) rfl (fun v d r => r.over hL) (fun v d r => r.over hL) (upd_ne fun z => (S.res L hL).1 ?_)⟩
    rw [← z]; exact List.mem_iff_getElem?.mpr ⟨n, e1⟩, fun q hq => by
    obtain ⟨ps, h1, h2, h3⟩ := S.tabs q hq
    have np : q.1 ≠ L := fun z => ht ps (by rw [← z]; exact h1)
    refine ⟨ps, by rw [upd_ne np]; exact h1, h2, fun pos cv hc => ?_⟩
    obtain ⟨c, e1, e2⟩ := h3 pos cv hc
    have nc : c ≠ L := fun z => hext _ (by rw [← z]; exact e2)
    exact ⟨c, e1, by rw [upd_ne nc]; exact e2⟩, fun a ha => by
    obtain ⟨n, u, e⟩ := S.res a ha
    refine ⟨n, ?_⟩
    by_cases h : a = L
    · rw [h, upd_same]; exact ⟨_, rfl⟩
    · exact ⟨u, by rw [upd_ne h]; exact e⟩⟩
/-- a write at a place that did not stand at the start -/
theorem Grow.over {L : Addr} {xs : List V} (g : Grow β H β1 H1) (hL : Free H L) : Grow β H β1 (upd H1 L (.lst xs)) :=
  ⟨g.ext, fun b u nb e nt => by
    have hb : b ≠ L := fun z => by
      obtain ⟨ps, q⟩ := hL u (by rw [← z]; exact e)
      exact nt ps q
    rw [upd_ne hb]; exact g.keep b u nb e nt, fun b u e nt => by
    have hb : b ≠ L := fun z => by
      obtain ⟨ps, q⟩ := hL u (by rw [← z]; exact e)
      exact nt ps q
    rw [upd_ne hb]; exact g.there b u e nt⟩
end
end Mini

set_option Elab.async false
set_option linter.all false
set_option maxRecDepth 100000
set_option maxHeartbeats 4000000
namespace Mini
open PySem PySem.Spec PyProof.Rows L2

/-! ### readings -/
def XRep (C : Cf) (β : List Addr) (H : Hp) (x : Exc) (cls : Value) (dx : Option Addr) : Prop :=
  ∃ a, C.mg x.cls = some (.ref a) ∧ cls = .ref a ∧ ((x.fs = [] ∧ dx = none) ∨ (x.fs ≠ [] ∧ ∃ d fvs, dx = some d ∧ H d = some (.xd fvs) ∧ RepF C β H fvs x.fs))
def REnv (C : Cf) (β : List Addr) (H : Hp) (ρ : MEnv) (σ : L2.St) : Prop :=
  ρ.length = σ.length ∧ ∀ (i : Nat) (d : D), ρ[i]? = some (some d) → ∃ v, σ[i]? = some (some v) ∧ Rep C β H v d
def Post {α : Type} (C : Cf) (β : List Addr) (H : Hp) (E : XK) (r : R α) (Q : α → Mem → Prop) : Prop := match r with
  | .ok a M => Q a M
  | .exc x M => ∀ β' H', Grow β H β' H' → Sim C β' M H' → ∀ cls dx, XRep C β' H' x cls dx → E cls dx H'
  | .stuck => False
def QE (C : Cf) (β : List Addr) (H : Hp) (Q : VK) : D → Mem → Prop := fun d M' => ∀ β' H' v, Grow β H β' H' → Sim C β' M' H' → Rep C β' H' v d → Q v H'
def QB (C : Cf) (β : List Addr) (H : Hp) (Q : Bool → Hp → Prop) : Bool → Mem → Prop := fun b M' => ∀ β' H', Grow β H β' H' → Sim C β' M' H' → Q b H'
def QL (C : Cf) (β : List Addr) (H : Hp) (Q : List V → Hp → Prop) : List D → Mem → Prop := fun ds M' => ∀ β' H' vs, Grow β H β' H' → Sim C β' M' H' → Reps C β' H' vs ds → Q vs H'
def QS (C : Cf) (β : List Addr) (H : Hp) (D : Ends) : Fl → Mem → Prop := fun f M' => match f with
  | .nx ρ => ∀ β' H' σ', Grow β H β' H' → Sim C β' M' H' → REnv C β' H' ρ σ' → D.nx σ' H'
  | .rt d => ∀ β' H' v, Grow β H β' H' → Sim C β' M' H' → Rep C β' H' v d → D.rt v H'
def tE (C : Cf) (E : XK) (m : ME') : TE := fun σ H Q => ∃ β ρ M, REnv C β H ρ σ ∧ Sim C β M H ∧ Post C β H E (m ρ M) (QE C β H Q)
def tT (C : Cf) (E : XK) (m : MEnv → Mem → R Bool) : TT := fun σ H Q => ∃ β ρ M, REnv C β H ρ σ ∧ Sim C β M H ∧ Post C β H E (m ρ M) (QB C β H Q)
def tL (C : Cf) (E : XK) (m : MEnv → Mem → R (List D)) : TA := fun σ H Q => ∃ β ρ M, REnv C β H ρ σ ∧ Sim C β M H ∧ Post C β H E (m ρ M) (QL C β H Q)
def tS (C : Cf) (E : XK) (m : MS') : TS := fun D σ H => ∃ β ρ M, REnv C β H ρ σ ∧ Sim C β M H ∧ Post C β H E (m ρ M) (QS C β H D)
def ME (X : Cx) (C : Cf) (E : XK) (e : Expr) (m : ME') : Prop := PE X e (tE C E m)
def MT (X : Cx) (C : Cf) (E : XK) (e : Expr) (m : MEnv → Mem → R Bool) : Prop := PT X e (tT C E m)
def ML (X : Cx) (C : Cf) (E : XK) (es : List Expr) (m : MEnv → Mem → R (List D)) : Prop := PA X es (tL C E m)
def MS (X : Cx) (C : Cf) (E : XK) (st : Stmt) (m : MS') : Prop := PS X st (tS C E m)
def MSs (X : Cx) (C : Cf) (E : XK) (st : List Stmt) (m : MS') : Prop := PSs X st (tS C E m)
theorem PE.mono {X : Cx} {e : Expr} {t t' : TE} (h : PE X e t) (k : ∀ σ H Q, t' σ H Q → t σ H Q) : PE X e t' := ⟨fun p s σ H Q I q => h.run p s σ H Q I (k _ _ _ q)⟩
theorem PT.mono {X : Cx} {e : Expr} {t t' : TT} (h : PT X e t) (k : ∀ σ H Q, t' σ H Q → t σ H Q) : PT X e t' := ⟨fun p s σ H Q I q => h.run p s σ H Q I (k _ _ _ q)⟩
theorem PW.mono {X : Cx} {e : Expr} {t t' : TT} (h : PW X e t) (k : ∀ σ H Q, t' σ H Q → t σ H Q) : PW X e t' := ⟨fun w p s σ H Q I q => h.run w p s σ H Q I (k _ _ _ q)⟩
theorem PA.mono {X : Cx} {e : List Expr} {t t' : TA} (h : PA X e t) (k : ∀ σ H Q, t' σ H Q → t σ H Q) : PA X e t' := ⟨fun pos p s σ H Q I q => h.run pos p s σ H Q I (k _ _ _ q)⟩
theorem PS.mono {X : Cx} {e : Stmt} {t t' : TS} (h : PS X e t) (k : ∀ D σ H, t' D σ H → t D σ H) : PS X e t' := ⟨fun p s σ H D I q => h.run p s σ H D I (k _ _ _ q)⟩
theorem PSs.mono {X : Cx} {e : List Stmt} {t t' : TS} (h : PSs X e t) (k : ∀ D σ H, t' D σ H → t D σ H) : PSs X e t' := ⟨fun p s σ H D I q => h.run p s σ H D I (k _ _ _ q)⟩

section
variable {C : Cf} {β β1 β2 : List Addr} {H H1 H2 : Hp} {M : Mem} {E : XK} {ρ : MEnv} {σ : L2.St} {α γ : Type}
theorem REnv.grow (g : Grow β H β1 H1) (h : REnv C β H ρ σ) : REnv C β1 H1 ρ σ := ⟨h.1, fun i d e => by
  obtain ⟨v, h1, h2⟩ := h.2 i d e
  exact ⟨v, h1, h2.grow g⟩⟩
theorem REnv.set {i : Nat} {d : D} {v : V} (h : REnv C β H ρ σ) (r : Rep C β H v d) : REnv C β H (ρ.set i (some d)) (σ.set i (some v)) := by
  refine ⟨by rw [List.length_set, List.length_set]; exact h.1, fun j e hj => ?_⟩
  by_cases hi : j = i
  · subst hi
    by_cases hl : j < ρ.length
    · rw [List.getElem?_set_self hl] at hj
      cases hj
      exact ⟨v, List.getElem?_set_self (show j < σ.length by rw [← h.1]; exact hl), r⟩
    · rw [List.getElem?_eq_none (by rw [List.length_set]; omega)] at hj
      cases hj
  · rw [List.getElem?_set_ne (Ne.symm hi)] at hj ⊢
    exact h.2 j e hj
theorem Post.bind {r : R α} {f : α → Mem → R γ} {Q : γ → Mem → Prop} : Post C β H E (r.bind f) Q ↔ Post C β H E r fun a M1 => Post C β H E (f a M1) Q := by
  cases r <;> exact Iff.rfl
theorem Post.imp {r : R α} {Q Q' : α → Mem → Prop} (h : Post C β H E r Q) (k : ∀ a M, Q a M → Q' a M) : Post C β H E r Q' := by
  cases r with
  | ok a M => exact k _ _ h
  | exc x M => exact h
  | stuck => exact h
theorem Post.grow {r : R α} {Q Q' : α → Mem → Prop} (g : Grow β H β1 H1) (h : Post C β H E r Q) (k : ∀ a M, Q a M → Q' a M) : Post C β1 H1 E r Q' := by
  cases r with
  | ok a M => exact k _ _ h
  | exc x M => exact fun β' H' g' => h β' H' (g.trans g')
  | stuck => exact h
theorem QE.grow {Q : VK} {d : D} (g : Grow β H β1 H1) (h : QE C β H Q d M) : QE C β1 H1 Q d M := fun β' H' v g' => h β' H' v (g.trans g')
theorem QB.grow {Q : Bool → Hp → Prop} {d : Bool} (g : Grow β H β1 H1) (h : QB C β H Q d M) : QB C β1 H1 Q d M := fun β' H' g' => h β' H' (g.trans g')
theorem QL.grow {Q : List V → Hp → Prop} {d : List D} (g : Grow β H β1 H1) (h : QL C β H Q d M) : QL C β1 H1 Q d M := fun β' H' v g' => h β' H' v (g.trans g')
theorem QS.grow {Q : Ends} {d : Fl} (g : Grow β H β1 H1) (h : QS C β H Q d M) : QS C β1 H1 Q d M := by
  cases d with
  | nx ρ => exact fun β' H' v g' => h β' H' v (g.trans g')
  | rt d => exact fun β' H' v g' => h β' H' v (g.trans g')
/-- one part, then the rest -/
theorem tE.bind {m : ME'} {f : D → Mem → R γ} {Q : VK} {Qf : γ → Mem → Prop} (he : REnv C β H ρ σ) (hs : Sim C β M H) (h : Post C β H E ((m ρ M).bind f) Qf)
    (k : ∀ d M1 β1 H1 v, Grow β H β1 H1 → REnv C β1 H1 ρ σ → Sim C β1 M1 H1 → Rep C β1 H1 v d → Post C β H E (f d M1) Qf → Q v H1) : tE C E m σ H Q :=
  ⟨β, ρ, M, he, hs, (Post.bind.mp h).imp fun d M1 q β1 H1 v g s r => k d M1 β1 H1 v g (he.grow g) s r q⟩
theorem tT.bind {m : MEnv → Mem → R Bool} {f : Bool → Mem → R γ} {Q : Bool → Hp → Prop} {Qf : γ → Mem → Prop} (he : REnv C β H ρ σ) (hs : Sim C β M H) (h : Post C β H E ((m ρ M).bind f) Qf)
    (k : ∀ b M1 β1 H1, Grow β H β1 H1 → REnv C β1 H1 ρ σ → Sim C β1 M1 H1 → Post C β H E (f b M1) Qf → Q b H1) : tT C E m σ H Q :=
  ⟨β, ρ, M, he, hs, (Post.bind.mp h).imp fun d M1 q β1 H1 g s => k d M1 β1 H1 g (he.grow g) s q⟩
theorem tL.bind {m : MEnv → Mem → R (List D)} {f : List D → Mem → R γ} {Q : List V → Hp → Prop} {Qf : γ → Mem → Prop} (he : REnv C β H ρ σ) (hs : Sim C β M H) (h : Post C β H E ((m ρ M).bind f) Qf)
    (k : ∀ d M1 β1 H1 v, Grow β H β1 H1 → REnv C β1 H1 ρ σ → Sim C β1 M1 H1 → Reps C β1 H1 v d → Post C β H E (f d M1) Qf → Q v H1) : tL C E m σ H Q :=
  ⟨β, ρ, M, he, hs, (Post.bind.mp h).imp fun d M1 q β1 H1 v g s r => k d M1 β1 H1 v g (he.grow g) s r q⟩
theorem Post.gE {r : R D} {Q : VK} (g : Grow β H β1 H1) (h : Post C β H E r (QE C β H Q)) : Post C β1 H1 E r (QE C β1 H1 Q) := h.grow g fun _ _ q => q.grow g
theorem Post.gB {r : R Bool} {Q : Bool → Hp → Prop} (g : Grow β H β1 H1) (h : Post C β H E r (QB C β H Q)) : Post C β1 H1 E r (QB C β1 H1 Q) := h.grow g fun _ _ q => q.grow g
theorem Post.gL {r : R (List D)} {Q : List V → Hp → Prop} (g : Grow β H β1 H1) (h : Post C β H E r (QL C β H Q)) : Post C β1 H1 E r (QL C β1 H1 Q) := h.grow g fun _ _ q => q.grow g
theorem Post.gS {r : R Fl} {Q : Ends} (g : Grow β H β1 H1) (h : Post C β H E r (QS C β H Q)) : Post C β1 H1 E r (QS C β1 H1 Q) := h.grow g fun _ _ q => q.grow g
end

/-! ### expressions -/
def varE (i : Nat) : ME' := fun ρ M => match ρ[i]? with
  | some (some d) => .ok d M
  | _ => .stuck
def cE (d : D) : ME' := fun _ M => .ok d M
def asB : D → Mem → R Bool := fun d M => match d with
  | .bl b => .ok b M
  | _ => .stuck
def tst (m : ME') : MEnv → Mem → R Bool := fun ρ M => (m ρ M).bind asB
def op1 (g : D → Mem → R D) (a : ME') : ME' := fun ρ M => (a ρ M).bind g
def op2 (g : D → D → Mem → R D) (a b : ME') : ME' := fun ρ M => (a ρ M).bind fun x M1 => (b ρ M1).bind fun y M2 => g x y M2
def chn (g h : D → D → Mem → R D) (a b c : ME') : ME' := fun ρ M => (a ρ M).bind fun x M1 => (b ρ M1).bind fun y M2 => (g x y M2).bind fun z M3 => (asB z M3).bind fun k M4 =>
  if k = true then (c ρ M4).bind fun w M5 => h y w M5 else .ok (.bl false) M4
def andE (a b : ME') : ME' := fun ρ M => (a ρ M).bind fun x M1 => (asB x M1).bind fun k M2 => if k = true then b ρ M2 else .ok (.bl false) M2
def orE (a b : ME') : ME' := fun ρ M => (a ρ M).bind fun x M1 => (asB x M1).bind fun k M2 => if k = true then .ok (.bl true) M2 else b ρ M2
def notE (a : ME') : ME' := fun ρ M => (a ρ M).bind fun x M1 => (asB x M1).bind fun k M2 => .ok (.bl (!k)) M2
def ifE (c a b : ME') : ME' := fun ρ M => (tst c ρ M).bind fun k M1 => if k = true then a ρ M1 else b ρ M1
def nilL : MEnv → Mem → R (List D) := fun _ M => .ok [] M
def consL (a : ME') (t : MEnv → Mem → R (List D)) : MEnv → Mem → R (List D) := fun ρ M => (a ρ M).bind fun x M1 => (t ρ M1).bind fun xs M2 => .ok (x :: xs) M2
def tupE (t : MEnv → Mem → R (List D)) : ME' := fun ρ M => (t ρ M).bind fun xs M1 => if xs.length ≤ sizeLine then .ok (.tup xs) M1 else .stuck
/-- a list nobody changes; one that is changed -/
def lstV (t : MEnv → Mem → R (List D)) : ME' := fun ρ M => (t ρ M).bind fun xs M1 => if xs.length ≤ sizeLine then .ok (.frl xs) M1 else .stuck
def lstM (t : MEnv → Mem → R (List D)) : ME' := fun ρ M => (t ρ M).bind fun xs M1 => if xs.length ≤ sizeLine then .ok (.ref M1.length) (M1 ++ [.lst xs]) else .stuck

section
variable {X : Cx} {C : Cf} {E : XK} {a b c e : Expr} {es : List Expr} {ma mb mc : ME'} {ml : MEnv → Mem → R (List D)} {pos : Pos}
theorem me_var (i : Nat) {x : Str} (hN : X.N[i]? = some x := by rfl) (hv : Vis X.env.scope x := by first | exact Or.inl rfl | exact Or.inr (Or.inl rfl) | exact Or.inr (Or.inr rfl)) (hd : (x == ("__debug__" : Str)) = false := by decide)
    (hcd : (x == ("__classdict__" : Str)) = false := by decide) : ME X C E (.Name x pos) (varE i) := by
  refine PE.mono (pe_var hN hv hd hcd) fun σ H Q ⟨β, ρ, M, he, hs, h⟩ => ?_
  unfold varE at h
  split at h
  · rename_i d hd
    obtain ⟨v, h1, h2⟩ := he.2 i d hd
    exact ⟨v, h1, h β H v .refl hs h2⟩
  · exact h.elim
theorem me_c {d : D} {v : V} (h0 : PE X e (tC v)) (hr : ∀ β H, Rep C β H v d) : ME X C E e (cE d) :=
  PE.mono h0 fun σ H Q ⟨β, ρ, M, he, hs, h⟩ => h β H v .refl hs (hr β H)
theorem me_int {i j} : ME X C E (.Constant (.int i) j pos) (cE (.int i)) := me_c pe_int fun _ _ => .int i
theorem me_bl {b j} : ME X C E (.Constant (.bool b) j pos) (cE (.bl b)) := me_c pe_bl fun _ _ => .bl b
theorem me_non {j} : ME X C E (.Constant .none j pos) (cE .non) := me_c pe_non fun _ _ => .non
theorem me_str {x j} : ME X C E (.Constant (.str x) j pos) (cE (.str x)) := me_c pe_str fun _ _ => .str x
theorem me_gint {x : Str} {i : Int} {t : Tok} (hm : X.mg x = some (.int i t)) (hg : Gl X x := by rfl) (hd : (x == ("__debug__" : Str)) = false := by decide) : ME X C E (.Name x pos) (cE (.int i)) := me_c (pe_glob (v := .int i) hg hm ⟨_, rfl⟩ hd) fun _ _ => .int i
theorem me_gstr {x : Str} {i : Str} {t : Tok} (hm : X.mg x = some (.str i t)) (hg : Gl X x := by rfl) (hd : (x == ("__debug__" : Str)) = false := by decide) : ME X C E (.Name x pos) (cE (.str i)) := me_c (pe_glob (v := .str i) hg hm ⟨_, rfl⟩ hd) fun _ _ => .str i
theorem me_gl {x : Str} {f : Addr} (hm : C.mg x = some (.ref f)) (hm2 : X.mg x = some (.ref f)) (hg : Gl X x := by rfl) (hd : (x == ("__debug__" : Str)) = false := by decide) : ME X C E (.Name x pos) (cE (.gl x)) := me_c (pe_glob hg hm2 (v := .ref f) rfl hd) fun _ _ => .gl hm

/-- a value's truth, where it is a bool -/
theorem tB_of {m : ME'} {σ : L2.St} {H : Hp} {Q : Bool → Hp → Prop} (h : tT C E (tst m) σ H Q) : tB (tE C E m) σ H Q := by
  obtain ⟨β, ρ, M, he, hs, h⟩ := h
  refine tE.bind he hs h fun d M1 β1 H1 v g he1 hs1 r q => ?_
  unfold asB at q
  split at q
  · rename_i b
    cases r
    exact ⟨b, rfl, q β1 H1 g hs1⟩
  · exact q.elim
theorem mt_val (h : ME X C E e ma) (he : ∀ whole, isTrue e X.env whole = (do let v ← whole; standAt e.pos; holding [v] (truthy v)) := by intro _; rfl) : MT X C E e (tst ma) :=
  PT.mono (pt_val h he) fun _ _ _ => tB_of

/-- by values -/
def RuleU (X : Cx) (C : Cf) (E : XK) (r : V → Hp → VK → Prop) (g : D → Mem → R D) : Prop :=
  ∀ β H M x dx Q, Sim C β M H → Rep C β H x dx → Post C β H E (g dx M) (QE C β H Q) → r x H Q
def Rule2 (X : Cx) (C : Cf) (E : XK) (r : R2) (g : D → D → Mem → R D) : Prop :=
  ∀ β H M x y dx dy Q, Sim C β M H → Rep C β H x dx → Rep C β H y dy → Post C β H E (g dx dy M) (QE C β H Q) → r x y H Q
def RuleL (X : Cx) (C : Cf) (E : XK) (r : List V → Hp → VK → Prop) (g : List D → Mem → R D) : Prop :=
  ∀ β H M xs dxs Q, Sim C β M H → Reps C β H xs dxs → Post C β H E (g dxs M) (QE C β H Q) → r xs H Q
theorem tUn_of {r : V → Hp → VK → Prop} {g : D → Mem → R D} (hr : RuleU X C E r g) {σ : L2.St} {H : Hp} {Q : VK} (h : tE C E (op1 g ma) σ H Q) : tUn r (tE C E ma) σ H Q := by
  obtain ⟨β, ρ, M, he, hs, h⟩ := h
  exact tE.bind he hs h fun d M1 β1 H1 v g he1 hs1 r q => hr β1 H1 M1 v d Q hs1 r (q.gE g)
theorem tOp_of {r : R2} {g : D → D → Mem → R D} (hr : Rule2 X C E r g) {σ : L2.St} {H : Hp} {Q : VK} (h : tE C E (op2 g ma mb) σ H Q) : tOp r (tE C E ma) (tE C E mb) σ H Q := by
  obtain ⟨β, ρ, M, he, hs, h⟩ := h
  refine tE.bind he hs h fun d M1 β1 H1 v g1 he1 hs1 r1 q1 => ?_
  refine tE.bind he1 hs1 (q1.gE g1) fun d2 M2 β2 H2 v2 g2 he2 hs2 r2 q2 => ?_
  exact hr β2 H2 M2 v v2 d d2 Q hs2 (r1.grow g2) r2 (q2.gE g2)
theorem me_op {op : Operator} {r : R2} {g : D → D → Mem → R D} (ho : OpR X (binaryOp op) r) (hr : Rule2 X C E r g) (ha : ME X C E a ma) (hb : ME X C E b mb) : ME X C E (.BinOp a op b pos) (op2 g ma mb) :=
  PE.mono (pe_op ho ha hb) fun _ _ _ => tOp_of hr
theorem me_un {op : UnaryOp} {r : V → Hp → VK → Prop} {g : D → Mem → R D} (ho : UnR X (unaryOp op) r) (hr : RuleU X C E r g) (ha : ME X C E a ma) : ME X C E (.UnaryOp op a pos) (op1 g ma) :=
  PE.mono (pe_un ho ha) fun _ _ _ => tUn_of hr
theorem me_cmp {op : CmpOp} {r : R2} {g : D → D → Mem → R D} (ho : OpR X (compareOp op) r) (hr : Rule2 X C E r g) (ha : ME X C E a ma) (hb : ME X C E b mb) (hm : behindInMarks op b = false := by rfl) : ME X C E (.Compare a [op] [b] pos) (op2 g ma mb) :=
  PE.mono (pe_cmpR ho ha hb hm) fun _ _ _ => tOp_of hr
theorem mt_cmp {op : CmpOp} {r : R2} {g : D → D → Mem → R D} (ho : OpR X (compareOp op) r) (hr : Rule2 X C E r g) (ha : ME X C E a ma) (hb : ME X C E b mb) (hm : behindInMarks op b = false := by rfl) : MT X C E (.Compare a [op] [b] pos) (tst (op2 g ma mb)) := by
  refine PT.mono (pt_cmpR ho ha hb hm) fun σ H Q h => ?_
  have h2 : tE C E (op2 g ma mb) σ H fun x H1 => ∃ c, x = .bl c ∧ Q c H1 := tB_of h
  exact tOp_of hr h2
theorem tChain_of {r r' : R2} {g h : D → D → Mem → R D} (hr : Rule2 X C E r g) (hr' : Rule2 X C E r' h) {σ : L2.St} {H : Hp} {Q : VK} (q : tE C E (chn g h ma mb mc) σ H Q) : tChain r r' (tE C E ma) (tE C E mb) (tE C E mc) σ H Q := by
  obtain ⟨β, ρ, M, he, hs, q⟩ := q
  refine tE.bind he hs q fun d M1 β1 H1 v g1 he1 hs1 r1 q1 => ?_
  refine tE.bind he1 hs1 (q1.gE g1) fun d2 M2 β2 H2 v2 g2 he2 hs2 r2 q2 => ?_
  have q3 := q2.gE g2
  refine hr β2 H2 M2 v v2 d d2 _ hs2 (r1.grow g2) r2 ((Post.bind.mp q3).imp fun z M3 q4 β3 H3 w g3 hs3 r3 => ?_)
  unfold asB at q4
  split at q4
  · rename_i k
    cases r3
    · refine ⟨k, rfl, ?_⟩
      cases k with
      | true =>
        refine tE.bind (he2.grow g3) hs3 ((show Post C β2 H2 E _ _ from q4).gE g3) fun d4 M4 β4 H4 v4 g4 he4 hs4 r4 q5 => ?_
        exact hr' β4 H4 M4 v2 v4 d2 d4 Q hs4 ((r2.grow g3).grow g4) r4 (q5.gE g4)
      | false => exact q4 β3 H3 _ g3 hs3 (.bl false)
  · exact q4.elim
theorem me_chain {op op' : CmpOp} {r r' : R2} {g h : D → D → Mem → R D} (ho : OpR X (compareOp op) r) (ho' : OpR X (compareOp op') r') (hr : Rule2 X C E r g) (hr' : Rule2 X C E r' h) (ha : ME X C E a ma) (hb : ME X C E b mb) (hc : ME X C E c mc) (hm : lastMarks [op, op'] [b, c] = false := by rfl) :
    ME X C E (.Compare a [op, op'] [b, c] pos) (chn g h ma mb mc) := PE.mono (pe_chain ho ho' ha hb hc hm) fun _ _ _ => tChain_of hr hr'
theorem mt_chain {op op' : CmpOp} {r r' : R2} {g h : D → D → Mem → R D} (ho : OpR X (compareOp op) r) (ho' : OpR X (compareOp op') r') (hr : Rule2 X C E r g) (hr' : Rule2 X C E r' h) (ha : ME X C E a ma) (hb : ME X C E b mb) (hc : ME X C E c mc) (hm : lastMarks [op, op'] [b, c] = false := by rfl) :
    MT X C E (.Compare a [op, op'] [b, c] pos) (tst (chn g h ma mb mc)) := by
  refine PT.mono (pt_chain ho ho' ha hb hc hm) fun σ H Q q => ?_
  have h2 : tE C E (chn g h ma mb mc) σ H fun x H1 => ∃ c, x = .bl c ∧ Q c H1 := tB_of q
  exact tChain_of hr hr' h2

theorem me_and {rest : List Expr} (ha : ME X C E a ma) (hb : ME X C E (.BoolOp .And (b :: rest) pos) mb) : ME X C E (.BoolOp .And (a :: b :: rest) pos) (andE ma mb) := by
  refine PE.mono (pe_and ha hb) fun σ H Q ⟨β, ρ, M, he, hs, h⟩ => ?_
  refine tE.bind he hs h fun d M1 β1 H1 v g1 he1 hs1 r1 q1 => ?_
  unfold asB at q1
  split at q1
  · rename_i k
    cases r1
    · refine ⟨k, rfl, ?_⟩
      cases k with
      | true => exact ⟨β1, ρ, M1, he1, hs1, (show Post C β H E _ _ from q1).gE g1⟩
      | false => exact q1 β1 H1 _ g1 hs1 (.bl false)
  · exact q1.elim
theorem me_or {rest : List Expr} (ha : ME X C E a ma) (hb : ME X C E (.BoolOp .Or (b :: rest) pos) mb) : ME X C E (.BoolOp .Or (a :: b :: rest) pos) (orE ma mb) := by
  refine PE.mono (pe_or ha hb) fun σ H Q ⟨β, ρ, M, he, hs, h⟩ => ?_
  refine tE.bind he hs h fun d M1 β1 H1 v g1 he1 hs1 r1 q1 => ?_
  unfold asB at q1
  split at q1
  · rename_i k
    cases r1
    · refine ⟨k, rfl, ?_⟩
      cases k with
      | false => exact ⟨β1, ρ, M1, he1, hs1, (show Post C β H E _ _ from q1).gE g1⟩
      | true => exact q1 β1 H1 _ g1 hs1 (.bl true)
  · exact q1.elim
theorem me_one {op} (ha : ME X C E a ma) : ME X C E (.BoolOp op [a] pos) ma := pe_one ha
theorem me_not (ha : ME X C E a ma) : ME X C E (.UnaryOp .Not a pos) (notE ma) := by
  refine PE.mono (pe_not ha) fun σ H Q ⟨β, ρ, M, he, hs, h⟩ => ?_
  refine tE.bind he hs h fun d M1 β1 H1 v g1 he1 hs1 r1 q1 => ?_
  unfold asB at q1
  split at q1
  · rename_i k
    cases r1
    exact ⟨k, rfl, q1 β1 H1 _ g1 hs1 (.bl _)⟩
  · exact q1.elim
/-- tests made of tests -/
def MW (X : Cx) (C : Cf) (E : XK) (e : Expr) (m : MEnv → Mem → R Bool) : Prop := PW X e (tT C E m)
def andT (a b : MEnv → Mem → R Bool) : MEnv → Mem → R Bool := fun ρ M => (a ρ M).bind fun k M1 => if k = true then b ρ M1 else .ok false M1
def orT (a b : MEnv → Mem → R Bool) : MEnv → Mem → R Bool := fun ρ M => (a ρ M).bind fun k M1 => if k = true then .ok true M1 else b ρ M1
def notT (a : MEnv → Mem → R Bool) : MEnv → Mem → R Bool := fun ρ M => (a ρ M).bind fun k M1 => .ok (!k) M1
variable {ta tb tc : MEnv → Mem → R Bool}
theorem mw_and1 (ha : MT X C E a ta) : MW X C E (.BoolOp .And [a] pos) ta := pw_and1 ha
theorem mw_or1 (ha : MT X C E a ta) : MW X C E (.BoolOp .Or [a] pos) ta := pw_or1 ha
theorem mw_and {rest : List Expr} (ha : MT X C E a ta) (hb : MW X C E (.BoolOp .And (b :: rest) pos) tb) : MW X C E (.BoolOp .And (a :: b :: rest) pos) (andT ta tb) := by
  refine PW.mono (pw_and ha hb) fun σ H Q ⟨β, ρ, M, he, hs, h⟩ => ?_
  refine tT.bind he hs h fun k M1 β1 H1 g1 he1 hs1 q1 => ?_
  cases k with
  | true => exact ⟨β1, ρ, M1, he1, hs1, (show Post C β H E _ _ from q1).gB g1⟩
  | false => exact q1 β1 H1 g1 hs1
theorem mw_or {rest : List Expr} (ha : MT X C E a ta) (hb : MW X C E (.BoolOp .Or (b :: rest) pos) tb) : MW X C E (.BoolOp .Or (a :: b :: rest) pos) (orT ta tb) := by
  refine PW.mono (pw_or ha hb) fun σ H Q ⟨β, ρ, M, he, hs, h⟩ => ?_
  refine tT.bind he hs h fun k M1 β1 H1 g1 he1 hs1 q1 => ?_
  cases k with
  | false => exact ⟨β1, ρ, M1, he1, hs1, (show Post C β H E _ _ from q1).gB g1⟩
  | true => exact q1 β1 H1 g1 hs1
theorem mt_w (h : MW X C E e ta) : MT X C E e ta := h.pt
theorem mt_not (ha : MT X C E a ta) : MT X C E (.UnaryOp .Not a pos) (notT ta) := by
  refine PT.mono (pt_not ha) fun σ H Q ⟨β, ρ, M, he, hs, h⟩ => ?_
  exact tT.bind he hs h fun k M1 β1 H1 g1 he1 hs1 q1 => q1 β1 H1 g1 hs1
def iteE (c : MEnv → Mem → R Bool) (a b : ME') : ME' := fun ρ M => (c ρ M).bind fun k M1 => if k = true then a ρ M1 else b ρ M1
theorem me_ite (hc : MT X C E c tc) (ha : ME X C E a ma) (hb : ME X C E b mb) : ME X C E (.IfExp c a b pos) (iteE tc ma mb) := by
  refine PE.mono (pe_ifExp hc ha hb) fun σ H Q ⟨β, ρ, M, he, hs, h⟩ => ?_
  refine tT.bind he hs h fun k M1 β1 H1 g1 he1 hs1 q1 => ?_
  cases k with
  | true => exact ⟨β1, ρ, M1, he1, hs1, (show Post C β H E _ _ from q1).gE g1⟩
  | false => exact ⟨β1, ρ, M1, he1, hs1, (show Post C β H E _ _ from q1).gE g1⟩

theorem ml_nil : ML X C E [] nilL := PA.mono pa_nil fun σ H Q ⟨β, ρ, M, he, hs, h⟩ => h β H [] .refl hs .nil
theorem ml_cons (ha : ME X C E e ma) (hr : ML X C E es ml) (hs : starEach (e :: es) X.env = (false, eval e X.env) :: starEach es X.env := by rfl) : ML X C E (e :: es) (consL ma ml) := by
  refine PA.mono (pa_cons ha hr hs) fun σ H Q ⟨β, ρ, M, he, hs, h⟩ => ?_
  refine tE.bind he hs h fun d M1 β1 H1 v g1 he1 hs1 r1 q1 => ?_
  exact tL.bind he1 hs1 (q1.gL g1) fun ds M2 β2 H2 vs g2 he2 hs2 r2 q2 => q2 β2 H2 (v :: vs) g2 hs2 (.cons (r1.grow g2) r2)
theorem me_tup {x1} (h : ML X C E es ml) : ME X C E (.Tuple es x1 pos) (tupE ml) := by
  refine PE.mono (pe_tup h) fun σ H Q ⟨β, ρ, M, he, hs, h⟩ => ?_
  refine tL.bind he hs h fun ds M1 β1 H1 vs g1 he1 hs1 r1 q1 => ?_
  split at q1
  · rename_i hz
    refine ⟨by rw [r1.length]; exact hz, fun p hp => ?_⟩
    exact q1 β1 _ _ (g1.trans (grow_new hp)) (hs1.fresh hp) (.tup ⟨⟨hs1.nin hp, hs1.nno hp⟩, upd_same⟩ (r1.grow (grow_new hp)))
  · exact q1.elim
theorem me_lstV (h : ML X C E es ml) : ME X C E (.List es pos) (lstV ml) := by
  refine PE.mono (pe_lst h) fun σ H Q ⟨β, ρ, M, he, hs, h⟩ => ?_
  refine tL.bind he hs h fun ds M1 β1 H1 vs g1 he1 hs1 r1 q1 => ?_
  split at q1
  · rename_i hz
    refine ⟨by rw [r1.length]; exact hz, fun p hp => ?_⟩
    exact q1 β1 _ _ (g1.trans (grow_new hp)) (hs1.fresh hp) (.frl ⟨hs1.nin hp, hs1.nno hp⟩ upd_same (r1.grow (grow_new hp)))
  · exact q1.elim
theorem Sim.pushL {C : Cf} {β : List Addr} {M : Mem} {H : Hp} (S : Sim C β M H) {p : Addr} {vs : List V} {ds : List D} (hp : H p = none) (r : Reps C β H vs ds) : Sim C (β ++ [p]) (M ++ [.lst ds]) (upd H p (.lst vs)) :=
  S.push hp ⟨vs, upd_same, r.grow (grow_add hp)⟩
theorem get_last {β : List Addr} {M : Mem} {p : Addr} (h : β.length = M.length) : (β ++ [p])[M.length]? = some p := by
  rw [List.getElem?_append_right (by omega), h, Nat.sub_self]; rfl
theorem me_lstM (h : ML X C E es ml) : ME X C E (.List es pos) (lstM ml) := by
  refine PE.mono (pe_lst h) fun σ H Q ⟨β, ρ, M, he, hs, h⟩ => ?_
  refine tL.bind he hs h fun ds M1 β1 H1 vs g1 he1 hs1 r1 q1 => ?_
  split at q1
  · rename_i hz
    refine ⟨by rw [r1.length]; exact hz, fun p hp => ?_⟩
    exact q1 _ _ _ (g1.trans (grow_add hp)) (hs1.pushL hp r1) (.ref (get_last hs1.len))
  · exact q1.elim
end
end Mini

set_option Elab.async false
set_option linter.all false
set_option maxRecDepth 100000
set_option maxHeartbeats 4000000
namespace Mini
open PySem PySem.Spec PyProof.Rows L2

/-! ### statements -/
def skipS : MS' := fun ρ M => .ok (.nx ρ) M
def thenS (f : R Fl) (b : MS') : R Fl := f.bind fun f M1 => match f with
  | .nx ρ1 => b ρ1 M1
  | .rt d => .ok (.rt d) M1
def seqS (a b : MS') : MS' := fun ρ M => thenS (a ρ M) b
def exprS (e : ME') : MS' := fun ρ M => (e ρ M).bind fun _ M1 => .ok (.nx ρ) M1
def retS (e : ME') : MS' := fun ρ M => (e ρ M).bind fun d M1 => .ok (.rt d) M1
def retN : MS' := fun _ M => .ok (.rt .non) M
def ifS (c : MEnv → Mem → R Bool) (a b : MS') : MS' := fun ρ M => (c ρ M).bind fun k M1 => if k = true then a ρ M1 else b ρ M1
def deadS : MS' := fun _ _ => .stuck
def asgV (i : Nat) (e : ME') : MS' := fun ρ M => (e ρ M).bind fun d M1 => .ok (.nx (ρ.set i (some d))) M1
/-- name, name = value, value -/
def parS (i j : Nat) (t : MEnv → Mem → R (List D)) : MS' := fun ρ M => (t ρ M).bind fun ds M1 => match ds with
  | [x, y] => .ok (.nx ((ρ.set i (some x)).set j (some y))) M1
  | _ => .stuck

section
variable {X : Cx} {C : Cf} {E : XK} {a b c e : Expr} {es : List Expr} {ma mb mc : ME'} {ml : MEnv → Mem → R (List D)} {pos : Pos} {st : Stmt} {rest sa sb : List Stmt} {m n : MS'} {ta : MEnv → Mem → R Bool}
theorem thenS_post {C : Cf} {β : List Addr} {H : Hp} {E : XK} {r : R Fl} {b : MS'} {D : Ends} (h : Post C β H E (thenS r b) (QS C β H D)) :
    Post C β H E r (QS C β H { D with nx := tS C E b D }) := by
  refine (Post.bind.mp h).imp fun f M1 q => ?_
  cases f with
  | nx ρ1 => exact fun β' H' σ' g hs he => ⟨β', ρ1, M1, he, hs, Post.gS g q⟩
  | rt d => exact q
theorem mss_nil : MSs X C E [] skipS := PSs.mono pss_nil fun D σ H ⟨β, ρ, M, he, hs, h⟩ => h β H σ .refl hs he
theorem mss_cons (h1 : MS X C E st m) (h2 : MSs X C E rest n) : MSs X C E (st :: rest) (seqS m n) :=
  PSs.mono (pss_cons h1 h2) fun D σ H ⟨β, ρ, M, he, hs, h⟩ => ⟨β, ρ, M, he, hs, thenS_post h⟩
theorem mss_one (h1 : MS X C E st m) : MSs X C E [st] m := pss_one h1
theorem ms_pass : MS X C E (.Pass pos) skipS := PS.mono ps_pass fun D σ H ⟨β, ρ, M, he, hs, h⟩ => h β H σ .refl hs he
theorem ms_expr (he : ME X C E e ma) (hs : swapsWith e none pos.line X.env = pure false := by rfl) : MS X C E (.Expr e pos) (exprS ma) :=
  PS.mono (ps_expr he hs) fun D σ H ⟨β, ρ, M, he, hs, h⟩ => tE.bind he hs h fun d M1 β1 H1 v g he1 hs1 r q => q β1 H1 σ g hs1 he1
theorem ms_ret (he : ME X C E e ma) : MS X C E (.Return (some e) pos) (retS ma) :=
  PS.mono (ps_ret he) fun D σ H ⟨β, ρ, M, he, hs, h⟩ => tE.bind he hs h fun d M1 β1 H1 v g he1 hs1 r q => q β1 H1 v g hs1 r
theorem ms_retN : MS X C E (.Return none pos) retN :=
  PS.mono ps_retN fun D σ H ⟨β, ρ, M, he, hs, h⟩ => h β H .non .refl hs .non
theorem ms_if (hc : MT X C E c ta) (ha : MSs X C E sa m) (hb : MSs X C E sb n) : MS X C E (.If c sa sb pos) (ifS ta m n) := by
  refine PS.mono (ps_if hc ha hb) fun D σ H ⟨β, ρ, M, he, hs, h⟩ => ?_
  refine tT.bind he hs h fun k M1 β1 H1 g1 he1 hs1 q1 => ?_
  cases k with
  | true => exact ⟨β1, ρ, M1, he1, hs1, (show Post C β H E _ _ from q1).gS g1⟩
  | false => exact ⟨β1, ρ, M1, he1, hs1, (show Post C β H E _ _ from q1).gS g1⟩
theorem ms_dead : MS X C E st deadS := PS.mono ps_never fun D σ H ⟨β, ρ, M, he, hs, h⟩ => h
theorem ms_set (i : Nat) {x : Str} {pos' : Pos} (hN : X.N.Nodup) (he : ME X C E e ma) (hi : X.N[i]? = some x := by rfl) (hx : Loc X.env.scope x := by first | exact Or.inl rfl | exact Or.inr rfl) (hs : swapsWith e (some (.Name x pos')) pos.line X.env = pure false := by rfl) (hf : X.fn x = true ∨ X.env.scope.names.lookup x = some .local := by first | exact .inl rfl | exact .inr rfl) :
    MS X C E (.Assign [.Name x pos'] e pos) (asgV i ma) :=
  PS.mono (ps_set hN hi hx he hs hf) fun D σ H ⟨β, ρ, M, he, hs, h⟩ => tE.bind he hs h fun d M1 β1 H1 v g he1 hs1 r q => q β1 H1 _ g hs1 (he1.set r)
theorem ms_par (i j : Nat) {x y : Str} {px py pt : Pos} {kt k2 pt2} (hc : X.calm = true) (hN : X.N.Nodup) (ha : ML X C E [a, b] ml) (hi : X.N[i]? = some x := by rfl) (hj : X.N[j]? = some y := by rfl) (hij : i ≠ j := by decide)
    (hx : X.env.scope.names.lookup x = some .local := by rfl) (hy : X.env.scope.names.lookup y = some .local := by rfl)
    (hw : swappedStores [.Tuple [.Name x px, .Name y py] kt pt] (.Tuple [a, b] k2 pt2) X.env = pure (some [x, y]) := by rfl)
    (hs : swapsWithSole [.Tuple [.Name x px, .Name y py] kt pt] (.Tuple [a, b] k2 pt2) pos.line X.env = pure false := by rfl) :
    MS X C E (.Assign [.Tuple [.Name x px, .Name y py] kt pt] (.Tuple [a, b] k2 pt2) pos) (parS i j ml) := by
  refine PS.mono (ps_par hc hN hi hj hij hx hy ha hw hs) fun D σ H ⟨β, ρ, M, he, hs, h⟩ => ?_
  refine tL.bind he hs h fun ds M1 β1 H1 vs g he1 hs1 r q => ?_
  split at q
  · cases r with
    | cons r1 r =>
      cases r with
      | cons r2 r =>
        cases r
        exact ⟨_, _, rfl, q β1 H1 _ g hs1 ((he1.set r1).set r2)⟩
  · exact q.elim
end

/-! ### what a loop's head stores -/
abbrev Pat := D → MEnv → Option MEnv
abbrev Pats := List D → MEnv → Option MEnv
def pN (i : Nat) : Pat := fun d ρ => some (ρ.set i (some d))
def pT (n : Nat) (p : Pats) : Pat := fun d ρ => match d with
  | .tup xs => if xs.length = n then p xs ρ else none
  | _ => none
def pNil : Pats := fun xs ρ => match xs with
  | [] => some ρ
  | _ => none
def pCons (p : Pat) (t : Pats) : Pats := fun xs ρ => match xs with
  | x :: r => (p x ρ).bind (t r)
  | [] => none
def Only (is : List Nat) (σ σ' : L2.St) : Prop := σ'.length = σ.length ∧ ∀ j, j ∉ is → σ'[j]? = σ[j]?
theorem Only.refl {is : List Nat} {σ : L2.St} : Only is σ σ := ⟨rfl, fun _ _ => rfl⟩
theorem Only.trans {is js : List Nat} {σ σ1 σ2 : L2.St} (a : Only is σ σ1) (b : Only js σ1 σ2) : Only (is ++ js) σ σ2 :=
  ⟨b.1.trans a.1, fun j hj => (b.2 j fun z => hj (List.mem_append_right _ z)).trans (a.2 j fun z => hj (List.mem_append_left _ z))⟩
def GR (C : Cf) (g : TG) (p : Pat) (is : List Nat) : Prop := ∀ β H v d ρ ρ' σ K, REnv C β H ρ σ → Rep C β H v d → p d ρ = some ρ' → (∀ σ', REnv C β H ρ' σ' → Only is σ σ' → K σ' H) → g v σ H K
def GRs (C : Cf) (g : TGs) (p : Pats) (is : List Nat) : Prop := ∀ β H vs ds ρ ρ' σ K, REnv C β H ρ σ → Reps C β H vs ds → p ds ρ = some ρ' → (∀ σ', REnv C β H ρ' σ' → Only is σ σ' → K σ' H) → g vs σ H K
section
variable {C : Cf}
theorem gr_name (i : Nat) : GR C (gName i) (pN i) [i] := fun β H v d ρ ρ' σ K he r e k => by
  cases e
  exact k _ (he.set r) ⟨List.length_set, fun j hj => List.getElem?_set_ne (fun z => hj (by simp [z]))⟩
theorem grs_nil : GRs C gNil pNil [] := fun β H vs ds ρ ρ' σ K he r e k => by
  cases r with
  | nil => cases e; exact ⟨rfl, k σ he .refl⟩
  | cons _ _ => cases e
theorem grs_cons {g : TG} {gs : TGs} {p : Pat} {ps : Pats} {is js : List Nat} (a : GR C g p is) (b : GRs C gs ps js) : GRs C (gCons g gs) (pCons p ps) (is ++ js) := fun β H vs ds ρ ρ' σ K he r e k => by
  cases r with
  | nil => cases e
  | cons r1 r2 =>
    rename_i v vs' d ds'
    unfold pCons at e
    cases e1 : p d ρ with
    | none => simp only [e1, Option.bind_none] at e; cases e
    | some ρ1 =>
      simp only [e1, Option.bind_some] at e
      exact ⟨v, vs', rfl, a β H v d ρ ρ1 σ _ he r1 e1 fun σ1 he1 o1 => b β H vs' ds' ρ1 ρ' σ1 K he1 r2 e fun σ2 he2 o2 => k σ2 he2 (o1.trans o2)⟩
theorem gr_tup {g : TGs} {p : Pats} {n : Nat} {is : List Nat} (a : GRs C g p is) : GR C (gTup C.K n g) (pT n p) is := fun β H v d ρ ρ' σ K he r e k => by
  unfold pT at e
  split at e
  · rename_i ds
    split at e
    · rename_i hn
      cases r with
      | tup h1 h2 =>
        rename_i a' vs
        exact ⟨a', vs, rfl, h1.sq, h2.length.trans hn, a β H vs ds ρ ρ' σ K he h2 e k⟩
    · cases e
  · cases e
end

/-! ### loops -/
inductive Sq where
  | fix (xs : List D) | ls (n : Nat)
def Sq.get (s : Sq) (i : Nat) (M : Mem) : Option (Option D) := match s with
  | .fix xs => if i ≤ xs.length then some xs[i]? else none
  | .ls n => match M[n]? with
    | some (.lst xs) => if i ≤ xs.length then some xs[i]? else none
    | _ => none
def Sq.len (s : Sq) (M : Mem) : Nat := match s with
  | .fix xs => xs.length
  | .ls n => match M[n]? with
    | some (.lst xs) => xs.length
    | _ => 0
inductive Src where
  | one (s : Sq) | enum (s : Sq) | zip (s t : Sq)
def Src.get (s : Src) (i : Nat) (M : Mem) : Option (Option D) := match s with
  | .one s => s.get i M
  | .enum s => (s.get i M).map fun o => o.map fun d => .tup [.int i, d]
  | .zip s t => match s.get i M, t.get i M with
    | some (some d), some (some e) => some (some (.tup [d, e]))
    | some _, some _ => some none
    | _, _ => none
def Src.len (s : Src) (M : Mem) : Nat := match s with
  | .one s => s.len M
  | .enum s => s.len M
  | .zip s t => min (s.len M) (t.len M)
def forN (S : Src) (p : Pat) (b : MS') : Nat → Nat → MEnv → Mem → R Fl
  | 0, i, ρ, M => match S.get i M with
    | some none => .ok (.nx ρ) M
    | _ => .stuck
  | m + 1, i, ρ, M => match S.get i M with
    | none => .stuck
    | some none => .ok (.nx ρ) M
    | some (some d) => match p d ρ with
      | none => .stuck
      | some ρ1 => thenS (b ρ1 M) (forN S p b m (i + 1))
def forS (src : MEnv → Mem → R Src) (p : Pat) (b : MS') : MS' := fun ρ M => (src ρ M).bind fun S M1 => forN S p b (S.len M1) 0 ρ M1
def whileN (c : MEnv → Mem → R Bool) (b : MS') : Nat → MEnv → Mem → R Fl
  | 0, _, _ => .stuck
  | m + 1, ρ, M => (c ρ M).bind fun k M1 => if k = true then thenS (b ρ M1) (whileN c b m) else .ok (.nx ρ) M1
def whileS (n : Nat) (c : MEnv → Mem → R Bool) (b : MS') : MS' := fun ρ M => whileN c b n ρ M

/-- the iterator J yields what S says, from (β, H) on -/
def ItR0 (C : Cf) (β0 : List Addr) (H0 : Hp) (S : Src) (J : It) : Prop := ∀ β M H i, Grow β0 H0 β H → Sim C β M H →
  (∀ d, S.get i M = some (some d) → J.go i H ∧ ∀ x H', J.yld i H x H' → Grow β H β H' ∧ Sim C β M H' ∧ Rep C β H' x d) ∧ (S.get i M = some none → J.stop i H)
/-- .. also where something is being made beside it -/
structure ItR (C : Cf) (β0 : List Addr) (H0 : Hp) (S : Src) (J : It) : Prop where
  a : ItR0 C β0 H0 S J
  b : ∀ L, H0 L = none → ItR0 (C.wno L) β0 H0 S J
def tI (C : Cf) (E : XK) (src : MEnv → Mem → R Src) : TI := fun σ H K => ∃ β ρ M, REnv C β H ρ σ ∧ Sim C β M H ∧
  Post C β H E (src ρ M) fun S M' => ∀ β' H' J, Grow β H β' H' → Sim C β' M' H' → ItR C β' H' S J → K J H'
def MI (X : Cx) (C : Cf) (E : XK) (tg iter : Expr) (src : MEnv → Mem → R Src) : Prop := PI X tg iter (tI C E src)
theorem PI.mono {X : Cx} {tg iter : Expr} {t t' : TI} (h : PI X tg iter t) (k : ∀ σ H Q, t' σ H Q → t σ H Q) : PI X tg iter t' := ⟨fun p s σ H Q I q => h.run p s σ H Q I (k _ _ _ q)⟩
section
variable {X : Cx} {C : Cf} {E : XK} {tg iter : Expr} {src : MEnv → Mem → R Src} {g : TG} {p : Pat} {is : List Nat} {body : List Stmt} {b : MS'} {pos : Pos}
theorem ms_for (hp : PassesOwn (model X.prog X.w) X.A X.env X.xe) (hc : X.calm = true) (hi : MI X C E tg iter src) (hg : PG X tg g) (gr : GR C g p is) (hb : MSs X C E body b)
    (hs : ∀ x, foldedSetIterable iter X.env x = pure x := by intro _; rfl) : MS X C E (.For tg iter body [] pos) (forS src p b) := by
  refine PS.mono (ps_for hp hc hi hg hb hs) fun D σ H ⟨β, ρ, M, he, hs, h⟩ => ?_
  refine ⟨β, ρ, M, he, hs, (Post.bind.mp h).imp fun S M0 q β0 H0 J g0 hs0 ir => ?_⟩
  refine ⟨fun i m σ H1 => ∃ β1 ρ1 M1, Grow β0 H0 β1 H1 ∧ REnv C β1 H1 ρ1 σ ∧ Sim C β1 M1 H1 ∧ Post C β1 H1 E (forN S p b m i ρ1 M1) (QS C β1 H1 D),
    ⟨S.len M0, β0, ρ, M0, .refl, he.grow g0, hs0, Post.gS g0 q⟩, fun i m σ1 H1 ⟨β1, ρ1, M1, g1, he1, hs1, q1⟩ => ?_⟩
  obtain ⟨ig, is'⟩ := ir.a β1 M1 H1 i g1 hs1
  cases e : S.get i M1 with
  | none => cases m <;> simp only [forN, e] at q1 <;> exact q1.elim
  | some o =>
    cases o with
    | none =>
      refine .inl ⟨is' e, ?_⟩
      cases m <;> simp only [forN, e] at q1 <;> exact q1 β1 H1 σ1 .refl hs1 he1
    | some d =>
      obtain ⟨hgo, hy⟩ := ig d e
      cases m with
      | zero => simp only [forN, e] at q1; exact q1.elim
      | succ m =>
        simp only [forN, e] at q1
        refine .inr ⟨hgo, fun σ' H' => ∃ β1 ρ1 M1, Grow β0 H0 β1 H' ∧ REnv C β1 H' ρ1 σ' ∧ Sim C β1 M1 H' ∧ Post C β1 H' E (forN S p b m (i + 1) ρ1 M1) (QS C β1 H' D), fun σ' H' w => ⟨m, Nat.lt_succ_self m, w⟩, fun x H' y => ?_⟩
        obtain ⟨gy, sy, ry⟩ := hy x H' y
        cases ep : p d ρ1 with
        | none => simp only [ep] at q1; exact q1.elim
        | some ρ2 =>
          simp only [ep] at q1
          refine gr β1 H' x d ρ1 ρ2 σ1 _ (he1.grow gy) ry ep fun σ2 he2 _ => ?_
          refine ⟨β1, ρ2, M1, he2, sy, (Post.bind.mp (Post.gS gy q1)).imp fun f M3 q3 => ?_⟩
          cases f with
          | nx ρ3 => exact fun β4 H4 σ4 g4 hs4 he4 => ⟨β4, ρ3, M3, (g1.trans gy).trans g4, he4, hs4, Post.gS g4 q3⟩
          | rt d => exact q3
theorem ms_while (n : Nat) {c : Expr} {tc : MEnv → Mem → R Bool} (hp : PassesOwn (model X.prog X.w) X.A X.env X.xe) (hc : MT X C E c tc) (hb : MSs X C E body b) : MS X C E (.While c body [] pos) (whileS n tc b) := by
  refine PS.mono (ps_while hp hc hb) fun D σ H ⟨β, ρ, M, he, hs, h⟩ => ?_
  refine ⟨fun m σ H1 => ∃ β1 ρ1 M1, Grow β H β1 H1 ∧ REnv C β1 H1 ρ1 σ ∧ Sim C β1 M1 H1 ∧ Post C β1 H1 E (whileN tc b m ρ1 M1) (QS C β1 H1 D), ⟨n, β, ρ, M, .refl, he, hs, h⟩, fun m σ1 H1 ⟨β1, ρ1, M1, g1, he1, hs1, q1⟩ => ?_⟩
  cases m with
  | zero => exact q1.elim
  | succ m =>
    refine tT.bind he1 hs1 q1 fun k M2 β2 H2 g2 he2 hs2 q2 => ?_
    cases k with
    | false => exact q2 β2 H2 σ1 g2 hs2 he2
    | true =>
      refine ⟨fun σ' H' => ∃ β1 ρ1 M1, Grow β H β1 H' ∧ REnv C β1 H' ρ1 σ' ∧ Sim C β1 M1 H' ∧ Post C β1 H' E (whileN tc b m ρ1 M1) (QS C β1 H' D), fun σ' H' w => ⟨m, Nat.lt_succ_self m, w⟩, ?_⟩
      refine ⟨β2, ρ1, M2, he2, hs2, (Post.bind.mp (Post.gS g2 (show Post C β1 H1 E _ _ from q2))).imp fun f M3 q3 => ?_⟩
      cases f with
      | nx ρ3 => exact fun β4 H4 σ4 g4 hs4 he4 => ⟨β4, ρ3, M3, (g1.trans g2).trans g4, he4, hs4, Post.gS g4 q3⟩
      | rt d => exact q3
end
end Mini

set_option Elab.async false
set_option linter.all false
set_option maxRecDepth 100000
set_option maxHeartbeats 4000000
/-! Mini: what a for or a comprehension walks. -/
namespace Mini
open PySem PySem.Spec PyProof.Rows L2

inductive SK where
  | l | t
def SqK (k : SK) (K : PySem.W.Frag) (H : Hp) (a : Addr) (xs : List V) : Prop := match k with
  | .l => SqL K H a xs
  | .t => SqT K H a xs
def IterK (k : SK) (h : Heap) (it a : Addr) (i : Nat) : Prop := match k with
  | .l => h.IsListIter it a i
  | .t => h.IsTupleIter it a i
def HasK (k : SK) (h : Heap) (a : Addr) (its : Array Value) : Prop := match k with
  | .l => h.IsList a its
  | .t => h.IsTuple a its
theorem IterK.obj {k : SK} {h : Heap} {it a : Addr} {i : Nat} (st : IterK k h it a i) : ∃ o, h.get? it = some o ∧ ∀ v, o.data ≠ .cell v := by
  cases k with
  | l => obtain ⟨o, e, c, d⟩ := st; exact ⟨o, e, fun v z => by rw [d] at z; cases z⟩
  | t => obtain ⟨o, e, c, d⟩ := st; exact ⟨o, e, fun v z => by rw [d] at z; cases z⟩
theorem IterK.at {k : SK} {h h' : Heap} {it a : Addr} {i : Nat} (st : IterK k h it a i) (e : ∀ o, h.get? it = some o → h'.get? it = some o) : IterK k h' it a i := by
  cases k with
  | l => exact Heap.IsListIter.at st e
  | t => exact Heap.IsTupleIter.at st e
theorem drawsK {prog : Program} {w : World} {A : Around} (k : SK) (hh : A.handled = none) (it a : Addr) (hne : a ≠ it) (items : Array Value) :
    Draws prog w A it [it, a] items.size (fun i v => items[i]? = some v) (fun i h => IterK k h it a i ∧ HasK k h a items) := by
  cases k with
  | l => exact Draws.list hh it a hne items
  | t => exact Draws.tuple hh it a hne items
section
variable {X : Cx} {pins : List (Addr × Obj)} {σ : L2.St} {H : Hp} {s : Shared} {a : Addr} {xs ys : List V}
theorem invK (I : Inv X pins σ H s) {k : SK} (h : SqK k X.K H a xs) : ∃ its : List Value, Vals xs its ∧ HasK k s.heap a its.toArray ∧ a < s.heap.objs.size := by
  cases k with
  | l => obtain ⟨its, r, p, z⟩ := I.list h; exact ⟨its, r, p.isList, p.lt⟩
  | t => obtain ⟨its, r, p, z⟩ := I.tuple h; exact ⟨its, r, p, p.lt⟩
theorem invK_inj (I : Inv X pins σ H s) {k : SK} (h : SqK k X.K H a xs) (h' : SqK k X.K H a ys) : xs = ys := by
  cases k with
  | l => exact I.list_inj h h'
  | t => exact I.tuple_inj h h'
end
theorem inv_done {X : Cx} {pins : List (Addr × Obj)} {σ : L2.St} {H : Hp} {s : Shared} {ch : List Addr} {h' : Heap} {tk : Nat} (I : Inv X pins σ H s) (hf : ∀ b ∈ ch, FpOk X pins H b) (keep : ∀ b o, b ∉ ch → s.heap.get? b = some o → h'.get? b = some o) :
    Inv X pins σ H { s with heap := h', toks := tk } := by
  refine I.step (g' := s.gens) (d' := s.drawn) (ch := ch) (fun b hb => ⟨(hf b hb).2.2.2.1, (hf b hb).2.1, (hf b hb).2.2.2.2.1, (hf b hb).2.2.2.2.2⟩) (fun b o _ _ hc e _ => keep b o hc e) (fun b o _ _ hc e _ => ⟨o.slots, keep b o hc e⟩)
    (fun _ _ _ _ n => n) (fun b o hc e => ⟨o, keep b o hc e⟩) (fun _ _ e => e) (fun _ _ _ e => e) (fun b ps e => ⟨#[], by rw [e]; simp⟩) (fun m hm => ?_) (fun b u eb => ?_) I.bare
  · obtain ⟨o, es, ep, ho, r⟩ := hm
    exact ⟨o, es, ep, keep _ o (fun z => (hf _ z).2.1 rfl) ho, r⟩
  · have nit : ∀ c v, H c = some v → c ∉ ch := fun c v ec z => by
      rw [(hf c z).1] at ec; cases ec
    refine (I.hok b u eb).stay (fun c v hcc q => keep c v ?_ q) (fun _ q => q) fun _ _ q => q
    rcases hcc with z | z
    · rw [z]; exact nit b u eb
    · exact nit c _ z
def ItO (k : SK) (K : PySem.W.Frag) (a : Addr) : It := match k with
  | .l => Itl K a
  | .t => Itt K a
def ItE (k : SK) (K : PySem.W.Frag) (a : Addr) : It :=
  ⟨fun i H => ∃ (xs : List V) (x : V), SqK k K H a xs ∧ xs[i]? = some x, fun i H v H' => ∃ T x, v = .ref T ∧ H T = none ∧ H' = upd H T (.tup [.int (i : Nat), x]) ∧ ∀ xs, SqK k K H a xs → xs[i]? = some x,
   fun i H => ∃ xs : List V, SqK k K H a xs ∧ xs.length = i⟩
def ItZ (k k2 : SK) (K : PySem.W.Frag) (a b : Addr) : It :=
  ⟨fun i H => ∃ (xs ys : List V) (x y : V), SqK k K H a xs ∧ SqK k2 K H b ys ∧ xs[i]? = some x ∧ ys[i]? = some y,
    fun i H v H' => ∃ T x y, v = .ref T ∧ H T = none ∧ H' = upd H T (.tup [x, y]) ∧ (∀ xs, SqK k K H a xs → xs[i]? = some x) ∧ ∀ ys, SqK k2 K H b ys → ys[i]? = some y,
    fun i H => ∃ xs ys : List V, SqK k K H a xs ∧ SqK k2 K H b ys ∧ min xs.length ys.length = i⟩
theorem turnE {P : Program} {w : World} {K : PySem.W.Frag} {elts : List Expr} {kk : Nat} {tpos : Pos} (k : SK) (a e it : Addr) (ha : a ≠ it) (hea : e ≠ a) :
    Turn P w K (.Tuple elts kk tpos) (ItE k K a) [e, it] e (fun i h => (∃ old, IsEnum h e it (0 + ((i : Nat) : Int)) old) ∧ IterK k h it a i ∧ e ≠ it) where
  mem := by simp
  obj := fun i h st b hb => by
    obtain ⟨⟨old, he⟩, st2, _⟩ := st
    have e' : b = e ∨ b = it := by simpa using hb
    rcases e' with z | z
    · rw [z]; exact ⟨_, he, fun v q => nomatch q⟩
    · rw [z]; exact st2.obj
  keep := fun i h h' st k => let ⟨⟨old, he⟩, hi, hne⟩ := st; ⟨⟨old, k e (by simp) _ he⟩, hi.at fun o q => k it (by simp) o q, hne⟩
  item := by
    intro X hP hw hK hc i pins s σ H E I hf st hg
    subst hP hw hK
    obtain ⟨hen, hit, hne⟩ := st
    obtain ⟨xs, x, hq, hx⟩ := hg
    obtain ⟨its, rv, p, hz⟩ := invK I hq
    obtain ⟨u, hu, ru⟩ := rv.get hx
    have hh : X.A.in1.handled = none := I.ok.hd hc
    have D := drawsK (prog := X.prog) (w := X.w) (A := X.A.in1) k hh it a ha its.toArray
    have W := WalksT.enumFrom 0 D e hne (by simp [hne, hea]) (by simp)
    have hi : i < its.toArray.size := by
      have h1 := (List.getElem?_eq_some_iff.mp hu).1
      simpa using h1
    refine W.item i s _ E hi ⟨hen, hit, p⟩ fun T vals h' tk ⟨t, v, hv, ev⟩ hT hTup mid keep => ⟨_, rfl, ?_⟩
    have apart := W.apart i T h' mid
    refine W.go elts kk tpos i T _ _ E mid fun h'' st'' keep'' => ?_
    have eu : v = u := by
      have h1 : its.toArray[i]? = some u := by simpa using hu
      rw [h1] at hv; exact (Option.some.inj hv).symm
    subst eu ev
    have hT2 : h''.IsTuple T #[.int (0 + (i : Int)) t, v] := hTup.at fun o q => keep'' T o apart q
    have new : ObjOk X.prog X.w (upd H T (.tup [.int (i : Nat), x])) h'' T (.tup [.int (i : Nat), x]) :=
      ⟨by show 2 ≤ sizeLine; decide, [.int (0 + (i : Int)) t, v], .cons ⟨t, by rw [Int.zero_add]⟩ (.cons ru .nil), hT2⟩
    have I1 : Inv X pins σ (upd H T (.tup [.int (i : Nat), x])) { s with heap := h'', toks := tk } :=
      I.turnedNew (ch := [e, it]) (fun b ob hb q => keep'' b ob hb (keep b ob hb q)) hf hT new
    refine ⟨.ref T, _, I1, rfl, ⟨T, x, rfl, I.hok.fresh hT, rfl, fun ys hy => by rw [invK_inj I hy hq]; exact hx⟩, ⟨?_, st''.2.1, hne⟩, fun b hb => ?_⟩
    · obtain ⟨⟨old, q⟩, _⟩ := st''
      exact ⟨old, q⟩
    · have hb' : b ≠ T := fun z => apart (by rw [← z]; exact hb)
      rw [upd_ne hb']
      exact (hf b hb).1
  done := by
    intro X hP hw hK hc i pins s σ H E I hf st hg
    subst hP hw hK
    obtain ⟨hen, hit, hne⟩ := st
    obtain ⟨xs, hq, hx⟩ := hg
    obtain ⟨its, rv, p, hz⟩ := invK I hq
    have hh : X.A.in1.handled = none := I.ok.hd hc
    have D := drawsK (prog := X.prog) (w := X.w) (A := X.A.in1) k hh it a ha its.toArray
    have W := WalksT.enumFrom 0 D e hne (by simp [hne, hea]) (by simp)
    have en : its.toArray.size = i := by
      have := rv.length
      simp; omega
    subst en
    refine W.done s _ E ⟨hen, hit, p⟩ fun h' tk keep => ⟨rfl, ?_⟩
    exact inv_done (ch := [e, it]) I hf keep
  self := fun A i s Q E st h => let ⟨⟨_, he⟩, _⟩ := st; wpAny_pyIter_enum he h

structure ZSep (z TI TO i1 i2 a b : Addr) : Prop where
  s : ZipSep2 z TI TO i1 i2 [i1, a] [i2, b]
  n1 : a ≠ i1
  n2 : b ≠ i2
theorem turnZ {P : Program} {w : World} {K : PySem.W.Frag} {elts : List Expr} {kk : Nat} {tpos : Pos} (k k2 : SK) {a b z TI TO i1 i2 : Addr} (D : ZSep z TI TO i1 i2 a b) :
    Turn P w K (.Tuple elts kk tpos) (ItZ k k2 K a b) [z, TI, TO, i1, i2] z (fun i h => IsZip h z TI TO .none ∧ IsTupOf2 h TI (.ref i1) (.ref i2) ∧ (∃ x y, IsTupOf2 h TO x y) ∧ IterK k h i1 a i ∧ IterK k2 h i2 b i) where
  mem := by simp
  obj := fun i h st c hc => by
    obtain ⟨hz, hTI, ⟨x, y, hTO⟩, s1, s2⟩ := st
    have e' : c = z ∨ c = TI ∨ c = TO ∨ c = i1 ∨ c = i2 := by simpa using hc
    rcases e' with q | q | q | q | q
    · rw [q]; exact ⟨_, hz, fun v q => nomatch q⟩
    · rw [q]; exact ⟨_, hTI, fun v q => nomatch q⟩
    · rw [q]; exact ⟨_, hTO, fun v q => nomatch q⟩
    · rw [q]; exact s1.obj
    · rw [q]; exact s2.obj
  keep := fun i h h' st k => by
    obtain ⟨hz, hTI, ⟨x, y, hTO⟩, h1, h2⟩ := st
    exact ⟨k z (by simp) _ hz, k TI (by simp) _ hTI, ⟨x, y, k TO (by simp) _ hTO⟩, h1.at fun o q => k i1 (by simp) o q, h2.at fun o q => k i2 (by simp) o q⟩
  item := by
    intro X hP hw hK hc i pins s σ H E I hf st hg
    subst hP hw hK
    obtain ⟨hz, hTI, hTO, h1, h2⟩ := st
    obtain ⟨xs, ys, x, y, hqx, hqy, hx, hy⟩ := hg
    obtain ⟨its, rv, p, _⟩ := invK I hqx
    obtain ⟨its2, rv2, p2, _⟩ := invK I hqy
    obtain ⟨u, hu, ru⟩ := rv.get hx
    obtain ⟨u2, hu2, ru2⟩ := rv2.get hy
    have hh : X.A.in1.handled = none := I.ok.hd hc
    have D1 := drawsK (prog := X.prog) (w := X.w) (A := X.A.in1) k hh i1 a D.n1 its.toArray
    have D2 := drawsK (prog := X.prog) (w := X.w) (A := X.A.in1) k2 hh i2 b D.n2 its2.toArray
    have W := WalksT.zipD2 D.s D1 D2
    have hi : i < min its.toArray.size its2.toArray.size := by
      have h1 := (List.getElem?_eq_some_iff.mp hu).1
      have h2 := (List.getElem?_eq_some_iff.mp hu2).1
      simp; omega
    refine W.item i s _ E hi ⟨hz, hTI, hTO, ⟨h1, p⟩, ⟨h2, p2⟩⟩ fun T vals h' tk ⟨v, v2, hv, hv2, ev⟩ hT hTup mid keep => ⟨_, rfl, ?_⟩
    have apart := W.apart i T h' mid
    have sz : ∀ {c : Addr}, c < s.heap.objs.size → c ≠ T := fun hc z => by rw [z] at hc; exact absurd (Nat.lt_of_lt_of_le hc hT) (Nat.lt_irrefl _)
    have hTIl : TI < s.heap.objs.size := Heap.lt_size hTI
    refine W.go elts kk tpos i T _ _ E mid fun h'' st'' keep'' => ?_
    have eu : v = u := by
      have h1 : its.toArray[i]? = some u := by simpa using hu
      rw [h1] at hv; exact (Option.some.inj hv).symm
    have eu2 : v2 = u2 := by
      have h1 : its2.toArray[i]? = some u2 := by simpa using hu2
      rw [h1] at hv2; exact (Option.some.inj hv2).symm
    subst eu eu2 ev
    have hT2 : h''.IsTuple T #[v, v2] := hTup.at fun o q => keep'' T o apart q
    have new : ObjOk X.prog X.w (upd H T (.tup [x, y])) h'' T (.tup [x, y]) :=
      ⟨by show 2 ≤ sizeLine; decide, [v, v2], .cons ru (.cons ru2 .nil), hT2⟩
    have sub : ∀ c, c ∈ [z, TO, i1, i2] → c ∈ [z, TI, TO, i1, i2] := fun c hc => by
      have e' : c = z ∨ c = TO ∨ c = i1 ∨ c = i2 := by simpa using hc
      rcases e' with q | q | q | q <;> simp [q]
    have I1 : Inv X pins σ (upd H T (.tup [x, y])) { s with heap := h'', toks := tk } :=
      I.turnedNew (ch := [z, TO, i1, i2]) (fun b ob hb q => keep'' b ob hb (keep b ob hb q)) (fun c hc => hf c (sub c hc)) hT new
    obtain ⟨q1, q2, q3, q4, q5⟩ := st''
    refine ⟨.ref T, _, I1, rfl, ⟨T, x, y, rfl, I.hok.fresh hT, rfl, fun zs hz => by rw [invK_inj I hz hqx]; exact hx, fun zs hz => by rw [invK_inj I hz hqy]; exact hy⟩, ⟨q1, q2, q3, q4.1, q5.1⟩, fun c hc => ?_⟩
    have nT : c ≠ T := by
      have e' : c = z ∨ c = TI ∨ c = TO ∨ c = i1 ∨ c = i2 := by simpa using hc
      rcases e' with q | q | q | q | q
      · rw [q]; exact sz (Heap.lt_size hz)
      · rw [q]; exact sz hTIl
      · obtain ⟨_, _, r⟩ := hTO
        rw [q]; exact sz (Heap.lt_size r)
      · obtain ⟨o, r, _⟩ := h1.obj
        rw [q]; exact sz (Heap.lt_size r)
      · obtain ⟨o, r, _⟩ := h2.obj
        rw [q]; exact sz (Heap.lt_size r)
    rw [upd_ne nT]
    exact (hf c hc).1
  done := by
    intro X hP hw hK hc i pins s σ H E I hf st hg
    subst hP hw hK
    obtain ⟨hz, hTI, hTO, h1, h2⟩ := st
    obtain ⟨xs, ys, hqx, hqy, hx⟩ := hg
    obtain ⟨its, rv, p, _⟩ := invK I hqx
    obtain ⟨its2, rv2, p2, _⟩ := invK I hqy
    have hh : X.A.in1.handled = none := I.ok.hd hc
    have D1 := drawsK (prog := X.prog) (w := X.w) (A := X.A.in1) k hh i1 a D.n1 its.toArray
    have D2 := drawsK (prog := X.prog) (w := X.w) (A := X.A.in1) k2 hh i2 b D.n2 its2.toArray
    have W := WalksT.zipD2 D.s D1 D2
    have en : min its.toArray.size its2.toArray.size = i := by
      have e1 := rv.length
      have e2 := rv2.length
      simp; omega
    subst en
    refine W.done s _ E ⟨hz, hTI, hTO, ⟨h1, p⟩, ⟨h2, p2⟩⟩ fun h' tk keep => ⟨rfl, ?_⟩
    have sub : ∀ c, c ∈ [z, TO, i1, i2] → c ∈ [z, TI, TO, i1, i2] := fun c hc => by
      have e' : c = z ∨ c = TO ∨ c = i1 ∨ c = i2 := by simpa using hc
      rcases e' with q | q | q | q <;> simp [q]
    exact inv_done (ch := [z, TO, i1, i2]) I (fun c hc => hf c (sub c hc)) keep
  self := fun A i s Q E st h => let ⟨hz, _⟩ := st; wpAny_pyIter_zip hz h

/-! ### sources -/
def strItems (x : Str) : List D := x.cps.toList.map fun c => .str ⟨#[c]⟩
def sqOf : D → Option Sq
  | .tup xs => some (.fix xs)
  | .ktp xs => some (.fix xs)
  | .frl xs => some (.fix xs)
  | .ref n => some (.ls n)
  | _ => none
def sqOfS : D → Option Sq
  | .str x => some (.fix (strItems x))
  | d => sqOf d
def seqI (e : ME') : MEnv → Mem → R Src := fun ρ M => (e ρ M).bind fun d M1 => match sqOfS d with
  | some s => if (s.get 0 M1).isSome = true then .ok (.one s) M1 else .stuck
  | none => .stuck
def enumI (e : ME') : MEnv → Mem → R Src := fun ρ M => (e ρ M).bind fun d M1 => match sqOf d with
  | some s => if (s.get 0 M1).isSome = true then .ok (.enum s) M1 else .stuck
  | none => .stuck
def zipI (a b : ME') : MEnv → Mem → R Src := fun ρ M => (a ρ M).bind fun d M1 => (b ρ M1).bind fun e M2 => match sqOf d, sqOf e with
  | some s, some t => if (s.get 0 M2).isSome = true ∧ (t.get 0 M2).isSome = true then .ok (.zip s t) M2 else .stuck
  | _, _ => .stuck
def rangeL (lo : Int) (n : Nat) : List D := (List.range n).map fun (k : Nat) => D.int (lo + (k : Int))
def rng1I (a : ME') : MEnv → Mem → R Src := fun ρ M => (a ρ M).bind fun d M1 => match d with
  | .int j => if -(2 ^ 62) ≤ j ∧ j < 2 ^ 62 then .ok (.one (.fix (rangeL 0 j.toNat))) M1 else .stuck
  | _ => .stuck
def rng2I (a b : ME') : MEnv → Mem → R Src := fun ρ M => (a ρ M).bind fun d M1 => (b ρ M1).bind fun e M2 => match d, e with
  | .int i, .int j => if -(2 ^ 62) ≤ i ∧ i < 2 ^ 62 ∧ -(2 ^ 62) ≤ j ∧ j < 2 ^ 62 then .ok (.one (.fix (rangeL i (j - i).toNat))) M2 else .stuck
  | _, _ => .stuck

def SqAt (C : Cf) (β : List Addr) (H : Hp) (a : Addr) (k : SK) : Sq → Prop
  | .fix xs => ∃ vs, ((k = .t ∧ (OutT C β H a vs ∨ OutK C a vs)) ∨ (k = .l ∧ (a ∉ β ∧ a ∉ C.no) ∧ H a = some (.lst vs))) ∧ Reps C β H vs xs
  | .ls n => k = .l ∧ β[n]? = some a
theorem sq_at {C : Cf} {β : List Addr} {H : Hp} {d : D} {v : V} {s : Sq} (r : Rep C β H v d) (e : sqOf d = some s) : ∃ a k, v = .ref a ∧ SqAt C β H a k s := by
  cases r with
  | tup h1 h2 => cases e; exact ⟨_, .t, rfl, _, .inl ⟨rfl, .inl h1⟩, h2⟩
  | ktp h1 h2 => cases e; exact ⟨_, .t, rfl, _, .inl ⟨rfl, .inr h1⟩, h2⟩
  | frl h0 h1 h2 => cases e; exact ⟨_, .l, rfl, _, .inr ⟨rfl, h0, h1⟩, h2⟩
  | ref h => cases e; exact ⟨_, .l, rfl, rfl, h⟩
  | _ => cases e
theorem SqAt.grow {C : Cf} {β β1 : List Addr} {H H1 : Hp} {a : Addr} {k : SK} {s : Sq} (h : SqAt C β H a k s) (g : Grow β H β1 H1) : SqAt C β1 H1 a k s := by
  cases s with
  | fix xs =>
    obtain ⟨vs, h1, h2⟩ := h
    refine ⟨vs, ?_, h2.grow g⟩
    rcases h1 with ⟨e, h1⟩ | ⟨e, h0, h1⟩
    · exact .inl ⟨e, h1.imp (fun h => h.grow g) id⟩
    · exact .inr ⟨e, ⟨g.out h0.1 h1, h0.2⟩, g.keep _ _ h0.1 h1 (fun _ z => by cases z)⟩
  | ls n => exact ⟨h.1, g.get h.2⟩
theorem SqAt.lift {C : Cf} {β : List Addr} {H : Hp} {a : Addr} {k : SK} {s : Sq} (h : SqAt C β H a k s) {L : Addr} (hL : H L = none) : SqAt (C.wno L) β H a k s := by
  cases s with
  | fix xs =>
    obtain ⟨vs, h1, h2⟩ := h
    refine ⟨vs, ?_, h2.lift (C := C) hL⟩
    rcases h1 with ⟨e, h1⟩ | ⟨e, h0, h1⟩
    · exact .inl ⟨e, h1.imp (fun q => ⟨⟨q.1.1, fun z => (List.mem_cons.mp z).elim (fun e => by have h3 := q.2; rw [e, hL] at h3; cases h3) q.1.2⟩, q.2⟩) id⟩
    · exact .inr ⟨e, ⟨h0.1, fun z => (List.mem_cons.mp z).elim (fun e => by rw [e, hL] at h1; cases h1) h0.2⟩, h1⟩
  | ls n => exact h
theorem sq_get {C : Cf} {β : List Addr} {M : Mem} {H : Hp} {a : Addr} {k : SK} {s : Sq} {i : Nat} {o : Option D} (h : SqAt C β H a k s) (S : Sim C β M H) (e : s.get i M = some o) :
    ∃ vs, SqK k C.K H a vs ∧ i ≤ vs.length ∧ match o with
      | none => vs.length = i
      | some d => ∃ x, vs[i]? = some x ∧ Rep C β H x d := by
  have fin : ∀ (vs : List V) (xs : List D), SqK k C.K H a vs → Reps C β H vs xs → (if i ≤ xs.length then some xs[i]? else none) = some o → ∃ vs, SqK k C.K H a vs ∧ i ≤ vs.length ∧ match o with
      | none => vs.length = i
      | some d => ∃ x, vs[i]? = some x ∧ Rep C β H x d := fun vs xs h1 h2 e => by
    split at e
    · rename_i hi
      have e' := Option.some.inj e
      have hl := h2.length
      refine ⟨vs, h1, by omega, ?_⟩
      cases o with
      | none =>
        have := List.getElem?_eq_none_iff.mp e'
        show vs.length = i
        omega
      | some d => exact h2.get e'
    · cases e
  cases s with
  | fix xs =>
    obtain ⟨vs, h1, h2⟩ := h
    refine fin vs xs ?_ h2 e
    rcases h1 with ⟨rfl, h1⟩ | ⟨rfl, h0, h1⟩
    · exact h1.elim (fun h => h.sq) fun h => h.sq
    · exact SqL.of h1
  | ls n =>
    obtain ⟨rfl, hb⟩ := h
    unfold Sq.get at e
    simp only at e
    split at e
    · rename_i xs hM
      obtain ⟨b, e1, vs, h1, h2⟩ := S.obj n _ hM
      rw [hb] at e1; cases e1
      exact fin vs xs (SqL.of h1) h2 e
    · cases e
/-- whatever is walked: a list, a tuple, a text -/
def iAny (K : PySem.W.Frag) (tl : TE) : TI := fun σ H R => tl σ H fun x H1 => (∃ a k, x = .ref a ∧ (∃ xs, SqK k K H1 a xs) ∧ R (ItO k K a) H1) ∨ ∃ z, x = .str z ∧ R (Its z) H1
theorem pi_any {X : Cx} {tg l : Expr} {tl : TE} (hl : PE X l tl) : PI X tg l (iAny X.K tl) := by
  refine ⟨fun pins s σ H R I h => ?_⟩
  refine thn (hl.run pins s σ H _ I h) fun v s1 ⟨x, H1, I1, r1, q1⟩ => ?_
  rcases q1 with ⟨a, k, e, ⟨xs, hq⟩, q⟩ | ⟨z, e, q⟩
  · subst e
    cases r1
    cases k with
    | l =>
      obtain ⟨its, rv, p, hz⟩ := I1.list hq
      refine wpAny_pyIter_list p.isList ?_
      refine ⟨s1.heap.objs.size, [s1.heap.objs.size], _, _, H1, rfl, I1.kept (t' := s1.toks) fun b o e => Heap.get?_push_of_some _ e, turn_list a _, ⟨_, Heap.get?_push_size _ rfl, rfl, rfl⟩, fun b hb => ?_, q⟩
      have e : b = s1.heap.objs.size := by simpa using hb
      subst e
      exact I1.fpOk (Nat.le_refl _) (I1.hok.fresh (Nat.le_refl _))
    | t =>
      obtain ⟨its, rv, p, hz⟩ := I1.tuple hq
      refine wpAny_pyIter_tuple (show s1.heap.IsTuple a its.toArray from p) ?_
      refine ⟨s1.heap.objs.size, [s1.heap.objs.size], _, _, H1, rfl, I1.kept (t' := s1.toks) fun b o e => Heap.get?_push_of_some _ e, turn_tuple a _, ⟨_, Heap.get?_push_size _ rfl, rfl, rfl⟩, fun b hb => ?_, q⟩
      have e : b = s1.heap.objs.size := by simpa using hb
      subst e
      exact I1.fpOk (Nat.le_refl _) (I1.hok.fresh (Nat.le_refl _))
  · subst e
    obtain ⟨t, rfl⟩ := r1
    cases ha : z.cps.all (· < 128)
    · exact wpAny_pyIter_wide ha (pi_one (tk := s1.toks) I1 _ (turn_str _ z t "str_iterator" (.inr rfl)) ⟨_, Heap.get?_push_size _ rfl, rfl, rfl⟩ q)
    · exact wpAny_pyIter_ascii ha (pi_one (tk := s1.toks) I1 _ (turn_str _ z t "str_ascii_iterator" (.inl rfl)) ⟨_, Heap.get?_push_size _ rfl, rfl, rfl⟩ q)
theorem itO_r0 {C : Cf} {β : List Addr} {H : Hp} {a : Addr} {k : SK} {s : Sq} (h : SqAt C β H a k s) : ItR0 C β H (.one s) (ItO k C.K a) := fun β1 M1 H1 i g S => by
  have h1 := h.grow g
  refine ⟨fun d e => ?_, fun e => ?_⟩
  · obtain ⟨vs, q, hi, x, hx, r⟩ := sq_get h1 S e
    cases k with
    | l => exact ⟨⟨vs, x, q, hx⟩, fun y H' ⟨e1, e2⟩ => by
        subst e1
        have : y = x := Option.some.inj ((e2 vs q).symm.trans hx)
        subst this
        exact ⟨.refl, S, r⟩⟩
    | t => exact ⟨⟨vs, x, q, hx⟩, fun y H' ⟨e1, e2⟩ => by
        subst e1
        have : y = x := Option.some.inj ((e2 vs q).symm.trans hx)
        subst this
        exact ⟨.refl, S, r⟩⟩
  · obtain ⟨vs, q, hi, hl⟩ := sq_get h1 S e
    cases k with
    | l => exact ⟨vs, q, Nat.le_of_eq hl⟩
    | t => exact ⟨vs, q, Nat.le_of_eq hl⟩
theorem fix_get {xs : List D} {i : Nat} {M : Mem} {o : Option D} (e : (Src.one (.fix xs)).get i M = some o) : i ≤ xs.length ∧ xs[i]? = o := by
  have e : (if i ≤ xs.length then some xs[i]? else none) = some o := e
  split at e
  · rename_i h
    exact ⟨h, Option.some.inj e⟩
  · cases e
theorem its_r0 {C : Cf} {β : List Addr} {H : Hp} (z : Str) : ItR0 C β H (.one (.fix (strItems z))) (Its z) := fun β1 M1 H1 i g S => by
  refine ⟨fun d e => ?_, fun e => ?_⟩
  · obtain ⟨hi, e⟩ := fix_get e
    unfold strItems at e
    rw [List.getElem?_map] at e
    cases hc : z.cps.toList[i]? with
    | none => rw [hc] at e; cases e
    | some c =>
      rw [hc] at e
      cases e
      have hc2 : z.cps[i]? = some c := by simpa using hc
      refine ⟨(Array.getElem?_eq_some_iff.mp hc2).1, fun y H' ⟨e1, c', e2, e3⟩ => ?_⟩
      subst e1 e3
      rw [hc2] at e2; cases e2
      exact ⟨.refl, S, .str _⟩
  · obtain ⟨hi, e⟩ := fix_get e
    have := List.getElem?_eq_none_iff.mp e
    unfold strItems at this
    simp at this
    exact this
theorem itr_r0 {C : Cf} {β : List Addr} {H : Hp} (lo : Int) (n : Nat) : ItR0 C β H (.one (.fix (rangeL lo n))) (Itr lo n) := fun β1 M1 H1 i g S => by
  refine ⟨fun d e => ?_, fun e => ?_⟩
  · obtain ⟨hi, e⟩ := fix_get e
    unfold rangeL at e
    rw [List.getElem?_map] at e
    have hn : i < n := by
      by_cases h : i < n
      · exact h
      · rw [List.getElem?_eq_none (by simp; omega)] at e; cases e
    rw [List.getElem?_range hn] at e
    cases e
    refine ⟨hn, fun y H' ⟨e1, e2⟩ => ?_⟩
    subst e1 e2
    exact ⟨.refl, S, .int _⟩
  · obtain ⟨hi, e⟩ := fix_get e
    have := List.getElem?_eq_none_iff.mp e
    unfold rangeL at this
    simp at this
    exact this
theorem sq_is {C : Cf} {β : List Addr} {M : Mem} {H : Hp} {a : Addr} {k : SK} {s : Sq} (h : SqAt C β H a k s) (S : Sim C β M H) (e : (s.get 0 M).isSome = true) : ∃ vs, SqK k C.K H a vs := by
  obtain ⟨o, ho⟩ := Option.isSome_iff_exists.mp e
  obtain ⟨vs, q, _⟩ := sq_get h S ho
  exact ⟨vs, q⟩
theorem itO_r {C : Cf} {β : List Addr} {H : Hp} {a : Addr} {k : SK} {s : Sq} (h : SqAt C β H a k s) : ItR C β H (.one s) (ItO k C.K a) := ⟨itO_r0 h, fun _ hL => itO_r0 (C := C.wno _) (h.lift hL)⟩
theorem its_r {C : Cf} {β : List Addr} {H : Hp} (z : Str) : ItR C β H (.one (.fix (strItems z))) (Its z) := ⟨its_r0 z, fun _ _ => its_r0 z⟩
theorem itr_r {C : Cf} {β : List Addr} {H : Hp} (lo : Int) (n : Nat) : ItR C β H (.one (.fix (rangeL lo n))) (Itr lo n) := ⟨itr_r0 lo n, fun _ _ => itr_r0 lo n⟩
section
variable {X : Cx} {C : Cf} {E : XK} {tg a b l : Expr} {ma mb : ME'} {pos p tpos : Pos} {elts : List Expr} {kk : Nat}
theorem mi_seq (hK : X.K = C.K) (hl : ME X C E l ma) : MI X C E tg l (seqI ma) := by
  refine PI.mono (pi_any hl) fun σ H K ⟨β, ρ, M, he, hs, h⟩ => ?_
  refine tE.bind he hs h fun d M1 β1 H1 v g1 he1 hs1 r q => ?_
  split at q
  · rename_i s e
    split at q
    · rename_i hok
      by_cases hz : ∃ z, d = .str z
      · obtain ⟨z, rfl⟩ := hz
        cases e
        cases r
        exact .inr ⟨z, rfl, q β1 H1 _ g1 hs1 (its_r z)⟩
      · have e' : sqOf d = some s := by
          cases d <;> first | exact e | (exact absurd ⟨_, rfl⟩ hz)
        obtain ⟨a, k, ev, h⟩ := sq_at r e'
        exact .inl ⟨a, k, ev, by rw [hK]; exact sq_is h hs1 hok, by rw [hK]; exact q β1 H1 _ g1 hs1 (itO_r h)⟩
    · exact q.elim
  · exact q.elim
theorem mi_range1 (ha : ME X C E a ma) (hm : X.mg "range" = none) (hg : Gl X "range" := by rfl) (hs1 : starEach [a] X.env = (false, eval a X.env) :: starEach [] X.env := by rfl) (hs : starEach [a] X.env = [(false, eval a X.env)] := by rfl) : MI X C E tg (.Call (.Name "range" p) [a] [] pos) (rng1I ma) := by
  refine PI.mono (pi_range1 hg hm (ml_cons ha ml_nil hs1) hs) fun σ H K ⟨β, ρ, M, he, hs, h⟩ => ?_
  refine ⟨β, ρ, M, he, hs, ?_⟩
  refine Post.bind.mpr ((Post.bind.mp h).imp fun d M1 q => ?_)
  refine fun β1 H1 vs g1 hs1 r => ?_
  cases r with
  | cons r r0 =>
    cases r0
    split at q
    · rename_i j
      cases r
      split at q
      · rename_i hj
        exact ⟨j, rfl, hj.1, hj.2, q β1 H1 _ g1 hs1 (itr_r 0 _)⟩
      · exact q.elim
    · exact q.elim
theorem mi_range2 (ha : ME X C E a ma) (hb : ME X C E b mb) (hm : X.mg "range" = none) (hg : Gl X "range" := by rfl) (hs0 : starEach [a, b] X.env = (false, eval a X.env) :: starEach [b] X.env := by rfl) (hs1 : starEach [b] X.env = (false, eval b X.env) :: starEach [] X.env := by rfl)
    (hs : starEach [a, b] X.env = [(false, eval a X.env), (false, eval b X.env)] := by rfl) (hs2 : starEach [b] X.env = [(false, eval b X.env)] := by rfl) : MI X C E tg (.Call (.Name "range" p) [a, b] [] pos) (rng2I ma mb) := by
  refine PI.mono (pi_range2 hg hm (ml_cons ha (ml_cons hb ml_nil hs1) hs0) hs hs2) fun σ H K ⟨β, ρ, M, he, hs, h⟩ => ?_
  refine ⟨β, ρ, M, he, hs, ?_⟩
  refine Post.bind.mpr ((Post.bind.mp h).imp fun d M1 q => ?_)
  refine Post.bind.mpr (Post.bind.mpr ((Post.bind.mp q).imp fun d2 M2 q2 => ?_))
  clear q
  refine fun β1 H1 vs g1 hs1 r => ?_
  cases r with
  | cons r r0 =>
    cases r0 with
    | cons r2 r0 =>
    cases r0
    split at q2
    · rename_i i j
      cases r
      cases r2
      split at q2
      · rename_i hj
        exact ⟨i, j, rfl, hj, q2 β1 H1 _ g1 hs1 (itr_r i _)⟩
      · exact q2.elim
    · exact q2.elim
def iEnumK (K : PySem.W.Frag) (ta : TA) : TI := fun σ H R => ta σ H fun vs H1 => ∃ a k, vs = [.ref a] ∧ (∃ xs, SqK k K H1 a xs) ∧ R (ItE k K a) H1
def iZipK (K : PySem.W.Frag) (ta : TA) : TI := fun σ H R => ta σ H fun vs H1 => ∃ a b k k2, vs = [.ref a, .ref b] ∧ (∃ xs, SqK k K H1 a xs) ∧ (∃ ys, SqK k2 K H1 b ys) ∧ R (ItZ k k2 K a b) H1
set_option maxHeartbeats 1000000 in
theorem enum_new1 {v : Value} {o : Obj} {G : Heap → Prop} (B : Begins v o G) :
    Meets (Builtin.«enumerate.__new__» ⟨[.type "enumerate", v], []⟩) (fun _ R s => G s.heap ∧
      R (.ok (.ret (.ref (s.heap.push o).objs.size))) { s with heap := (s.heap.push o).push { cls := .type "enumerate", data := .fields #[.none, .bool false, .ref s.heap.objs.size, rawInt 0, .none, .none] } }) :=
  .of_wp fun prog w A R s h => by
    obtain ⟨hp, g, d, tk, os⟩ := s
    obtain ⟨h1, h⟩ := h
    have hsub := sub_enumerate
    have bq : ∀ {A' : Around} {E : Value → Shared → Prop} {Q : Value → Shared → Prop}, Q (.ref hp.objs.size) ⟨hp.push o, g, d, tk, os⟩ → wpAny (model prog w) A' (pyIter v) Q E ⟨hp, g, d, tk, os⟩ :=
      fun z => B.iter prog w _ _ ⟨hp, g, d, tk, os⟩ _ h1 z
    wp_walk
    refine wpAny_stack_any fun st => wpAny_pure ?_
    split
    · rename_i c _ _ _ _ _
      cases (c == Value.type "enumerate") <;> (wp_walk using bq; exact ⟨_, rfl, h⟩)
    · wp_walk using bq
      exact ⟨_, rfl, h⟩
theorem enum_begins1 {prog : Program} {w : World} {A : Around} {E : Value → Shared → Prop} {s : Shared} {v : Value} {o : Obj} {G : Heap → Prop} {Q : Value → Shared → Prop} (B : Begins v o G) (h1 : G s.heap)
    (h : ∀ h', IsEnum h' (s.heap.objs.size + 1) s.heap.objs.size 0 .none → h'.get? s.heap.objs.size = some o → (∀ b o, s.heap.get? b = some o → h'.get? b = some o) → Q (.ref (s.heap.objs.size + 1)) { s with heap := h' }) :
    wpAny (model prog w) A (call (.type "enumerate") [v]) Q E s := by
  refine callType_new F.called_enumerate (by decide) (F.typeCall_enumerate_1 _) (F.newCall_enumerate_1 _) (fun obj => F.args_object_init_2 obj _) F.entry_enumerate_new (enum_new1 B) ⟨h1, ?_⟩
  have hz : (s.heap.push o).objs.size = s.heap.objs.size + 1 := Heap.size_push ..
  show _ ∧ _
  rw [hz]
  have he : IsEnum ((s.heap.push o).push { cls := .type "enumerate", data := .fields #[.none, .bool false, .ref s.heap.objs.size, rawInt 0, .none, .none] }) (s.heap.objs.size + 1) s.heap.objs.size 0 .none := by
    have z := Heap.get?_push_size (s.heap.push o) (o := { cls := .type "enumerate", data := .fields #[.none, .bool false, .ref s.heap.objs.size, rawInt 0, .none, .none] }) rfl
    rw [hz] at z; exact z
  exact ⟨⟨_, he, rfl⟩, h _ he (Heap.get?_push_of_some _ (Heap.get?_push_size _ B.free)) fun b o x => Heap.get?_push_of_some _ (Heap.get?_push_of_some _ x)⟩
theorem begK {k : SK} (a : Addr) (its : Array Value) : ∃ o : Obj, Begins (.ref a) o (fun h => HasK k h a its) ∧ ∀ (h : Heap) (it : Addr), h.get? it = some o → IterK k h it a 0 := by
  cases k with
  | l => exact ⟨_, begins_list a its, fun h it e => ⟨_, e, rfl, rfl⟩⟩
  | t => exact ⟨_, begins_tuple a its, fun h it e => ⟨_, e, rfl, rfl⟩⟩
theorem pi_enumK {X : Cx} {e : Expr} {ta : TA} {p pos tpos : Pos} {elts : List Expr} {kk : Nat} (hg : Gl X "enumerate") (hm : X.mg "enumerate" = none) (ha : PA X [e] ta) (hs : starEach [e] X.env = [(false, eval e X.env)] := by rfl) :
    PI X (.Tuple elts kk tpos) (.Call (.Name "enumerate" p) [e] [] pos) (iEnumK X.K ta) := by
  refine ⟨fun pins s σ H R I h => ?_⟩
  refine Call_ (ld_blt I hg hm boot_enumerate (PyProof.Rows.callWith_type1 (thn (ha.run pos pins s σ H _ I h) fun us s1 ⟨vs, H1, I1, r1, q1⟩ => ?_) hs rfl))
  obtain ⟨a, k, ex, ⟨xs, hq⟩, q⟩ := q1
  subst ex
  cases r1 with
  | cons r rr =>
    cases rr
    cases r
    obtain ⟨its, rv, p', hl⟩ := invK I1 hq
    have core : ∀ (h' : Heap), IsEnum h' (s1.heap.objs.size + 1) s1.heap.objs.size 0 .none → IterK k h' s1.heap.objs.size a 0 → (∀ b o, s1.heap.get? b = some o → h'.get? b = some o) →
        wpAny (model X.prog X.w) X.A (pyIter (.ref (s1.heap.objs.size + 1))) (PIE X pins σ (.Tuple elts kk tpos) R) X.xe { s1 with heap := h' } := fun h' he hit hk => wpAny_pyIter_enum he <| by
      have I2 : Inv X pins σ H1 { s1 with heap := h' } := I1.kept (t' := s1.toks) hk
      refine ⟨s1.heap.objs.size + 1, [s1.heap.objs.size + 1, s1.heap.objs.size], _, _, H1, rfl, I2, turnE k a (s1.heap.objs.size + 1) s1.heap.objs.size (Nat.ne_of_lt hl) (Nat.ne_of_gt (Nat.lt_succ_of_lt hl)), ⟨⟨.none, he⟩, hit, Nat.succ_ne_self _⟩, fun b hb => ?_, q⟩
      have e' : b = s1.heap.objs.size + 1 ∨ b = s1.heap.objs.size := by simpa using hb
      have hle : s1.heap.objs.size ≤ b := by
        rcases e' with z | z
        · rw [z]; exact Nat.le_add_right _ _
        · rw [z]; exact Nat.le_refl _
      exact I1.fpOk hle (I1.hok.fresh hle)
    obtain ⟨o1, B1, st1⟩ := begK (k := k) a its.toArray
    exact enum_begins1 B1 p' fun h' he hit hk => core h' he (st1 _ _ hit) hk
theorem itE_r0 {C : Cf} {β : List Addr} {H : Hp} {a : Addr} {k : SK} {s : Sq} (h : SqAt C β H a k s) : ItR0 C β H (.enum s) (ItE k C.K a) := fun β1 M1 H1 i g S => by
  have h1 := h.grow g
  refine ⟨fun d e => ?_, fun e => ?_⟩
  · cases e2 : s.get i M1 with
    | none => simp only [Src.get, e2] at e; cases e
    | some o =>
      simp only [Src.get, e2, Option.map_some] at e
      cases o with
      | none => cases e
      | some d0 =>
        cases e
        obtain ⟨vs, q, hi, x, hx, r⟩ := sq_get h1 S e2
        refine ⟨⟨vs, x, q, hx⟩, fun y H' ⟨T, x', ey, hT, eH, e3⟩ => ?_⟩
        have : x' = x := Option.some.inj ((e3 vs q).symm.trans hx)
        subst this ey eH
        exact ⟨grow_new hT, S.fresh hT, .tup ⟨⟨S.nin hT, S.nno hT⟩, upd_same⟩ (.cons (.int _) (.cons (r.grow (grow_new hT)) .nil))⟩
  · cases e2 : s.get i M1 with
    | none => simp only [Src.get, e2] at e; cases e
    | some o =>
      simp only [Src.get, e2, Option.map_some] at e
      cases o with
      | some d0 => cases e
      | none =>
        obtain ⟨vs, q, hi, hl⟩ := sq_get h1 S e2
        exact ⟨vs, q, hl⟩
theorem itE_r {C : Cf} {β : List Addr} {H : Hp} {a : Addr} {k : SK} {s : Sq} (h : SqAt C β H a k s) : ItR C β H (.enum s) (ItE k C.K a) := ⟨itE_r0 h, fun _ hL => itE_r0 (C := C.wno _) (h.lift hL)⟩
theorem mi_enum (hK : X.K = C.K) (ha : ME X C E a ma) (hm : X.mg "enumerate" = none) (hg : Gl X "enumerate" := by rfl) (hs1 : starEach [a] X.env = (false, eval a X.env) :: starEach [] X.env := by rfl) (hs : starEach [a] X.env = [(false, eval a X.env)] := by rfl) :
    MI X C E (.Tuple elts kk tpos) (.Call (.Name "enumerate" p) [a] [] pos) (enumI ma) := by
  refine PI.mono (pi_enumK hg hm (ml_cons ha ml_nil hs1) hs) fun σ H K ⟨β, ρ, M, he, hs, h⟩ => ?_
  refine ⟨β, ρ, M, he, hs, ?_⟩
  refine Post.bind.mpr ((Post.bind.mp h).imp fun d M1 q => ?_)
  refine fun β1 H1 vs g1 hs1 r => ?_
  cases r with
  | cons r r0 =>
    cases r0
    split at q
    · rename_i s e
      split at q
      · rename_i hok
        obtain ⟨a, k, ev, h⟩ := sq_at r e
        exact ⟨a, k, by rw [ev], by rw [hK]; exact sq_is h hs1 hok, by rw [hK]; exact q β1 H1 _ g1 hs1 (itE_r h)⟩
      · exact q.elim
    · exact q.elim
theorem itZ_r0 {C : Cf} {β : List Addr} {H : Hp} {a b : Addr} {k k2 : SK} {s t : Sq} (h : SqAt C β H a k s) (h2 : SqAt C β H b k2 t) : ItR0 C β H (.zip s t) (ItZ k k2 C.K a b) := fun β1 M1 H1 i g S => by
  have h1 := h.grow g
  have h2 := h2.grow g
  cases e1 : s.get i M1 with
  | none => exact ⟨fun d e => (by simp only [Src.get, e1] at e; cases e), fun e => (by simp only [Src.get, e1] at e; cases e)⟩
  | some o =>
    cases e2 : t.get i M1 with
    | none => exact ⟨fun d e => (by simp only [Src.get, e1, e2] at e; cases e), fun e => (by simp only [Src.get, e1, e2] at e; cases e)⟩
    | some o2 =>
      obtain ⟨vs, q, hi, w⟩ := sq_get h1 S e1
      obtain ⟨vs2, q2, hi2, w2⟩ := sq_get h2 S e2
      cases o with
      | none =>
        refine ⟨fun d e => (by simp only [Src.get, e1, e2] at e; cases e), fun e => ⟨vs, vs2, q, q2, ?_⟩⟩
        have w : vs.length = i := w
        omega
      | some d0 =>
        obtain ⟨x, hx, r⟩ := w
        cases o2 with
        | none =>
          refine ⟨fun d e => (by simp only [Src.get, e1, e2] at e; cases e), fun e => ⟨vs, vs2, q, q2, ?_⟩⟩
          have w2 : vs2.length = i := w2
          omega
        | some d2 =>
          obtain ⟨y, hy, r2⟩ := w2
          refine ⟨fun d e => ?_, fun e => (by simp only [Src.get, e1, e2] at e; cases e)⟩
          simp only [Src.get, e1, e2] at e
          cases e
          refine ⟨⟨vs, vs2, x, y, q, q2, hx, hy⟩, fun z H' ⟨T, x', y', ez, hT, eH, e3, e4⟩ => ?_⟩
          have ex : x' = x := Option.some.inj ((e3 vs q).symm.trans hx)
          have ey : y' = y := Option.some.inj ((e4 vs2 q2).symm.trans hy)
          subst ex ey ez eH
          exact ⟨grow_new hT, S.fresh hT, .tup ⟨⟨S.nin hT, S.nno hT⟩, upd_same⟩ (.cons (r.grow (grow_new hT)) (.cons (r2.grow (grow_new hT)) .nil))⟩
theorem itZ_r {C : Cf} {β : List Addr} {H : Hp} {a b : Addr} {k k2 : SK} {s t : Sq} (h : SqAt C β H a k s) (h2 : SqAt C β H b k2 t) : ItR C β H (.zip s t) (ItZ k k2 C.K a b) := ⟨itZ_r0 h h2, fun _ hL => itZ_r0 (C := C.wno _) (h.lift hL) (h2.lift hL)⟩
theorem pi_zipK {X : Cx} {e e2 : Expr} {ta : TA} {p pos tpos : Pos} {elts : List Expr} {kk : Nat} (hg : Gl X "zip") (hm : X.mg "zip" = none) (ha : PA X [e, e2] ta)
    (hs : starEach [e, e2] X.env = (false, eval e X.env) :: starEach [e2] X.env := by rfl) (hpl : (backTo pos (starEach [e2] X.env)).any (·.1) = false := by rfl) :
    PI X (.Tuple elts kk tpos) (.Call (.Name "zip" p) [e, e2] [] pos) (iZipK X.K ta) := by
  refine ⟨fun pins s σ H R I h => ?_⟩
  refine Call_ (ld_blt I hg hm PyProof.Rows.boot_zip (PyProof.Rows.callWith_type1 (thn (ha.run pos pins s σ H _ I h) fun us s1 ⟨vs, H1, I1, r1, q1⟩ => ?_) hs hpl))
  obtain ⟨a, b, k, k2, ex, ⟨xs, hqx⟩, ⟨ys, hqy⟩, q⟩ := q1
  subst ex
  cases r1 with
  | cons r rr =>
    cases rr with
    | cons r' rr =>
      cases rr
      cases r
      cases r'
      obtain ⟨its, rv, p1, la⟩ := invK I1 hqx
      obtain ⟨its2, rv2, p2, lb⟩ := invK I1 hqy
      obtain ⟨o1, B1, st1⟩ := begK (k := k) a its.toArray
      obtain ⟨o2, B2, st2⟩ := begK (k := k2) b its2.toArray
      refine zip_begins2 B1 B2 p1 p2 fun h' hz hTI hTO h1 h2 hsz hk => wpAny_pyIter_zip hz ?_
      have I2 : Inv X pins σ H1 { s1 with heap := h' } := I1.kept (t' := s1.toks) hk
      have sep : ZSep (s1.heap.objs.size + 4) (s1.heap.objs.size + 2) (s1.heap.objs.size + 3) s1.heap.objs.size (s1.heap.objs.size + 1) a b :=
        ⟨zip_sep2 (N := s1.heap.objs.size) (fp1 := [a]) (fp2 := [b]) (fun c hc => by rw [List.mem_singleton.mp hc]; exact la) (fun c hc => by rw [List.mem_singleton.mp hc]; exact lb), Nat.ne_of_lt la, Nat.ne_of_lt (Nat.lt_succ_of_lt lb)⟩
      refine ⟨s1.heap.objs.size + 4, [s1.heap.objs.size + 4, s1.heap.objs.size + 2, s1.heap.objs.size + 3, s1.heap.objs.size, s1.heap.objs.size + 1], _, _, H1, rfl, I2, turnZ k k2 sep, ⟨hz, hTI, ⟨_, _, hTO⟩, st1 _ _ h1, st2 _ _ h2⟩, fun c hcm => ?_, q⟩
      have e' : c = s1.heap.objs.size + 4 ∨ c = s1.heap.objs.size + 2 ∨ c = s1.heap.objs.size + 3 ∨ c = s1.heap.objs.size ∨ c = s1.heap.objs.size + 1 := by simpa using hcm
      have hle : s1.heap.objs.size ≤ c := by
        rcases e' with z | z | z | z | z
        · rw [z]; exact Nat.le_add_right _ _
        · rw [z]; exact Nat.le_add_right _ _
        · rw [z]; exact Nat.le_add_right _ _
        · rw [z]; exact Nat.le_refl _
        · rw [z]; exact Nat.le_add_right _ _
      exact I1.fpOk hle (I1.hok.fresh hle)
theorem mi_zip (hK : X.K = C.K) (ha : ME X C E a ma) (hb : ME X C E b mb) (hm : X.mg "zip" = none) (hg : Gl X "zip" := by rfl) (hs1 : starEach [a, b] X.env = (false, eval a X.env) :: starEach [b] X.env := by rfl) (hs0 : starEach [b] X.env = (false, eval b X.env) :: starEach [] X.env := by rfl)
    (hpl : (backTo pos (starEach [b] X.env)).any (·.1) = false := by rfl) :
    MI X C E (.Tuple elts kk tpos) (.Call (.Name "zip" p) [a, b] [] pos) (zipI ma mb) := by
  refine PI.mono (pi_zipK hg hm (ml_cons ha (ml_cons hb ml_nil hs0) hs1) hs1 hpl) fun σ H K ⟨β, ρ, M, he, hs, h⟩ => ?_
  refine ⟨β, ρ, M, he, hs, ?_⟩
  refine Post.bind.mpr ((Post.bind.mp h).imp fun d M1 q => ?_)
  refine Post.bind.mpr (Post.bind.mpr ((Post.bind.mp q).imp fun d2 M2 q2 => ?_))
  clear q
  refine fun β1 H1 vs g1 hs1 r => ?_
  cases r with
  | cons r r0 =>
    cases r0 with
    | cons r2 r0 =>
    cases r0
    split at q2
    · rename_i s t e1 e2
      split at q2
      · rename_i hok
        obtain ⟨a, k, ev, h⟩ := sq_at r e1
        obtain ⟨b, k2, ev2, h2⟩ := sq_at r2 e2
        exact ⟨a, b, k, k2, by rw [ev, ev2], by rw [hK]; exact sq_is h hs1 hok.1, by rw [hK]; exact sq_is h2 hs1 hok.2, by rw [hK]; exact q2 β1 H1 _ g1 hs1 (itZ_r h h2)⟩
      · exact q2.elim
    · exact q2.elim
end
end Mini

set_option Elab.async false
set_option linter.all false
set_option maxRecDepth 100000
set_option maxHeartbeats 4000000
/-! Mini: comprehensions, defs, calls. -/
namespace Mini
open PySem PySem.Spec PyProof.Rows L2

def wipeD (ρ : MEnv) : List Nat → MEnv
  | [] => ρ
  | v :: vs => (wipeD ρ vs).set v none
theorem REnv.wipe {C : Cf} {β : List Addr} {H : Hp} {ρ : MEnv} {σ : L2.St} (h : REnv C β H ρ σ) : ∀ vs : List Nat, REnv C β H (wipeD ρ vs) (L2.wipe σ vs)
  | [] => h
  | v :: vs => by
    have ih := h.wipe vs
    refine ⟨by unfold wipeD L2.wipe; rw [List.length_set, List.length_set]; exact ih.1, fun j d e => ?_⟩
    unfold wipeD at e
    unfold L2.wipe
    by_cases hj : j = v
    · subst hj
      by_cases hl : j < (wipeD ρ vs).length
      · rw [List.getElem?_set_self hl] at e; cases e
      · rw [List.getElem?_eq_none (by rw [List.length_set]; omega)] at e; cases e
    · rw [List.getElem?_set_ne (Ne.symm hj)] at e ⊢
      exact ih.2 j d e
theorem wipe_get {σ : L2.St} {j : Nat} : ∀ {vs : List Nat}, (L2.wipe σ vs)[j]? = if j ∈ vs then (σ[j]?).map (fun _ => none) else σ[j]?
  | [] => by rw [if_neg (by simp)]; rfl
  | v :: vs => by
    unfold L2.wipe
    by_cases hj : j = v
    · subst hj
      rw [if_pos (by simp)]
      by_cases hl : j < σ.length
      · rw [List.getElem?_set_self (by rw [wipe_length]; exact hl), List.getElem?_eq_getElem hl]; rfl
      · rw [List.getElem?_eq_none (by rw [List.length_set, wipe_length]; omega), List.getElem?_eq_none (by omega)]; rfl
    · rw [List.getElem?_set_ne (Ne.symm hj), wipe_get (vs := vs)]
      by_cases h : j ∈ vs
      · rw [if_pos h, if_pos (List.mem_cons_of_mem _ h)]
      · rw [if_neg h, if_neg (by simp [hj, h])]
theorem wipe_only {σ σ2 : L2.St} {is vs : List Nat} (o : Only is (L2.wipe σ vs) σ2) (hs : ∀ i ∈ is, i ∈ vs) : L2.wipe σ2 vs = L2.wipe σ vs := by
  have ln : σ2.length = σ.length := by rw [o.1, wipe_length]
  refine List.ext_getElem? fun j => ?_
  rw [wipe_get, wipe_get]
  by_cases h : j ∈ vs
  · rw [if_pos h, if_pos h]
    by_cases hl : j < σ.length
    · rw [List.getElem?_eq_getElem hl, List.getElem?_eq_getElem (by omega)]; rfl
    · rw [List.getElem?_eq_none (by omega), List.getElem?_eq_none (by omega)]
  · rw [if_neg h, if_neg h, o.2 j (fun z => h (hs j z)), wipe_get, if_neg h]

/-- what is made within a comprehension raises nothing -/
def calmR {α : Type} (r : R α) : R α := match r with
  | .exc _ _ => .stuck
  | r => r
theorem calm_post {α : Type} {C : Cf} {β : List Addr} {H : Hp} {E E' : XK} {r : R α} {Q : α → Mem → Prop} (h : Post C β H E (calmR r) Q) : Post C β H E' r Q := by
  cases r with
  | ok a M => exact h
  | exc x M => exact h.elim
  | stuck => exact h
/-- the turns of a comprehension: k items stand already -/
def lcN (S : Src) (p : Pat) (c : MEnv → Mem → R Bool) (e : ME') : Nat → Nat → Nat → MEnv → Mem → R (List D)
  | 0, i, _, _, M => match S.get i M with
    | some none => .ok [] M
    | _ => .stuck
  | m + 1, i, k, ρ, M => match S.get i M with
    | none => .stuck
    | some none => .ok [] M
    | some (some d) => match p d ρ with
      | none => .stuck
      | some ρ1 => (calmR (c ρ1 M)).bind fun b M1 => if b = true then (calmR (e ρ1 M1)).bind fun y M2 => if k < sizeLine then (lcN S p c e m (i + 1) (k + 1) ρ M2).bind fun ys M3 => .ok (y :: ys) M3 else .stuck
          else lcN S p c e m (i + 1) k ρ M1
def yesT : MEnv → Mem → R Bool := fun _ M => .ok true M
def lcL (vs : List Nat) (src : MEnv → Mem → R Src) (p : Pat) (c : MEnv → Mem → R Bool) (e : ME') : MEnv → Mem → R (List D) := fun ρ M => (src ρ M).bind fun S M1 => lcN S p c e (S.len M1) 0 0 (wipeD ρ vs) M1
def lcV (vs : List Nat) (src : MEnv → Mem → R Src) (p : Pat) (c : MEnv → Mem → R Bool) (e : ME') : ME' := fun ρ M => (lcL vs src p c e ρ M).bind fun ys M1 => .ok (.frl ys) M1
def lcM (vs : List Nat) (src : MEnv → Mem → R Src) (p : Pat) (c : MEnv → Mem → R Bool) (e : ME') : ME' := fun ρ M => (lcL vs src p c e ρ M).bind fun ys M1 => .ok (.ref M1.length) (M1 ++ [.lst ys])
def MTs (X : Cx) (C : Cf) (E : XK) (ifs : List Expr) (m : MEnv → Mem → R Bool) : Prop := PTs X ifs (tT C E m)
abbrev Blk (X : Cx) (scope : Scope) (f : Cx → Prop) : Prop := ∀ (s : Shared) (H : Hp) (L : Addr) (cl : List (Str × Addr)) (fp : List Addr), f (X.blk s H scope (compEnvC scope cl L X.env) fp)
section
variable {X : Cx} {C : Cf} {E : XK} {tg iter elt : Expr} {src : MEnv → Mem → R Src} {g : TG} {p : Pat} {is : List Nat} {tc : MEnv → Mem → R Bool} {me : ME'} {pos : Pos} {ifs : List Expr} {scope : Scope} {own : List (Str × Nat)}
theorem mts_nil : MTs X C E [] yesT := ⟨fun pins s σ H Q I ⟨β, ρ, M, he, hs, h⟩ => pts_nil.run pins s σ H Q I (h β H .refl hs)⟩
theorem mts_one {c : Expr} (h : MT X C E c tc) : MTs X C E [c] tc := pts_one h
/-- the reading of a comprehension -/
theorem lc_run {vs : List Nat} (gr : ∀ C', C'.K = C.K → GR C' g p is) (hv : ∀ i ∈ is, i ∈ vs) {σ : L2.St} {β : List Addr} {H : Hp} {ρ : MEnv} {M : Mem} {Q : VK} (he : REnv C β H ρ σ) (hs : Sim C β M H)
    {tt : TT} {te : TE} (ht : ∀ L σ H Q, tT (C.wno L) E0 tc σ H Q → tt σ H Q) (hte : ∀ L σ H Q, tE (C.wno L) E0 me σ H Q → te σ H Q)
    (h : Post C β H E (lcL vs src p tc me ρ M) fun ys M' => ∀ β' H' L xs, Grow β H β' H' → Sim (C.wno L) β' M' H' → L ∉ C.no → H' L = some (.lst xs) → Reps (C.wno L) β' H' xs ys → Free H L → Q (.ref L) H') :
    tLc (tI C E src) g tt te vs σ H Q := by
  refine ⟨β, ρ, M, he, hs, (Post.bind.mp h).imp fun S M0 q β0 H0 J g0 hs0 ir L hL => ?_⟩
  have nno := hs0.nno hL
  have hHL : Free H L := g0.free (free_of hL)
  have hLn : ∀ ps, (HO.lst ps) ≠ .lst ps → False := fun ps z => z rfl
  -- what is wanted at the end, from (β0, H0) on
  refine ⟨fun i m H1 => ∃ β1 M1 acc xs, Grow β0 H0 β1 H1 ∧ Sim (C.wno L) β1 M1 H1 ∧ H1 L = some (.lst xs) ∧ Reps (C.wno L) β1 H1 xs acc ∧
      Post C β0 H0 E (lcN S p tc me m i acc.length (wipeD ρ vs) M1) fun ys M' => ∀ β' H' xs, Grow β0 H0 β' H' → Sim (C.wno L) β' M' H' → H' L = some (.lst xs) → Reps (C.wno L) β' H' xs (acc ++ ys) → Q (.ref L) H', ?_, ?_⟩
  · refine ⟨S.len M0, β0, M0, [], [], grow_new hL, hs0.lift hL, upd_same, .nil, (Post.grow g0 q fun ys M' k β' H' xs g' s' e' r' => ?_)⟩
    exact k β' H' L xs (g0.trans g') s' nno e' r' hHL
  · rintro i m H1 ⟨β1, M1, acc, xs, g1, hs1, hHL1, racc, q1⟩
    have nL : L ∉ β1 := (hs1.res L (by simp)).1
    have heW : REnv (C.wno L) β1 H1 (wipeD ρ vs) (L2.wipe σ vs) := by
      have h1 := he.grow g0
      have h2 : REnv (C.wno L) β0 H0 ρ σ := ⟨h1.1, fun i d e => by
        obtain ⟨v, a, b⟩ := h1.2 i d e
        exact ⟨v, a, b.lift (C := C) hL⟩⟩
      exact (h2.grow g1).wipe vs
    obtain ⟨ig, ist⟩ := ir.b L hL β1 M1 H1 i g1 hs1
    cases e : S.get i M1 with
    | none => cases m <;> simp only [lcN, e] at q1 <;> exact q1.elim
    | some o =>
      cases o with
      | none =>
        refine .inl ⟨ist e, ?_⟩
        cases m <;> simp only [lcN, e] at q1 <;> exact q1 β1 H1 xs g1 hs1 hHL1 (by rw [List.append_nil]; exact racc)
      | some d =>
        obtain ⟨hgo, hy⟩ := ig d e
        cases m with
        | zero => simp only [lcN, e] at q1; exact q1.elim
        | succ m =>
          simp only [lcN, e] at q1
          refine .inr ⟨hgo, fun H2 => ∃ β1 M1 acc xs, Grow β0 H0 β1 H2 ∧ Sim (C.wno L) β1 M1 H2 ∧ H2 L = some (.lst xs) ∧ Reps (C.wno L) β1 H2 xs acc ∧
            Post C β0 H0 E (lcN S p tc me m (i + 1) acc.length (wipeD ρ vs) M1) fun ys M' => ∀ β' H' xs, Grow β0 H0 β' H' → Sim (C.wno L) β' M' H' → H' L = some (.lst xs) → Reps (C.wno L) β' H' xs (acc ++ ys) → Q (.ref L) H',
            fun H2 w => ⟨m, Nat.lt_succ_self m, w⟩, fun x H2 y => ?_⟩
          obtain ⟨gy, sy, ry⟩ := hy x H2 y
          cases ep : p d (wipeD ρ vs) with
          | none => simp only [ep] at q1; exact q1.elim
          | some ρ2 =>
            simp only [ep] at q1
            refine gr (C.wno L) rfl β1 H2 x d _ ρ2 _ _ (heW.grow gy) ry ep fun σ2 he2 on => ⟨wipe_only on hv, ht L _ _ _ ?_⟩
            have q2 := calm_post (E' := E0) (Post.bind.mp q1)
            refine ⟨β1, ρ2, M1, he2, sy, ?_⟩
            have lift0 : ∀ {α : Type} {r : R α} {Q' : α → Mem → Prop} {βx : List Addr} {Hx : Hp}, Post C β0 H0 E0 (calmR r) Q' → Post (C.wno L) βx Hx E0 r Q' := fun {α r Q' βx Hx} h => by
              cases r with
              | ok a M => exact h
              | exc x M => exact h.elim
              | stuck => exact h
            have calmC : ∀ {α : Type} {r : R α} {Q' : α → Mem → Prop}, Post C β0 H0 E (calmR r) Q' → Post C β0 H0 E0 (calmR r) Q' := fun {α r Q'} h => by
              cases r with
              | ok a M => exact h
              | exc x M => exact h.elim
              | stuck => exact h
            refine (lift0 (calmC (Post.bind.mp q1))).imp fun b M2 q3 β3 H3 g3 hs3 => ?_
            have gq : Grow β1 H1 β3 H3 := gy.trans g3
            have hHL3 : H3 L = some (.lst xs) := gq.keep _ _ nL hHL1 fun _ z => by cases z
            cases b with
            | false => exact ⟨β3, M2, acc, xs, g1.trans gq, hs3, hHL3, racc.grow gq, q3⟩
            | true =>
              refine hte L _ _ _ ⟨β3, ρ2, M2, he2.grow g3, hs3, (lift0 (calmC (Post.bind.mp q3))).imp fun z M4 q5 β4 H4 v g4 hs4 r4 => ?_⟩
              have gr4 : Grow β1 H1 β4 H4 := gq.trans g4
              have hHL4 : H4 L = some (.lst xs) := gr4.keep _ _ nL hHL1 fun _ z => by cases z
              have g5 : Grow β0 H0 β4 H4 := g1.trans gr4
              split at q5
              · rename_i hk
                have rr : Reps (C.wno L) β4 H4 (xs ++ [v]) (acc ++ [z]) := (racc.grow gr4).append (.cons r4 .nil)
                have inL : L ∈ (C.wno L).no := by simp
                refine ⟨xs, hHL4, by rw [racc.length]; exact hk, β4, M4, acc ++ [z], xs ++ [v], g5.over (free_of hL), hs4.over inL (fun ps z => by rw [hHL4] at z; cases z) (fun φ z => by rw [hHL4] at z; cases z), upd_same, rr.over inL, ?_⟩
                rw [List.length_append]
                refine (Post.bind.mp q5).imp fun ys M' k β' H' xs' g' s' e' r' => k β' H' xs' g' s' e' ?_
                rw [List.append_assoc] at r'; exact r'
              · exact q5.elim
theorem Sim.adopt {β : List Addr} {M : Mem} {H : Hp} {L : Addr} {xs : List V} {ys : List D} (S : Sim (C.wno L) β M H) (n : L ∉ C.no) (e : H L = some (.lst xs)) (r : Reps (C.wno L) β H xs ys) : Sim C (β ++ [L]) (M ++ [.lst ys]) H := by
  have nL : L ∉ β := (S.res L (by simp)).1
  -- nothing but the list itself lies at L
  have up : (∀ v d, Rep (C.wno L) β H v d → Rep C (β ++ [L]) H v d) ∧ (∀ v d, Reps (C.wno L) β H v d → Reps C (β ++ [L]) H v d) := by
    have nin : ∀ a, a ∉ β → a ∉ (C.wno L).no → a ∉ β ++ [L] := fun a h1 h2 z => by
      rcases List.mem_append.mp z with z | z
      · exact h1 z
      · exact h2 (by simp at z; simp [z])
    have get : ∀ (k : Nat) a, β[k]? = some a → (β ++ [L])[k]? = some a := fun k a h => by
      obtain ⟨hk, _⟩ := List.getElem?_eq_some_iff.mp h
      rw [List.getElem?_append_left hk]; exact h
    have both : ∀ d : D, (∀ v, Rep (C.wno L) β H v d → Rep C (β ++ [L]) H v d) := fun d v h => by
      refine Rep.rec (motive_1 := fun v d _ => Rep C (β ++ [L]) H v d) (motive_2 := fun v d _ => Reps C (β ++ [L]) H v d) .non (fun b => .bl b) (fun b => .int b) (fun b => .str b) (fun a _ b => .tup ⟨⟨nin _ a.1.1 a.1.2, fun z => a.1.2 (List.mem_cons_of_mem _ z)⟩, a.2⟩ b)
        (fun a b _ c => .frl ⟨nin _ a.1 a.2, fun z => a.2 (List.mem_cons_of_mem _ z)⟩ b c) (fun a => .ref (get _ _ a)) (fun a => .gl a) (fun a => .scr (a.elim (fun ⟨h1, h2, u, hu, h3⟩ => .inl ⟨nin _ h1 h2, fun z => h2 (List.mem_cons_of_mem _ z), u, hu, h3⟩) .inr)) (fun a _ b => .ktp a b) .nil (fun _ _ a b => .cons a b) h
    refine ⟨fun v d => both d v, fun vs ds h => ?_⟩
    induction ds generalizing vs with
    | nil => cases h; exact .nil
    | cons d ds ih => cases h with
      | cons a b => exact .cons (both d _ a) (ih _ b)
  refine ⟨by rw [List.length_append, List.length_append, S.len]; rfl, ?_, fun k u eu => ?_, S.tabs, fun a ha => ?_⟩
  · rw [List.nodup_append]
    exact ⟨S.nd, by simp, fun a ha b hb e => nL (by rw [List.mem_singleton.mp hb] at e; rw [← e]; exact ha)⟩
  · by_cases hk : k < M.length
    · rw [List.getElem?_append_left hk] at eu
      obtain ⟨a, e1, q⟩ := S.obj k u eu
      refine ⟨a, ?_, q.map (C := C.wno L) (C' := C) rfl up.1 up.2 rfl⟩
      rw [List.getElem?_append_left (by rw [S.len]; exact hk)]; exact e1
    · rw [List.getElem?_append_right (by omega)] at eu
      have hz : k = M.length := by
        obtain ⟨h1, _⟩ := List.getElem?_eq_some_iff.mp eu
        simp at h1; omega
      subst hz
      simp at eu
      subst eu
      exact ⟨L, get_last S.len, xs, e, up.2 _ _ r⟩
  · obtain ⟨h1, h2⟩ := S.res a (List.mem_cons_of_mem _ ha)
    refine ⟨fun z => ?_, h2⟩
    rcases List.mem_append.mp z with z | z
    · exact h1 z
    · exact n (by rw [← List.mem_singleton.mp z]; exact ha)
theorem Grow.adopt {β β' : List Addr} {H H' : Hp} {L : Addr} (g : Grow β H β' H') (h : Free H L) : Grow β H (β' ++ [L]) H' := by
  obtain ⟨e, rfl, f⟩ := g.ext
  refine ⟨⟨e ++ [L], by rw [List.append_assoc], fun b hb => ?_⟩, g.keep, g.there⟩
  rcases List.mem_append.mp hb with z | z
  · exact f b z
  · rw [List.mem_singleton.mp z]; exact h
/-- what a comprehension asks of its parts -/
theorem me_lcV (hc : X.calm = true) (hN : X.N.Nodup) (hi : MI X C E tg iter src) (ok : BlkOk X.N X.env.scope scope own) (hg : Blk X scope fun X' => PG X' tg g) (gr : ∀ C', C'.K = C.K → GR C' g p is)
    (ht : ∀ no, Blk X scope fun X' => MTs X' ⟨C.K, C.mg, C.T, no⟩ E0 ifs tc) (he : ∀ no, Blk X scope fun X' => ME X' ⟨C.K, C.mg, C.T, no⟩ E0 elt me) (hv : ∀ i ∈ is, i ∈ own.map (·.2) := by decide)
    (hs : ∀ x, foldedSetIterable iter X.env x = pure x := by intro _; rfl) : ME X C E (.ListComp elt [⟨tg, iter, ifs, 0⟩] scope pos) (lcV (own.map (·.2)) src p tc me) := by
  have tts : Blk X scope fun X' => PTs X' ifs (fun σ H Q => ∃ no, tT ⟨C.K, C.mg, C.T, no⟩ E0 tc σ H Q) := fun s H L cl fp => ⟨fun pins s' σ H' Q I ⟨no, h⟩ => (ht no s H L cl fp).run pins s' σ H' Q I h⟩
  have tes : Blk X scope fun X' => PE X' elt (fun σ H Q => ∃ no, tE ⟨C.K, C.mg, C.T, no⟩ E0 me σ H Q) := fun s H L cl fp => ⟨fun pins s' σ H' Q I ⟨no, h⟩ => (he no s H L cl fp).run pins s' σ H' Q I h⟩
  refine PE.mono (pe_lc hc hN hi ok hg tts tes hs) fun σ H Q ⟨β, ρ, M, he, hs, h⟩ => ?_
  refine lc_run gr hv he hs (fun L σ H Q h => ⟨_, h⟩) (fun L σ H Q h => ⟨_, h⟩) ((Post.bind.mp h).imp fun ys M1 k β' H' L xs g' s' n2 e' r' _ => k β' H' _ g' s'.dropNo (.frl ⟨(s'.res L (by simp)).1, n2⟩ e' r'.dropNo))
theorem me_lcM (hc : X.calm = true) (hN : X.N.Nodup) (hi : MI X C E tg iter src) (ok : BlkOk X.N X.env.scope scope own) (hg : Blk X scope fun X' => PG X' tg g) (gr : ∀ C', C'.K = C.K → GR C' g p is)
    (ht : ∀ no, Blk X scope fun X' => MTs X' ⟨C.K, C.mg, C.T, no⟩ E0 ifs tc) (he : ∀ no, Blk X scope fun X' => ME X' ⟨C.K, C.mg, C.T, no⟩ E0 elt me) (hv : ∀ i ∈ is, i ∈ own.map (·.2) := by decide)
    (hs : ∀ x, foldedSetIterable iter X.env x = pure x := by intro _; rfl) : ME X C E (.ListComp elt [⟨tg, iter, ifs, 0⟩] scope pos) (lcM (own.map (·.2)) src p tc me) := by
  have tts : Blk X scope fun X' => PTs X' ifs (fun σ H Q => ∃ no, tT ⟨C.K, C.mg, C.T, no⟩ E0 tc σ H Q) := fun s H L cl fp => ⟨fun pins s' σ H' Q I ⟨no, h⟩ => (ht no s H L cl fp).run pins s' σ H' Q I h⟩
  have tes : Blk X scope fun X' => PE X' elt (fun σ H Q => ∃ no, tE ⟨C.K, C.mg, C.T, no⟩ E0 me σ H Q) := fun s H L cl fp => ⟨fun pins s' σ H' Q I ⟨no, h⟩ => (he no s H L cl fp).run pins s' σ H' Q I h⟩
  refine PE.mono (pe_lc hc hN hi ok hg tts tes hs) fun σ H Q ⟨β, ρ, M, he, hs, h⟩ => ?_
  refine lc_run gr hv he hs (fun L σ H Q h => ⟨_, h⟩) (fun L σ H Q h => ⟨_, h⟩) ((Post.bind.mp h).imp fun ys M1 k β' H' L xs g' s' n2 e' r' hl => k (β' ++ [L]) H' _ (g'.adopt hl) (s'.adopt n2 e' r') (.ref (get_last s'.len)))
/-- name = [..] on one row -/
theorem ms_setLcV (i : Nat) {y : Str} {py spos : Pos} (hc : X.calm = true) (hN : X.N.Nodup) (hi : MI X C E tg iter src) (ok : BlkOk X.N X.env.scope scope own) (hg : Blk X scope fun X' => PG X' tg g) (gr : ∀ C', C'.K = C.K → GR C' g p is)
    (ht : ∀ no, Blk X scope fun X' => MTs X' ⟨C.K, C.mg, C.T, no⟩ E0 ifs tc) (he : ∀ no, Blk X scope fun X' => ME X' ⟨C.K, C.mg, C.T, no⟩ E0 elt me) (hv : ∀ i ∈ is, i ∈ own.map (·.2) := by decide)
    (hy : X.N[i]? = some y := by rfl) (hyl : X.env.scope.names.lookup y = some .local := by rfl) (hsw : swapsWith (.ListComp elt [⟨tg, iter, ifs, 0⟩] scope pos) (some (.Name y py)) spos.line X.env = pure true := by exact sw_true rfl rfl rfl (by decide +kernel))
    (hs : ∀ x, foldedSetIterable iter X.env x = pure x := by intro _; rfl) : MS X C E (.Assign [.Name y py] (.ListComp elt [⟨tg, iter, ifs, 0⟩] scope pos) spos) (asgV i (lcV (own.map (·.2)) src p tc me)) := by
  have tts : Blk X scope fun X' => PTs X' ifs (fun σ H Q => ∃ no, tT ⟨C.K, C.mg, C.T, no⟩ E0 tc σ H Q) := fun s H L cl fp => ⟨fun pins s' σ H' Q I ⟨no, h⟩ => (ht no s H L cl fp).run pins s' σ H' Q I h⟩
  have tes : Blk X scope fun X' => PE X' elt (fun σ H Q => ∃ no, tE ⟨C.K, C.mg, C.T, no⟩ E0 me σ H Q) := fun s H L cl fp => ⟨fun pins s' σ H' Q I ⟨no, h⟩ => (he no s H L cl fp).run pins s' σ H' Q I h⟩
  refine PS.mono (ps_setLc hc hN hy hyl hsw hi ok hg tts tes hs) fun D σ H ⟨β, ρ, M, he, hs, h⟩ => ?_
  refine lc_run (Q := fun x H1 => D.nx (σ.set i (some x)) H1) gr hv he hs (fun L σ H Q h => ⟨_, h⟩) (fun L σ H Q h => ⟨_, h⟩) ((Post.bind.mp (Post.bind.mp h)).imp fun ys M1 k β' H' L xs g' s' n2 e' r' hl => ?_)
  exact k β' H' _ g' s'.dropNo ((he.grow g').set (.frl ⟨(s'.res L (by simp)).1, n2⟩ e' r'.dropNo))
theorem ms_setLcM (i : Nat) {y : Str} {py spos : Pos} (hc : X.calm = true) (hN : X.N.Nodup) (hi : MI X C E tg iter src) (ok : BlkOk X.N X.env.scope scope own) (hg : Blk X scope fun X' => PG X' tg g) (gr : ∀ C', C'.K = C.K → GR C' g p is)
    (ht : ∀ no, Blk X scope fun X' => MTs X' ⟨C.K, C.mg, C.T, no⟩ E0 ifs tc) (he : ∀ no, Blk X scope fun X' => ME X' ⟨C.K, C.mg, C.T, no⟩ E0 elt me) (hv : ∀ i ∈ is, i ∈ own.map (·.2) := by decide)
    (hy : X.N[i]? = some y := by rfl) (hyl : X.env.scope.names.lookup y = some .local := by rfl) (hsw : swapsWith (.ListComp elt [⟨tg, iter, ifs, 0⟩] scope pos) (some (.Name y py)) spos.line X.env = pure true := by exact sw_true rfl rfl rfl (by decide +kernel))
    (hs : ∀ x, foldedSetIterable iter X.env x = pure x := by intro _; rfl) : MS X C E (.Assign [.Name y py] (.ListComp elt [⟨tg, iter, ifs, 0⟩] scope pos) spos) (asgV i (lcM (own.map (·.2)) src p tc me)) := by
  have tts : Blk X scope fun X' => PTs X' ifs (fun σ H Q => ∃ no, tT ⟨C.K, C.mg, C.T, no⟩ E0 tc σ H Q) := fun s H L cl fp => ⟨fun pins s' σ H' Q I ⟨no, h⟩ => (ht no s H L cl fp).run pins s' σ H' Q I h⟩
  have tes : Blk X scope fun X' => PE X' elt (fun σ H Q => ∃ no, tE ⟨C.K, C.mg, C.T, no⟩ E0 me σ H Q) := fun s H L cl fp => ⟨fun pins s' σ H' Q I ⟨no, h⟩ => (he no s H L cl fp).run pins s' σ H' Q I h⟩
  refine PS.mono (ps_setLc hc hN hy hyl hsw hi ok hg tts tes hs) fun D σ H ⟨β, ρ, M, he, hs, h⟩ => ?_
  refine lc_run (Q := fun x H1 => D.nx (σ.set i (some x)) H1) gr hv he hs (fun L σ H Q h => ⟨_, h⟩) (fun L σ H Q h => ⟨_, h⟩) ((Post.bind.mp (Post.bind.mp h)).imp fun ys M1 k β' H' L xs g' s' n2 e' r' hl => ?_)
  exact k (β' ++ [L]) H' _ (g'.adopt hl) (s'.adopt n2 e' r') ((he.grow (g'.adopt hl)).set (.ref (get_last s'.len)))
end

/-! ### defs and their calls -/
def startD (n : Nat) (ds : List D) : MEnv := ds.map some ++ List.replicate (n - ds.length) none
def fnM (N n : Nat) (b : MS') : Fn := fun ds M => if ds.length = n then (b (startD N ds) M).bind fun f M1 => match f with
  | .nx _ => .ok .non M1
  | .rt d => .ok d M1 else .stuck
def spM (K : PySem.W.Frag) (mg : Str → Option Value) (T : List (Addr × Str)) (n : Nat) (m : Fn) : Sp := fun vs H Q E => vs.length = n ∧ ∃ no β ds M, Reps ⟨K, mg, T, no⟩ β H vs ds ∧ Sim ⟨K, mg, T, no⟩ β M H ∧ Post ⟨K, mg, T, no⟩ β H E (m ds M) (QE ⟨K, mg, T, no⟩ β H Q)
def Ar (n : Nat) (m : Fn) : Prop := ∀ ds M, ds.length ≠ n → m ds M = .stuck
theorem ar_fn {N n : Nat} {b : MS'} : Ar n (fnM N n b) := fun ds M h => if_neg h
/-- a def that does what m tells -/
structure FM (P : Program) (w : World) (K : PySem.W.Frag) (mg : Str → Option Value) (base : Heap) (T : List (Addr × Str)) (k : Nat) (x : Str) (f : Addr) (fd : FuncData) (ps : List Str) (m : Fn) : Prop where
  ok : FnOk P w K mg base (L2.CX P w) k f fd ps (spM K mg T ps.length m)
  ar : Ar ps.length m
  gm : mg x = some (.ref f)
  kp : PySem.W.keepIn K (.ref f) = true
  bd : Binds K fd ps []
def callE (m : Fn) (t : MEnv → Mem → R (List D)) : ME' := fun ρ M => (t ρ M).bind fun ds M1 => m ds M1
section
variable {P : Program} {w : World} {K : PySem.W.Frag} {mg : Str → Option Value} {base : Heap} {T : List (Addr × Str)} {k : Nat} {x : Str} {f : Addr} {fd : FuncData} {ps : List Str} {m : Fn}
theorem FM.mono {j : Nat} (F : FM P w K mg base T j x f fd ps m) (h : j ≤ k) : FM P w K mg base T k x f fd ps m := ⟨F.ok.mono h, F.ar, F.gm, F.kp, F.bd⟩
theorem renv_start {C : Cf} {β : List Addr} {H : Hp} {vs : List V} {ds : List D} {N : List Str} (r : Reps C β H vs ds) : REnv C β H (startD N.length ds) (L2.start N vs) := by
  have hl := r.length
  refine ⟨by unfold startD L2.start; simp [hl], fun i d e => ?_⟩
  unfold startD at e
  unfold L2.start
  by_cases hi : i < ds.length
  · rw [List.getElem?_append_left (by simpa using hi), List.getElem?_map] at e
    rw [List.getElem?_append_left (by simp; omega), List.getElem?_map]
    cases hd : ds[i]? with
    | none => rw [hd] at e; cases e
    | some d' =>
      rw [hd] at e
      cases e
      obtain ⟨v, h1, h2⟩ := r.get hd
      exact ⟨v, by rw [h1]; rfl, h2⟩
  · rw [List.getElem?_append_right (by simp; omega)] at e
    rw [List.getElem?_replicate] at e
    split at e <;> cases e
/-- THE RULE for a def -/
theorem fn_ok {qual : Str} {st : Stmt} {N : List Str} {b : MS'} (F : Fun K x qual st f fd) (S : FnScope N ps (defScope st)) (gm : mg x = some (.ref f)) (bd : Binds K fd ps [])
    (hb : ∀ (no : List Addr) (cdv : Value) (A : Around) (outer : List Env) (s : Shared) (H : Hp) (E : XK), Room k (A.deeper (envOfC qual (defScope st) s.heap.objs.size f cdv)) →
      Passes (L2.CX P w) (cxOf (L2.CX P w) P w K mg base N qual (defScope st) f cdv A outer s H E) E →
      PassesOwn (model P w) (A.deeper (envOfC qual (defScope st) s.heap.objs.size f cdv)) (envOfC qual (defScope st) s.heap.objs.size f cdv) (cxOf (L2.CX P w) P w K mg base N qual (defScope st) f cdv A outer s H E).xe →
      Takes (cxOf (L2.CX P w) P w K mg base N qual (defScope st) f cdv A outer s H E) (fun cls d _ H => E cls d H) →
      MSs (cxOf (L2.CX P w) P w K mg base N qual (defScope st) f cdv A outer s H E) ⟨K, mg, T, no⟩ E (defBody st) b) : FM P w K mg base T (k + 1) x f fd ps (fnM N.length ps.length b) := by
  refine ⟨F.okX S (fun vs H Q E h => h.1) (fun cdv A outer s H vs Q E hr h => ?_), ar_fn, gm, F.kp, bd⟩
  obtain ⟨hl, no, β, ds, M, r, hs, h⟩ := h
  have tk := takes_of (X := cxOf (L2.CX P w) P w K mg base N qual (defScope st) f cdv A outer s H E) (E := E) rfl rfl rfl rfl
  refine ⟨_, hb no cdv A outer s H E hr (passes_call tk fun _ _ _ _ h => h) (passes_of rfl) tk, β, startD N.length ds, M, renv_start r, hs, ?_⟩
  unfold fnM at h
  rw [if_pos (by rw [← r.length]; exact hl)] at h
  refine (Post.bind.mp h).imp fun fl M1 q => ?_
  cases fl with
  | nx ρ1 => exact fun β' H' σ' g s' _ => q β' H' .non g s' .non
  | rt d => exact q
end
section
variable {X : Cx} {C : Cf} {E : XK} {e : Expr} {es : List Expr} {ml : MEnv → Mem → R (List D)} {pos p : Pos} {T : List (Addr × Str)} {k : Nat} {x : Str} {f : Addr} {fd : FuncData} {ps : List Str} {m : Fn}
theorem call_of {no : List Addr} (ar : Ar ps.length m) {σ : L2.St} {H : Hp} {Q : VK} (h : tE ⟨X.K, X.mg, T, no⟩ E (callE m ml) σ H Q) : tCall (spM X.K X.mg T ps.length m) [] E (tL ⟨X.K, X.mg, T, no⟩ E ml) σ H Q := by
  obtain ⟨β, ρ, M, he, hs, h⟩ := h
  refine tL.bind he hs h fun ds M1 β1 H1 vs g he1 hs1 r q => ?_
  have hl : ds.length = ps.length := by
    rcases Nat.decEq ds.length ps.length with z | z
    · rw [ar ds M1 z] at q; exact q.elim
    · exact z
  refine ⟨by rw [List.append_nil, r.length, hl], no, β1, ds, M1, by rw [List.append_nil]; exact r, hs1, q.gE g⟩
theorem me_call {no : List Addr} (F : FM X.prog X.w X.K X.mg X.base T k x f fd ps m) (hr : Room k X.A) (hx : Passes (L2.CX X.prog X.w) X E) (ha : ML X ⟨X.K, X.mg, T, no⟩ E (e :: es) ml) (hg : Gl X x := by rfl) (hdb : (x == ("__debug__" : Str)) = false := by decide)
    (he : starEach (e :: es) X.env = (false, eval e X.env) :: starEach es X.env := by rfl) (hpl : (backTo pos (starEach es X.env)).any (·.1) = false := by rfl) : ME X ⟨X.K, X.mg, T, no⟩ E (.Call (.Name x p) (e :: es) [] pos) (callE m ml) :=
  PE.mono (pe_call F.ok hr hg F.gm F.kp F.bd .nil hx ha hdb he hpl) fun _ _ _ => call_of F.ar
theorem me_call0 {no : List Addr} (F : FM X.prog X.w X.K X.mg X.base T k x f fd ps m) (hr : Room k X.A) (hx : Passes (L2.CX X.prog X.w) X E) (hg : Gl X x := by rfl) (hdb : (x == ("__debug__" : Str)) = false := by decide) : ME X ⟨X.K, X.mg, T, no⟩ E (.Call (.Name x p) [] [] pos) (callE m nilL) :=
  PE.mono (pe_call0 F.ok hr hg F.gm F.kp F.bd .nil hx hdb) fun σ H Q h => by
    obtain ⟨β, ρ, M, he, hs, h⟩ := h
    have hl : ([] : List D).length = ps.length := by
      rcases Nat.decEq ([] : List D).length ps.length with z | z
      · have h : Post _ β H E (m [] M) _ := h
        rw [F.ar [] M z] at h; exact h.elim
      · exact z
    exact ⟨hl, no, β, [], M, .nil, hs, h⟩
end
end Mini

set_option Elab.async false
set_option linter.all false
set_option maxRecDepth 100000
set_option maxHeartbeats 4000000
/-! Mini: operations on values. -/
namespace Mini
open PySem PySem.Spec PyProof.Rows L2

/-! ### data as the library's -/
mutual
def toPy : D → PyData
  | .non => .none
  | .bl b => .bool b
  | .int i => .int i
  | .str x => .str x
  | .tup xs => .tuple (toPys xs)
  | .frl xs => .list (toPys xs)
  | .ref _ => .none
  | .gl _ => .none
  | .scr _ => .none
  | .ktp _ => .none
def toPys : List D → List PyData
  | [] => []
  | x :: xs => toPy x :: toPys xs
end
/-! by value, and its texts are texts -/
mutual
def okD : D → Bool
  | .non => true
  | .bl _ => true
  | .int _ => true
  | .str x => PyData.strOk x
  | .tup xs => okDs xs
  | .frl xs => okDs xs
  | .ref _ => false
  | .gl _ => false
  | .scr _ => false
  | .ktp _ => false
def okDs : List D → Bool
  | [] => true
  | x :: xs => okD x && okDs xs
end
mutual
def depD : D → Nat
  | .tup xs => depDs xs + 1
  | .frl xs => depDs xs + 1
  | .non => 0
  | .bl _ => 0
  | .int _ => 0
  | .str _ => 0
  | .ref _ => 0
  | .gl _ => 0
  | .scr _ => 0
  | .ktp _ => 0
def depDs : List D → Nat
  | [] => 0
  | x :: xs => max (depD x) (depDs xs)
end
mutual
def eqvD : D → D → Bool
  | .non, .non => true
  | .bl a, .bl b => a == b
  | .bl a, .int j => (if a then 1 else 0) == j
  | .int i, .bl b => i == (if b then 1 else 0)
  | .int i, .int j => i == j
  | .str x, .str y => x == y
  | .frl xs, .frl ys => eqvDs xs ys
  | .tup xs, .tup ys => eqvDs xs ys
  | _, _ => false
def eqvDs : List D → List D → Bool
  | [], [] => true
  | x :: xs, y :: ys => eqvD x y && eqvDs xs ys
  | _, _ => false
end
mutual
theorem canLay_ok : ∀ d : D, okD d = true → (toPy d).canLay0 = true
  | .non, _ => rfl
  | .bl _, _ => rfl
  | .int _, _ => rfl
  | .str x, h => by simp only [toPy, PyData.canLay0]; simpa [okD] using h
  | .tup xs, h => by simp only [toPy, PyData.canLay0]; exact canLays_ok xs (by simpa [okD] using h)
  | .frl xs, h => by simp only [toPy, PyData.canLay0]; exact canLays_ok xs (by simpa [okD] using h)
  | .ref _, h => by simp [okD] at h
  | .gl _, h => by simp [okD] at h
  | .scr _, h => by simp [okD] at h
  | .ktp _, h => by simp [okD] at h
theorem canLays_ok : ∀ ds : List D, okDs ds = true → PyData.canLayAll0 (toPys ds) = true
  | [], _ => by simp [toPys, PyData.canLayAll0]
  | x :: xs, h => by
    simp only [okDs, Bool.and_eq_true] at h
    simp only [toPys, PyData.canLayAll0, Bool.and_eq_true]
    exact ⟨canLay_ok x h.1, canLays_ok xs h.2⟩
end
mutual
theorem dep_py : ∀ d : D, (toPy d).depth = depD d
  | .non => by simp [toPy, PyData.depth, depD]
  | .bl _ => by simp [toPy, PyData.depth, depD]
  | .int _ => by simp [toPy, PyData.depth, depD]
  | .str x => by simp [toPy, PyData.depth, depD]
  | .tup xs => by simp only [toPy, PyData.depth, depD, deps_py xs]
  | .frl xs => by simp only [toPy, PyData.depth, depD, deps_py xs]
  | .ref _ => by simp [toPy, PyData.depth, depD]
  | .gl _ => by simp [toPy, PyData.depth, depD]
  | .scr _ => by simp [toPy, PyData.depth, depD]
  | .ktp _ => by simp [toPy, PyData.depth, depD]
theorem deps_py : ∀ ds : List D, PyData.depthAll (toPys ds) = depDs ds
  | [] => by simp [toPys, PyData.depthAll, depDs]
  | x :: xs => by simp only [toPys, PyData.depthAll, depDs, dep_py x, deps_py xs]
end
mutual
theorem eqv_py : ∀ d e : D, okD d = true → okD e = true → PyData.eqv (toPy d) (toPy e) = eqvD d e
  | .non, e, _, h => by cases e <;> simp_all [toPy, PyData.eqv, eqvD, okD]
  | .bl _, e, _, h => by cases e <;> simp_all [toPy, PyData.eqv, eqvD, okD]
  | .int _, e, _, h => by cases e <;> simp_all [toPy, PyData.eqv, eqvD, okD]
  | .str x, e, _, h => by cases e <;> simp_all [toPy, PyData.eqv, eqvD, okD]
  | .tup xs, e, h1, h => by
    cases e with
    | tup ys => simp only [toPy, PyData.eqv, eqvD]; exact eqvs_py xs ys (by simpa [okD] using h1) (by simpa [okD] using h)
    | _ => simp_all [toPy, PyData.eqv, eqvD, okD]
  | .frl xs, e, h1, h => by
    cases e with
    | frl ys => simp only [toPy, PyData.eqv, eqvD]; exact eqvs_py xs ys (by simpa [okD] using h1) (by simpa [okD] using h)
    | _ => simp_all [toPy, PyData.eqv, eqvD, okD]
  | .ref _, _, h, _ => by simp [okD] at h
  | .gl _, _, h, _ => by simp [okD] at h
  | .scr _, _, h, _ => by simp [okD] at h
  | .ktp _, _, h, _ => by simp [okD] at h
theorem eqvs_py : ∀ ds es : List D, okDs ds = true → okDs es = true → PyData.eqvAll (toPys ds) (toPys es) = eqvDs ds es
  | [], [], _, _ => by simp [toPys, PyData.eqvAll, eqvDs]
  | [], _ :: _, _, _ => by simp [toPys, PyData.eqvAll, eqvDs]
  | _ :: _, [], _, _ => by simp [toPys, PyData.eqvAll, eqvDs]
  | x :: xs, y :: ys, h1, h2 => by
    simp only [okDs, Bool.and_eq_true] at h1 h2
    simp only [toPys, PyData.eqvAll, eqvDs, eqv_py x y h1.1 h2.1, eqvs_py xs ys h1.2 h2.2]
end
section
variable {C : Cf} {β : List Addr} {H : Hp} {M : Mem}
mutual
theorem dp_of : ∀ (d : D) {v : V}, Rep C β H v d → okD d = true → Dp C.K H v (toPy d)
  | .non, _, r, _ => by cases r; exact .non
  | .bl _, _, r, _ => by cases r; exact .bl _
  | .int _, _, r, _ => by cases r; exact .int _
  | .str _, _, r, _ => by cases r; exact .str _
  | .tup xs, _, r, h => by
    cases r with
    | tup a b => simp only [toPy]; exact .tup a.sq (dps_of xs b (by simpa [okD] using h))
  | .frl xs, _, r, h => by
    cases r with
    | frl a b c => simp only [toPy]; exact .lst (SqL.of b) (dps_of xs c (by simpa [okD] using h))
  | .ref _, _, _, h => by simp [okD] at h
  | .gl _, _, _, h => by simp [okD] at h
  | .scr _, _, _, h => by simp [okD] at h
  | .ktp _, _, _, h => by simp [okD] at h
theorem dps_of : ∀ (ds : List D) {vs : List V}, Reps C β H vs ds → okDs ds = true → DpAll C.K H vs (toPys ds)
  | [], _, r, _ => by cases r; exact .nil
  | x :: xs, _, r, h => by
    simp only [okDs, Bool.and_eq_true] at h
    cases r with
    | cons a b => simp only [toPys]; exact .cons (dp_of x a h.1) (dps_of xs b h.2)
end
end
/-- a list in the store, as a list -/
def drf (M : Mem) : D → D
  | .ref n => match M[n]? with
    | some (.lst xs) => .frl xs
    | _ => .ref n
  | d => d
theorem dp_drf {C : Cf} {β : List Addr} {H : Hp} {M : Mem} {d : D} {v : V} (S : Sim C β M H) (r : Rep C β H v d) (h : okD (drf M d) = true) : Dp C.K H v (toPy (drf M d)) := by
  by_cases hr : ∃ n, d = .ref n
  · obtain ⟨n, rfl⟩ := hr
    unfold drf at h ⊢
    simp only at h ⊢
    split at h
    · rename_i xs hM
      cases r with
      | ref hb =>
        obtain ⟨a, e1, vs, h1, h2⟩ := S.obj n _ hM
        rw [hb] at e1; cases e1
        simp only [toPy]
        exact .lst (SqL.of h1) (dps_of xs h2 (by simpa [okD] using h))
    · simp [okD] at h
  · have e : drf M d = d := by cases d <;> first | rfl | exact absurd ⟨_, rfl⟩ hr
    rw [e] at h ⊢
    exact dp_of d r h
def eqD (x y : D) (M : Mem) : R D := if okD (drf M x) = true ∧ okD (drf M y) = true ∧ min (depD (drf M x)) (depD (drf M y)) ≤ 60 then .ok (.bl (eqvD (drf M x) (drf M y))) M else .stuck
def neD (x y : D) (M : Mem) : R D := if okD (drf M x) = true ∧ okD (drf M y) = true ∧ min (depD (drf M x)) (depD (drf M y)) ≤ 60 then .ok (.bl (!eqvD (drf M x) (drf M y))) M else .stuck
/-- == of data of which the one is not deep -/
def rEqM (K : PySem.W.Frag) (neg : Bool) : R2 := fun x y H Q => ∃ d e, Dp K H x d ∧ Dp K H y e ∧ d.canLay0 = true ∧ e.canLay0 = true ∧ min d.depth e.depth ≤ 60 ∧ Q (.bl (if neg = true then !PyData.eqv d e else PyData.eqv d e)) H
section
variable {X : Cx} {C : Cf} {E : XK}
theorem op_eqM (hu : X.A.units + 64 < cLine) : OpR X (compareOp .Eq) (rEqM X.K false) := by
  intro pins s σ H x y v u Q I rx ry h
  obtain ⟨d, e, hd, he, sd, se, hm, q⟩ := h
  obtain ⟨as, r1⟩ := Dp.reads I d x v hd rx
  obtain ⟨bs, r2⟩ := Dp.reads I e y u he ry
  exact SeqAt.compareEq_reads r1 r2 sd se (by omega) ⟨.bl _, H, I, rfl, q⟩
theorem op_neM (hu : X.A.units + 64 < cLine) : OpR X (compareOp .NotEq) (rEqM X.K true) := by
  intro pins s σ H x y v u Q I rx ry h
  obtain ⟨d, e, hd, he, sd, se, hm, q⟩ := h
  obtain ⟨as, r1⟩ := Dp.reads I d x v hd rx
  obtain ⟨bs, r2⟩ := Dp.reads I e y u he ry
  exact SeqAt.compareNe_reads r1 r2 sd se (by omega) ⟨.bl _, H, I, rfl, q⟩
theorem rule_eq : Rule2 X C E (rEqM C.K false) eqD := fun β H M x y dx dy Q S rx ry q => by
  unfold eqD at q
  split at q
  · rename_i h
    exact ⟨_, _, dp_drf S rx h.1, dp_drf S ry h.2.1, canLay_ok _ h.1, canLay_ok _ h.2.1, by rw [dep_py, dep_py]; exact h.2.2, by rw [if_neg Bool.false_ne_true, eqv_py _ _ h.1 h.2.1]; exact q β H _ .refl S (.bl _)⟩
  · exact q.elim
theorem rule_ne : Rule2 X C E (rEqM C.K true) neD := fun β H M x y dx dy Q S rx ry q => by
  unfold neD at q
  split at q
  · rename_i h
    exact ⟨_, _, dp_drf S rx h.1, dp_drf S ry h.2.1, canLay_ok _ h.1, canLay_ok _ h.2.1, by rw [dep_py, dep_py]; exact h.2.2, by rw [if_pos rfl, eqv_py _ _ h.1 h.2.1]; exact q β H _ .refl S (.bl _)⟩
  · exact q.elim
end

/-! ### ints -/
def iOp (c : Int → Int → Bool) (g : Int → Int → Int) : D → D → Mem → R D := fun x y M => match x, y with
  | .int i, .int j => if c i j = true then .ok (.int (g i j)) M else .stuck
  | _, _ => .stuck
def bOp (g : Int → Int → Bool) : D → D → Mem → R D := fun x y M => match x, y with
  | .int i, .int j => .ok (.bl (g i j)) M
  | _, _ => .stuck
def subD := iOp (fun _ _ => true) fun i j => i - j
def small (i : Int) : Bool := decide (-(2 ^ 64) < i ∧ i < 2 ^ 64)
def fdivD := iOp (fun _ j => decide (0 < j ∧ j < 1073741824)) fun i j => i / j
def modD := iOp (fun _ j => decide (0 < j)) fun i j => i % j
def powD := iOp (fun i j => decide (0 ≤ j ∧ j ≤ 1000000 ∧ i.natAbs < 2 ^ 64)) fun i j => i ^ j.toNat
def ltD := bOp fun i j => decide (i < j)
def leD := bOp fun i j => decide (i ≤ j)
def gtD := bOp fun i j => decide (j < i)
def geD := bOp fun i j => decide (j ≤ i)
section
variable {X : Cx} {C : Cf} {E : XK}
theorem rule_i {c : Int → Int → Bool} {g : Int → Int → Int} {c' : Int → Int → Prop} (hc : ∀ i j, c i j = true → c' i j) : Rule2 X C E (rI c' fun i j => .int (g i j)) (iOp c g) := fun β H M x y dx dy Q S rx ry q => by
  unfold iOp at q
  split at q
  · rename_i i j
    cases rx
    cases ry
    split at q
    · rename_i h
      exact ⟨i, j, rfl, rfl, hc i j h, q β H _ .refl S (.int _)⟩
    · exact q.elim
  · exact q.elim
theorem rule_b {g : Int → Int → Bool} : Rule2 X C E (rI0 fun i j => .bl (g i j)) (bOp g) := fun β H M x y dx dy Q S rx ry q => by
  unfold bOp at q
  split at q
  · rename_i i j
    cases rx
    cases ry
    exact ⟨i, j, rfl, rfl, q β H _ .refl S (.bl _)⟩
  · exact q.elim
theorem op_sub' : OpR X (binaryOp .Sub) (rI (fun _ _ => True) fun i j => .int (i - j)) := fun pins s σ H x y v u Q I rx ry ⟨i, j, a, b, _, q⟩ => op_sub pins s σ H x y v u Q I rx ry ⟨i, j, a, b, q⟩
theorem rule_sub : Rule2 X C E (rI (fun _ _ => True) fun i j => .int (i - j)) subD := rule_i fun _ _ _ => trivial
theorem rule_fdiv : Rule2 X C E (rI CDiv fun i j => .int (i / j)) fdivD := rule_i fun i j h => (of_decide_eq_true h : 0 < j ∧ j < 1073741824)
theorem rule_mod : Rule2 X C E (rI (fun _ j => 0 < j) fun i j => .int (i % j)) modD := rule_i fun _ _ h => of_decide_eq_true h
theorem rule_pow : Rule2 X C E (rI CPow fun i j => .int (i ^ j.toNat)) powD := rule_i fun i j h => (of_decide_eq_true h : 0 ≤ j ∧ j ≤ 1000000 ∧ i.natAbs < 2 ^ 64)
theorem Rule2.or1 {r r' : R2} {g : D → D → Mem → R D} (h : Rule2 X C E r g) : Rule2 X C E (fun x y H Q => r x y H Q ∨ r' x y H Q) g := fun β H M x y dx dy Q S rx ry q => .inl (h β H M x y dx dy Q S rx ry q)
end
def negD : D → Mem → R D := fun x M => match x with
  | .int i => .ok (.int (-i)) M
  | _ => .stuck
theorem rule_neg {X : Cx} {C : Cf} {E : XK} : RuleU X C E (rU fun i => .int (-i)) negD := fun β H M x dx Q S rx q => by
  unfold negD at q
  split at q
  · cases rx; exact ⟨_, rfl, q β H _ .refl S (.int _)⟩
  · exact q.elim

/-! ### sequences -/
inductive DSq where
  | l (xs : List D) | t (xs : List D)
def seqOf (M : Mem) : D → Option DSq
  | .tup xs => some (.t xs)
  | .frl xs => some (.l xs)
  | .ref n => match M[n]? with
    | some (.lst xs) => some (.l xs)
    | _ => none
  | _ => none
def DSq.items : DSq → List D
  | .l xs => xs
  | .t xs => xs
theorem seq_rep {C : Cf} {β : List Addr} {H : Hp} {M : Mem} {d : D} {v : V} {q : DSq} (S : Sim C β M H) (r : Rep C β H v d) (e : seqOf M d = some q) :
    ∃ a vs, v = .ref a ∧ Reps C β H vs q.items ∧ match q with
      | .l _ => H a = some (.lst vs)
      | .t _ => OutT C β H a vs := by
  cases r with
  | tup a b => cases e; exact ⟨_, _, rfl, b, a⟩
  | frl a b c => cases e; exact ⟨_, _, rfl, c, b⟩
  | ref hb =>
    unfold seqOf at e
    simp only at e
    split at e
    · rename_i xs hM
      cases e
      obtain ⟨a, e1, vs, h1, h2⟩ := S.obj _ _ hM
      rw [hb] at e1; cases e1
      exact ⟨_, _, rfl, h2, h1⟩
    · cases e
  | _ => cases e
theorem seq_sq {C : Cf} {β : List Addr} {H : Hp} {M : Mem} {d : D} {v : V} {q : DSq} (S : Sim C β M H) (r : Rep C β H v d) (e : seqOf M d = some q) :
    ∃ a vs, v = .ref a ∧ Reps C β H vs q.items ∧ (SqL C.K H a vs ∨ SqT C.K H a vs) := by
  obtain ⟨a, vs, h1, h2, h3⟩ := seq_rep S r e
  refine ⟨a, vs, h1, h2, ?_⟩
  cases q with
  | l xs => exact .inl (SqL.of h3)
  | t xs => exact .inr h3.sq
/-- x + y -/
def addD : D → D → Mem → R D := fun x y M => match x, y with
  | .int i, .int j => .ok (.int (i + j)) M
  | .str a, .str b => if a.length + b.length ≤ sizeLine then .ok (.str (a ++ b)) M else .stuck
  | .tup xs, .tup ys => if xs.length + ys.length ≤ sizeLine then .ok (.tup (xs ++ ys)) M else .stuck
  | x, y => match seqOf M x, seqOf M y with
    | some (.l xs), some (.l ys) => if xs.length + ys.length ≤ sizeLine then .ok (.frl (xs ++ ys)) M else .stuck
    | _, _ => .stuck
def rAddM (K : PySem.W.Frag) : R2 := fun x y H Q => (((rI0 fun i j => .int (i + j)) x y H Q ∨ (∃ i j, x = .str i ∧ y = .str j ∧ i.length + j.length ≤ sizeLine ∧ Q (.str (i ++ j)) H)) ∨ rCatA K x y H Q) ∨ rCat x y H Q
theorem op_addM {X : Cx} : OpR X (binaryOp .Add) (rAddM X.K) := (((op_add.or op_add_str).or op_catA).or op_cat)
theorem rule_add {X : Cx} {C : Cf} {E : XK} : Rule2 X C E (rAddM C.K) addD := fun β H M x y dx dy Q S rx ry q => by
  unfold addD at q
  split at q
  · cases rx; cases ry; exact .inl (.inl (.inl ⟨_, _, rfl, rfl, q β H _ .refl S (.int _)⟩))
  · split at q
    · rename_i h
      cases rx; cases ry; exact .inl (.inl (.inr ⟨_, _, rfl, rfl, h, q β H _ .refl S (.str _)⟩))
    · exact q.elim
  · split at q
    · rename_i xs ys h
      cases rx with
      | tup a1 b1 =>
        cases ry with
        | tup a2 b2 =>
          have l1 := b1.length
          have l2 := b2.length
          refine .inl (.inr ⟨_, _, _, _, rfl, rfl, a1.sq, a2.sq, by omega, fun e => ?_, fun e1 e2 => ?_, fun e1 e2 p hp => ?_⟩)
          · subst e
            cases b1
            exact q β H _ .refl S (.tup a2 b2)
          · subst e2
            cases b2
            rw [List.append_nil] at q
            exact q β H _ .refl S (.tup a1 b1)
          · exact q β _ _ (grow_new hp) (S.fresh hp) (.tup ⟨⟨S.nin hp, S.nno hp⟩, upd_same⟩ ((b1.append b2).grow (grow_new hp)))
    · exact q.elim
  · split at q
    · rename_i xs ys e1 e2
      split at q
      · rename_i h
        obtain ⟨a, vs, ev, r1, h1⟩ := seq_rep S rx e1
        obtain ⟨b, ws, ew, r2, h2⟩ := seq_rep S ry e2
        have l1 : vs.length = xs.length := r1.length
        have l2 : ws.length = ys.length := r2.length
        exact .inr ⟨a, b, vs, ws, ev, ew, h1, h2, by omega, fun p hp => q β _ _ (grow_new hp) (S.fresh hp) (.frl ⟨S.nin hp, S.nno hp⟩ upd_same ((r1.append r2).grow (grow_new hp)))⟩
      · exact q.elim
    · exact q.elim
end Mini

set_option Elab.async false
set_option linter.all false
set_option maxRecDepth 100000
set_option maxHeartbeats 4000000
/-! Mini: order, sums, sequences, built-ins. -/
namespace Mini
open PySem PySem.Spec PyProof.Rows L2

/-! ### order -/
def ltv (x y : D) : Bool := PySem.W.dataLt (toPy x) (toPy y)
def isNon : D → Bool
  | .non => true
  | _ => false
theorem toPy_non {d : D} (h : okD d = true) (n : isNon d = false) : toPy d ≠ .none := by
  cases d <;> simp_all [toPy, isNon, okD]
def cmpOk (x y : D) : Bool := okD x && okD y && PySem.W.alike (toPy x) (toPy y) && !isNon x && decide (min (depD x) (depD y) ≤ 60)
def cmpD (f : D → D → Bool) (x y : D) (M : Mem) : R D := if cmpOk (drf M x) (drf M y) = true then .ok (.bl (f (drf M x) (drf M y))) M else .stuck
abbrev ltM := cmpD fun x y => ltv x y
abbrev gtM := cmpD fun x y => ltv y x
abbrev leM := cmpD fun x y => !ltv y x
abbrev geM := cmpD fun x y => !ltv x y
def rCmpM (K : PySem.W.Frag) (f : PyData → PyData → Bool) : R2 := fun x y H Q => ∃ d e, Dp K H x d ∧ Dp K H y e ∧ PySem.W.alike d e = true ∧ d ≠ .none ∧ min d.depth e.depth ≤ 60 ∧ Q (.bl (f d e)) H
section
variable {X : Cx} {C : Cf} {E : XK}
theorem op_ltM (hu : X.A.units + 64 < cLine) : OpR X (compareOp .Lt) (rCmpM X.K fun d e => PySem.W.dataLt d e) := by
  intro pins s σ H x y v u Q I rx ry h
  obtain ⟨d, e, hd, he, al, hn, hm, q⟩ := h
  obtain ⟨as, r1⟩ := Dp.reads I d x v hd rx
  obtain ⟨bs, r2⟩ := Dp.reads I e y u he ry
  exact PySem.W.lt_data r1 r2 al hn (by omega) ⟨.bl _, H, I, rfl, q⟩
theorem op_gtM (hu : X.A.units + 64 < cLine) : OpR X (compareOp .Gt) (rCmpM X.K fun d e => PySem.W.dataLt e d) := by
  intro pins s σ H x y v u Q I rx ry h
  obtain ⟨d, e, hd, he, al, hn, hm, q⟩ := h
  obtain ⟨as, r1⟩ := Dp.reads I d x v hd rx
  obtain ⟨bs, r2⟩ := Dp.reads I e y u he ry
  exact PySem.W.gt_data r1 r2 al hn (by omega) ⟨.bl _, H, I, rfl, q⟩
theorem op_leM (hu : X.A.units + 64 < cLine) : OpR X (compareOp .LtE) (rCmpM X.K fun d e => !PySem.W.dataLt e d) := by
  intro pins s σ H x y v u Q I rx ry h
  obtain ⟨d, e, hd, he, al, hn, hm, q⟩ := h
  obtain ⟨as, r1⟩ := Dp.reads I d x v hd rx
  obtain ⟨bs, r2⟩ := Dp.reads I e y u he ry
  exact PySem.W.le_data r1 r2 al hn (by omega) ⟨.bl _, H, I, rfl, q⟩
theorem op_geM (hu : X.A.units + 64 < cLine) : OpR X (compareOp .GtE) (rCmpM X.K fun d e => !PySem.W.dataLt d e) := by
  intro pins s σ H x y v u Q I rx ry h
  obtain ⟨d, e, hd, he, al, hn, hm, q⟩ := h
  obtain ⟨as, r1⟩ := Dp.reads I d x v hd rx
  obtain ⟨bs, r2⟩ := Dp.reads I e y u he ry
  exact PySem.W.ge_data r1 r2 al hn (by omega) ⟨.bl _, H, I, rfl, q⟩
theorem rule_cmp {f : PyData → PyData → Bool} {g : D → D → Bool} (hg : ∀ x y, g x y = f (toPy x) (toPy y)) : Rule2 X C E (rCmpM C.K f) (cmpD g) := fun β H M x y dx dy Q S rx ry q => by
  unfold cmpD at q
  split at q
  · rename_i h
    unfold cmpOk at h
    simp only [Bool.and_eq_true, Bool.not_eq_true', decide_eq_true_eq] at h
    obtain ⟨⟨⟨⟨h1, h2⟩, h3⟩, h4⟩, h5⟩ := h
    refine ⟨_, _, dp_drf S rx h1, dp_drf S ry h2, h3, toPy_non h1 h4, by rw [dep_py, dep_py]; exact h5, ?_⟩
    rw [← hg]; exact q β H _ .refl S (.bl _)
  · exact q.elim
theorem rule_lt : Rule2 X C E (rCmpM C.K fun d e => PySem.W.dataLt d e) ltM := rule_cmp fun _ _ => rfl
theorem rule_gt : Rule2 X C E (rCmpM C.K fun d e => PySem.W.dataLt e d) gtM := rule_cmp fun _ _ => rfl
theorem rule_le : Rule2 X C E (rCmpM C.K fun d e => !PySem.W.dataLt e d) leM := rule_cmp fun _ _ => rfl
theorem rule_ge : Rule2 X C E (rCmpM C.K fun d e => !PySem.W.dataLt d e) geM := rule_cmp fun _ _ => rfl
end

/-! ### built-ins: one value in -/
def bi1 (g : D → Mem → R D) : MEnv → Mem → R (List D) → R D := fun _ _ r => r.bind fun ds M => match ds with
  | [x] => g x M
  | _ => .stuck
def biE (g : List D → Mem → R D) (t : MEnv → Mem → R (List D)) : ME' := fun ρ M => (t ρ M).bind g
def g1 (g : D → Mem → R D) : List D → Mem → R D := fun ds M => match ds with
  | [x] => g x M
  | _ => .stuck
def g2 (g : D → D → Mem → R D) : List D → Mem → R D := fun ds M => match ds with
  | [x, y] => g x y M
  | _ => .stuck
def Rule1 (X : Cx) (C : Cf) (E : XK) (r : List V → Hp → VK → Prop) (g : D → Mem → R D) : Prop :=
  ∀ β H M x dx Q, Sim C β M H → Rep C β H x dx → Post C β H E (g dx M) (QE C β H Q) → r [x] H Q
section
variable {X : Cx} {C : Cf} {E : XK} {e : Expr} {es : List Expr} {ml : MEnv → Mem → R (List D)} {pos p : Pos} {x : Str}
theorem Rule1.l {r : List V → Hp → VK → Prop} {g : D → Mem → R D} (h : Rule1 X C E r g) : RuleL X C E r (g1 g) := fun β H M xs dxs Q S r q => by
  unfold g1 at q
  split at q
  · cases r with
    | cons a b =>
      cases b
      exact h β H M _ _ Q S a q
  · exact q.elim
theorem bi_of {r : List V → Hp → VK → Prop} {g : List D → Mem → R D} (hr : RuleL X C E r g) {σ : L2.St} {H : Hp} {Q : VK} (h : tE C E (biE g ml) σ H Q) : tCB r (tL C E ml) σ H Q := by
  obtain ⟨β, ρ, M, he, hs, h⟩ := h
  exact tL.bind he hs h fun ds M1 β1 H1 vs g1 he1 hs1 r1 q1 => hr β1 H1 M1 vs ds Q hs1 r1 (q1.gE g1)
/-- a built-in function, a built-in type -/
theorem me_bi {id : String} {r : List V → Hp → VK → Prop} {g : List D → Mem → R D} (hc : CallR X (.builtin id) r) (hr : RuleL X C E r g) (hm : X.mg x = none) (hv : bootBuiltins x = some (.builtin id)) (ha : ML X C E (e :: es) ml) (hg : Gl X x := by rfl)
    (hn : x ≠ "__name__" := by decide) (hd : (x == ("__debug__" : Str)) = false := by decide) (he : starEach (e :: es) X.env = (false, eval e X.env) :: starEach es X.env := by rfl) (hpl : (backTo pos (starEach es X.env)).any (·.1) = false := by rfl) :
    ME X C E (.Call (.Name x p) (e :: es) [] pos) (biE g ml) := PE.mono (pe_callB hc hg hm hv ha hn hd he hpl) fun _ _ _ => bi_of hr
theorem me_ty {T : String} {r : List V → Hp → VK → Prop} {g : List D → Mem → R D} (hc : CallR X (.type T) r) (hr : RuleL X C E r g) (hm : X.mg x = none) (hv : bootBuiltins x = some (.type T)) (ha : ML X C E (e :: es) ml) (hg : Gl X x := by rfl)
    (hn : x ≠ "__name__" := by decide) (hd : (x == ("__debug__" : Str)) = false := by decide) (he : starEach (e :: es) X.env = (false, eval e X.env) :: starEach es X.env := by rfl) (hpl : (backTo pos (starEach es X.env)).any (·.1) = false := by rfl) :
    ME X C E (.Call (.Name x p) (e :: es) [] pos) (biE g ml) := PE.mono (pe_callTy hc hg hm hv ha hn hd he hpl) fun _ _ _ => bi_of hr
end

/-! ### sums and the like, of lists and tuples -/
section
variable {prog : Program} {w : World} {A : Around} {E : Value → Shared → Prop} {s : Shared} {l : Addr} {vs : Array Value} {Q : Value → Shared → Prop}
theorem HasK.lt {k : SK} {h : Heap} (x : HasK k h l vs) : l < h.objs.size := by
  cases k with
  | l => obtain ⟨_, e, _⟩ := x; exact Heap.lt_size e
  | t => obtain ⟨_, e, _⟩ := x; exact Heap.lt_size e
theorem HasK.push {k : SK} {h : Heap} (x : HasK k h l vs) (o : Obj) : HasK k (h.push o) l vs := by
  cases k with
  | l => exact Heap.IsList.push x _
  | t => exact Heap.IsTuple.at x fun u e => Heap.get?_push_of_some _ e
theorem walksK (k : SK) (hh : A.handled = none) (it : Addr) (hne : l ≠ it) : Walks prog w A it [it, l] [it] vs.size (fun i v => vs[i]? = some v) (fun i h => IterK k h it l i ∧ HasK k h l vs) := by
  cases k with
  | l => exact Walks.list hh it l hne vs
  | t => exact Walks.tuple hh it l hne vs
/-- iter(x), as the loops of built-ins ask it -/
theorem iterKW (k : SK) (hh : A.handled = none) (hl : HasK k s.heap l vs)
    (h : ∀ (s₂ : Shared) (o : Obj), s₂ = { s with heap := s.heap.push o } → Walks prog w A s.heap.objs.size [s.heap.objs.size, l] [s.heap.objs.size] vs.size (fun i v => vs[i]? = some v) (fun i h => IterK k h s.heap.objs.size l i ∧ HasK k h l vs) →
      (IterK k s₂.heap s.heap.objs.size l 0 ∧ HasK k s₂.heap l vs) → (∀ b ∈ [s.heap.objs.size, l], b < s₂.heap.objs.size) → Q (.ref s.heap.objs.size) s₂) : wpAny (model prog w) A (pyIter (.ref l)) Q E s := by
  have hlt := hl.lt
  obtain ⟨o, B, st⟩ := begK (k := k) l vs
  refine B.iter prog w A E s Q hl (h _ o rfl (walksK k hh _ (Nat.ne_of_lt hlt)) ⟨st _ _ (Heap.get?_push_size _ B.free), hl.push _⟩ fun b hb => ?_)
  show b < (s.heap.push _).objs.size
  rw [Heap.size_push]
  have e : b = s.heap.objs.size ∨ b = l := by simpa using hb
  rcases e with e | e
  · rw [e]; exact Nat.lt_succ_self _
  · rw [e]; exact Nat.lt_succ_of_lt hlt
theorem old_stays {o : Obj} {h' : Heap} (hk : ∀ b u, b ∉ [s.heap.objs.size] → (s.heap.push o).get? b = some u → h'.get? b = some u) : ∀ b u, s.heap.get? b = some u → h'.get? b = some u := fun b u e =>
  hk b u (fun hb => absurd (Heap.lt_size e) ((List.mem_singleton.mp hb) ▸ Nat.lt_irrefl _)) (Heap.get?_push_of_some _ e)
theorem sumK (k : SK) {its : List Value} {ns : List Int} (hh : A.handled = none) (hl : HasK k s.heap l its.toArray) (hi : IntsAre its ns)
    (h : ∀ h' tk t', (∀ b o, s.heap.get? b = some o → h'.get? b = some o) → Q (.int ns.sum t') { s with heap := h', toks := tk }) : wpAny (model prog w) A (call (.builtin "sum") [.ref l]) Q E s := by
  obtain ⟨xs, e⟩ := hi.allInts.items
  have hn : numsOf (intItems xs).toList = ns := by rw [← e]; exact hi.numsOf
  rw [nums_intItems] at hn
  rw [e] at hl
  refine call_sum_walkG (iterKW (A := A.in1) k hh hl fun s₂ o e2 W st hfp => ?_)
  subst e2
  refine ⟨_, _, _, _, _, _, numAt xs, rfl, W, st, hfp, (fun _ _ => intItems_at), fun h' tk t' hk => ?_⟩
  have z := h h' tk t' (old_stays hk)
  have es : (intItems xs).size = xs.size := by simp [intItems]
  rw [es, preSum_eq, List.take_of_length_le (by simp), hn]
  exact z
end
/-- the place of the first of the greatest, of the least -/
def bestI (f : D → D → Bool) (ds : List D) : Nat := argBest (fun i j => f (ds.getD i .non) (ds.getD j .non)) (ds.length - 1)
def alikeDs (ds : List D) : Bool := okDs ds && ds.all fun x => !isNon x && ds.all fun y => PySem.W.alike (toPy x) (toPy y)
def maxL (ds : List D) : Option D := if alikeDs ds = true ∧ depDs ds ≤ 60 then ds[bestI (fun x y => ltv y x) ds]? else none
def minL (ds : List D) : Option D := if alikeDs ds = true ∧ depDs ds ≤ 60 then ds[bestI ltv ds]? else none
theorem okDs_mem : ∀ {ds : List D} {x : D}, okDs ds = true → x ∈ ds → okD x = true
  | y :: ys, x, h, hx => by
    simp only [okDs, Bool.and_eq_true] at h
    rcases List.mem_cons.mp hx with e | hx
    · rw [e]; exact h.1
    · exact okDs_mem h.2 hx
theorem toPys_map : ∀ ds : List D, toPys ds = ds.map toPy
  | [] => rfl
  | x :: xs => by simp only [toPys, List.map_cons, toPys_map xs]
theorem alikeDs_all {ds : List D} (h : alikeDs ds = true) : okDs ds = true ∧ PySem.W.AlikeAll (toPys ds) := by
  unfold alikeDs at h
  simp only [Bool.and_eq_true, List.all_eq_true, Bool.not_eq_true'] at h
  obtain ⟨h1, h2⟩ := h
  refine ⟨h1, fun x hx y hy => ?_, fun x hx => ?_⟩
  · rw [toPys_map] at hx hy
    obtain ⟨a, ha, rfl⟩ := List.mem_map.mp hx
    obtain ⟨b, hb, rfl⟩ := List.mem_map.mp hy
    exact (h2 a ha).2 b hb
  · rw [toPys_map] at hx
    obtain ⟨a, ha, rfl⟩ := List.mem_map.mp hx
    exact toPy_non (okDs_mem h1 ha) (h2 a ha).1
theorem getD_py (ds : List D) (i : Nat) : (toPys ds).getD i .none = toPy (ds.getD i .non) := by
  rw [toPys_map, List.getD_eq_getElem?_getD, List.getD_eq_getElem?_getD, List.getElem?_map]
  cases ds[i]? <;> rfl
section
variable {X : Cx} {C : Cf} {E : XK}
def rBest (K : PySem.W.Frag) (f : D → D → Bool) : List V → Hp → VK → Prop := fun xs H Q => ∃ a k vs ds, xs = [.ref a] ∧ SqK k K H a vs ∧ DpAll K H vs (toPys ds) ∧ vs.length = ds.length ∧ PySem.W.AlikeAll (toPys ds) ∧ depDs ds ≤ 60 ∧ 0 < ds.length ∧ ∀ v, vs[bestI f ds]? = some v → Q v H
theorem dpAll_reads {pins : List (Addr × Obj)} {σ : L2.St} {H : Hp} {s : Shared} (I : Inv X pins σ H s) {vs : List V} {us : List Value} {ds : List PyData} (h : DpAll X.K H vs ds) (r : Vals vs us) : ∃ as, ReadsAll s.heap us ds as := Dp.readsAll I ds vs us h r
theorem moved_push {s₂ s' : Shared} {s : Shared} {o : Obj} (e : s₂ = { s with heap := s.heap.push o }) (m : Moved [s.heap.objs.size] (fun a b => b = a) s₂ s') : ∃ h' tk, s' = { s with heap := h', toks := tk } ∧ ∀ b o, s.heap.get? b = some o → h'.get? b = some o := PySem.W.moved_old e rfl m
theorem call_maxM (hc : X.calm = true) (hu : X.A.units + 64 < cLine) : CallR X (.builtin "max") (rBest X.K fun x y => ltv y x) := by
  intro pins s σ H xs us Q I r h
  obtain ⟨a, k, vs, ds, rfl, hq, dp, hl, al, hd, hn, q⟩ := h
  obtain ⟨its, rv, p, hlt⟩ := invK I hq
  obtain ⟨as, rd⟩ := dpAll_reads I dp rv
  rw [Vals.ref1 r]
  have hsz : its.toArray.size = ds.length := by rw [List.size_toArray, ← rv.length, hl]
  have hcmp := PySem.W.cmpIn_gt (prog := X.prog) (w := X.w) (A := X.A.in1) (s := s) (vs := its.toArray) (xs := toPys ds) (as := as) (by simpa using rd) al (by rw [deps_py]; show X.A.units + 1 + _ < cLine; omega)
  refine PySem.call_max_walkH (iterKW (A := X.A.in1) k (I.ok.hd hc) p fun s₂ o e2 W st hfp => ?_)
  refine ⟨_, _, _, _, _, _, _, s.heap, _, rfl, W.toS, st, hfp, by omega, fun b o eb hb => absurd (Heap.lt_size eb) ((List.mem_singleton.mp hb) ▸ Nat.lt_irrefl _), fun b u eb => by rw [e2]; exact Heap.get?_push_of_some _ eb, hcmp, fun v s' hP m => ?_⟩
  obtain ⟨h', tk, rfl, hk'⟩ := moved_push e2 m
  have eb : argBest (fun i j => PySem.W.dataLt ((toPys ds).getD j .none) ((toPys ds).getD i .none)) (its.toArray.size - 1) = bestI (fun x y => ltv y x) ds := by
    unfold bestI ltv
    rw [hsz]
    congr 1
    funext i j
    rw [getD_py, getD_py]
  rw [eb] at hP
  have hP' : its[bestI (fun x y => ltv y x) ds]? = some v := by simpa using hP
  have hlt2 : bestI (fun x y => ltv y x) ds < vs.length := by
    have := (List.getElem?_eq_some_iff.mp hP').1
    rw [rv.length]; exact this
  obtain ⟨u, hu', ru⟩ := rv.get (List.getElem?_eq_getElem hlt2)
  rw [hP'] at hu'
  cases hu'
  exact ⟨_, H, I.kept hk', ru, q _ (List.getElem?_eq_getElem hlt2)⟩
theorem call_minM (hc : X.calm = true) (hu : X.A.units + 64 < cLine) : CallR X (.builtin "min") (rBest X.K ltv) := by
  intro pins s σ H xs us Q I r h
  obtain ⟨a, k, vs, ds, rfl, hq, dp, hl, al, hd, hn, q⟩ := h
  obtain ⟨its, rv, p, hlt⟩ := invK I hq
  obtain ⟨as, rd⟩ := dpAll_reads I dp rv
  rw [Vals.ref1 r]
  have hsz : its.toArray.size = ds.length := by rw [List.size_toArray, ← rv.length, hl]
  have hcmp := PySem.W.cmpIn_lt (prog := X.prog) (w := X.w) (A := X.A.in1) (s := s) (vs := its.toArray) (xs := toPys ds) (as := as) (by simpa using rd) al (by rw [deps_py]; show X.A.units + 1 + _ < cLine; omega)
  refine PySem.call_min_walkH (iterKW (A := X.A.in1) k (I.ok.hd hc) p fun s₂ o e2 W st hfp => ?_)
  refine ⟨_, _, _, _, _, _, _, s.heap, _, rfl, W.toS, st, hfp, by omega, fun b o eb hb => absurd (Heap.lt_size eb) ((List.mem_singleton.mp hb) ▸ Nat.lt_irrefl _), fun b u eb => by rw [e2]; exact Heap.get?_push_of_some _ eb, hcmp, fun v s' hP m => ?_⟩
  obtain ⟨h', tk, rfl, hk'⟩ := moved_push e2 m
  have eb : argBest (fun i j => PySem.W.dataLt ((toPys ds).getD i .none) ((toPys ds).getD j .none)) (its.toArray.size - 1) = bestI ltv ds := by
    unfold bestI ltv
    rw [hsz]
    congr 1
    funext i j
    rw [getD_py, getD_py]
  rw [eb] at hP
  have hP' : its[bestI ltv ds]? = some v := by simpa using hP
  have hlt2 : bestI ltv ds < vs.length := by
    have := (List.getElem?_eq_some_iff.mp hP').1
    rw [rv.length]; exact this
  obtain ⟨u, hu', ru⟩ := rv.get (List.getElem?_eq_getElem hlt2)
  rw [hP'] at hu'
  cases hu'
  exact ⟨_, H, I.kept hk', ru, q _ (List.getElem?_eq_getElem hlt2)⟩
def bestM (m : List D → Option D) (x : D) (M : Mem) : R D := match seqOf M x with
  | some q => match m q.items with
    | some d => .ok d M
    | none => .stuck
  | none => .stuck
theorem rule_best {f : D → D → Bool} : Rule1 X C E (rBest C.K f) (bestM fun ds => if alikeDs ds = true ∧ depDs ds ≤ 60 then ds[bestI f ds]? else none) := fun β H M x dx Q S rx q => by
  unfold bestM at q
  split at q
  · rename_i sq e
    split at q
    · rename_i d hd
      dsimp only at hd
      split at hd
      · rename_i hok
        obtain ⟨h1, h2⟩ := alikeDs_all hok.1
        obtain ⟨a, vs, ev, r1, hs⟩ := seq_sq S rx e
        have hne : 0 < sq.items.length := by
          have := (List.getElem?_eq_some_iff.mp hd).1
          omega
        obtain ⟨v, hv, rv⟩ := r1.get hd
        have fin : ∀ u, vs[bestI f sq.items]? = some u → Q u H := fun u hu => by
          rw [hv] at hu; cases hu
          exact q β H _ .refl S rv
        rcases hs with hs | hs
        · exact ⟨a, .l, vs, sq.items, by rw [ev], hs, dps_of _ r1 h1, r1.length, h2, hok.2, hne, fin⟩
        · exact ⟨a, .t, vs, sq.items, by rw [ev], hs, dps_of _ r1 h1, r1.length, h2, hok.2, hne, fin⟩
      · cases hd
    · exact q.elim
  · exact q.elim
/-! sum -/
def intsOf : List D → Option (List Int)
  | [] => some []
  | .int i :: r => (intsOf r).map (i :: ·)
  | _ => none
theorem ints_rep {β : List Addr} {H : Hp} : ∀ {ds : List D} {ns : List Int} {vs : List V}, intsOf ds = some ns → Reps C β H vs ds → vs = ns.map V.int
  | [], _, _, e, r => by cases e; cases r; rfl
  | .int i :: ds, ns, _, e, r => by
    cases r with
    | cons a b =>
      cases a
      unfold intsOf at e
      cases e1 : intsOf ds with
      | none => rw [e1] at e; cases e
      | some ms =>
        rw [e1] at e
        cases e
        rw [ints_rep e1 b]; rfl
  | .non :: _, _, _, e, _ => by simp [intsOf] at e
  | .bl _ :: _, _, _, e, _ => by simp [intsOf] at e
  | .str _ :: _, _, _, e, _ => by simp [intsOf] at e
  | .tup _ :: _, _, _, e, _ => by simp [intsOf] at e
  | .frl _ :: _, _, _, e, _ => by simp [intsOf] at e
  | .ref _ :: _, _, _, e, _ => by simp [intsOf] at e
  | .gl _ :: _, _, _, e, _ => by simp [intsOf] at e
  | .scr _ :: _, _, _, e, _ => by simp [intsOf] at e
  | .ktp _ :: _, _, _, e, _ => by simp [intsOf] at e
def boolsOf : List D → Option (List Bool)
  | [] => some []
  | .bl i :: r => (boolsOf r).map (i :: ·)
  | _ => none
theorem bools_rep {β : List Addr} {H : Hp} : ∀ {ds : List D} {ns : List Bool} {vs : List V}, boolsOf ds = some ns → Reps C β H vs ds → vs = ns.map V.bl
  | [], _, _, e, r => by cases e; cases r; rfl
  | .bl i :: ds, ns, _, e, r => by
    cases r with
    | cons a b =>
      cases a
      unfold boolsOf at e
      cases e1 : boolsOf ds with
      | none => rw [e1] at e; cases e
      | some ms =>
        rw [e1] at e
        cases e
        rw [bools_rep e1 b]; rfl
  | .non :: _, _, _, e, _ => by simp [boolsOf] at e
  | .int _ :: _, _, _, e, _ => by simp [boolsOf] at e
  | .str _ :: _, _, _, e, _ => by simp [boolsOf] at e
  | .tup _ :: _, _, _, e, _ => by simp [boolsOf] at e
  | .frl _ :: _, _, _, e, _ => by simp [boolsOf] at e
  | .ref _ :: _, _, _, e, _ => by simp [boolsOf] at e
  | .gl _ :: _, _, _, e, _ => by simp [boolsOf] at e
  | .scr _ :: _, _, _, e, _ => by simp [boolsOf] at e
  | .ktp _ :: _, _, _, e, _ => by simp [boolsOf] at e
def sumM (x : D) (M : Mem) : R D := match seqOf M x with
  | some q => match intsOf q.items with
    | some ns => .ok (.int ns.sum) M
    | none => .stuck
  | none => .stuck
def rSumM (K : PySem.W.Frag) : List V → Hp → VK → Prop := fun xs H Q => ∃ (a : Addr) (k : SK) (ns : List Int), xs = [.ref a] ∧ SqK k K H a (ns.map V.int) ∧ Q (.int ns.sum) H
theorem call_sumM (hc : X.calm = true) : CallR X (.builtin "sum") (rSumM X.K) := by
  intro pins s σ H xs us Q I r h
  obtain ⟨a, k, ns, rfl, hq, q⟩ := h
  obtain ⟨its, rv, p, _⟩ := invK I hq
  rw [Vals.ref1 r]
  exact sumK k (I.ok.hd hc) p rv.ints fun h' tk t' hk => ⟨.int _, H, I.kept hk, ⟨_, rfl⟩, q⟩
theorem rule_sum : Rule1 X C E (rSumM C.K) sumM := fun β H M x dx Q S rx q => by
  unfold sumM at q
  split at q
  · rename_i sq e
    split at q
    · rename_i ns en
      obtain ⟨a, vs, ev, r1, hs⟩ := seq_sq S rx e
      have e2 := ints_rep en r1
      rw [e2] at hs
      rcases hs with hs | hs
      · exact ⟨a, .l, ns, by rw [ev], hs, q β H _ .refl S (.int _)⟩
      · exact ⟨a, .t, ns, by rw [ev], hs, q β H _ .refl S (.int _)⟩
    · exact q.elim
  · exact q.elim
def allM (x : D) (M : Mem) : R D := match seqOf M x with
  | some (.l ds) => match boolsOf ds with
    | some bs => .ok (.bl (bs.all id)) M
    | none => .stuck
  | _ => .stuck
def anyM (x : D) (M : Mem) : R D := match seqOf M x with
  | some (.l ds) => match boolsOf ds with
    | some bs => .ok (.bl (bs.any id)) M
    | none => .stuck
  | _ => .stuck
theorem rule_all : Rule1 X C E (rAll C.K) allM := fun β H M x dx Q S rx q => by
  unfold allM at q
  split at q
  · rename_i ds e
    split at q
    · rename_i bs eb
      obtain ⟨a, vs, ev, r1, hs⟩ := seq_rep S rx e
      have e2 := bools_rep eb r1
      exact ⟨a, bs, by rw [ev], by rw [← e2]; exact SqL.of hs, q β H _ .refl S (.bl _)⟩
    · exact q.elim
  · exact q.elim
theorem rule_any : Rule1 X C E (rAny C.K) anyM := fun β H M x dx Q S rx q => by
  unfold anyM at q
  split at q
  · rename_i ds e
    split at q
    · rename_i bs eb
      obtain ⟨a, vs, ev, r1, hs⟩ := seq_rep S rx e
      have e2 := bools_rep eb r1
      exact ⟨a, bs, by rw [ev], by rw [← e2]; exact SqL.of hs, q β H _ .refl S (.bl _)⟩
    · exact q.elim
  · exact q.elim
end
end Mini

set_option Elab.async false
set_option linter.all false
set_option maxRecDepth 100000
set_option maxHeartbeats 4000000
/-! Mini: built-ins, subscripts, slices, dicts, stores. -/
namespace Mini
open PySem PySem.Spec PyProof.Rows L2

section
variable {X : Cx} {C : Cf} {E : XK}
theorem CallR.imp {f : Value} {r r' : List V → Hp → VK → Prop} (h : CallR X f r) (k : ∀ xs H Q, r' xs H Q → r xs H Q) : CallR X f r' := fun pins s σ H xs us Q I rv q => h pins s σ H xs us Q I rv (k _ _ _ q)
/-! len, abs, int, list, tuple -/
def lenM (x : D) (M : Mem) : R D := match x with
  | .str z => if z.length ≤ sizeLine then .ok (.int z.length) M else .stuck
  | .ref n => match M[n]? with
    | some (.lst xs) => .ok (.int xs.length) M
    | some (.dK kvs) => .ok (.int kvs.length) M
    | some (.dT kvs) => .ok (.int kvs.length) M
    | _ => .stuck
  | .tup xs => .ok (.int xs.length) M
  | .frl xs => .ok (.int xs.length) M
  | .ktp xs => .ok (.int xs.length) M
  | .scr xs => .ok (.int xs.length) M
  | _ => .stuck
def rLenM (K : PySem.W.Frag) : List V → Hp → VK → Prop := fun xs H Q => ((∃ p ys, xs = [.ref p] ∧ (SqL K H p ys ∨ SqT K H p ys) ∧ Q (.int ys.length) H) ∨ (∃ z, xs = [.str z] ∧ z.length ≤ sizeLine ∧ Q (.int z.length) H)) ∨
  ((∃ a kvs, xs = [V.ref a] ∧ H a = some (.dK kvs) ∧ Q (.int kvs.length) H) ∨ rLenT xs H Q)
theorem call_lenM : CallR X (.builtin "len") (rLenM X.K) := (call_len_seq.or call_len_str).or (call_lenD.or call_len_dT)
theorem RepK.length {κ : Type} {β : List Addr} {H : Hp} {a : List (κ × V)} {b : List (κ × D)} (h : RepK C β H a b) : a.length = b.length := Paired.length h
theorem rule_len : Rule1 X C E (rLenM C.K) lenM := fun β H M x dx Q S rx q => by
  unfold lenM at q
  split at q
  · split at q
    · rename_i h
      cases rx
      exact .inl (.inr ⟨_, rfl, h, q β H _ .refl S (.int _)⟩)
    · exact q.elim
  · rename_i n
    cases rx with
    | ref hb =>
      split at q
      · rename_i xs hM
        obtain ⟨a, e1, vs, h1, h2⟩ := S.obj n _ hM
        rw [hb] at e1; cases e1
        exact .inl (.inl ⟨_, vs, rfl, .inl (SqL.of h1), q β H _ .refl S (by rw [h2.length]; exact .int _)⟩)
      · rename_i kvs hM
        obtain ⟨a, e1, vs, h1, h2⟩ := S.obj n _ hM
        rw [hb] at e1; cases e1
        exact .inr (.inl ⟨_, vs, rfl, h1, q β H _ .refl S (by rw [h2.length]; exact .int _)⟩)
      · rename_i kvs hM
        obtain ⟨a, e1, vs, h1, h2⟩ := S.obj n _ hM
        rw [hb] at e1; cases e1
        exact .inr (.inr ⟨_, vs, rfl, h1, q β H _ .refl S (by rw [h2.length]; exact .int _)⟩)
      · exact q.elim
  · cases rx with
    | tup a b => exact .inl (.inl ⟨_, _, rfl, .inr a.sq, q β H _ .refl S (by rw [b.length]; exact .int _)⟩)
  · cases rx with
    | frl a b c => exact .inl (.inl ⟨_, _, rfl, .inl (SqL.of b), q β H _ .refl S (by rw [c.length]; exact .int _)⟩)
  · cases rx with
    | ktp a b => exact .inl (.inl ⟨_, _, rfl, .inr a.sq, q β H _ .refl S (by rw [b.length]; exact .int _)⟩)
  · cases rx with
    | scr a => exact .inl (.inl ⟨_, _, rfl, .inl a.sq, q β H _ .refl S (by rw [List.length_map]; exact .int _)⟩)
  · exact q.elim
def absM (x : D) (M : Mem) : R D := match x with
  | .int i => .ok (.int (if i < 0 then -i else i)) M
  | _ => .stuck
theorem rule_abs : Rule1 X C E (fun xs H Q => ∃ i, xs = [.int i] ∧ Q (.int (if i < 0 then -i else i)) H) absM := fun β H M x dx Q S rx q => by
  unfold absM at q
  split at q
  · cases rx; exact ⟨_, rfl, q β H _ .refl S (.int _)⟩
  · exact q.elim
def intM (x : D) (M : Mem) : R D := match x with
  | .int i => .ok (.int i) M
  | _ => .stuck
theorem rule_int : Rule1 X C E (fun xs H Q => (∃ i, xs = [.int i] ∧ Q (.int i) H) ∨ ∃ k, xs = [.bl k] ∧ Q (.int (if k then 1 else 0)) H) intM := fun β H M x dx Q S rx q => by
  unfold intM at q
  split at q
  · cases rx; exact .inl ⟨_, rfl, q β H _ .refl S (.int _)⟩
  · exact q.elim
/-- the items of what is walked whole -/
def itemsOf (M : Mem) : D → Option (List D)
  | .tup xs => some xs
  | .frl xs => some xs
  | .ktp xs => some xs
  | .scr xs => some (xs.map D.int)
  | .ref n => match M[n]? with
    | some (.lst xs) => some xs
    | _ => none
  | _ => none
theorem ints_reps {β : List Addr} {H : Hp} : ∀ xs : List Int, Reps C β H (xs.map V.int) (xs.map D.int)
  | [] => .nil
  | x :: xs => .cons (.int x) (ints_reps xs)
theorem items_sq {β : List Addr} {H : Hp} {M : Mem} {d : D} {v : V} {ds : List D} (S : Sim C β M H) (r : Rep C β H v d) (e : itemsOf M d = some ds) : ∃ a vs, v = .ref a ∧ Reps C β H vs ds ∧ (SqL C.K H a vs ∨ SqT C.K H a vs) := by
  cases r with
  | tup a b => cases e; exact ⟨_, _, rfl, b, .inr a.sq⟩
  | frl a b c => cases e; exact ⟨_, _, rfl, c, .inl (SqL.of b)⟩
  | ktp a b => cases e; exact ⟨_, _, rfl, b, .inr a.sq⟩
  | scr a => cases e; exact ⟨_, _, rfl, ints_reps _, .inl a.sq⟩
  | ref hb =>
    unfold itemsOf at e
    simp only at e
    split at e
    · rename_i xs hM
      cases e
      obtain ⟨a, e1, vs, h1, h2⟩ := S.obj _ _ hM
      rw [hb] at e1; cases e1
      exact ⟨_, _, rfl, h2, .inl (SqL.of h1)⟩
    · cases e
  | _ => cases e
def listV (x : D) (M : Mem) : R D := match itemsOf M x with
  | some ds => .ok (.frl ds) M
  | none => .stuck
def listM (x : D) (M : Mem) : R D := match itemsOf M x with
  | some ds => .ok (.ref M.length) (M ++ [.lst ds])
  | none => .stuck
abbrev rListO (K : PySem.W.Frag) : List V → Hp → VK → Prop := fun xs H Q => ∃ p ys, xs = [.ref p] ∧ (SqL K H p ys ∨ SqT K H p ys) ∧ ∀ l, H l = none → Q (.ref l) (upd H l (.lst ys))
theorem rule_listV : Rule1 X C E (rListO C.K) listV := fun β H M x dx Q S rx q => by
  unfold listV at q
  split at q
  · rename_i ds e
    obtain ⟨a, vs, rfl, r, hs⟩ := items_sq S rx e
    exact ⟨a, vs, rfl, hs, fun l hl => q β _ _ (grow_new hl) (S.fresh hl) (.frl ⟨S.nin hl, S.nno hl⟩ upd_same (r.grow (grow_new hl)))⟩
  · exact q.elim
theorem rule_listM : Rule1 X C E (rListO C.K) listM := fun β H M x dx Q S rx q => by
  unfold listM at q
  split at q
  · rename_i ds e
    obtain ⟨a, vs, rfl, r, hs⟩ := items_sq S rx e
    exact ⟨a, vs, rfl, hs, fun l hl => q _ _ _ (grow_add hl) (S.pushL hl r) (.ref (get_last S.len))⟩
  · exact q.elim
def tupleM (x : D) (M : Mem) : R D := match x with
  | .tup xs => .ok (.tup xs) M
  | .frl xs => .ok (.tup xs) M
  | .ref n => match M[n]? with
    | some (.lst xs) => .ok (.tup xs) M
    | _ => .stuck
  | _ => .stuck
theorem rule_tuple : Rule1 X C E (fun xs H Q => ∃ p ys, xs = [.ref p] ∧ ((SqL C.K H p ys ∧ ∀ l, H l = none → Q (.ref l) (upd H l (.tup ys))) ∨ (SqT C.K H p ys ∧ Q (.ref p) H))) tupleM := fun β H M x dx Q S rx q => by
  unfold tupleM at q
  split at q
  · cases rx with
    | tup a b => exact ⟨_, _, rfl, .inr ⟨a.sq, q β H _ .refl S (.tup a b)⟩⟩
  · cases rx with
    | frl a b c => exact ⟨_, _, rfl, .inl ⟨SqL.of b, fun l hl => q β _ _ (grow_new hl) (S.fresh hl) (.tup ⟨⟨S.nin hl, S.nno hl⟩, upd_same⟩ (c.grow (grow_new hl)))⟩⟩
  · split at q
    · rename_i xs hM
      cases rx with
      | ref hb =>
        obtain ⟨a, e1, vs, h1, h2⟩ := S.obj _ _ hM
        rw [hb] at e1; cases e1
        exact ⟨_, _, rfl, .inl ⟨SqL.of h1, fun l hl => q β _ _ (grow_new hl) (S.fresh hl) (.tup ⟨⟨S.nin hl, S.nno hl⟩, upd_same⟩ (h2.grow (grow_new hl)))⟩⟩
    · exact q.elim
  · exact q.elim

/-! sorted -/
def sortL (ds : List D) : List D := ds.mergeSort (PySem.W.dataLe false toPy)
def isTup1 : D → Bool
  | .tup (_ :: _) => true
  | _ => false
def isTupD : D → Bool
  | .tup _ => true
  | _ => false
/-- what can be sorted: alike, and either all tuples that are not empty or none a tuple -/
def sortOk (ds : List D) : Bool := okDs ds && (ds.all fun x => ds.all fun y => PySem.W.alike (toPy x) (toPy y)) && ((ds.all isTup1) || ds.all fun x => !isNon x && !isTupD x) && decide (depDs ds ≤ 60)
def sortedM (x : D) (M : Mem) : R D := match seqOf M x with
  | some (.l ds) => if sortOk ds = true then .ok (.frl (sortL ds)) M else .stuck
  | _ => .stuck
def sortP (vs : List V) (ds : List D) : List (V × D) := (vs.zip ds).mergeSort (PySem.W.dataLe false fun b => toPy b.2)
def rSortM (K : PySem.W.Frag) : List V → Hp → VK → Prop := fun xs H Q => ∃ a vs ds, xs = [.ref a] ∧ SqL K H a vs ∧ DpAll K H vs (toPys ds) ∧ vs.length = ds.length ∧ sortOk ds = true ∧ ∀ p, H p = none → Q (.ref p) (upd H p (.lst ((sortP vs ds).map Prod.fst)))
theorem sortP_snd {vs : List V} {ds : List D} (h : vs.length = ds.length) : (sortP vs ds).map Prod.snd = sortL ds := by
  unfold sortP sortL
  rw [List.map_mergeSort (r := PySem.W.dataLe false fun b : V × D => toPy b.2) (s := PySem.W.dataLe false toPy) (fun a _ b _ => rfl), List.map_snd_zip (by omega)]
theorem sortOk_all {ds : List D} (h : sortOk ds = true) : okDs ds = true ∧ PySem.W.AllAlike (ds.map toPy) ∧ PySem.W.Sortable (ds.map toPy) ∧ depDs ds ≤ 60 := by
  unfold sortOk at h
  simp only [Bool.and_eq_true, decide_eq_true_eq] at h
  obtain ⟨⟨⟨h1, h2⟩, h3⟩, h4⟩ := h
  refine ⟨h1, fun d hd d' hd' => ?_, ?_, h4⟩
  · obtain ⟨a, ha, rfl⟩ := List.mem_map.mp hd
    obtain ⟨b, hb, rfl⟩ := List.mem_map.mp hd'
    exact List.all_eq_true.mp (List.all_eq_true.mp h2 a ha) b hb
  · rcases (Bool.or_eq_true _ _).mp h3 with z | z
    · refine .inl fun d hd => ?_
      obtain ⟨a, ha, rfl⟩ := List.mem_map.mp hd
      have := List.all_eq_true.mp z a ha
      cases a with
      | tup xs =>
        cases xs with
        | nil => simp [isTup1] at this
        | cons x r => exact ⟨toPy x, toPys r, by simp only [toPy, toPys]⟩
      | _ => simp [isTup1] at this
    · refine .inr fun d hd => ?_
      obtain ⟨a, ha, rfl⟩ := List.mem_map.mp hd
      have := List.all_eq_true.mp z a ha
      simp only [Bool.and_eq_true, Bool.not_eq_true'] at this
      refine ⟨toPy_non (okDs_mem h1 ha) this.1, fun xs e => ?_⟩
      cases a with
      | tup ys => simp [isTupD] at this
      | _ => simp [toPy] at e
theorem depDs_mem : ∀ {ds : List D} {x : D}, x ∈ ds → depD x ≤ depDs ds
  | y :: ys, x, hx => by
    unfold depDs
    rcases List.mem_cons.mp hx with e | hx
    · rw [e]; exact Nat.le_max_left _ _
    · exact Nat.le_trans (depDs_mem hx) (Nat.le_max_right _ _)
theorem each_zip {h : Heap} : ∀ {vs : List V} {us : List Value} {ds : List D} {as : List Addr}, Vals vs us → ReadsAll h us (toPys ds) as → vs.length = ds.length →
    PySem.W.EachIs (fun u (b : V × D) => RelV b.1 u) us (vs.zip ds) ∧ PySem.W.EachIs (fun u (b : V × D) => ∃ as, Reads h u (toPy b.2) as) us (vs.zip ds)
  | [], _, _, _, .nil, _, _ => ⟨.nil, .nil⟩
  | v :: vs, _, [], _, .cons _ _, _, hl => by simp at hl
  | v :: vs, _, d :: ds, _, .cons r t, rd, hl => by
    simp only [toPys] at rd
    cases rd with
    | cons q qs =>
      obtain ⟨i1, i2⟩ := each_zip t qs (by simpa using hl)
      exact ⟨.cons r i1, .cons ⟨_, q⟩ i2⟩
theorem each_vals : ∀ {us : List Value} {bs : List (V × D)}, PySem.W.EachIs (fun u (b : V × D) => RelV b.1 u) us bs → Vals (bs.map Prod.fst) us
  | _, _, .nil => .nil
  | _, _, .cons a b => .cons a (each_vals b)
theorem call_sortM (hu : X.A.units + 128 < cLine) : CallR X (.builtin "sorted") (rSortM X.K) := by
  intro pins s σ H xs us Q I r h
  obtain ⟨a, vs, ds, rfl, hs, dp, hl, ok, q⟩ := h
  obtain ⟨h1, h2, h3, h4⟩ := sortOk_all ok
  obtain ⟨its, rv, hpl, hz⟩ := I.list hs
  obtain ⟨as, rd⟩ := dpAll_reads I dp rv
  rw [Vals.ref1 r]
  obtain ⟨e1, e2⟩ := each_zip rv rd hl
  have em : (vs.zip ds).map (fun b => toPy b.2) = ds.map toPy := by
    rw [show (fun b : V × D => toPy b.2) = toPy ∘ Prod.snd from rfl, ← List.map_map, List.map_snd_zip (by omega)]
  have lz : (vs.zip ds).length = vs.length := by rw [List.length_zip]; omega
  refine PySem.W.sorted_data (enc := fun b : V × D => toPy b.2) hpl.isList e1 e2 (by rw [em]; exact h2) (by rw [em]; exact h3) (by rw [lz]; exact hz) (fun b hb => ?_) fun out hlen eo => ?_
  · have hb2 : b.2 ∈ ds := (List.of_mem_zip (a := b.1) (b := b.2) hb).2
    have := depDs_mem hb2
    rw [dep_py]; omega
  · have hv : Vals ((sortP vs ds).map Prod.fst) out := each_vals eo
    obtain ⟨ep, he'⟩ := PyProof.Rows.sortedAll_at s.heap its out.toArray
    refine ⟨.ref _, _, I.laid (t' := s.toks) (o := .lst ((sortP vs ds).map Prod.fst)) (fun _ _ => PyProof.Rows.sortedAll_old) (Nat.le_succ _) ⟨?_, out, ep, hv, he'⟩, rfl, q _ (I.hok.fresh (Nat.le_succ _))⟩
    rw [hv.length, hlen, lz]; exact hz
theorem reps_zip {β : List Addr} {H : Hp} : ∀ {bs : List (V × D)}, (∀ b ∈ bs, Rep C β H b.1 b.2) → Reps C β H (bs.map Prod.fst) (bs.map Prod.snd)
  | [], _ => .nil
  | b :: bs, h => .cons (h b List.mem_cons_self) (reps_zip fun c hc => h c (List.mem_cons_of_mem _ hc))
theorem zip_rep {β : List Addr} {H : Hp} : ∀ {vs : List V} {ds : List D}, Reps C β H vs ds → ∀ b ∈ vs.zip ds, Rep C β H b.1 b.2
  | _, _, .nil, b, hb => by simp at hb
  | _, _, .cons r t, b, hb => by
    rw [List.zip_cons_cons] at hb
    rcases List.mem_cons.mp hb with e | hb
    · rw [e]; exact r
    · exact zip_rep t b hb
theorem rule_sorted : Rule1 X C E (rSortM C.K) sortedM := fun β H M x dx Q S rx q => by
  unfold sortedM at q
  split at q
  · rename_i ds e
    split at q
    · rename_i ok
      obtain ⟨a, vs, rfl, r, hs⟩ := seq_rep S rx e
      have r : Reps C β H vs ds := r
      refine ⟨a, vs, ds, rfl, SqL.of hs, dps_of _ r (sortOk_all ok).1, r.length, ok, fun p hp => ?_⟩
      have rr : Reps C β H ((sortP vs ds).map Prod.fst) (sortL ds) := by
        rw [← sortP_snd r.length]
        exact reps_zip fun b hb => zip_rep r b (List.mem_mergeSort.mp hb)
      exact q β _ _ (grow_new hp) (S.fresh hp) (.frl ⟨S.nin hp, S.nno hp⟩ upd_same (rr.grow (grow_new hp)))
    · exact q.elim
  · exact q.elim
end

/-! ### isinstance -/
inductive Ty where
  | bool | int | str | tuple | list
def Ty.name : Ty → String
  | .bool => "bool"
  | .int => "int"
  | .str => "str"
  | .tuple => "tuple"
  | .list => "list"
/-- of which built-in type -/
def tyOf (M : Mem) : D → Option String
  | .non => some "NoneType"
  | .bl _ => some "bool"
  | .int _ => some "int"
  | .str _ => some "str"
  | .tup _ => some "tuple"
  | .frl _ => some "list"
  | .ktp _ => some "tuple"
  | .ref n => match M[n]? with
    | some (.lst _) => some "list"
    | some (.dK _) => some "dict"
    | some (.dT _) => some "dict"
    | _ => none
  | _ => none
def isTy (T : Ty) : D → Mem → R D := fun x M => match tyOf M x with
  | some t => .ok (.bl (match T, t with
    | .bool, "bool" => true
    | .int, "int" => true
    | .int, "bool" => true
    | .str, "str" => true
    | .tuple, "tuple" => true
    | .list, "list" => true
    | _, _ => false)) M
  | none => .stuck
end Mini

set_option Elab.async false
set_option linter.all false
set_option maxRecDepth 100000
set_option maxHeartbeats 4000000
/-! Mini: isinstance, times, subscripts, slices, is, two-armed min and max, methods of lists. -/
namespace Mini
open PySem PySem.Spec PyProof.Rows L2

/-! ### isinstance of a built-in type -/
inductive TD where
  | non | bool | int | str | tuple | list | dict
def TD.name : TD → String
  | .non => "NoneType"
  | .bool => "bool"
  | .int => "int"
  | .str => "str"
  | .tuple => "tuple"
  | .list => "list"
  | .dict => "dict"
def tdOf (M : Mem) : D → Option TD
  | .non => some .non
  | .bl _ => some .bool
  | .int _ => some .int
  | .str _ => some .str
  | .tup _ => some .tuple
  | .frl _ => some .list
  | .ktp _ => some .tuple
  | .ref n => match M[n]? with
    | some (.lst _) => some .list
    | some (.dK _) => some .dict
    | some (.dT _) => some .dict
    | _ => none
  | _ => none
def isA : TD → Ty → Bool
  | .bool, .bool => true
  | .int, .int => true
  | .bool, .int => true
  | .str, .str => true
  | .tuple, .tuple => true
  | .list, .list => true
  | _, _ => false
theorem kit_isA (t : TD) (T : Ty) : kitB t.name T.name = some (isA t T) := by cases t <;> cases T <;> decide +kernel
def isTyD (T : Ty) : D → Mem → R D := fun x M => match tdOf M x with
  | some t => .ok (.bl (isA t T)) M
  | none => .stuck
section
variable {X : Cx} {C : Cf} {E : XK} {e a b : Expr} {ma mb : ME'} {pos p p2 : Pos}
theorem tyX_of {β : List Addr} {H : Hp} {M : Mem} {v : V} {d : D} {t : TD} (S : Sim C β M H) (r : Rep C β H v d) (e : tdOf M d = some t) : TyX C.K H v (.type t.name) := by
  cases r with
  | non => cases e; exact .base .non
  | bl b => cases e; exact .base (.bl _)
  | int b => cases e; exact .base (.int _)
  | str b => cases e; exact .base (.str _)
  | tup a b => cases e; exact .base (.tup a.2)
  | frl a b c => cases e; exact .base (.lst b)
  | ktp a b =>
    cases e
    obtain ⟨o, its, n, h1, h2, _⟩ := a
    exact .kTuple h1 h2
  | ref hb =>
    unfold tdOf at e
    simp only at e
    split at e
    · rename_i hM
      cases e
      obtain ⟨a, e1, vs, h1, h2⟩ := S.obj _ _ hM
      rw [hb] at e1; cases e1
      exact .base (.lst h1)
    · rename_i hM
      cases e
      obtain ⟨a, e1, vs, h1, h2⟩ := S.obj _ _ hM
      rw [hb] at e1; cases e1
      exact .base (.dK h1)
    · rename_i hM
      cases e
      obtain ⟨a, e1, vs, h1, h2⟩ := S.obj _ _ hM
      rw [hb] at e1; cases e1
      exact .base (.dT h1)
    · cases e
  | _ => cases e
theorem me_isi (T : Ty) {Tn : Str} (ha : ME X C E e ma) (hK : C.K = X.K) (hm : X.mg "isinstance" = none) (hm2 : X.mg Tn = none) (hv2 : bootBuiltins Tn = some (.type T.name)) (hv : bootBuiltins "isinstance" = some (.builtin "isinstance") := by decide +kernel) (hg : Gl X "isinstance" := by rfl) (hg2 : Gl X Tn := by rfl)
    (hn2 : Tn ≠ "__name__" := by decide) (hd2 : (Tn == ("__debug__" : Str)) = false := by decide)
    (he : starEach (e :: [.Name Tn p2]) X.env = (false, eval e X.env) :: starEach [.Name Tn p2] X.env := by rfl) (hpl : (backTo pos (starEach [.Name Tn p2] X.env)).any (·.1) = false := by rfl) :
    ME X C E (.Call (.Name "isinstance" p) [e, .Name Tn p2] [] pos) (op1 (isTyD T) ma) := by
  have hT : PE X (.Name Tn p2) (tC (.ty T.name)) := pe_bltn hg2 hm2 hv2 rfl hn2 hd2
  refine PE.mono (pe_callB call_isi hg hm hv (pa_cons ha (pa_cons hT pa_nil) he) (by decide) (by decide) he hpl) fun σ H Q h => ?_
  obtain ⟨β, ρ, M, he, hs, h⟩ := h
  refine tE.bind he hs h fun d M1 β1 H1 v g1 he1 hs1 r1 q1 => ?_
  unfold isTyD at q1
  split at q1
  · rename_i t ht
    refine ⟨v, .ty T.name, .type t.name, .type T.name, isA t T, rfl, .ty _, ?_, kit_ty (kit_isA t T), q1 β1 H1 _ g1 hs1 (.bl _)⟩
    rw [← hK]
    exact tyX_of hs1 r1 ht
  · exact q1.elim

/-! ### is, is not -/
def isNonD : D → D → Mem → R D := fun x y M => match y with
  | .non => .ok (.bl (isNon x)) M
  | _ => .stuck
def notNonD : D → D → Mem → R D := fun x y M => match y with
  | .non => .ok (.bl (!isNon x)) M
  | _ => .stuck
def isBlD : D → D → Mem → R D := fun x y M => match x, y with
  | .bl a, .bl b => .ok (.bl (decide (a = b))) M
  | _, _ => .stuck
def notBlD : D → D → Mem → R D := fun x y M => match x, y with
  | .bl a, .bl b => .ok (.bl (!decide (a = b))) M
  | _, _ => .stuck
theorem rep_non {β : List Addr} {H : Hp} {v : V} {d : D} (r : Rep C β H v d) : decide (v = .non) = isNon d := by
  cases r <;> first | rfl | (exact decide_eq_false (fun z => by cases z))
theorem rule_isN : Rule2 X C E (fun x y H Q => y = .non ∧ Q (.bl (decide (x = .non))) H) isNonD := fun β H M x y dx dy Q S rx ry q => by
  unfold isNonD at q
  split at q
  · cases ry
    exact ⟨rfl, by rw [rep_non rx]; exact q β H _ .refl S (.bl _)⟩
  · exact q.elim
theorem rule_notN : Rule2 X C E (fun x y H Q => y = .non ∧ Q (.bl (!decide (x = .non))) H) notNonD := fun β H M x y dx dy Q S rx ry q => by
  unfold notNonD at q
  split at q
  · cases ry
    exact ⟨rfl, by rw [rep_non rx]; exact q β H _ .refl S (.bl _)⟩
  · exact q.elim
theorem rule_isB : Rule2 X C E rIsB isBlD := fun β H M x y dx dy Q S rx ry q => by
  unfold isBlD at q
  split at q
  · cases rx; cases ry
    exact ⟨_, _, rfl, rfl, q β H _ .refl S (.bl _)⟩
  · exact q.elim
theorem rule_notB : Rule2 X C E rNotB notBlD := fun β H M x y dx dy Q S rx ry q => by
  unfold notBlD at q
  split at q
  · cases rx; cases ry
    exact ⟨_, _, rfl, rfl, q β H _ .refl S (.bl _)⟩
  · exact q.elim

/-! ### x * y -/
theorem mul_same (l : Addr) (items : Array Value) (n : Nat) (sl : Array (Option Value)) (dd : Option Addr) (x : Int) (u : Tok) (c0 : (decide (x < -(2 ^ 63)) || decide (x ≥ 2 ^ 63)) = false) (c1 : (items.isEmpty || x == 1) = true) :
    Meets (Builtin.«tuple.__mul__» ⟨[.ref l, .int x u], []⟩) (fun _ R s => s.heap.get? l = some { cls := .type "tuple", dict := dd, data := .seq items n, slots := sl } ∧ R (.ok (.ret (.ref l))) s) :=
  .of_wp fun prog w A R s h => by
    obtain ⟨hp, g, d, tk, os⟩ := s
    obtain ⟨hl, h⟩ := h
    have f1 := AutoSeq1.idx_int
    wp_walk using wpAny_loadPart' hl
    repeat (first
      | (refine wpAny_ite_false (decide_eq_false (by rw [c0]; exact Bool.false_ne_true)) ?_; wp_walk using wpAny_loadPart' hl)
      | (refine wpAny_ite_true (decide_eq_true (by rw [c1])) ?_; wp_walk using wpAny_loadPart' hl))
    exact ⟨_, rfl, h⟩
theorem mul_none (l : Addr) (items : Array Value) (n : Nat) (sl : Array (Option Value)) (dd : Option Addr) (x : Int) (u : Tok) (c0 : (decide (x < -(2 ^ 63)) || decide (x ≥ 2 ^ 63)) = false) (c1 : (items.isEmpty || x == 1) = false) (c2 : (decide (x ≤ 0) || items.isEmpty) = true) :
    Meets (Builtin.«tuple.__mul__» ⟨[.ref l, .int x u], []⟩) (fun _ R s => s.heap.get? l = some { cls := .type "tuple", dict := dd, data := .seq items n, slots := sl } ∧ R (.ok (.ret (.ref s.heap.objs.size))) { s with heap := s.heap.push { cls := Value.type "tuple", data := Data.seq #[] }, toks := s.toks }) :=
  .of_wp fun prog w A R s h => by
    obtain ⟨hp, g, d, tk, os⟩ := s
    obtain ⟨hl, h⟩ := h
    have f1 := AutoSeq1.idx_int
    wp_walk using wpAny_loadPart' hl
    repeat (first
      | (refine wpAny_ite_false (decide_eq_false (by rw [c0]; exact Bool.false_ne_true)) ?_; wp_walk using wpAny_loadPart' hl)
      | (refine wpAny_ite_false (decide_eq_false (by rw [c1]; exact Bool.false_ne_true)) ?_; wp_walk using wpAny_loadPart' hl)
      | (refine wpAny_ite_true (decide_eq_true (by rw [c2])) ?_; wp_walk using wpAny_loadPart' hl))
    exact ⟨_, rfl, h⟩
/-- a tuple times an int -/
def rMulT (K : PySem.W.Frag) : R2 := fun x y H Q => ∃ l k xs, x = .ref l ∧ y = .int k ∧ SqT K H l xs ∧ -1000 ≤ k ∧ k ≤ 1000 ∧ xs.length ≤ 1000 ∧
  ((xs = [] ∨ k = 1) → Q (.ref l) H) ∧ (xs ≠ [] → k ≠ 1 → ∀ p, H p = none → Q (.ref p) (upd H p (.tup (List.replicate k.toNat xs).flatten)))
theorem op_mulT : OpR X (binaryOp .Mult) (rMulT X.K) := by
  intro pins s σ H x y v u Q I rx ry h
  obtain ⟨l, k, xs, rfl, rfl, hT, h1, h2, hz, q1, q2⟩ := h
  by_cases hbig : 2 ≤ k ∧ xs ≠ []
  · exact op_repT pins s σ H _ _ v u Q I rx ry ⟨l, k, xs, rfl, rfl, hT, hbig.2, hbig.1, h2, hz, q2 hbig.2 (by omega)⟩
  · cases rx
    obtain ⟨t, rfl⟩ := ry
    obtain ⟨its, r, ⟨⟨cls, dd, data, sl⟩, ho, hc, n, hd⟩, hs⟩ := I.tuple hT
    simp only at hc hd
    subst hc hd
    have hle : its.length = xs.length := r.length.symm
    have c0 : (decide (k < -(2 ^ 63)) || decide (k ≥ 2 ^ 63)) = false := by
      rw [decide_eq_false (by omega), decide_eq_false (by omega)] <;> rfl
    refine wpAny_binaryOp_repeat_ref (T := "tuple") (U := "int") (by decide) ⟨_, ho, rfl⟩ (fun s' => typeIs_int s' k t) noFill_tuple_mul F.fills_int_mul F.slot_int_rmul repeat_tuple F.slot_int_index.lookup
      (call_meets F.slot_int_rmul (typeIs_int s k t) F.entry_int_rmul (F.args_int_rmul_2 _ _) (int_rmul_tuple k t l its.toArray n dd sl)
        ⟨ho, rfl, ⟨_, ho, rfl⟩, ?_⟩)
    by_cases hsame : xs = [] ∨ k = 1
    · have c1 : (its.toArray.isEmpty || k == 1) = true := by
        rcases hsame with e | e
        · subst e
          have e2 : its = [] := List.eq_nil_of_length_eq_zero hle
          rw [e2]; rfl
        · rw [e]; simp
      exact call_meets F.slot_tuple_mul ⟨_, ho, rfl⟩ F.entry_tuple_mul (F.args_tuple_mul_2 _ _) (mul_same l its.toArray n sl dd k t c0 c1) ⟨ho, .ref l, H, I, rfl, q1 hsame⟩
    · have hx : xs ≠ [] := fun e => hsame (.inl e)
      have hk : k ≠ 1 := fun e => hsame (.inr e)
      have hk0 : k ≤ 0 := by
        by_cases z : 2 ≤ k
        · exact absurd ⟨z, hx⟩ hbig
        · omega
      have hi : its.toArray.isEmpty = false := by
        cases its with
        | nil => exact absurd (List.eq_nil_of_length_eq_zero hle.symm) hx
        | cons a b => rfl
      have c1 : (its.toArray.isEmpty || k == 1) = false := by
        rw [hi, Bool.false_or]
        exact beq_eq_false_iff_ne.mpr hk
      have c2 : (decide (k ≤ 0) || its.toArray.isEmpty) = true := by rw [decide_eq_true hk0]; rfl
      refine call_meets F.slot_tuple_mul ⟨_, ho, rfl⟩ F.entry_tuple_mul (F.args_tuple_mul_2 _ _) (mul_none l its.toArray n sl dd k t c0 c1 c2) ⟨ho, ?_⟩
      have q := q2 hx hk
      have hk1 : k.toNat = 0 := by omega
      rw [hk1] at q
      refine ⟨.ref s.heap.objs.size, _, I.laid (t' := s.toks) (o := .tup []) (fun b ob q => Heap.get?_push_of_some _ q) (Nat.le_refl _) ?_, rfl, q _ (I.hok.fresh (Nat.le_refl _))⟩
      exact ⟨Nat.zero_le _, [], .nil, IsTup.new _ _⟩
def smallI (i : Int) : Bool := decide (-(2 ^ 64) < i ∧ i < 2 ^ 64)
def repD (xs : List D) (k : Int) : List D := (List.replicate k.toNat xs).flatten
/-- x * y; a list that comes out is never changed -/
def mulD : D → D → Mem → R D := fun x y M => match x, y with
  | .int i, .int j => if smallI i = true ∨ smallI j = true then .ok (.int (i * j)) M else .stuck
  | .tup xs, .int k => if -1000 ≤ k ∧ k ≤ 1000 ∧ xs.length ≤ 1000 then .ok (.tup (if xs = [] then [] else repD xs k)) M else .stuck
  | x, .int k => match seqOf M x with
    | some (.l xs) => if -(2 ^ 63) ≤ k ∧ k < 2 ^ 63 ∧ xs.length * k.toNat ≤ sizeLine then .ok (.frl (repD xs k)) M else .stuck
    | _ => .stuck
  | _, _ => .stuck
/-- .. may be changed -/
def mulM : D → D → Mem → R D := fun x y M => match y with
  | .int k => match seqOf M x with
    | some (.l xs) => if -(2 ^ 63) ≤ k ∧ k < 2 ^ 63 ∧ xs.length * k.toNat ≤ sizeLine then .ok (.ref M.length) (M ++ [.lst (repD xs k)]) else .stuck
    | _ => .stuck
  | _ => .stuck
def rMulM (K : PySem.W.Frag) : R2 := fun x y H Q => (rI CMul (fun i j => .int (i * j)) x y H Q ∨ rMulT K x y H Q) ∨ rRep x y H Q
theorem op_mulM : OpR X (binaryOp .Mult) (rMulM X.K) := (op_mul.or op_mulT).or op_rep
theorem Reps.rep {β : List Addr} {H : Hp} {vs : List V} {ds : List D} (r : Reps C β H vs ds) : ∀ k : Nat, Reps C β H (List.replicate k vs).flatten (List.replicate k ds).flatten
  | 0 => .nil
  | k + 1 => by
    rw [List.replicate_succ, List.replicate_succ, List.flatten_cons, List.flatten_cons]
    exact r.append (Reps.rep r k)
theorem Reps.nil_iff {β : List Addr} {H : Hp} {vs : List V} {ds : List D} (r : Reps C β H vs ds) : vs = [] ↔ ds = [] := by cases r <;> simp
theorem cmul_of {i j : Int} (h : smallI i = true ∨ smallI j = true) : CMul i j := h.imp of_decide_eq_true of_decide_eq_true
theorem rule_mul : Rule2 X C E (rMulM C.K) mulD := fun β H M x y dx dy Q S rx ry q => by
  unfold mulD at q
  split at q
  · split at q
    · rename_i h
      cases rx; cases ry
      exact .inl (.inl ⟨_, _, rfl, rfl, cmul_of h, q β H _ .refl S (.int _)⟩)
    · exact q.elim
  · split at q
    · rename_i xs k h
      cases ry
      cases rx with
      | tup a1 b1 =>
        rename_i a vs
        have ln : vs.length = xs.length := b1.length
        refine .inl (.inr ⟨a, k, vs, rfl, rfl, a1.sq, h.1, h.2.1, by omega, fun e => ?_, fun e1 e2 p hp => ?_⟩)
        · rcases e with e | e
          · have e' := b1.nil_iff.mp e
            subst e'
            exact q β H _ .refl S (.tup a1 (by rw [e]; exact .nil))
          · subst e
            refine q β H _ .refl S (.tup a1 ?_)
            by_cases z : xs = []
            · rw [if_pos z]; subst z; exact b1
            · rw [if_neg z]
              have z2 : repD xs 1 = xs := by unfold repD; rw [show (1 : Int).toNat = 1 from rfl, List.replicate_one]; simp
              rw [z2]; exact b1
        · have e1' : xs ≠ [] := fun z => e1 (b1.nil_iff.mpr z)
          rw [if_neg e1'] at q
          exact q β _ _ (grow_new hp) (S.fresh hp) (.tup ⟨⟨S.nin hp, S.nno hp⟩, upd_same⟩ ((b1.rep k.toNat).grow (grow_new hp)))
    · exact q.elim
  · cases ry
    split at q
    · rename_i xs hx
      split at q
      · rename_i h
        obtain ⟨a, vs, ev, r1, h1⟩ := seq_rep S rx hx
        have r1 : Reps C β H vs xs := r1
        exact .inr ⟨a, _, vs, ev, rfl, h1, h.1, h.2.1, by rw [r1.length]; exact h.2.2, fun p hp => q β _ _ (grow_new hp) (S.fresh hp) (.frl ⟨S.nin hp, S.nno hp⟩ upd_same ((r1.rep _).grow (grow_new hp)))⟩
      · exact q.elim
    · exact q.elim
  · exact q.elim
theorem rule_mulM : Rule2 X C E (rMulM C.K) mulM := fun β H M x y dx dy Q S rx ry q => by
  unfold mulM at q
  split at q
  · cases ry
    split at q
    · rename_i xs hx
      split at q
      · rename_i h
        obtain ⟨a, vs, ev, r1, h1⟩ := seq_rep S rx hx
        have r1 : Reps C β H vs xs := r1
        exact .inr ⟨a, _, vs, ev, rfl, h1, h.1, h.2.1, by rw [r1.length]; exact h.2.2, fun p hp => q _ _ _ (grow_add hp) (S.pushL hp (r1.rep _)) (.ref (get_last S.len))⟩
      · exact q.elim
    · exact q.elim
  · exact q.elim

/-! ### x[i], x[lo:hi], x[::-1] -/
def ixD : D → D → Mem → R D := fun x y M => match y with
  | .int i => match x with
    | .str z => if z.length ≤ sizeLine then match atI z.cps.toList i with
        | some c => .ok (.str ⟨#[c]⟩) M
        | none => .stuck
      else .stuck
    | x => match itemsOf M x with
      | some xs => match atI xs i with
        | some d => .ok d M
        | none => .stuck
      | none => .stuck
  | _ => .stuck
theorem atI_rep {β : List Addr} {H : Hp} {vs : List V} {ds : List D} {i : Int} {d : D} (r : Reps C β H vs ds) (h : atI ds i = some d) : ∃ v, atI vs i = some v ∧ Rep C β H v d := by
  unfold atI at h ⊢
  rw [r.length]
  cases e : ixN ds.length i with
  | none => rw [e] at h; cases h
  | some j =>
    rw [e, Option.bind_some] at h
    rw [Option.bind_some]
    exact r.get h
theorem rule_ix : Rule2 X C E (rIx C.K) ixD := fun β H M x y dx dy Q S rx ry q => by
  unfold ixD at q
  split at q
  · cases ry
    split at q
    · cases rx
      split at q
      · rename_i h1
        split at q
        · rename_i c h2
          exact .inr (.inr ⟨_, _, c, rfl, rfl, h1, h2, q β H _ .refl S (.str _)⟩)
        · exact q.elim
      · exact q.elim
    · split at q
      · rename_i xs hx
        split at q
        · rename_i d hd
          obtain ⟨a, vs, ev, r1, h1⟩ := items_sq S rx hx
          obtain ⟨w, e1, e2⟩ := atI_rep r1 hd
          rcases h1 with h1 | h1
          · exact .inl ⟨a, vs, _, w, ev, rfl, h1, e1, q β H w .refl S e2⟩
          · exact .inr (.inl ⟨a, vs, _, w, ev, rfl, h1, e1, q β H w .refl S e2⟩)
        · exact q.elim
      · exact q.elim
  · exact q.elim
theorem me_ix (hK : C.K = X.K) (ha : ME X C E a ma) (hb : ME X C E b mb) (hs : PlainIx b := by exact fun _ _ => rfl) : ME X C E (.Subscript a b pos) (op2 ixD ma mb) :=
  PE.mono (pe_ix ix_seq ha hb hs) fun _ _ _ h => by rw [← hK]; exact tOp_of (X := X) rule_ix h
/-- the parts of a slice -/
def mO0 : MEnv → Mem → R (Option Int) := fun _ M => .ok none M
def mO1 (m : ME') : MEnv → Mem → R (Option Int) := fun ρ M => (m ρ M).bind fun d M1 => match d with
  | .int i => .ok (some i) M1
  | _ => .stuck
def tO (C : Cf) (E : XK) (m : MEnv → Mem → R (Option Int)) : TO := fun σ H Q => ∃ β ρ M, REnv C β H ρ σ ∧ Sim C β M H ∧ Post C β H E (m ρ M) fun o M' => ∀ β' H', Grow β H β' H' → Sim C β' M' H' → Q o H'
def MO' (X : Cx) (C : Cf) (E : XK) (e : Option Expr) (m : MEnv → Mem → R (Option Int)) : Prop := PO X e (tO C E m)
theorem PO.mono {e : Option Expr} {t t' : TO} (h : PO X e t) (k : ∀ σ H Q, t' σ H Q → t σ H Q) : PO X e t' := ⟨fun p s σ H Q I q => h.run p s σ H Q I (k _ _ _ q)⟩
theorem mo_none : MO' X C E none mO0 := PO.mono po_none fun σ H Q ⟨β, ρ, M, he, hs, h⟩ => h β H .refl hs
theorem mo_some (h : ME X C E e ma) : MO' X C E (some e) (mO1 ma) := PO.mono (po_some h) fun σ H Q ⟨β, ρ, M, he, hs, h⟩ => by
  refine tE.bind he hs h fun d M1 β1 H1 v g1 he1 hs1 r1 q1 => ?_
  split at q1
  · cases r1
    exact ⟨_, rfl, q1 β1 H1 g1 hs1⟩
  · exact q1.elim
def cutD (xs : List D) (lo hi : Option Int) : List D := (xs.drop (HT.sIx xs.length 0 lo)).take (HT.sIx xs.length xs.length hi - HT.sIx xs.length 0 lo)
def slD (x : D) (lo hi : Option Int) (M : Mem) : R D := match seqOf M x with
  | some (.l xs) => .ok (.frl (cutD xs lo hi)) M
  | some (.t xs) => .ok (.tup (cutD xs lo hi)) M
  | none => .stuck
def slE (a : ME') (l h : MEnv → Mem → R (Option Int)) : ME' := fun ρ M => (a ρ M).bind fun x M1 => (l ρ M1).bind fun lo M2 => (h ρ M2).bind fun hi M3 => slD x lo hi M3
theorem cut_rep {β : List Addr} {H : Hp} {vs : List V} {ds : List D} (r : Reps C β H vs ds) (lo hi : Option Int) : Reps C β H (cutV vs lo hi) (cutD ds lo hi) := by
  unfold cutV cutD
  rw [r.length]
  exact (r.drop _).take _
def rSlM (K : PySem.W.Frag) : V → Option Int → Option Int → Hp → VK → Prop := fun x lo hi H Q => rSlL K x lo hi H Q ∨ rSlA K x lo hi H Q
theorem sl_M : SlR X (rSlM X.K) := sl_list.or sl_tupA
theorem cut_whole {α : Type} {xs : List α} {n m : Nat} (h : n = 0 ∧ m = xs.length) : (xs.drop n).take (m - n) = xs := by
  rw [h.1, h.2, List.drop_zero, Nat.sub_zero, List.take_length]
theorem rule_sl {β : List Addr} {H : Hp} {M : Mem} {x : V} {dx : D} {lo hi : Option Int} {Q : VK} (S : Sim C β M H) (rx : Rep C β H x dx) (q : Post C β H E (slD dx lo hi M) (QE C β H Q)) : rSlM C.K x lo hi H Q := by
  unfold slD at q
  split at q
  · rename_i xs hx
    obtain ⟨a, vs, ev, r1, h1⟩ := seq_rep S rx hx
    have r1 : Reps C β H vs xs := r1
    exact .inl ⟨a, vs, ev, SqL.of h1, fun p hp => q β _ _ (grow_new hp) (S.fresh hp) (.frl ⟨S.nin hp, S.nno hp⟩ upd_same ((cut_rep r1 lo hi).grow (grow_new hp)))⟩
  · rename_i xs hx
    obtain ⟨a, vs, ev, r1, h1⟩ := seq_rep S rx hx
    have r1 : Reps C β H vs xs := r1
    have h1 : OutT C β H a vs := h1
    refine .inr ⟨a, vs, ev, h1.sq, fun e => ?_, fun _ p hp => q β _ _ (grow_new hp) (S.fresh hp) (.tup ⟨⟨S.nin hp, S.nno hp⟩, upd_same⟩ ((cut_rep r1 lo hi).grow (grow_new hp)))⟩
    have e2 := q β H (.ref a) .refl S (.tup (ds := cutD xs lo hi) h1 (by
      have := cut_rep r1 lo hi
      unfold cutV at this
      rw [cut_whole e] at this
      exact this))
    exact e2
  · exact q.elim
theorem me_sl {lo hi : Option Expr} {ml mh : MEnv → Mem → R (Option Int)} (hK : C.K = X.K) (ha : ME X C E e ma) (hl : MO' X C E lo ml) (hh : MO' X C E hi mh) : ME X C E (.Subscript e (.Slice lo hi none p2) pos) (slE ma ml mh) := by
  refine PE.mono (pe_slice sl_M ha hl hh) fun σ H Q ⟨β, ρ, M, he, hs, h⟩ => ?_
  refine tE.bind he hs h fun d M1 β1 H1 v g1 he1 hs1 r1 q1 => ?_
  refine ⟨β1, ρ, M1, he1, hs1, (Post.bind.mp (q1.gE g1)).imp fun o M2 q2 β2 H2 g2 hs2 => ?_⟩
  refine ⟨β2, ρ, M2, he1.grow g2, hs2, (Post.bind.mp (q2.gE g2)).imp fun o' M3 q3 β3 H3 g3 hs3 => ?_⟩
  rw [← hK]
  exact rule_sl hs3 ((r1.grow g2).grow g3) (q3.gE g3)
def revLD : D → Mem → R D := fun x M => match seqOf M x with
  | some (.l xs) => .ok (.frl xs.reverse) M
  | _ => .stuck
theorem me_revL {k : Nat} {p1 p2 p3 : Pos} (hK : C.K = X.K) (ha : ME X C E e ma) : ME X C E (.Subscript e (.Slice none none (some (.UnaryOp .USub (.Constant (.int 1) k p1) p2)) p3) pos) (op1 revLD ma) :=
  PE.mono (pe_revL ha) fun σ H Q ⟨β, ρ, M, he, hs, h⟩ => by
    refine tE.bind he hs h fun d M1 β1 H1 v g1 he1 hs1 r1 q1 => ?_
    unfold revLD at q1
    split at q1
    · rename_i xs hx
      obtain ⟨a, vs, ev, r2, h1⟩ := seq_rep hs1 r1 hx
      have r2 : Reps C β1 H1 vs xs := r2
      exact ⟨a, vs, ev, SqL.of h1, fun p hp => q1 β1 _ _ (g1.trans (grow_new hp)) (hs1.fresh hp) (.frl ⟨hs1.nin hp, hs1.nno hp⟩ upd_same (r2.reverse.grow (grow_new hp)))⟩
    · exact q1.elim
/-! ### max(i, j), min(i, j) -/
def max2D : D → D → Mem → R D := fun x y M => match x, y with
  | .int i, .int j => .ok (.int (if j > i then j else i)) M
  | _, _ => .stuck
def min2D : D → D → Mem → R D := fun x y M => match x, y with
  | .int i, .int j => .ok (.int (if j < i then j else i)) M
  | _, _ => .stuck
theorem rule_max2 : RuleL X C E (fun xs H Q => ∃ i j, xs = [.int i, .int j] ∧ Q (.int (if j > i then j else i)) H) (g2 max2D) := fun β H M xs dxs Q S r q => by
  unfold g2 at q
  split at q
  · unfold max2D at q
    split at q
    · cases r with
      | cons a b =>
        cases b with
        | cons b c =>
          cases a; cases b; cases c
          exact ⟨_, _, rfl, q β H _ .refl S (.int _)⟩
    · exact q.elim
  · exact q.elim
theorem rule_min2 : RuleL X C E (fun xs H Q => ∃ i j, xs = [.int i, .int j] ∧ Q (.int (if j < i then j else i)) H) (g2 min2D) := fun β H M xs dxs Q S r q => by
  unfold g2 at q
  split at q
  · unfold min2D at q
    split at q
    · cases r with
      | cons a b =>
        cases b with
        | cons b c =>
          cases a; cases b; cases c
          exact ⟨_, _, rfl, q β H _ .refl S (.int _)⟩
    · exact q.elim
  · exact q.elim
end
end Mini

set_option Elab.async false
set_option linter.all false
set_option maxRecDepth 100000
set_option maxHeartbeats 4000000
/-! Mini: x[::-1] of tuples, methods of lists, stores, raise, dicts. -/
namespace Mini
open PySem PySem.Spec PyProof.Rows L2
section
variable {prog : Program} {w : World} {A : Around} {E : Value → Shared → Prop} {s : Shared}
theorem sliceApplied_back {sl : Addr} {t : Tok} {n : Nat} {Q : Int × Int × Nat → Shared → Prop} (hs : s.heap.IsSliceOf sl .none .none (.int (-1) t))
    (h : Q ((n : Int) - 1, -1, n) s) : wpAny (model prog w) A (Builtin.Slice.sliceApplied (.ref sl) (pure (n : Int))) Q E s := by
  obtain ⟨os, hos, hcs, hds⟩ := id hs
  unfold Builtin.Slice.sliceApplied Builtin.Slice.sliceFields
  refine wpAny_bind (wpAny_bind (wpAny_field hos hds (x := .none) rfl (wpAny_bind (wpAny_field hos hds (x := .none) rfl (wpAny_bind (wpAny_field hos hds (x := .int (-1) t) rfl (wpAny_pure ?_)))))))
  refine wpAny_bind (slicePart_int ?_)
  show wpAny _ _ (if ((-1 : Int) == 0) = true then _ else _) _ _ s
  rw [if_neg (by decide)]
  refine wpAny_bind (slicePart_none (wpAny_bind (slicePart_none (wpAny_bind (wpAny_pure ?_)))))
  show wpAny _ _ (match Builtin.Slice.sliceAdjust none none (-1) (n : Int) with | (lo, hi) => pure (lo, (-1 : Int), Builtin.Slice.slicePlaces lo hi (-1))) _ _ s
  have e1 : Builtin.Slice.sliceAdjust none none (-1) (n : Int) = ((n : Int) - 1, -1) := by
    unfold Builtin.Slice.sliceAdjust
    simp
  rw [e1]
  have e2 : Builtin.Slice.slicePlaces ((n : Int) - 1) (-1) (-1) = n := by
    unfold Builtin.Slice.slicePlaces
    simp <;> omega
  show wpAny _ _ (pure ((n : Int) - 1, (-1 : Int), Builtin.Slice.slicePlaces ((n : Int) - 1) (-1) (-1))) _ _ s
  rw [e2]
  exact wpAny_pure h
theorem fmap_congr {α γ : Type} {f g : α → Option γ} : ∀ {l : List α}, (∀ x ∈ l, f x = g x) → l.filterMap f = l.filterMap g
  | [], _ => rfl
  | x :: r, h => by
    rw [List.filterMap_cons, List.filterMap_cons, h x (by simp), fmap_congr fun y hy => h y (by simp [hy])]
theorem pick_back (xs : Array Value) : ((List.range xs.size).filterMap fun (m : Nat) => xs[((xs.size : Int) - 1 + (m : Int) * (-1)).toNat]?).toArray = xs.toList.reverse.toArray := by
  have h1 : ((List.range xs.size).filterMap fun (m : Nat) => xs[((xs.size : Int) - 1 + (m : Int) * (-1)).toNat]?) = (((List.range xs.size).map (fun k => xs.size - 1 - k)).filterMap (xs[·]?)) := by
    rw [List.filterMap_map]
    refine fmap_congr fun m hm => ?_
    have hm := List.mem_range.mp hm
    have e : ((xs.size : Int) - 1 + (m : Int) * (-1)).toNat = xs.size - 1 - m := by omega
    show xs[((xs.size : Int) - 1 + (m : Int) * (-1)).toNat]? = xs[xs.size - 1 - m]?
    rw [e]
  rw [h1, PySem.W.krv_range, List.filterMap_reverse, PySem.W.krv_all]
theorem getItem_tuple_rev {t sl : Addr} {items : Array Value} {k : Tok} {Q : Value → Shared → Prop} (ht : IsTup s.heap t items) (hs : s.heap.IsSliceOf sl .none .none (.int (-1) k))
    (h : Q (.ref s.heap.objs.size) { s with heap := s.heap.push { cls := .type "tuple", data := .seq items.toList.reverse.toArray } })
    (hsz : items.size ≤ sizeLine) : wpAny (model prog w) A (getItem (.ref t) (.ref sl)) Q E s := by
  have htake : sizeOk (.seq items.toList.reverse.toArray) := by
    show items.toList.reverse.toArray.size ≤ sizeLine
    rw [List.size_toArray, List.length_reverse, Array.length_toList]
    omega
  obtain ⟨os, hos, hcs, hds⟩ := id hs
  have hTs : s.TypeIs (.ref sl) "slice" := ⟨os, hos, hcs⟩
  unfold getItem
  try with_reducible refine wpAny_holding ?_
  first | refine wpAny_bind (wpAny_pure ?_) | skip
  refine wpAny_bind (wpAny_sequenceKey ht.typeIs (by decide) ?_)
  refine wpAny_bind (wpAny_callSpecial?_slot (name := Str.ofString "__getitem__") ht.typeIs PyProof.Rows.slot_tuple_getitem
    (wpAny_call_entry PyProof.Rows.slot_tuple_getitem ht.typeIs entry_tuple_getitem ?_ (args_tuple_getitem _ _)))
  show wpAny _ _ (Builtin.Tuple.tupleItemsOf (.ref t) >>= _) _ _ s
  refine wpAny_bind (PyProof.Rows.tupleItemsOf_ ht ?_)
  refine wpAny_bind (wpAny_typeOf hTs ?_)
  rw [if_pos (by decide)]
  refine wpAny_bind (sliceApplied_back hs ?_)
  have hno : ¬ ((((items.size : Int) - 1) == 0 && (-1 : Int) == 1 && items.size == items.size) = true) := by simp
  show wpAny _ _ (if ((((items.size : Int) - 1) == 0 && (-1 : Int) == 1 && items.size == items.size) = true) then _ else _) _ _ s
  rw [if_neg hno, pick_back]
  first
    | exact wpAny_bind (m := Builtin.Tuple.tupleExact _) (wpAny_newObj_type (wpAny_pure ⟨_, rfl, wpAny_pure h⟩) htake)
    | exact wpAny_bind (m := Builtin.Tuple.tupleExact _) (wpAny_newObj_type (wpAny_bind (wpAny_pure (wpAny_pure ⟨_, rfl, wpAny_pure h⟩))) htake)
    | exact wpAny_bind (wpAny_bind (m := Builtin.Tuple.tupleExact _) (wpAny_newObj_type (wpAny_pure (wpAny_pure ⟨_, rfl, wpAny_pure h⟩)) htake))
    | exact wpAny_bind (wpAny_bind (m := Builtin.Tuple.tupleExact _) (wpAny_newObj_type (wpAny_pure ⟨_, rfl, wpAny_pure h⟩) htake))
end
/-- e[::-1], a list or a tuple -/
def tRevA (K : PySem.W.Frag) (te : TE) : TE := fun σ H Q => te σ H fun x H1 => ∃ a xs, x = .ref a ∧ ((SqL K H1 a xs ∧ ∀ p, H1 p = none → Q (.ref p) (upd H1 p (.lst xs.reverse))) ∨ (SqT K H1 a xs ∧ ∀ p, H1 p = none → Q (.ref p) (upd H1 p (.tup xs.reverse))))
section
variable {X : Cx} {C : Cf} {E : XK} {e a b o : Expr} {te : TE} {ma mb mo : ME'} {pos p p2 : Pos}
theorem pe_revA {k : Nat} {p1 p2 p3 pos : Pos} (he : PE X e te) : PE X (.Subscript e (.Slice none none (some (.UnaryOp .USub (.Constant (.int 1) k p1) p2)) p3) pos) (tRevA X.K te) := by
  refine ⟨fun pins s σ H Q I h => ?_⟩
  refine Subscript_ (thn (he.run pins s σ H _ I h) fun v s1 ⟨x, H1, I1, r1, q1⟩ => ?_)
  obtain ⟨a, xs, ex, hx⟩ := q1
  subst ex
  cases r1
  have hst : PO X (some (.UnaryOp .USub (.Constant (.int 1) k p1) p2)) (tPart (tUn (rU fun i => .int (-i)) (tC (.int 1)))) := po_some (pe_un un_neg pe_int)
  refine wpAny_Slice (thn (po_none.run pins s1 σ H1 (fun o H2 => o = none ∧ H2 = H1) I1 ⟨rfl, rfl⟩) fun vl s2 ⟨l, H2, I2, pl, el, e2⟩ => ?_)
  subst el e2
  refine thn (po_none.run pins s2 σ H2 (fun o H3 => o = none ∧ H3 = H2) I2 ⟨rfl, rfl⟩) fun vu s3 ⟨u, H3, I3, pu, eu, e3⟩ => ?_
  subst eu e3
  refine thn (hst.run pins s3 σ H3 (fun o H4 => o = some (-1) ∧ H4 = H3) I3 ⟨1, rfl, -1, rfl, rfl, rfl⟩) fun vs s4 ⟨o, H4, I4, ps, eo, e4⟩ => ?_
  subst eo e4
  have I5 : Inv X pins σ H4 { s4 with heap := s4.heap.push { cls := .type "slice", data := .fields #[vl, vu, vs] } } := I4.kept (t' := s4.toks) fun b ob q => Heap.get?_push_of_some _ q
  show wpAny (model X.prog X.w) X.A (subscriptTail e (.Slice none none (some (.UnaryOp .USub (.Constant (.int 1) k p1) p2)) p3) (.ref a) (.ref s4.heap.objs.size)) (EP X pins σ Q) X.xe { s4 with heap := s4.heap.push { cls := .type "slice", data := .fields #[vl, vu, vs] } }
  rcases hx with ⟨hx, q⟩ | ⟨hx, q⟩
  · obtain ⟨its, r, ht, hz⟩ := I5.list hx
    have hlen := r.length
    refine tail_any (ops := [.ref a, .ref s4.heap.objs.size]) ht.isList.typeIs (PySem.slot_list_getitem.lookup) ?_ (by with_unfolding_all rfl)
    refine wpAny_getItem_list_slice ht.isList (Heap.IsSliceOf.new _ vl vu vs) pl pu ps (by decide) ?_ (by rw [List.size_toArray]; omega)
    rw [PySem.W.krv_pick]
    refine ⟨.ref _, _, I5.laid (t' := s4.toks) (o := .lst xs.reverse) (fun b ob q => Heap.get?_push_of_some _ q) (Nat.le_refl _) ?_, rfl, q _ (I5.hok.fresh (Nat.le_refl _))⟩
    exact ⟨by rw [List.length_reverse]; exact hz, _, 0, r.reverse, Heap.get?_push_size _ rfl⟩
  · obtain ⟨its, r, ht, hz⟩ := I5.tuple hx
    have hlen := r.length
    cases pl
    cases pu
    cases ps
    refine tail_any (ops := [.ref a, .ref s4.heap.objs.size]) ht.typeIs (PyProof.Rows.slot_tuple_getitem.lookup) ?_ (by with_unfolding_all rfl)
    refine getItem_tuple_rev ht (Heap.IsSliceOf.new _ _ _ _) ?_ (by rw [List.size_toArray]; omega)
    refine ⟨.ref _, _, I5.laid (t' := s4.toks) (o := .tup xs.reverse) (fun b ob q => Heap.get?_push_of_some _ q) (Nat.le_refl _) ?_, rfl, q _ (I5.hok.fresh (Nat.le_refl _))⟩
    exact ⟨by rw [List.length_reverse]; exact hz, _, r.reverse, IsTup.new _ _⟩
def revD : D → Mem → R D := fun x M => match seqOf M x with
  | some (.l xs) => .ok (.frl xs.reverse) M
  | some (.t xs) => .ok (.tup xs.reverse) M
  | none => .stuck
theorem me_rev {k : Nat} {p1 p2 p3 : Pos} (hK : C.K = X.K) (ha : ME X C E e ma) : ME X C E (.Subscript e (.Slice none none (some (.UnaryOp .USub (.Constant (.int 1) k p1) p2)) p3) pos) (op1 revD ma) :=
  PE.mono (pe_revA ha) fun σ H Q ⟨β, ρ, M, he, hs, h⟩ => by
    refine tE.bind he hs h fun d M1 β1 H1 v g1 he1 hs1 r1 q1 => ?_
    unfold revD at q1
    split at q1
    · rename_i xs hx
      obtain ⟨a, vs, ev, r2, h1⟩ := seq_rep hs1 r1 hx
      have r2 : Reps C β1 H1 vs xs := r2
      exact ⟨a, vs, ev, .inl ⟨SqL.of h1, fun p hp => q1 β1 _ _ (g1.trans (grow_new hp)) (hs1.fresh hp) (.frl ⟨hs1.nin hp, hs1.nno hp⟩ upd_same (r2.reverse.grow (grow_new hp)))⟩⟩
    · rename_i xs hx
      obtain ⟨a, vs, ev, r2, h1⟩ := seq_rep hs1 r1 hx
      have r2 : Reps C β1 H1 vs xs := r2
      have h1 : OutT C β1 H1 a vs := h1
      exact ⟨a, vs, ev, .inr ⟨by rw [← hK]; exact h1.sq, fun p hp => q1 β1 _ _ (g1.trans (grow_new hp)) (hs1.fresh hp) (.tup ⟨⟨hs1.nin hp, hs1.nno hp⟩, upd_same⟩ (r2.reverse.grow (grow_new hp)))⟩⟩
    · exact q1.elim

/-! ### what a list is told -/
def lstAt (M : Mem) (n : Nat) : Option (List D) := match M[n]? with
  | some (.lst xs) => some xs
  | _ => none
theorem lstAt_mem {M : Mem} {n : Nat} {xs : List D} (h : lstAt M n = some xs) : M[n]? = some (.lst xs) := by
  unfold lstAt at h
  split at h
  · cases h; assumption
  · cases h
theorem lst_there {β : List Addr} {M : Mem} {H : Hp} {n : Nat} {v : V} {xs : List D} (S : Sim C β M H) (r : Rep C β H v (.ref n)) (h : lstAt M n = some xs) :
    ∃ a vs, v = .ref a ∧ β[n]? = some a ∧ H a = some (.lst vs) ∧ Reps C β H vs xs := by
  cases r with
  | ref hb =>
    obtain ⟨a, e1, vs, h1, h2⟩ := S.obj n _ (lstAt_mem h)
    rw [hb] at e1; cases e1
    exact ⟨_, vs, rfl, hb, h1, h2⟩
theorem Sim.putL {β : List Addr} {M : Mem} {H : Hp} {n : Nat} {p : Addr} {vs0 vs : List V} {xs : List D} (S : Sim C β M H) (hn : β[n]? = some p) (h : H p = some (.lst vs0)) (r : Reps C β H vs xs) :
    Sim C β (M.set n (.lst xs)) (upd H p (.lst vs)) ∧ Grow β H β (upd H p (.lst vs)) := by
  have hm : p ∈ β := List.mem_iff_getElem?.mpr ⟨n, hn⟩
  exact ⟨S.put hn ⟨vs, upd_same, r.grow (grow_put hm)⟩ (fun ps z => by rw [h] at z; cases z) (fun φ z => by rw [h] at z; cases z), grow_put hm⟩
/-- o.append(e) -/
def appE (o e : ME') : ME' := fun ρ M => (o ρ M).bind fun x M1 => match x with
  | .ref n => match lstAt M1 n with
    | some _ => (e ρ M1).bind fun d M2 => match lstAt M2 n with
      | some xs => if xs.length < sizeLine then .ok .non (M2.set n (.lst (xs ++ [d]))) else .stuck
      | none => .stuck
    | none => .stuck
  | _ => .stuck
theorem me_append {apos cpos : Pos} (ho : ME X C E o mo) (ha : ME X C E e ma)
    (hbase : attributeBase o "append" X.env (eval o X.env) = eval o X.env := by rfl)
    (hfew : ((backTo cpos (starEach (e :: []) X.env)).all (fun x => !x.1) && (backToKw cpos (keywordEach [] X.env)).all (fun x => x.1.isSome)
      && decide ((e :: []).length + ([] : List Keyword).length + (if ([] : List Keyword).isEmpty then 0 else 1) < 30)) = true := by rfl)
    (hline : (apos.endLine == cpos.line) = true := by rfl) (hs : starEach (e :: []) X.env = (false, eval e X.env) :: starEach [] X.env := by rfl) (hplain : (backTo cpos (starEach [] X.env)).any (·.1) = false := by rfl) :
    ME X C E (.Call (.Attribute o "append" apos) [e] [] cpos) (appE mo ma) := by
  refine PE.mono (pe_bm PySem.F.plainAttrs_list PySem.F.slot_list_append PySem.F.type_list_append mt_append ho (pa_cons ha pa_nil hs) hbase hfew hline hs hplain) fun σ H Q ⟨β, ρ, M, he, hs, h⟩ => ?_
  refine tE.bind he hs h fun d M1 β1 H1 v g1 he1 hs1 r1 q1 => ?_
  split at q1
  · rename_i n
    split at q1
    · rename_i xs0 hx0
      obtain ⟨a, vs0, ev, hb, hl, _⟩ := lst_there hs1 r1 hx0
      subst ev
      refine ⟨.inl ⟨rfl, vs0, SqL.of hl⟩, ?_⟩
      refine tE.bind he1 hs1 (q1.gE g1) fun d2 M2 β2 H2 v2 g2 he2 hs2 r2 q2 => ?_
      split at q2
      · rename_i xs hx
        obtain ⟨a2, vs, ev, hb2, hl2, rs⟩ := lst_there hs2 (r1.grow g2) hx
        cases ev
        split at q2
        · rename_i hz
          obtain ⟨S', G'⟩ := hs2.putL hb2 hl2 (rs.append (.cons r2 .nil))
          exact ⟨a, vs, v2, rfl, rfl, hl2, by rw [rs.length]; exact hz, q2 β2 _ .non (g2.trans G') S' .non⟩
        · exact q2.elim
      · exact q2.elim
    · exact q1.elim
  · exact q1.elim
/-- o.pop() -/
def popE (o : ME') : ME' := fun ρ M => (o ρ M).bind fun x M1 => match x with
  | .ref n => match lstAt M1 n with
    | some xs => match xs[xs.length - 1]? with
      | some d => .ok d (M1.set n (.lst xs.dropLast))
      | none => .stuck
    | none => .stuck
  | _ => .stuck
theorem Reps.dropLast {β : List Addr} {H : Hp} {vs : List V} {ds : List D} (r : Reps C β H vs ds) : Reps C β H vs.dropLast ds.dropLast := by
  rw [List.dropLast_eq_take, List.dropLast_eq_take, r.length]
  exact r.take _
theorem me_pop {apos cpos : Pos} (ho : ME X C E o mo) (hbase : attributeBase o "pop" X.env (eval o X.env) = eval o X.env := by rfl) (hline : (apos.endLine == cpos.line) = true := by rfl) :
    ME X C E (.Call (.Attribute o "pop" apos) [] [] cpos) (popE mo) := by
  refine PE.mono (pe_bm0 PySem.F.plainAttrs_list PySem.F.slot_list_pop PySem.F.type_list_pop mt_pop ho hbase hline) fun σ H Q ⟨β, ρ, M, he, hs, h⟩ => ?_
  refine tE.bind he hs h fun d M1 β1 H1 v g1 he1 hs1 r1 q1 => ?_
  split at q1
  · rename_i n
    split at q1
    · rename_i xs hx
      split at q1
      · rename_i d hd
        obtain ⟨a, vs, ev, hb, hl, rs⟩ := lst_there hs1 r1 hx
        subst ev
        obtain ⟨w, hw, rw'⟩ := rs.get hd
        obtain ⟨S', G'⟩ := hs1.putL hb hl rs.dropLast
        exact ⟨.inl ⟨rfl, vs, SqL.of hl⟩, a, vs, w, rfl, rfl, hl, by rw [rs.length]; exact hw, q1 β1 _ w (g1.trans G') S' (rw'.grow G')⟩
      · exact q1.elim
    · exact q1.elim
  · exact q1.elim
/-- o[i] = v of a list -/
def setI (v o i : ME') : MS' := fun ρ M => (v ρ M).bind fun d M1 => (o ρ M1).bind fun x M2 => (i ρ M2).bind fun y M3 => match x, y with
  | .ref n, .int k => match lstAt M3 n with
    | some xs => match ixN xs.length k with
      | some j => .ok (.nx ρ) (M3.set n (.lst (xs.set j d)))
      | none => .stuck
    | none => .stuck
  | _, _ => .stuck
theorem ms_setI {i v : Expr} {mi mv : ME'} {spos : Pos} (hv : ME X C E v mv) (ho : ME X C E o mo) (hi : ME X C E i mi) (hsw : swapsWithSole [.Subscript o i pos] v spos.line X.env = pure false := by rfl) (hw : swappedStores [.Subscript o i pos] v X.env = pure none := by rfl)
    (h1 : (assignEach [.Subscript o i pos] X.env).map (·.2) = [assign (.Subscript o i pos) X.env] := by rfl) (ha : ∀ v, assign (.Subscript o i pos) X.env v = (do
      let ov ← holding [v] (eval o X.env)
      let iv ← holding [v, ov] (eval i X.env)
      standAt pos
      holding [v, ov, iv] (setItem ov iv v)
      release [v, ov, iv] []) := by intro _; rfl) : MS X C E (.Assign [.Subscript o i pos] v spos) (setI mv mo mi) := by
  refine PS.mono (ps_asg hv (pg_sub ho hi set_list ha) hsw hw h1) fun D σ H ⟨β, ρ, M, he, hs, h⟩ => ?_
  refine tE.bind he hs h fun d M1 β1 H1 v g1 he1 hs1 r1 q1 => ?_
  refine tE.bind he1 hs1 (Post.gS g1 q1) fun x M2 β2 H2 vx g2 he2 hs2 r2 q2 => ?_
  refine tE.bind he2 hs2 (Post.gS g2 q2) fun y M3 β3 H3 vy g3 he3 hs3 r3 q3 => ?_
  split at q3
  · rename_i n k
    split at q3
    · rename_i xs hx
      split at q3
      · rename_i j hj
        obtain ⟨a, vs, ev, hb, hl, rs⟩ := lst_there hs3 (r2.grow g3) hx
        subst ev
        cases r3
        obtain ⟨S', G'⟩ := hs3.putL hb hl (Reps.set ((r1.grow g2).grow g3) j rs)
        exact ⟨a, vs, k, j, rfl, rfl, hl, by rw [rs.length]; exact hj, q3 β3 _ σ (g3.trans G') S' (he3.grow G')⟩
      · exact q3.elim
    · exact q3.elim
  · exact q3.elim

/-! ### raise -/
def raiseS (x : Str) : MS' := fun _ M => .exc ⟨x, []⟩ M
/-- what an own class of errors without own __init__ is -/
structure ErrK (K : PySem.W.Frag) (mg : Str → Option Value) (x : Str) (Ca : Addr) : Prop where
  g : mg x = some (.ref Ca)
  x : PySem.W.excIn K Ca [.type "ValueError", .type "Exception", .type "BaseException", .type "object"] "ValueError.__new__" = true
  k : PySem.W.keepIn K (.ref Ca) = true
  b : PySem.W.subIn K (.ref Ca) (.type "BaseException") = some true
  t : PySem.W.typeIn K (.ref Ca) = some (.type "type")
theorem ms_raise {x m : Str} {j : Nat} {cpos : Pos} {Ca : Addr} (hc : X.calm = true) (tk : Takes X (fun cls d _ H => E cls d H)) (hm : C.mg = X.mg) (k : ErrK X.K X.mg x Ca) (hg : Gl X x := by rfl) (hdb : (x == ("__debug__" : Str)) = false := by decide) :
    MS X C E (.Raise (some (.Call (.Name x p) [.Constant (.str m) j p2] [] cpos)) none pos) (raiseS x) :=
  PS.mono (ps_raise hc tk (pmk_own PySem.F.excBase_ValueError k.x k.g k.k (raises_own k.b k.t) hg hdb)) fun D σ H ⟨β, ρ, M, he, hs, h⟩ =>
    h β H .refl hs _ _ ⟨Ca, by rw [hm]; exact k.g, rfl, .inl ⟨rfl, rfl⟩⟩
end
end Mini

set_option Elab.async false
set_option linter.all false
set_option maxRecDepth 100000
set_option maxHeartbeats 4000000
/-! Mini: dicts. -/
namespace Mini
open PySem PySem.Spec PyProof.Rows L2
def keyOf : D → Option Key
  | .int i => some (.inl i)
  | .str x => some (.inr x)
  | _ => none
def keysOf : List D → Option (List Key)
  | [] => some []
  | d :: ds => (keyOf d).bind fun k => (keysOf ds).map fun ks => k :: ks
def keyD : Key → D
  | .inl i => .int i
  | .inr x => .str x
def keyPy : Key → PyData
  | .inl i => .int i
  | .inr x => .str x
section
variable {κ : Type} [DecidableEq κ]
def dvalM (kvs : List (κ × D)) (k : κ) : Option D := (kvs.find? fun kv => decide (kv.1 = k)).map (·.2)
def dputM (kvs : List (κ × D)) (k : κ) (v : D) : List (κ × D) :=
  if (kvs.any fun kv => decide (kv.1 = k)) = true then kvs.map (fun kv => if kv.1 = k then (kv.1, v) else kv) else kvs ++ [(k, v)]
theorem dval_rep {C : Cf} {β : List Addr} {H : Hp} {a : List (κ × V)} {b : List (κ × D)} (r : RepK C β H a b) (k : κ) : (∀ d, dvalM b k = some d → ∃ v, valV a k = some v ∧ Rep C β H v d) ∧ (dvalM b k = none → valV a k = none) := by
  unfold RepK at r
  induction r with
  | nil => exact ⟨fun d h => (by cases h), fun _ => rfl⟩
  | @cons p q ps qs h t ih =>
    unfold dvalM valV at ih ⊢
    rw [List.find?_cons, List.find?_cons, h.1]
    by_cases e : q.1 = k
    · simp only [e, decide_true]
      exact ⟨fun d hd => ⟨p.2, rfl, by cases hd; exact h.2⟩, fun hd => by cases hd⟩
    · simp only [e, decide_false]
      exact ih
theorem any_rep {C : Cf} {β : List Addr} {H : Hp} {a : List (κ × V)} {b : List (κ × D)} (r : RepK C β H a b) (k : κ) : (a.any fun kv => decide (kv.1 = k)) = b.any fun kv => decide (kv.1 = k) := by
  unfold RepK at r
  induction r with
  | nil => rfl
  | cons h t ih => rw [List.any_cons, List.any_cons, h.1, ih]
theorem dput_rep {C : Cf} {β : List Addr} {H : Hp} {a : List (κ × V)} {b : List (κ × D)} (r : RepK C β H a b) (k : κ) {v : V} {d : D} (rv : Rep C β H v d) : RepK C β H (putK a k v) (dputM b k d) := by
  unfold putK dputM
  rw [any_rep r k]
  split
  · rename_i hh
    clear hh
    unfold RepK at r ⊢
    induction r with
    | nil => exact .nil
    | @cons p q ps qs h t ih =>
      rw [List.map_cons, List.map_cons]
      refine .cons ?_ ih
      rw [h.1]
      by_cases e : q.1 = k
      · rw [if_pos e, if_pos e]; exact ⟨rfl, rv⟩
      · rw [if_neg e, if_neg e]; exact h
  · rename_i hh
    clear hh
    unfold RepK at r ⊢
    induction r with
    | nil => exact .cons ⟨rfl, rv⟩ .nil
    | cons h t ih => exact .cons h ih
end
section
variable {C : Cf} {β : List Addr} {H : Hp}
theorem key_rep {v : V} {d : D} {k : Key} (r : Rep C β H v d) (h : keyOf d = some k) : v = kV k := by
  cases r <;> simp only [keyOf, reduceCtorEq] at h <;> cases h <;> rfl
theorem keys_rep : ∀ {vs : List V} {ds : List D} {ks : List Key}, Reps C β H vs ds → keysOf ds = some ks → vs = ks.map kV
  | _, _, _, .nil, h => by cases h; rfl
  | _, _, ks, .cons a b, h => by
    rename_i v vs d ds
    simp only [keysOf] at h
    cases h1 : keyOf d with
    | none => rw [h1] at h; cases h
    | some k =>
      cases h2 : keysOf ds with
      | none => rw [h1, h2] at h; cases h
      | some ks' =>
        rw [h1, h2] at h
        cases h
        rw [List.map_cons, ← key_rep a h1, ← keys_rep b h2]
theorem rep_keys : ∀ ks : List Key, Reps C β H (ks.map kV) (ks.map keyD)
  | [] => .nil
  | .inl i :: r => .cons (.int i) (rep_keys r)
  | .inr x :: r => .cons (.str x) (rep_keys r)
end
section
variable {X : Cx} {C : Cf} {E : XK} {e a b o : Expr} {te : TE} {ma mb mo mi mv : ME'} {pos p p2 : Pos}
/-- {}; T: its keys will be tuples -/
def dnewE (T : Bool) : ME' := fun _ M => .ok (.ref M.length) (M ++ [if T = true then .dT [] else .dK []])
theorem me_dnewT : ME X C E (.Dict [] [] pos) (dnewE true) := PE.mono pe_dnewT fun σ H Q ⟨β, ρ, M, he, hs, h⟩ p hp =>
  h _ _ _ (grow_add hp) (hs.push hp ⟨[], upd_same, .nil⟩) (.ref (get_last hs.len))
theorem me_dnewK : ME X C E (.Dict [] [] pos) (dnewE false) := PE.mono pe_dnewK fun σ H Q ⟨β, ρ, M, he, hs, h⟩ p hp =>
  h _ _ _ (grow_add hp) (hs.push hp ⟨[], upd_same, .nil⟩) (.ref (get_last hs.len))
/-- what stands under a key -/
def dgetO (x y : D) (M : Mem) : Option (Option D) := match x with
  | .ref n => match M[n]? with
    | some (.dK kvs) => (keyOf y).map fun k => dvalM kvs k
    | some (.dT kvs) => match y with
      | .tup ks => (keysOf ks).map fun k => dvalM kvs k
      | _ => none
    | _ => none
  | _ => none
theorem dget_rep {β : List Addr} {H : Hp} {M : Mem} {x y : V} {dx dy : D} {r : Option D} (S : Sim C β M H) (rx : Rep C β H x dx) (ry : Rep C β H y dy) (h : dgetO dx dy M = some r) :
    ∃ a o, x = .ref a ∧ DGet H a y o ∧ o.isSome = r.isSome ∧ ∀ d, r = some d → ∃ v, o = some v ∧ Rep C β H v d := by
  unfold dgetO at h
  split at h
  · rename_i n
    split at h
    · rename_i kvs hM
      cases rx with
      | ref hb =>
        obtain ⟨a, e1, kv, h1, h2⟩ := S.obj _ _ hM
        rw [hb] at e1; cases e1
        cases hk : keyOf dy with
        | none => rw [hk] at h; cases h
        | some k =>
          rw [hk] at h
          cases h
          have ey := key_rep ry hk
          subst ey
          have hv := dval_rep h2 k
          refine ⟨_, valV kv k, rfl, DGet.k h1, ?_, fun d hd => ?_⟩
          · cases hd : dvalM kvs k with
            | none => rw [hv.2 hd]; exact (congrArg Option.isSome hd).symm
            | some d =>
              obtain ⟨v, e, _⟩ := hv.1 d hd
              rw [e]; exact (congrArg Option.isSome hd).symm
          · exact hv.1 d hd
    · rename_i kvs hM
      split at h
      · rename_i ks
        cases rx with
        | ref hb =>
          obtain ⟨a, e1, kv, h1, h2⟩ := S.obj _ _ hM
          rw [hb] at e1; cases e1
          cases hk : keysOf ks with
          | none => rw [hk] at h; cases h
          | some k =>
            rw [hk] at h
            cases h
            cases ry with
            | tup ha hr =>
              have ev := keys_rep hr hk
              subst ev
              have hv := dval_rep h2 k
              refine ⟨_, valV kv k, rfl, DGet.t h1 ha.2, ?_, fun d hd => ?_⟩
              · cases hd : dvalM kvs k with
                | none => rw [hv.2 hd]; exact (congrArg Option.isSome hd).symm
                | some d =>
                  obtain ⟨v, e, _⟩ := hv.1 d hd
                  rw [e]; exact (congrArg Option.isSome hd).symm
              · exact hv.1 d hd
      · cases h
    · cases h
  · cases h
def dgetD : D → D → Mem → R D := fun x y M => match dgetO x y M with
  | some (some d) => .ok d M
  | _ => .stuck
theorem me_dget (hu : X.A.units + 1 < cLine) (ho : ME X C E o mo) (hi : ME X C E e ma) (hs : NoSl e := by exact fun _ _ => rfl) : ME X C E (.Subscript o e pos) (op2 dgetD mo ma) :=
  PE.mono (pe_dget hu ho hi hs) fun σ H Q ⟨β, ρ, M, he, hs, h⟩ => by
    refine tE.bind he hs h fun d M1 β1 H1 v g1 he1 hs1 r1 q1 => ?_
    refine tE.bind he1 hs1 (q1.gE g1) fun d2 M2 β2 H2 v2 g2 he2 hs2 r2 q2 => ?_
    unfold dgetD at q2
    split at q2
    · rename_i d' hd
      obtain ⟨a, o, ev, hg, _, hr⟩ := dget_rep hs2 (r1.grow g2) r2 hd
      obtain ⟨w, eo, rw'⟩ := hr _ rfl
      subst eo
      exact ⟨a, w, ev, hg, q2 β2 H2 w g2 hs2 rw'⟩
    · exact q2.elim
def inDD : D → D → Mem → R D := fun y x M => match dgetO x y M with
  | some r => .ok (.bl r.isSome) M
  | _ => .stuck
theorem me_inD (hu : X.A.units + 1 < cLine) (hi : ME X C E e ma) (ho : ME X C E o mo) (hm : behindInMarks .In o = false := by rfl) : ME X C E (.Compare e [.In] [o] pos) (op2 inDD ma mo) :=
  PE.mono (pe_cmp (pc_din hu hi ho) hm) fun σ H Q ⟨β, ρ, M, he, hs, h⟩ => by
    refine tE.bind he hs h fun d M1 β1 H1 v g1 he1 hs1 r1 q1 => ?_
    refine tE.bind he1 hs1 (q1.gE g1) fun d2 M2 β2 H2 v2 g2 he2 hs2 r2 q2 => ?_
    unfold inDD at q2
    split at q2
    · rename_i r hd
      obtain ⟨a, o, ev, hg, hi, _⟩ := dget_rep hs2 r2 (r1.grow g2) hd
      exact ⟨a, o, ev, hg, by rw [hi]; exact q2 β2 H2 _ g2 hs2 (.bl _)⟩
    · exact q2.elim
def notInDD : D → D → Mem → R D := fun y x M => match dgetO x y M with
  | some r => .ok (.bl (!r.isSome)) M
  | _ => .stuck
theorem me_notInD (hu : X.A.units + 1 < cLine) (hi : ME X C E e ma) (ho : ME X C E o mo) (hm : behindInMarks .NotIn o = false := by rfl) : ME X C E (.Compare e [.NotIn] [o] pos) (op2 notInDD ma mo) :=
  PE.mono (pe_cmp (pc_dnotin hu hi ho) hm) fun σ H Q ⟨β, ρ, M, he, hs, h⟩ => by
    refine tE.bind he hs h fun d M1 β1 H1 v g1 he1 hs1 r1 q1 => ?_
    refine tE.bind he1 hs1 (q1.gE g1) fun d2 M2 β2 H2 v2 g2 he2 hs2 r2 q2 => ?_
    unfold notInDD at q2
    split at q2
    · rename_i r hd
      obtain ⟨a, o, ev, hg, hi, _⟩ := dget_rep hs2 r2 (r1.grow g2) hd
      exact ⟨a, o, ev, hg, by rw [hi]; exact q2 β2 H2 _ g2 hs2 (.bl _)⟩
    · exact q2.elim
/-- d[y] = v -/
def dputO (x y d : D) (M : Mem) : Option Mem := match x with
  | .ref n => match M[n]? with
    | some (.dK kvs) => match keyOf y with
      | some k => if kvs.length < sizeLine then some (M.set n (.dK (dputM kvs k d))) else none
      | none => none
    | some (.dT kvs) => match y with
      | .tup ks => match keysOf ks with
        | some k => if kvs.length < sizeLine then some (M.set n (.dT (dputM kvs k d))) else none
        | none => none
      | _ => none
    | _ => none
  | _ => none
def dputS (v o i : ME') : MS' := fun ρ M => (v ρ M).bind fun d M1 => (o ρ M1).bind fun x M2 => (i ρ M2).bind fun y M3 => match dputO x y d M3 with
  | some M4 => .ok (.nx ρ) M4
  | none => .stuck
theorem ms_dput {i v : Expr} {spos : Pos} (hu : X.A.units + 1 < cLine) (hv : ME X C E v mv) (ho : ME X C E o mo) (hi : ME X C E i mi) (hsw : swapsWith v (some (.Subscript o i pos)) spos.line X.env = pure false := by rfl) :
    MS X C E (.Assign [.Subscript o i pos] v spos) (dputS mv mo mi) :=
  PS.mono (ps_dput hu ho hi hv hsw) fun D σ H ⟨β, ρ, M, he, hs, h⟩ => by
    refine tE.bind he hs h fun d M1 β1 H1 v g1 he1 hs1 r1 q1 => ?_
    refine tE.bind he1 hs1 (Post.gS g1 q1) fun x M2 β2 H2 vx g2 he2 hs2 r2 q2 => ?_
    refine tE.bind he2 hs2 (Post.gS g2 q2) fun y M3 β3 H3 vy g3 he3 hs3 r3 q3 => ?_
    have rd := (r1.grow g2).grow g3
    have rx := r2.grow g3
    split at q3
    · rename_i M4 hM4
      unfold dputO at hM4
      split at hM4
      · rename_i n
        split at hM4
        · rename_i kvs hM
          split at hM4
          · rename_i k hk
            split at hM4
            · rename_i hz
              cases hM4
              cases rx with
              | ref hb =>
                obtain ⟨a, e1, kv, h1, h2⟩ := hs3.obj _ _ hM
                rw [hb] at e1; cases e1
                have ey := key_rep r3 hk
                subst ey
                have hm : _ ∈ β3 := List.mem_iff_getElem?.mpr ⟨n, hb⟩
                refine ⟨_, _, rfl, DPut.k h1 (by rw [RepK.length h2]; exact hz), q3 β3 _ σ (g3.trans (grow_put hm)) ?_ (he3.grow (grow_put hm))⟩
                exact hs3.put hb ⟨_, upd_same, (dput_rep h2 k rd).grow (grow_put hm)⟩ (fun ps z => by rw [h1] at z; cases z) (fun φ z => by rw [h1] at z; cases z)
            · cases hM4
          · cases hM4
        · rename_i kvs hM
          split at hM4
          · rename_i ks
            split at hM4
            · rename_i k hk
              split at hM4
              · rename_i hz
                cases hM4
                cases rx with
                | ref hb =>
                  obtain ⟨a, e1, kv, h1, h2⟩ := hs3.obj _ _ hM
                  rw [hb] at e1; cases e1
                  cases r3 with
                  | tup ha hr =>
                    have ev := keys_rep hr hk
                    subst ev
                    have hm : _ ∈ β3 := List.mem_iff_getElem?.mpr ⟨n, hb⟩
                    refine ⟨_, _, rfl, DPut.t h1 ha.2 (by rw [RepK.length h2]; exact hz), q3 β3 _ σ (g3.trans (grow_put hm)) ?_ (he3.grow (grow_put hm))⟩
                    exact hs3.put hb ⟨_, upd_same, (dput_rep h2 k rd).grow (grow_put hm)⟩ (fun ps z => by rw [h1] at z; cases z) (fun φ z => by rw [h1] at z; cases z)
              · cases hM4
            · cases hM4
          · cases hM4
        · cases hM4
      · cases hM4
    · exact q3.elim

/-! ### sorted(d), list(d): the keys are tuples -/
def keyT (ks : List Key) : D := .tup (ks.map keyD)
theorem keys_tups {β : List Addr} {M : Mem} {H : Hp} (S : Sim C β M H) : ∀ {kvs : List (List Key × V)} {bs : List Addr}, IsKeys H kvs bs → Reps C β H (bs.map V.ref) (kvs.map fun kv => keyT kv.1) := fun {kvs bs} r => by
  unfold IsKeys at r
  induction r with
  | nil => exact .nil
  | @cons p b ps qs h t ih =>
    rw [List.map_cons, List.map_cons]
    refine .cons (.tup ⟨⟨fun z => ?_, fun z => ?_⟩, h⟩ (rep_keys _)) ih
    · obtain ⟨n, o, _, _, q⟩ := S.all z
      cases o with
      | lst ds => obtain ⟨vs, h1, _⟩ := q; rw [h] at h1; cases h1
      | dK ds => obtain ⟨vs, h1, _⟩ := q; rw [h] at h1; cases h1
      | dT ds => obtain ⟨vs, h1, _⟩ := q; rw [h] at h1; cases h1
      | ins c fs => obtain ⟨Ca, dx, fv, h0, h1, _⟩ := q; rw [h] at h1; cases h1
    · obtain ⟨_, xs, e⟩ := S.res _ z
      rw [h] at e; cases e
theorem reads_keys {h : Heap} : ∀ {ks : List Key} {us : List Value}, Vals (ks.map kV) us → ReadsAll h us (ks.map keyPy) []
  | [], _, .nil => .nil
  | .inl i :: r, _, .cons a b => by
    obtain ⟨t, rfl⟩ := a
    exact ReadsAll.cons (.int i t) (reads_keys b)
  | .inr i :: r, _, .cons a b => by
    obtain ⟨t, rfl⟩ := a
    exact ReadsAll.cons (.str i t) (reads_keys b)
theorem py_keys : ∀ ks : List Key, toPys (ks.map keyD) = ks.map keyPy
  | [] => by simp [toPys]
  | .inl i :: r => by simp [toPys, keyD, keyPy, toPy, py_keys r]
  | .inr i :: r => by simp [toPys, keyD, keyPy, toPy, py_keys r]
def rSortDT : List V → Hp → VK → Prop := fun xs H Q => ∃ (d : Addr) (kvs : List (List Key × V)), xs = [V.ref d] ∧ Rd H d (.dT kvs) ∧ sortOk (kvs.map fun kv => keyT kv.1) = true ∧
  ∀ p bs, H p = none → IsKeys H kvs bs → Q (.ref p) (upd H p (.lst ((sortP (bs.map V.ref) (kvs.map fun kv => keyT kv.1)).map Prod.fst)))
theorem call_sortedDT (hc : X.calm = true) (hu : X.A.units + 128 < cLine) : CallR X (.builtin "sorted") rSortDT := by
  intro pins s σ H xs us Q I r h
  obtain ⟨d, kvs, rfl, hd, ok, q⟩ := h
  obtain ⟨k1, k2, k3, k4⟩ := sortOk_all ok
  obtain ⟨u, rfl, rx⟩ := r.one
  cases rx
  obtain ⟨z, hs, ks, pr, o, es, ep, ho, hx, hdt, he, hn⟩ := (show ObjOk X.prog X.w H s.heap d (.dT kvs) from hd.ok I.hok)
  have l1 : es.size = ks.length := size_of_entries he
  have l2 : kvs.length = ks.length := Paired.length pr
  refine Calls.call_function_entry PyProof.Rows.kind_sorted PyProof.Rows.plain_sorted PyProof.Rows.entry_sorted (PyProof.Rows.args_sorted1 _) ?_
  unfold Builtin.«sorted»
  refine wpAny_bind (m := checkCount "sorted" 1 1 _) (wpAny_pure ?_)
  refine wpAny_bind (PySem.W.kdu_collect (A := X.A.in1) (kdl_raw hs hx hdt) (I.ok.hd hc) ho (by omega) fun h' tk acc' kp it => ?_)
  have ea : acc'.toList = ks.map fun x => Value.ref x.2.1 := by
    have hl : acc'.toList.length = ks.length := by rw [Array.length_toList, it.1]; exact l1
    apply List.ext_getElem?
    intro j
    rw [List.getElem?_map]
    cases hj : acc'.toList[j]? with
    | none =>
      have h1 := List.getElem?_eq_none_iff.mp hj
      rw [List.getElem?_eq_none (by omega)]
      all_goals rfl
    | some v =>
      obtain ⟨en, hen, hv⟩ := it.2 j v (by rw [← Array.getElem?_toList]; exact hj)
      have qe := entry_at he j
      rw [hen] at qe
      cases hb : ks[j]? with
      | none =>
        rw [hb] at qe
        exact nomatch (show some en = none from qe)
      | some b =>
        rw [hb] at qe
        have e2 : en = entryOfKey (tupleKind (mixKind X.prog X.w)) b := Option.some.inj qe
        rw [hv, e2]
        all_goals rfl
  have isk : IsKeys H kvs (ks.map fun x => x.2.1) := isKeys_of pr
  generalize hbs : (ks.map fun x => x.2.1) = bs at isk
  have eb : acc'.toList = bs.map Value.ref := by rw [ea, ← hbs, List.map_map]; all_goals rfl
  have lb : bs.length = kvs.length := by rw [← hbs, List.length_map, l2]
  have I1 : Inv X pins σ H { s with heap := h', toks := tk } := I.kept kp
  rw [eb]
  have hzz : (bs.map Value.ref).length ≤ sizeLine := by rw [List.length_map, lb]; omega
  refine wpAny_bind (wpAny_newList ?_ hzz)
  have hoL : (h'.push (seqObj "list" (bs.map Value.ref).toArray 0)).get? h'.objs.size = some (seqObj "list" (bs.map Value.ref).toArray 0) := Heap.get?_push_size _ rfl
  show wpAny _ _ _ _ _ { s with heap := h'.push (seqObj "list" (bs.map Value.ref).toArray 0), toks := tk }
  -- the items
  have items : PySem.W.EachIs (fun u (b : V × D) => RelV b.1 u) (bs.map Value.ref) ((bs.map V.ref).zip (kvs.map fun kv => keyT kv.1)) ∧
      PySem.W.EachIs (fun u (b : V × D) => ∃ as, Reads (h'.push (seqObj "list" (bs.map Value.ref).toArray 0)) u (toPy b.2) as ∧ h'.objs.size ∉ as) (bs.map Value.ref) ((bs.map V.ref).zip (kvs.map fun kv => keyT kv.1)) := by
    clear q hbs eb hzz hoL ea it
    unfold IsKeys at isk
    generalize hh : h'.push (seqObj "list" (bs.map Value.ref).toArray 0) = hp
    have keep : ∀ b o, h'.get? b = some o → hp.get? b = some o := fun b o e => by rw [← hh]; exact Heap.get?_push_of_some _ e
    clear hh
    clear k1 k2 k3 k4 ok pr hd l2 lb z
    induction isk with
    | nil => exact ⟨.nil, .nil⟩
    | @cons p b ps qs hb t ih =>
      rw [List.map_cons, List.map_cons, List.map_cons, List.zip_cons_cons]
      refine ⟨.cons rfl ih.1, .cons ⟨[], ?_, by simp⟩ ih.2⟩
      obtain ⟨_, its, rv, o2, g1, g2, n, g3⟩ := (show ObjOk X.prog X.w H h' b (.tup (p.1.map kV)) from I1.hok b _ hb)
      show Reads hp (.ref b) (toPy (.tup (p.1.map keyD))) []
      simp only [toPy]
      rw [py_keys]
      exact Reads.tuple (keep _ _ g1) g2 g3 (reads_keys (by simpa using rv))
  have em : ((bs.map V.ref).zip (kvs.map fun kv => keyT kv.1)).map (fun b => toPy b.2) = (kvs.map fun kv => keyT kv.1).map toPy := by
    rw [show (fun b : V × D => toPy b.2) = toPy ∘ Prod.snd from rfl, ← List.map_map, List.map_snd_zip (by rw [List.length_map, List.length_map, lb]; exact Nat.le_refl _)]
  have lz : ((bs.map V.ref).zip (kvs.map fun kv => keyT kv.1)).length = kvs.length := by rw [List.length_zip, List.length_map, List.length_map, lb, Nat.min_self]
  refine wpAny_bind (wpAny_holding (PySem.W.list_sort_data (enc := fun b : V × D => toPy b.2) hoL items.1 items.2 (by rw [em]; exact k2) (by rw [em]; exact k3) (by rw [lz]; exact z) (fun b hb => ?_) fun out hlen eo => ?_))
  · have hb2 : b.2 ∈ (kvs.map fun kv => keyT kv.1) := (List.of_mem_zip (a := b.1) (b := b.2) hb).2
    have := depDs_mem hb2
    rw [dep_py]
    show X.A.in1.units + 1 + depD b.2 < cLine
    have : X.A.in1.units = X.A.units + 1 := rfl
    omega
  · have hv : Vals ((sortP (bs.map V.ref) (kvs.map fun kv => keyT kv.1)).map Prod.fst) out := each_vals eo
    obtain ⟨e', he'⟩ := PyProof.Rows.sortedHeap_at (vs := bs.map Value.ref) (out := out.toArray) hoL
    refine wpAny_pure ⟨_, rfl, .ref h'.objs.size, _, I1.laid (t' := tk) (o := .lst ((sortP (bs.map V.ref) (kvs.map fun kv => keyT kv.1)).map Prod.fst)) (fun b u e => ?_) (Nat.le_refl _) ⟨?_, out, e', hv, he'⟩, rfl, q _ bs (I1.hok.fresh (Nat.le_refl _)) isk⟩
    · have hb : b < h'.objs.size := Heap.lt_size e
      rw [PyProof.Rows.sortedHeap_old (Nat.ne_of_lt hb) (by rw [size_push']; exact Nat.lt_succ_of_lt hb)]
      exact Heap.get?_push_of_some _ e
    · rw [hv.length, hlen, lz]; exact z
end
end Mini

set_option Elab.async false
set_option linter.all false
set_option maxRecDepth 100000
set_option maxHeartbeats 4000000
/-! Mini: defs of the head's data; a lambda handed to a def that tells its error's word. -/
namespace Mini
open PySem PySem.Spec PyProof.Rows L2
section
variable {P : Program} {w : World} {K : PySem.W.Frag} {mg : Str → Option Value} {base : Heap} {T : List (Addr × Str)} {k : Nat} {x : Str} {f : Addr} {fd : FuncData} {ps : List Str} {m : Fn}
/-- THE RULE for a def that the head tells -/
theorem fn_okD {qual : Str} {args : Arguments} {body : List Stmt} {scope : Scope} {N : List Str} {b : MS'} (F : FunD K x qual args body scope [] [] f fd) (S : FnScope N ps scope) (gm : mg x = some (.ref f)) (bd : Binds K fd ps [])
    (hb : ∀ (no : List Addr) (cdv : Value) (A : Around) (outer : List Env) (s : Shared) (H : Hp) (E : XK), (∃ oc od osl, K.lookup f = some ⟨oc, od, .func fd, osl⟩ ∧ fd.code = cdv ∧ PySem.W.codeIn K cdv qual = true) → Room k (A.deeper (envOfC qual scope s.heap.objs.size f cdv)) →
      Passes (L2.CX P w) (cxOf (L2.CX P w) P w K mg base N qual scope f cdv A outer s H E) E →
      PassesOwn (model P w) (A.deeper (envOfC qual scope s.heap.objs.size f cdv)) (envOfC qual scope s.heap.objs.size f cdv) (cxOf (L2.CX P w) P w K mg base N qual scope f cdv A outer s H E).xe →
      Takes (cxOf (L2.CX P w) P w K mg base N qual scope f cdv A outer s H E) (fun cls d _ H => E cls d H) →
      MSs (cxOf (L2.CX P w) P w K mg base N qual scope f cdv A outer s H E) ⟨K, mg, T, no⟩ E body b) : FM P w K mg base T (k + 1) x f fd ps (fnM N.length ps.length b) := by
  refine ⟨?_, ar_fn, gm, F.kp, bd⟩
  obtain ⟨oc, od, dV, kV, doc, pm, an, cdv, ct, osl, rfl, lk, hcd, _, _⟩ := F.ex
  refine fn_of lk hcd S (fun vs H Q E h => h.1) (fun A outer s H vs Q E hr h => ?_)
  obtain ⟨hl, no, β, ds, M, r, hs, h⟩ := h
  have tk := takes_of (X := cxOf (L2.CX P w) P w K mg base N qual scope f cdv A outer s H E) (E := E) rfl rfl rfl rfl
  refine ⟨_, hb no cdv A outer s H E ⟨_, _, _, lk, rfl, hcd⟩ hr (passes_call tk fun _ _ _ _ h => h) (passes_of rfl) tk, β, startD N.length ds, M, renv_start r, hs, ?_⟩
  unfold fnM at h
  rw [if_pos (by rw [← r.length]; exact hl)] at h
  refine (Post.bind.mp h).imp fun fl M1 q => ?_
  cases fl with
  | nx ρ1 => exact fun β' H' σ' g s' _ => q β' H' .non g s' .non
  | rt d => exact q
end

/-! ### beside the tables -/
theorem Grow.extN {β : List Addr} {H H1 : Hp} (e : LamX.ExtN H H1) : Grow β H β H1 := ⟨⟨[], by simp, by simp⟩, fun b o _ h n => e b o h n, fun b o h n => ⟨o, e b o h n, n⟩⟩
theorem ObjR.nt {C : Cf} {β : List Addr} {H : Hp} {a : Addr} {o : MO} (h : ObjR C β H a o) : ∃ u, H a = some u ∧ ∀ ps, u ≠ .tbl ps := by
  cases o with
  | lst ds => obtain ⟨vs, h1, h2⟩ := h; exact ⟨_, h1, fun _ z => by cases z⟩
  | dK ds => obtain ⟨vs, h1, h2⟩ := h; exact ⟨_, h1, fun _ z => by cases z⟩
  | dT ds => obtain ⟨vs, h1, h2⟩ := h; exact ⟨_, h1, fun _ z => by cases z⟩
  | ins c fs => obtain ⟨Ca, dx, fv, h0, h1, h2⟩ := h; exact ⟨_, h1, fun _ z => by cases z⟩
theorem Sim.extN {C : Cf} {β : List Addr} {M : Mem} {H H1 : Hp} (S : Sim C β M H) (e : LamX.ExtN H H1) (t : LamX.Tabs C.T H1) : Sim C β M H1 :=
  ⟨S.len, S.nd, fun n o hn => by
    obtain ⟨a, ha, q⟩ := S.obj n o hn
    obtain ⟨u, hu, n⟩ := q.nt
    exact ⟨a, ha, q.grow (Grow.extN e) (by rw [hu]; exact e _ _ hu n)⟩, t, S.res_grow (Grow.extN e)⟩

/-! ### the word of an error -/
/-- -1 without an error, else ans of its class -/
def wordR (ans : Str → Option Int) : R D → R D
  | .ok _ M => .ok (.int (-1)) M
  | .exc x M => if x.fs.isEmpty = true then match ans x.cls with
      | some i => .ok (.int i) M
      | none => .stuck
    else .stuck
  | .stuck => .stuck
def wordE (ans : Str → Option Int) (m : ME') : ME' := fun ρ M => wordR ans (m ρ M)
def wishW (A : Value → Option Addr → Int → Prop) (Q : VK) : XK := fun cls d H' => ∃ i, A cls d i ∧ ∀ H'', (∀ b o, H' b = some o → H'' b = some o) → Q (.int i) H''
def TTw (A : Value → Option Addr → Int → Prop) : (XK → Hp → VK → Prop) → Hp → VK → Prop := fun tl H Q => tl (wishW A Q) H fun _ H' => Q (.int (-1)) H'
/-- the def that is handed the lambda -/
structure WordF (K : PySem.W.Frag) (mg : Str → Option Value) (x a : Str) (pg : Arguments) (bg : List Stmt) (sg : Scope) (Ng : List Str) (g : Addr) (fd : FuncData) : Prop where
  F : FunD K x x pg bg sg [] [] g fd
  gm : mg x = some (.ref g)
  bd : Binds K fd [a] []
  sc : FnScope Ng [a] sg
  n0 : Ng[0]? = some a
  va : Vis sg a
section
variable {X : Cx}
theorem passes_lam {scope : Scope} {A : Around} {outer : List Env} {s : Shared} {H : Hp} {E : XK} {f c' : Addr} : Passes (L2.CX X.prog X.w) (LamX.lamCx X A outer s H E scope f c') E :=
  passes_call (takes_of (X := LamX.lamCx X A outer s H E scope f c') (E := E) rfl rfl rfl rfl) fun _ _ _ _ h => h
theorem lam_of {no : List Addr} {T : List (Addr × Str)} {A : Value → Option Addr → Int → Prop} {ans : Str → Option Int} (hans : ∀ y i D, X.mg y = some (.ref D) → ans y = some i → A (.ref D) none i) {E : XK} {mb : ME'} {σ : L2.St} {H : Hp} {Q : VK}
    (h : tE ⟨X.K, X.mg, T, no⟩ E (wordE ans mb) σ H Q) : LamX.tLam T (TTw A) (fun E => tE ⟨X.K, X.mg, T, no⟩ E mb) σ H Q := by
  obtain ⟨β, ρ, M, he, hs, h⟩ := h
  refine ⟨hs.tabs, fun H1 e1 t1 => ?_⟩
  have g1 : Grow β H β H1 := Grow.extN e1
  refine ⟨β, ρ, M, he.grow g1, hs.extN e1 t1, ?_⟩
  have h : Post ⟨X.K, X.mg, T, no⟩ β H E (wordR ans (mb ρ M)) (QE ⟨X.K, X.mg, T, no⟩ β H Q) := h
  cases hm : mb ρ M with
  | ok d M1 =>
    rw [hm] at h
    exact fun β' H' v g s r => h β' H' (.int (-1)) (g1.trans g) s (.int _)
  | stuck => rw [hm] at h; exact h.elim
  | exc x M1 =>
    rw [hm] at h
    intro β' H' g s cls dx hx
    have h : Post ⟨X.K, X.mg, T, no⟩ β H E (if x.fs.isEmpty = true then (match ans x.cls with
      | some i => R.ok (.int i) M1
      | none => .stuck) else .stuck) (QE ⟨X.K, X.mg, T, no⟩ β H Q) := h
    by_cases hf : x.fs.isEmpty = true
    · rw [if_pos hf] at h
      cases hi : ans x.cls with
      | none => rw [hi] at h; exact h.elim
      | some i =>
        rw [hi] at h
        obtain ⟨a, hg, rfl, hfs⟩ := hx
        have hd : dx = none := by
          rcases hfs with ⟨_, e⟩ | ⟨z, _⟩
          · exact e
          · exact absurd (List.isEmpty_iff.mp hf) z
        subst hd
        refine ⟨i, hans _ _ _ hg hi, fun H'' e2 => ?_⟩
        have en : LamX.ExtN H' H'' := fun b o e _ => e2 b o e
        have t2 : LamX.Tabs T H'' := s.tabs.ext e2
        exact h β' H'' (.int i) ((g1.trans g).trans (Grow.extN en)) (s.extN en t2) (.int _)
    · rw [if_neg hf] at h
      exact h.elim
/-- x(lambda: body) -/
theorem me_word {no : List Addr} {T : List (Addr × Str)} {A : Value → Option Addr → Int → Prop} {ans : Str → Option Int} {E : XK} {mb : ME'} {x a : Str} {g c P : Addr} {k : Nat} {pg : Arguments} {bg : List Stmt} {sg : Scope} {Ng : List Str} {fd : FuncData}
    {params : Arguments} {body : Expr} {scope : Scope} {p lpos pos : Pos} (Wd : WordF X.K X.mg x a pg bg sg Ng g fd) (hans : ∀ y i D, X.mg y = some (.ref D) → ans y = some i → A (.ref D) none i)
    (hG : ∀ cdv, LamX.GivesTo X Ng x sg g cdv bg a (X.env.qual ++ "<lambda>") (TTw A)) (TB : LamX.TabB X.base X.mg c P) (hcode : X.env.code = .ref c) (hmT : (P, X.env.qual ++ "<lambda>") ∈ T) (hu : ∀ p ∈ T, p.1 = P → p.2 = X.env.qual ++ "<lambda>") (hr : Room (k + 2) X.A)
    (hbody : ∀ (A : Around) (outer : List Env) (s : Shared) (H : Hp) (E : XK) (f c' : Addr), Room k (A.deeper (LamX.lamEnv X scope s.heap.objs.size f c')) → Passes (L2.CX X.prog X.w) (LamX.lamCx X A outer s H E scope f c') E → ME (LamX.lamCx X A outer s H E scope f c') ⟨X.K, X.mg, T, no⟩ E body mb)
    (L : LamX.LamS X.env.scope scope := by exact LamX.lamS_by (by decide +kernel)) (hg : Gl X x := by rfl) (hdef : defaultsOf params X.env = ([], []) := by rfl)
    (hbind : ∀ (q : Str) (cl : List (Str × Addr)) (pm cv ctv : Value), bindArgs (PySem.W.kla_fn "<lambda>" q params body scope cl pm cv ctv) ⟨[], []⟩ = pure [] := by intros; rfl)
    (hdb : (x == ("__debug__" : Str)) = false := by decide) (hd : (a == ("__debug__" : Str)) = false := by decide) (hcd : (a == ("__classdict__" : Str)) = false := by decide) :
    ME X ⟨X.K, X.mg, T, no⟩ E (.Call (.Name x p) [.Lambda params body scope lpos] [] pos) (wordE ans mb) := by
  obtain ⟨oc, od, dV, kV, doc, pm, an, cdv, ct, osl, rfl, lk, hcg, _, _⟩ := Wd.F.ex
  exact PE.mono (LamX.pe_lamcall (T := T) hg Wd.gm Wd.F.kp lk hcg Wd.bd Wd.sc Wd.n0 Wd.va (hG cdv) TB hcode hmT hu hr L hdef hbind (fun A outer s H E f c' hr2 => hbody A outer s H E f c' hr2 passes_lam) hdb hd hcd) fun _ _ _ h => lam_of hans h
end
end Mini

set_option Elab.async false
set_option linter.all false
set_option maxRecDepth 100000
set_option maxHeartbeats 4000000
/-! Mini: sorted(d); the def that tells an error's word, one class. -/
namespace Mini
open PySem PySem.Spec PyProof.Rows L2
section
variable {X : Cx} {C : Cf} {E : XK}
/-- sorted(d), d with tuples as keys -/
def sortDT (x : D) (M : Mem) : R D := match x with
  | .ref n => match M[n]? with
    | some (.dT kvs) => if sortOk (kvs.map fun kv => keyT kv.1) = true then .ok (.frl (sortL (kvs.map fun kv => keyT kv.1))) M else .stuck
    | _ => .stuck
  | _ => .stuck
theorem repK_keys {κ : Type} {β : List Addr} {H : Hp} {a : List (κ × V)} {b : List (κ × D)} (r : RepK C β H a b) : a.map (·.1) = b.map (·.1) := by
  unfold RepK at r
  induction r with
  | nil => rfl
  | cons h t ih => rw [List.map_cons, List.map_cons, h.1, ih]
theorem rule_sortDT : Rule1 X C E rSortDT sortDT := fun β H M x dx Q S rx q => by
  unfold sortDT at q
  split at q
  · rename_i n
    split at q
    · rename_i kvs hM
      split at q
      · rename_i ok
        cases rx with
        | ref hb =>
          obtain ⟨a, e1, kv, h1, h2⟩ := S.obj _ _ hM
          rw [hb] at e1; cases e1
          have ek : (kv.map fun kv => keyT kv.1) = kvs.map fun kv => keyT kv.1 := by
            have e := congrArg (List.map keyT) (repK_keys h2)
            rw [List.map_map, List.map_map] at e
            exact e
          refine ⟨_, kv, rfl, Rd.of h1, by rw [ek]; exact ok, fun p bs hp ik => ?_⟩
          rw [ek]
          have rb : Reps C β H (bs.map V.ref) (kvs.map fun kv => keyT kv.1) := by rw [← ek]; exact keys_tups S ik
          have rr : Reps C β H ((sortP (bs.map V.ref) (kvs.map fun kv => keyT kv.1)).map Prod.fst) (sortL (kvs.map fun kv => keyT kv.1)) := by
            rw [← sortP_snd rb.length]
            exact reps_zip fun b hb => zip_rep rb b (List.mem_mergeSort.mp hb)
          exact q β _ _ (grow_new hp) (S.fresh hp) (.frl ⟨S.nin hp, S.nno hp⟩ upd_same (rr.grow (grow_new hp)))
      · exact q.elim
    · exact q.elim
  · exact q.elim
/-- xs.count(x), flat items -/
def rCntV (K : PySem.W.Frag) : V → List V → Hp → VK → Prop := fun x xs H Q => ∃ (p : Addr) (ys : List V) (y : V), x = .ref p ∧ xs = [y] ∧ SqL K H p ys ∧ flatV y = true ∧ ys.all flatV = true ∧ Q (.int ((ys.countP fun z => eqV z y : Nat) : Int)) H
theorem count_eqU {x : V} : ∀ {xs : List V} {us : List Value}, Vals xs us → xs.all flatV = true → us.countP (eqU x) = xs.countP fun y => eqV y x
  | _, _, .nil, _ => rfl
  | y :: xs, u :: us, .cons r t, f => by
    rw [List.all_cons, Bool.and_eq_true] at f
    rw [List.countP_cons, List.countP_cons, eqU_of r f.1, count_eqU t f.2]
theorem mt_countV : MtR X "list.count" (rCntV X.K) := by
  intro pins s σ H x xs v us Q I rx rxs h
  obtain ⟨p, ys, y, rfl, rfl, hs, fy, fys, q⟩ := h
  cases rx
  obtain ⟨u, rfl, ru⟩ := rxs.one
  obtain ⟨its, rv, ⟨⟨cls, dd, data, sl⟩, n, ho, hc, hdn, hd⟩, hlen⟩ := I.list hs
  simp only at hc hd
  subst hc hd
  refine call_meets PySem.F.slot_list_count ⟨_, ho, rfl⟩ PySem.F.entry_list_count (PySem.F.args_list_count_2 _ _)
    (SeqAt.list_countAt p its.toArray n dd sl u (eqU y)) ⟨ho, fun w hw => mem_eqAt ru fy rv fys w (by simpa using hw), ?_⟩
  have ec : its.toArray.toList.countP (eqU y) = ys.countP fun z => eqV z y := count_eqU rv fys
  refine ⟨.int ((ys.countP fun z => eqV z y : Nat) : Int), H, I.tok _, ⟨s.toks, ?_⟩, q⟩
  show Value.int ((its.toArray.toList.countP (eqU y) : Nat) : Int) s.toks = _
  rw [ec]
end
/-! ### the word, one class -/
def Ans1 (K : PySem.W.Frag) (ke ip : Addr) : Value → Option Addr → Int → Prop := fun cls d i => ∃ (D : Addr) (b : Bool), cls = .ref D ∧ d = none ∧ PySem.W.exmOne K (.ref D) (.ref ke) = some true ∧ ExcC K D ∧ PySem.W.kitOne K (.ref D) (.ref ip) = some b ∧
  PySem.W.kitOne K (.ref D) (.type "ValueError") = some true ∧ i = if b = true then 1 else 0
/-- what is known of an error's class D -/
structure ErrW (K : PySem.W.Frag) (D ke ip : Addr) (b : Bool) : Prop where
  exm : PySem.W.exmOne K (.ref D) (.ref ke) = some true
  ec : ExcC K D
  kip : PySem.W.kitOne K (.ref D) (.ref ip) = some b
  kve : PySem.W.kitOne K (.ref D) (.type "ValueError") = some true
theorem ErrW.ans {K : PySem.W.Frag} {D ke ip : Addr} {b : Bool} (h : ErrW K D ke ip b) : Ans1 K ke ip (.ref D) none (if b = true then 1 else 0) := ⟨D, b, rfl, rfl, h.exm, h.ec, h.kip, h.kve, rfl⟩
/-! ### for the printed texts -/
def maxD : D → Mem → R D := bestM maxL
def minD : D → Mem → R D := bestM minL
section
variable {X : Cx} {C : Cf} {E : XK}
theorem rule_maxD : Rule1 X C E (rBest C.K fun x y => ltv y x) maxD := rule_best
theorem rule_minD : Rule1 X C E (rBest C.K ltv) minD := rule_best
end
/-- x + y of lists; the new one may be changed -/
def addM : D → D → Mem → R D := fun x y M => match seqOf M x, seqOf M y with
  | some (.l xs), some (.l ys) => if xs.length + ys.length ≤ sizeLine then .ok (.ref M.length) (M ++ [.lst (xs ++ ys)]) else .stuck
  | _, _ => .stuck
theorem rule_addM {X : Cx} {C : Cf} {E : XK} : Rule2 X C E (rAddM C.K) addM := fun β H M x y dx dy Q S rx ry q => by
  unfold addM at q
  split at q
  · rename_i xs ys e1 e2
    split at q
    · rename_i h
      obtain ⟨a, vs, ev, r1, h1⟩ := seq_rep S rx e1
      obtain ⟨b, ws, ew, r2, h2⟩ := seq_rep S ry e2
      have l1 : vs.length = xs.length := r1.length
      have l2 : ws.length = ys.length := r2.length
      exact .inr ⟨a, b, vs, ws, ev, ew, h1, h2, by omega, fun p hp => q _ _ _ (grow_add hp) (S.pushL hp (r1.append r2)) (.ref (get_last S.len))⟩
    · exact q.elim
  · exact q.elim
theorem gr_tupK {C : Cf} {K : PySem.W.Frag} {g : TGs} {p : Pats} {n : Nat} {is : List Nat} (hK : C.K = K) (a : GRs C g p is) : GR C (gTup K n g) (pT n p) is := by
  subst hK
  exact gr_tup a
/-! ### x in xs, flat items -/
def flatD : D → Bool
  | .non => true
  | .bl _ => true
  | .int _ => true
  | .str _ => true
  | _ => false
section
variable {X : Cx} {C : Cf} {E : XK}
theorem flat_rep {β : List Addr} {H : Hp} {v : V} {d : D} (r : Rep C β H v d) (h : flatD d = true) : flatV v = true := by cases r <;> first | rfl | cases h
theorem flats_rep {β : List Addr} {H : Hp} : ∀ {vs : List V} {ds : List D}, Reps C β H vs ds → ds.all flatD = true → vs.all flatV = true
  | _, _, .nil, _ => rfl
  | _, _, .cons a b, h => by
    rw [List.all_cons, Bool.and_eq_true] at h ⊢
    exact ⟨flat_rep a h.1, flats_rep b h.2⟩
theorem eqV_rep {β : List Addr} {H : Hp} {v u : V} {d e : D} (r : Rep C β H v d) (r' : Rep C β H u e) (h : flatD d = true) (h' : flatD e = true) : eqV v u = eqvD d e := by
  cases r <;> first | (cases h; done) | (cases r' <;> first | (cases h'; done) | rfl | simp [eqV, eqvD])
theorem inV_rep {β : List Addr} {H : Hp} {x : V} {dx : D} (r : Rep C β H x dx) (h : flatD dx = true) : ∀ {vs : List V} {ds : List D}, Reps C β H vs ds → ds.all flatD = true → inV x vs = ds.any fun d => eqvD d dx
  | _, _, .nil, _ => rfl
  | _, _, .cons a b, hh => by
    rw [List.all_cons, Bool.and_eq_true] at hh
    have ih := inV_rep r h b hh.2
    unfold inV at ih ⊢
    rw [List.any_cons, List.any_cons, eqV_rep a r hh.1 h, ih]
def inD : D → D → Mem → R D := fun x y M => match itemsOf M y with
  | some ds => if flatD x = true ∧ ds.all flatD = true then .ok (.bl (ds.any fun d => eqvD d x)) M else .stuck
  | none => .stuck
def notInD : D → D → Mem → R D := fun x y M => match itemsOf M y with
  | some ds => if flatD x = true ∧ ds.all flatD = true then .ok (.bl (!ds.any fun d => eqvD d x)) M else .stuck
  | none => .stuck
theorem op_inM (hu : X.A.units + 64 < cLine) : OpR X (compareOp .In) (rIn X.K false) := op_in_seq
theorem op_notInM (hu : X.A.units + 64 < cLine) : OpR X (compareOp .NotIn) (rIn X.K true) := op_notIn_seq
theorem rule_in : Rule2 X C E (rIn C.K false) inD := fun β H M x y dx dy Q S rx ry q => by
  unfold inD at q
  split at q
  · rename_i ds hd
    split at q
    · rename_i hf
      obtain ⟨a, vs, ev, r1, h1⟩ := items_sq S ry hd
      refine ⟨a, vs, ev, h1, flat_rep rx hf.1, flats_rep r1 hf.2, ?_⟩
      rw [if_neg Bool.false_ne_true, inV_rep rx hf.1 r1 hf.2]
      exact q β H _ .refl S (.bl _)
    · exact q.elim
  · exact q.elim
theorem rule_notIn : Rule2 X C E (rIn C.K true) notInD := fun β H M x y dx dy Q S rx ry q => by
  unfold notInD at q
  split at q
  · rename_i ds hd
    split at q
    · rename_i hf
      obtain ⟨a, vs, ev, r1, h1⟩ := items_sq S ry hd
      refine ⟨a, vs, ev, h1, flat_rep rx hf.1, flats_rep r1 hf.2, ?_⟩
      rw [if_pos rfl, inV_rep rx hf.1 r1 hf.2]
      exact q β H _ .refl S (.bl _)
    · exact q.elim
  · exact q.elim
end
theorem units64 {k : Nat} {A : Around} (r : Room k A) : A.units + 64 < cLine := r.units
theorem units1 {k : Nat} {A : Around} (r : Room k A) : A.units + 1 < cLine := by have := r.un; omega
theorem units128 {k : Nat} {A : Around} (r : Room k A) : A.units + 128 < cLine := by have := r.un; omega
theorem fm_stuck {P : Program} {w : World} {K : PySem.W.Frag} {mg : Str → Option Value} {base : Heap} {T : List (Addr × Str)} {k : Nat} {x : Str} {f : Addr} {fd : FuncData} {ps : List Str} {qual : Str} {args : Arguments} {body : List Stmt} {scope : Scope}
    (F : FunD K x qual args body scope [] [] f fd) (gm : mg x = some (.ref f)) (bd : Binds K fd ps []) : FM P w K mg base T k x f fd ps (fun _ _ => .stuck) :=
  ⟨⟨fun vs H Q E h => h.1, fun A outer s H args us vs Q E hr e0 hb r hsp => by
    obtain ⟨_, no, β, ds, M, _, _, h⟩ := hsp
    exact h.elim⟩, fun _ _ _ => rfl, gm, F.kp, bd⟩
theorem lam_code {K : PySem.W.Frag} {p : Str × Option Str} {oc : Value} {od : Option Addr} {osl : Array (Option Value)} {fd : FuncData} {cdv : Value} {q : Str} (lk : K.lookup (He.fAd K p) = some ⟨oc, od, .func fd, osl⟩) (hc : fd.code = cdv) (hq : PySem.W.codeIn K cdv q = true) : cdv = .ref (He.cT K p).1 := by
  obtain ⟨c, e⟩ := He.codeIn_ref hq
  show cdv = .ref (He.codeOf K p)
  rw [He.codeOf_eq lk (hc.trans e)]
  exact e
/-- targets = value, as a loop stores them -/
def asgP (p : Pat) (e : ME') : MS' := fun ρ M => (e ρ M).bind fun d M1 => match p d ρ with
  | some ρ1 => .ok (.nx ρ1) M1
  | none => .stuck
section
variable {X : Cx} {C : Cf} {E : XK} {tg e : Expr} {me : ME'} {g : TG} {p : Pat} {is : List Nat} {pos : Pos}
theorem ms_asgP (he : ME X C E e me) (hg : PG X tg g) (gr : GR C g p is) (hs : swapsWithSole [tg] e pos.line X.env = pure false := by rfl) (hw : swappedStores [tg] e X.env = pure none := by rfl)
    (h1 : (assignEach [tg] X.env).map (·.2) = [assign tg X.env] := by rfl) : MS X C E (.Assign [tg] e pos) (asgP p me) :=
  PS.mono (ps_asg he hg hs hw h1) fun D σ H ⟨β, ρ, M, he, hs, h⟩ => by
    refine tE.bind he hs h fun d M1 β1 H1 v g1 he1 hs1 r1 q1 => ?_
    cases hp : p d ρ with
    | none => rw [hp] at q1; exact q1.elim
    | some ρ1 =>
      rw [hp] at q1
      exact gr β1 H1 v d ρ ρ1 σ _ he1 r1 hp fun σ' he' _ => q1 β1 H1 σ' g1 hs1 he'
end
end Mini

set_option Elab.async false
set_option linter.all false
set_option maxRecDepth 100000
set_option maxHeartbeats 4000000
/-! Mini: the end of a law. -/
namespace Mini
open PySem PySem.Spec PyProof.Rows L2
/-- the promise of the law's def, from what its mirror gives -/
theorem law_sp {K : PySem.W.Frag} {mg : Str → Option Value} {T : List (Addr × Str)} {m : Fn} {H : Hp} {a : Addr} {ns : List Int} (hT : ∀ p ∈ T, H p.1 = some (.tbl #[])) (hS : SqL K H a (ns.map V.int))
    (hm : ∃ M, m [.scr ns] [] = .ok (.bl true) M) : spM K mg T 1 m [.ref a] H (fun v _ => v = .bl true) fun _ _ _ => False := by
  obtain ⟨M, hm⟩ := hm
  refine ⟨rfl, [], [], [.scr ns], [], .cons (.scr ?_) .nil, ⟨rfl, List.nodup_nil, fun n o e => by simp at e, fun p hp => LamX.TabS.nil (hT p hp), fun a ha => by simp at ha⟩, ?_⟩
  · rcases hS with (h | ⟨o, h⟩) | h
    · exact .inl ⟨by simp, by simp, _, .inl rfl, h⟩
    · exact .inl ⟨by simp, by simp, _, .inr ⟨o, rfl⟩, h⟩
    · exact .inr h
  · rw [hm]
    intro β' H' v _ _ r
    cases r
    rfl
end Mini

set_option Elab.async false
set_option linter.all false
set_option maxRecDepth 100000
set_option maxHeartbeats 8000000
namespace K56
open PySem PySem.Spec PyProof.Rows L2 Mini
abbrev LamD : Str := "_law_right"
def TL (K : PySem.W.Frag) : List (Addr × Str) := [((He.cT K (LamD, none)).2, (LamD ++ ".<locals>.") ++ "<lambda>")]
/-- the word of each class of errors -/
def wans (y : Str) : Option Int := if y = "InvalidMinute" then some 0 else if y = "InvalidSpans" then some 0 else if y = "InvalidBounds" then some 0 else if y = "InvalidPaper" then some 1 else none
/-! ### the text -/
def topS (i : Nat) : Stmt := PySem.Challenge.pw_callskept_k56_shifts_needs_and_prices.main.body.getD i (.Pass ⟨0, 0, 0, 0⟩)
abbrev s_is_number : Stmt := topS 8
abbrev N_is_number : List Str := ["value", "least", "most"]
theorem sc_is_number : FnScope N_is_number ["value", "least", "most"] (defScope s_is_number) := ⟨rfl, rfl, rfl, by decide +kernel, rfl, by decide +kernel, by decide +kernel⟩
abbrev s_is_row : Stmt := topS 9
abbrev N_is_row : List Str := ["value", "least", "most"]
theorem sc_is_row : FnScope N_is_row ["value", "least", "most"] (defScope s_is_row) := ⟨rfl, rfl, rfl, by decide +kernel, rfl, by decide +kernel, by decide +kernel⟩
abbrev s_fits_shift : Stmt := topS 14
abbrev N_fits_shift : List Str := ["day", "value"]
theorem sc_fits_shift : FnScope N_fits_shift ["day", "value"] (defScope s_fits_shift) := ⟨rfl, rfl, rfl, by decide +kernel, rfl, by decide +kernel, by decide +kernel⟩
abbrev s_fits_shifts : Stmt := topS 15
abbrev N_fits_shifts : List Str := ["day", "value", "row", "one", "other"]
theorem sc_fits_shifts : FnScope N_fits_shifts ["day", "value"] (defScope s_fits_shifts) := ⟨rfl, rfl, rfl, by decide +kernel, rfl, by decide +kernel, by decide +kernel⟩
abbrev s_fits_need : Stmt := topS 16
abbrev N_fits_need : List Str := ["day", "value", "many"]
theorem sc_fits_need : FnScope N_fits_need ["day", "value"] (defScope s_fits_need) := ⟨rfl, rfl, rfl, by decide +kernel, rfl, by decide +kernel, by decide +kernel⟩
abbrev s_is_from_zero : Stmt := topS 17
abbrev N_is_from_zero : List Str := ["value"]
theorem sc_is_from_zero : FnScope N_is_from_zero ["value"] (defScope s_is_from_zero) := ⟨rfl, rfl, rfl, by decide +kernel, rfl, by decide +kernel, by decide +kernel⟩
abbrev s_coverage : Stmt := topS 18
abbrev N_coverage : List Str := ["day", "shifts", "cover", "found", "start", "end", "cost", "many", "clock"]
theorem sc_coverage : FnScope N_coverage ["day", "shifts", "cover"] (defScope s_coverage) := ⟨rfl, rfl, rfl, by decide +kernel, rfl, by decide +kernel, by decide +kernel⟩
abbrev s_fits_cover : Stmt := topS 19
abbrev N_fits_cover : List Str := ["day", "shifts", "need", "value", "many", "wanted"]
theorem sc_fits_cover : FnScope N_fits_cover ["day", "shifts", "need", "value"] (defScope s_fits_cover) := ⟨rfl, rfl, rfl, by decide +kernel, rfl, by decide +kernel, by decide +kernel⟩
abbrev s_fits_prices : Stmt := topS 20
abbrev N_fits_prices : List Str := ["day", "shifts", "value", "price", "start", "end", "cost"]
theorem sc_fits_prices : FnScope N_fits_prices ["day", "shifts", "value"] (defScope s_fits_prices) := ⟨rfl, rfl, rfl, by decide +kernel, rfl, by decide +kernel, by decide +kernel⟩
abbrev s_cost_in : Stmt := topS 21
abbrev N_cost_in : List Str := ["shifts", "cover", "row", "many"]
theorem sc_cost_in : FnScope N_cost_in ["shifts", "cover"] (defScope s_cost_in) := ⟨rfl, rfl, rfl, by decide +kernel, rfl, by decide +kernel, by decide +kernel⟩
abbrev s_worth_in : Stmt := topS 22
abbrev N_worth_in : List Str := ["need", "prices", "price", "many"]
theorem sc_worth_in : FnScope N_worth_in ["need", "prices"] (defScope s_worth_in) := ⟨rfl, rfl, rfl, by decide +kernel, rfl, by decide +kernel, by decide +kernel⟩
abbrev s_need_day : Stmt := topS 23
abbrev N_need_day : List Str := ["day"]
theorem sc_need_day : FnScope N_need_day ["day"] (defScope s_need_day) := ⟨rfl, rfl, rfl, by decide +kernel, rfl, by decide +kernel, by decide +kernel⟩
abbrev s_need_shifts : Stmt := topS 24
abbrev N_need_shifts : List Str := ["day", "shifts"]
theorem sc_need_shifts : FnScope N_need_shifts ["day", "shifts"] (defScope s_need_shifts) := ⟨rfl, rfl, rfl, by decide +kernel, rfl, by decide +kernel, by decide +kernel⟩
abbrev s_need_all : Stmt := topS 25
abbrev N_need_all : List Str := ["day", "shifts", "need"]
theorem sc_need_all : FnScope N_need_all ["day", "shifts", "need"] (defScope s_need_all) := ⟨rfl, rfl, rfl, by decide +kernel, rfl, by decide +kernel, by decide +kernel⟩
abbrev s_are_shifts : Stmt := topS 26
abbrev N_are_shifts : List Str := ["day", "value"]
theorem sc_are_shifts : FnScope N_are_shifts ["day", "value"] (defScope s_are_shifts) := ⟨rfl, rfl, rfl, by decide +kernel, rfl, by decide +kernel, by decide +kernel⟩
abbrev s_is_need : Stmt := topS 27
abbrev N_is_need : List Str := ["day", "value"]
theorem sc_is_need : FnScope N_is_need ["day", "value"] (defScope s_is_need) := ⟨rfl, rfl, rfl, by decide +kernel, rfl, by decide +kernel, by decide +kernel⟩
abbrev s_is_cover : Stmt := topS 28
abbrev N_is_cover : List Str := ["day", "shifts", "need", "value"]
theorem sc_is_cover : FnScope N_is_cover ["day", "shifts", "need", "value"] (defScope s_is_cover) := ⟨rfl, rfl, rfl, by decide +kernel, rfl, by decide +kernel, by decide +kernel⟩
abbrev s_are_prices : Stmt := topS 29
abbrev N_are_prices : List Str := ["day", "shifts", "value"]
theorem sc_are_prices : FnScope N_are_prices ["day", "shifts", "value"] (defScope s_are_prices) := ⟨rfl, rfl, rfl, by decide +kernel, rfl, by decide +kernel, by decide +kernel⟩
abbrev s_cost_of : Stmt := topS 30
abbrev N_cost_of : List Str := ["day", "shifts", "need", "cover"]
theorem sc_cost_of : FnScope N_cost_of ["day", "shifts", "need", "cover"] (defScope s_cost_of) := ⟨rfl, rfl, rfl, by decide +kernel, rfl, by decide +kernel, by decide +kernel⟩
abbrev s_worth_of : Stmt := topS 31
abbrev N_worth_of : List Str := ["day", "shifts", "need", "prices"]
theorem sc_worth_of : FnScope N_worth_of ["day", "shifts", "need", "prices"] (defScope s_worth_of) := ⟨rfl, rfl, rfl, by decide +kernel, rfl, by decide +kernel, by decide +kernel⟩
abbrev s_uncovered : Stmt := topS 32
abbrev N_uncovered : List Str := ["day", "shifts", "need", "works", "clock"]
theorem sc_uncovered : FnScope N_uncovered ["day", "shifts", "need"] (defScope s_uncovered) := ⟨rfl, rfl, rfl, by decide +kernel, rfl, by decide +kernel, by decide +kernel⟩
abbrev s__law_cup : Stmt := topS 34
abbrev N__law_cup : List Str := ["script", "cell"]
theorem sc__law_cup : FnScope N__law_cup ["script"] (defScope s__law_cup) := ⟨rfl, rfl, rfl, by decide +kernel, rfl, by decide +kernel, by decide +kernel⟩
abbrev s__law_roll : Stmt := topS 35
abbrev N__law_roll : List Str := ["cup", "many", "found", "deep"]
theorem sc__law_roll : FnScope N__law_roll ["cup", "many"] (defScope s__law_roll) := ⟨rfl, rfl, rfl, by decide +kernel, rfl, by decide +kernel, by decide +kernel⟩
abbrev s__law_some : Stmt := topS 36
abbrev N__law_some : List Str := ["cup", "things"]
theorem sc__law_some : FnScope N__law_some ["cup", "things"] (defScope s__law_some) := ⟨rfl, rfl, rfl, by decide +kernel, rfl, by decide +kernel, by decide +kernel⟩
abbrev s__law_sort : Stmt := topS 37
abbrev N__law_sort : List Str := ["value"]
theorem sc__law_sort : FnScope N__law_sort ["value"] (defScope s__law_sort) := ⟨rfl, rfl, rfl, by decide +kernel, rfl, by decide +kernel, by decide +kernel⟩
abbrev s__law_like : Stmt := topS 38
abbrev N__law_like : List Str := ["one", "other", "sort", "first", "second"]
theorem sc__law_like : FnScope N__law_like ["one", "other"] (defScope s__law_like) := ⟨rfl, rfl, rfl, by decide +kernel, rfl, by decide +kernel, by decide +kernel⟩
abbrev s__law_is_number : Stmt := topS 39
abbrev N__law_is_number : List Str := ["value", "least", "most"]
theorem sc__law_is_number : FnScope N__law_is_number ["value", "least", "most"] (defScope s__law_is_number) := ⟨rfl, rfl, rfl, by decide +kernel, rfl, by decide +kernel, by decide +kernel⟩
abbrev s__law_shifts : Stmt := topS 40
abbrev N__law_shifts : List Str := ["cup", "day", "many", "cost", "found", "turn", "start", "pair"]
theorem sc__law_shifts : FnScope N__law_shifts ["cup", "day", "many", "cost"] (defScope s__law_shifts) := ⟨rfl, rfl, rfl, by decide +kernel, rfl, by decide +kernel, by decide +kernel⟩
abbrev s__law_need : Stmt := topS 41
abbrev N__law_need : List Str := ["cup", "day", "shifts", "most", "found", "clock", "is_in", "start", "end", "cost"]
theorem sc__law_need : FnScope N__law_need ["cup", "day", "shifts", "most"] (defScope s__law_need) := ⟨rfl, rfl, rfl, by decide +kernel, rfl, by decide +kernel, by decide +kernel⟩
abbrev s__law_works : Stmt := topS 42
abbrev N__law_works : List Str := ["day", "shifts", "cover", "found", "clock", "start", "end", "cost", "many"]
theorem sc__law_works : FnScope N__law_works ["day", "shifts", "cover"] (defScope s__law_works) := ⟨rfl, rfl, rfl, by decide +kernel, rfl, by decide +kernel, by decide +kernel⟩
abbrev s__law_is_cover : Stmt := topS 43
abbrev N__law_is_cover : List Str := ["day", "shifts", "need", "value", "many", "wanted"]
theorem sc__law_is_cover : FnScope N__law_is_cover ["day", "shifts", "need", "value"] (defScope s__law_is_cover) := ⟨rfl, rfl, rfl, by decide +kernel, rfl, by decide +kernel, by decide +kernel⟩
abbrev s__law_are_prices : Stmt := topS 44
abbrev N__law_are_prices : List Str := ["day", "shifts", "value", "price", "start", "end", "cost"]
theorem sc__law_are_prices : FnScope N__law_are_prices ["day", "shifts", "value"] (defScope s__law_are_prices) := ⟨rfl, rfl, rfl, by decide +kernel, rfl, by decide +kernel, by decide +kernel⟩
abbrev s__law_cost : Stmt := topS 45
abbrev N__law_cost : List Str := ["shifts", "cover", "row", "many"]
theorem sc__law_cost : FnScope N__law_cost ["shifts", "cover"] (defScope s__law_cost) := ⟨rfl, rfl, rfl, by decide +kernel, rfl, by decide +kernel, by decide +kernel⟩
abbrev s__law_worth : Stmt := topS 46
abbrev N__law_worth : List Str := ["need", "prices", "price", "many"]
theorem sc__law_worth : FnScope N__law_worth ["need", "prices"] (defScope s__law_worth) := ⟨rfl, rfl, rfl, by decide +kernel, rfl, by decide +kernel, by decide +kernel⟩
abbrev s__law_bent : Stmt := topS 47
abbrev N__law_bent : List Str := ["cup", "value", "some", "at", "way"]
theorem sc__law_bent : FnScope N__law_bent ["cup", "value"] (defScope s__law_bent) := ⟨rfl, rfl, rfl, by decide +kernel, rfl, by decide +kernel, by decide +kernel⟩
abbrev s__law_are_shifts : Stmt := topS 48
abbrev N__law_are_shifts : List Str := ["day", "value", "start", "end", "cost", "row", "one", "other"]
theorem sc__law_are_shifts : FnScope N__law_are_shifts ["day", "value"] (defScope s__law_are_shifts) := ⟨rfl, rfl, rfl, by decide +kernel, rfl, by decide +kernel, by decide +kernel⟩
abbrev s__law_is_need : Stmt := topS 49
abbrev N__law_is_need : List Str := ["day", "value", "many"]
theorem sc__law_is_need : FnScope N__law_is_need ["day", "value"] (defScope s__law_is_need) := ⟨rfl, rfl, rfl, by decide +kernel, rfl, by decide +kernel, by decide +kernel⟩
abbrev s__law_right : Stmt := topS 50
abbrev N__law_right : List Str := ["cup", "day", "shifts", "need", "cover", "prices", "works", "due", "enough", "value", "good", "turn", "one", "other", "row", "clock", "price"]
theorem sc__law_right : FnScope N__law_right ["cup", "day"] (defScope s__law_right) := ⟨rfl, rfl, rfl, by decide +kernel, rfl, by decide +kernel, by decide +kernel⟩
abbrev s__law_written_right : Stmt := topS 51
abbrev N__law_written_right : List Str := ["twelve", "good", "bad", "shifts", "need", "told", "end", "value"]
theorem sc__law_written_right : FnScope N__law_written_right [] (defScope s__law_written_right) := ⟨rfl, rfl, rfl, by decide +kernel, rfl, by decide +kernel, by decide +kernel⟩
abbrev s_law : Stmt := topS 53
abbrev N_law : List Str := ["script", "cup", "turn"]
theorem sc_law : FnScope N_law ["script"] (defScope s_law) := ⟨rfl, rfl, rfl, by decide +kernel, rfl, by decide +kernel, by decide +kernel⟩
abbrev s__law_word : Stmt := topS 52
/-! ### what the top is known to hold -/
structure Top (K : PySem.W.Frag) (mg : Str → Option Value) : Prop where
  F_is_number : ∃ fd, FunD K "is_number" "is_number" (defArgs s_is_number) (defBody s_is_number) (defScope s_is_number) [] [] (He.ga K "is_number") fd
  g_is_number : mg "is_number" = some (.ref (He.ga K "is_number"))
  F_is_row : ∃ fd, FunD K "is_row" "is_row" (defArgs s_is_row) (defBody s_is_row) (defScope s_is_row) [] [] (He.ga K "is_row") fd
  g_is_row : mg "is_row" = some (.ref (He.ga K "is_row"))
  F_fits_shift : ∃ fd, FunD K "fits_shift" "fits_shift" (defArgs s_fits_shift) (defBody s_fits_shift) (defScope s_fits_shift) [] [] (He.ga K "fits_shift") fd
  g_fits_shift : mg "fits_shift" = some (.ref (He.ga K "fits_shift"))
  F_fits_shifts : ∃ fd, FunD K "fits_shifts" "fits_shifts" (defArgs s_fits_shifts) (defBody s_fits_shifts) (defScope s_fits_shifts) [] [] (He.ga K "fits_shifts") fd
  g_fits_shifts : mg "fits_shifts" = some (.ref (He.ga K "fits_shifts"))
  F_fits_need : ∃ fd, FunD K "fits_need" "fits_need" (defArgs s_fits_need) (defBody s_fits_need) (defScope s_fits_need) [] [] (He.ga K "fits_need") fd
  g_fits_need : mg "fits_need" = some (.ref (He.ga K "fits_need"))
  F_is_from_zero : ∃ fd, FunD K "is_from_zero" "is_from_zero" (defArgs s_is_from_zero) (defBody s_is_from_zero) (defScope s_is_from_zero) [] [] (He.ga K "is_from_zero") fd
  g_is_from_zero : mg "is_from_zero" = some (.ref (He.ga K "is_from_zero"))
  F_coverage : ∃ fd, FunD K "coverage" "coverage" (defArgs s_coverage) (defBody s_coverage) (defScope s_coverage) [] [] (He.ga K "coverage") fd
  g_coverage : mg "coverage" = some (.ref (He.ga K "coverage"))
  F_fits_cover : ∃ fd, FunD K "fits_cover" "fits_cover" (defArgs s_fits_cover) (defBody s_fits_cover) (defScope s_fits_cover) [] [] (He.ga K "fits_cover") fd
  g_fits_cover : mg "fits_cover" = some (.ref (He.ga K "fits_cover"))
  F_fits_prices : ∃ fd, FunD K "fits_prices" "fits_prices" (defArgs s_fits_prices) (defBody s_fits_prices) (defScope s_fits_prices) [] [] (He.ga K "fits_prices") fd
  g_fits_prices : mg "fits_prices" = some (.ref (He.ga K "fits_prices"))
  F_cost_in : ∃ fd, FunD K "cost_in" "cost_in" (defArgs s_cost_in) (defBody s_cost_in) (defScope s_cost_in) [] [] (He.ga K "cost_in") fd
  g_cost_in : mg "cost_in" = some (.ref (He.ga K "cost_in"))
  F_worth_in : ∃ fd, FunD K "worth_in" "worth_in" (defArgs s_worth_in) (defBody s_worth_in) (defScope s_worth_in) [] [] (He.ga K "worth_in") fd
  g_worth_in : mg "worth_in" = some (.ref (He.ga K "worth_in"))
  F_need_day : ∃ fd, FunD K "need_day" "need_day" (defArgs s_need_day) (defBody s_need_day) (defScope s_need_day) [] [] (He.ga K "need_day") fd
  g_need_day : mg "need_day" = some (.ref (He.ga K "need_day"))
  F_need_shifts : ∃ fd, FunD K "need_shifts" "need_shifts" (defArgs s_need_shifts) (defBody s_need_shifts) (defScope s_need_shifts) [] [] (He.ga K "need_shifts") fd
  g_need_shifts : mg "need_shifts" = some (.ref (He.ga K "need_shifts"))
  F_need_all : ∃ fd, FunD K "need_all" "need_all" (defArgs s_need_all) (defBody s_need_all) (defScope s_need_all) [] [] (He.ga K "need_all") fd
  g_need_all : mg "need_all" = some (.ref (He.ga K "need_all"))
  F_are_shifts : ∃ fd, FunD K "are_shifts" "are_shifts" (defArgs s_are_shifts) (defBody s_are_shifts) (defScope s_are_shifts) [] [] (He.ga K "are_shifts") fd
  g_are_shifts : mg "are_shifts" = some (.ref (He.ga K "are_shifts"))
  F_is_need : ∃ fd, FunD K "is_need" "is_need" (defArgs s_is_need) (defBody s_is_need) (defScope s_is_need) [] [] (He.ga K "is_need") fd
  g_is_need : mg "is_need" = some (.ref (He.ga K "is_need"))
  F_is_cover : ∃ fd, FunD K "is_cover" "is_cover" (defArgs s_is_cover) (defBody s_is_cover) (defScope s_is_cover) [] [] (He.ga K "is_cover") fd
  g_is_cover : mg "is_cover" = some (.ref (He.ga K "is_cover"))
  F_are_prices : ∃ fd, FunD K "are_prices" "are_prices" (defArgs s_are_prices) (defBody s_are_prices) (defScope s_are_prices) [] [] (He.ga K "are_prices") fd
  g_are_prices : mg "are_prices" = some (.ref (He.ga K "are_prices"))
  F_cost_of : ∃ fd, FunD K "cost_of" "cost_of" (defArgs s_cost_of) (defBody s_cost_of) (defScope s_cost_of) [] [] (He.ga K "cost_of") fd
  g_cost_of : mg "cost_of" = some (.ref (He.ga K "cost_of"))
  F_worth_of : ∃ fd, FunD K "worth_of" "worth_of" (defArgs s_worth_of) (defBody s_worth_of) (defScope s_worth_of) [] [] (He.ga K "worth_of") fd
  g_worth_of : mg "worth_of" = some (.ref (He.ga K "worth_of"))
  F_uncovered : ∃ fd, FunD K "uncovered" "uncovered" (defArgs s_uncovered) (defBody s_uncovered) (defScope s_uncovered) [] [] (He.ga K "uncovered") fd
  g_uncovered : mg "uncovered" = some (.ref (He.ga K "uncovered"))
  F__law_cup : ∃ fd, FunD K "_law_cup" "_law_cup" (defArgs s__law_cup) (defBody s__law_cup) (defScope s__law_cup) [] [] (He.ga K "_law_cup") fd
  g__law_cup : mg "_law_cup" = some (.ref (He.ga K "_law_cup"))
  F__law_roll : ∃ fd, FunD K "_law_roll" "_law_roll" (defArgs s__law_roll) (defBody s__law_roll) (defScope s__law_roll) [] [] (He.ga K "_law_roll") fd
  g__law_roll : mg "_law_roll" = some (.ref (He.ga K "_law_roll"))
  F__law_some : ∃ fd, FunD K "_law_some" "_law_some" (defArgs s__law_some) (defBody s__law_some) (defScope s__law_some) [] [] (He.ga K "_law_some") fd
  g__law_some : mg "_law_some" = some (.ref (He.ga K "_law_some"))
  F__law_sort : ∃ fd, FunD K "_law_sort" "_law_sort" (defArgs s__law_sort) (defBody s__law_sort) (defScope s__law_sort) [] [] (He.ga K "_law_sort") fd
  g__law_sort : mg "_law_sort" = some (.ref (He.ga K "_law_sort"))
  F__law_like : ∃ fd, FunD K "_law_like" "_law_like" (defArgs s__law_like) (defBody s__law_like) (defScope s__law_like) [] [] (He.ga K "_law_like") fd
  g__law_like : mg "_law_like" = some (.ref (He.ga K "_law_like"))
  F__law_is_number : ∃ fd, FunD K "_law_is_number" "_law_is_number" (defArgs s__law_is_number) (defBody s__law_is_number) (defScope s__law_is_number) [] [] (He.ga K "_law_is_number") fd
  g__law_is_number : mg "_law_is_number" = some (.ref (He.ga K "_law_is_number"))
  F__law_shifts : ∃ fd, FunD K "_law_shifts" "_law_shifts" (defArgs s__law_shifts) (defBody s__law_shifts) (defScope s__law_shifts) [] [] (He.ga K "_law_shifts") fd
  g__law_shifts : mg "_law_shifts" = some (.ref (He.ga K "_law_shifts"))
  F__law_need : ∃ fd, FunD K "_law_need" "_law_need" (defArgs s__law_need) (defBody s__law_need) (defScope s__law_need) [] [] (He.ga K "_law_need") fd
  g__law_need : mg "_law_need" = some (.ref (He.ga K "_law_need"))
  F__law_works : ∃ fd, FunD K "_law_works" "_law_works" (defArgs s__law_works) (defBody s__law_works) (defScope s__law_works) [] [] (He.ga K "_law_works") fd
  g__law_works : mg "_law_works" = some (.ref (He.ga K "_law_works"))
  F__law_is_cover : ∃ fd, FunD K "_law_is_cover" "_law_is_cover" (defArgs s__law_is_cover) (defBody s__law_is_cover) (defScope s__law_is_cover) [] [] (He.ga K "_law_is_cover") fd
  g__law_is_cover : mg "_law_is_cover" = some (.ref (He.ga K "_law_is_cover"))
  F__law_are_prices : ∃ fd, FunD K "_law_are_prices" "_law_are_prices" (defArgs s__law_are_prices) (defBody s__law_are_prices) (defScope s__law_are_prices) [] [] (He.ga K "_law_are_prices") fd
  g__law_are_prices : mg "_law_are_prices" = some (.ref (He.ga K "_law_are_prices"))
  F__law_cost : ∃ fd, FunD K "_law_cost" "_law_cost" (defArgs s__law_cost) (defBody s__law_cost) (defScope s__law_cost) [] [] (He.ga K "_law_cost") fd
  g__law_cost : mg "_law_cost" = some (.ref (He.ga K "_law_cost"))
  F__law_worth : ∃ fd, FunD K "_law_worth" "_law_worth" (defArgs s__law_worth) (defBody s__law_worth) (defScope s__law_worth) [] [] (He.ga K "_law_worth") fd
  g__law_worth : mg "_law_worth" = some (.ref (He.ga K "_law_worth"))
  F__law_bent : ∃ fd, FunD K "_law_bent" "_law_bent" (defArgs s__law_bent) (defBody s__law_bent) (defScope s__law_bent) [] [] (He.ga K "_law_bent") fd
  g__law_bent : mg "_law_bent" = some (.ref (He.ga K "_law_bent"))
  F__law_are_shifts : ∃ fd, FunD K "_law_are_shifts" "_law_are_shifts" (defArgs s__law_are_shifts) (defBody s__law_are_shifts) (defScope s__law_are_shifts) [] [] (He.ga K "_law_are_shifts") fd
  g__law_are_shifts : mg "_law_are_shifts" = some (.ref (He.ga K "_law_are_shifts"))
  F__law_is_need : ∃ fd, FunD K "_law_is_need" "_law_is_need" (defArgs s__law_is_need) (defBody s__law_is_need) (defScope s__law_is_need) [] [] (He.ga K "_law_is_need") fd
  g__law_is_need : mg "_law_is_need" = some (.ref (He.ga K "_law_is_need"))
  F__law_right : ∃ fd, FunD K "_law_right" "_law_right" (defArgs s__law_right) (defBody s__law_right) (defScope s__law_right) [] [] (He.ga K "_law_right") fd
  g__law_right : mg "_law_right" = some (.ref (He.ga K "_law_right"))
  F__law_written_right : ∃ fd, FunD K "_law_written_right" "_law_written_right" (defArgs s__law_written_right) (defBody s__law_written_right) (defScope s__law_written_right) [] [] (He.ga K "_law_written_right") fd
  g__law_written_right : mg "_law_written_right" = some (.ref (He.ga K "_law_written_right"))
  F_law : ∃ fd, FunD K "law" "law" (defArgs s_law) (defBody s_law) (defScope s_law) [] [] (He.ga K "law") fd
  g_law : mg "law" = some (.ref (He.ga K "law"))
  F__law_word : ∃ fd, FunD K "_law_word" "_law_word" (defArgs s__law_word) (defBody s__law_word) (defScope s__law_word) [] [] (He.ga K "_law_word") fd
  g__law_word : mg "_law_word" = some (.ref (He.ga K "_law_word"))
  n_ValueError : mg "ValueError" = none
  n_abs : mg "abs" = none
  n_all : mg "all" = none
  n_bool : mg "bool" = none
  n_int : mg "int" = none
  n_isinstance : mg "isinstance" = none
  n_len : mg "len" = none
  n_list : mg "list" = none
  n_max : mg "max" = none
  n_min : mg "min" = none
  n_range : mg "range" = none
  n_sorted : mg "sorted" = none
  n_str : mg "str" = none
  n_sum : mg "sum" = none
  n_tuple : mg "tuple" = none
  n_zip : mg "zip" = none
  i_COST : ∃ t, mg "COST" = some (.int 99 t)
  i_LONGEST_DAY : ∃ t, mg "LONGEST_DAY" = some (.int 60 t)
  i_NEED : ∃ t, mg "NEED" = some (.int 50 t)
  i_SHIFTS : ∃ t, mg "SHIFTS" = some (.int 12 t)
  e_InvalidBounds : ErrK K mg "InvalidBounds" (He.ga K "InvalidBounds")
  e_InvalidMinute : ErrK K mg "InvalidMinute" (He.ga K "InvalidMinute")
  e_InvalidPaper : ErrK K mg "InvalidPaper" (He.ga K "InvalidPaper")
  e_InvalidSpans : ErrK K mg "InvalidSpans" (He.ga K "InvalidSpans")
  k_KeptError : mg "KeptError" = some (.ref (He.ga K "KeptError"))
  w_InvalidMinute : ErrW K (He.ga K "InvalidMinute") (He.ga K "KeptError") (He.ga K "InvalidPaper") false
  w_InvalidSpans : ErrW K (He.ga K "InvalidSpans") (He.ga K "KeptError") (He.ga K "InvalidPaper") false
  w_InvalidBounds : ErrW K (He.ga K "InvalidBounds") (He.ga K "KeptError") (He.ga K "InvalidPaper") false
  w_InvalidPaper : ErrW K (He.ga K "InvalidPaper") (He.ga K "KeptError") (He.ga K "InvalidPaper") true
/-! ### the mirrors -/
def m_is_number : Fn := fnM 3 3 (
    (seqS (ifS (orT (tst (op1 (isTyD .bool) (varE 0))) (notT (tst (op1 (isTyD .int) (varE 0))))) (retS (cE (.bl false))) skipS)
    (retS (chn leM leM (varE 1) (varE 0) (varE 2)))))
def m_is_row : Fn := fnM 3 3 (
    (retS (andE (op1 (isTyD .tuple) (varE 0)) (callE m_is_number (consL (biE (g1 lenM) (consL (varE 0) nilL)) (consL (varE 1) (consL (varE 2) nilL)))))))
def m_fits_shift : Fn := fnM 2 2 (
    (seqS (ifS (orT (notT (tst (callE m_is_row (consL (varE 1) (consL (cE (.int 3)) (consL (cE (.int 3)) nilL)))))) (notT (tst (callE m_is_number (consL (op2 ixD (varE 1) (cE (.int 0))) (consL (cE (.int 0)) (consL (op2 subD (varE 0) (cE (.int 1))) nilL))))))) (retS (cE (.bl false))) skipS)
    (retS (andE (callE m_is_number (consL (op2 ixD (varE 1) (cE (.int 1))) (consL (op2 addD (op2 ixD (varE 1) (cE (.int 0))) (cE (.int 1))) (consL (varE 0) nilL)))) (callE m_is_number (consL (op2 ixD (varE 1) (cE (.int 2))) (consL (cE (.int 1)) (consL (cE (.int 99)) nilL))))))))
def m_fits_shifts : Fn := fnM 5 2 (
    (seqS (ifS (orT (notT (tst (callE m_is_row (consL (varE 1) (consL (cE (.int 0)) (consL (cE (.int 12)) nilL)))))) (notT (tst (biE (g1 allM) (consL (lcV [2] (seqI (varE 1)) (pN 2) yesT (callE m_fits_shift (consL (varE 0) (consL (varE 2) nilL)))) nilL))))) (retS (cE (.bl false))) skipS)
    (retS (biE (g1 allM) (consL (lcV [3, 4] (zipI (varE 1) (slE (varE 1) (mO1 (cE (.int 1))) mO0)) (pT 2 (pCons (pN 3) (pCons (pN 4) pNil))) yesT (op2 ltM (slE (varE 3) mO0 (mO1 (cE (.int 2)))) (slE (varE 4) mO0 (mO1 (cE (.int 2)))))) nilL)))))
def m_fits_need : Fn := fnM 3 2 (
    (retS (andE (callE m_is_row (consL (varE 1) (consL (varE 0) (consL (varE 0) nilL)))) (biE (g1 allM) (consL (lcV [2] (seqI (varE 1)) (pN 2) yesT (callE m_is_number (consL (varE 2) (consL (cE (.int 0)) (consL (cE (.int 50)) nilL))))) nilL)))))
def m_is_from_zero : Fn := fnM 1 1 (
    (retS (andE (op1 (isTyD .int) (varE 0)) (andE (notE (op1 (isTyD .bool) (varE 0))) (op2 geM (varE 0) (cE (.int 0)))))))
def m_coverage : Fn := fnM 9 3 (
    (seqS (asgV 3 (op2 mulM (lstV (consL (cE (.int 0)) nilL)) (varE 0)))
    (seqS (forS (zipI (varE 1) (varE 2)) (pT 2 (pCons (pT 3 (pCons (pN 4) (pCons (pN 5) (pCons (pN 6) pNil)))) (pCons (pN 7) pNil))) (forS (rng2I (varE 4) (varE 5)) (pN 8) (setI (op2 addD (op2 ixD (varE 3) (varE 8)) (varE 7)) (varE 3) (varE 8))))
    (retS (varE 3)))))
def m_fits_cover : Fn := fnM 6 4 (
    (seqS (ifS (orT (notT (tst (callE m_is_row (consL (varE 3) (consL (biE (g1 lenM) (consL (varE 1) nilL)) (consL (biE (g1 lenM) (consL (varE 1) nilL)) nilL)))))) (notT (tst (biE (g1 allM) (consL (lcV [4] (seqI (varE 3)) (pN 4) yesT (callE m_is_from_zero (consL (varE 4) nilL))) nilL))))) (retS (cE (.bl false))) skipS)
    (retS (biE (g1 allM) (consL (lcV [4, 5] (zipI (callE m_coverage (consL (varE 0) (consL (varE 1) (consL (varE 3) nilL)))) (varE 2)) (pT 2 (pCons (pN 4) (pCons (pN 5) pNil))) yesT (op2 geM (varE 4) (varE 5))) nilL)))))
def m_fits_prices : Fn := fnM 7 3 (
    (seqS (ifS (orT (notT (tst (callE m_is_row (consL (varE 2) (consL (varE 0) (consL (varE 0) nilL)))))) (notT (tst (biE (g1 allM) (consL (lcV [3] (seqI (varE 2)) (pN 3) yesT (callE m_is_from_zero (consL (varE 3) nilL))) nilL))))) (retS (cE (.bl false))) skipS)
    (retS (biE (g1 allM) (consL (lcV [4, 5, 6] (seqI (varE 1)) (pT 3 (pCons (pN 4) (pCons (pN 5) (pCons (pN 6) pNil)))) yesT (op2 leM (biE (g1 sumM) (consL (slE (varE 2) (mO1 (varE 4)) (mO1 (varE 5))) nilL)) (varE 6))) nilL)))))
def m_cost_in : Fn := fnM 4 2 (
    (retS (biE (g1 sumM) (consL (lcV [2, 3] (zipI (varE 0) (varE 1)) (pT 2 (pCons (pN 2) (pCons (pN 3) pNil))) yesT (op2 mulD (varE 3) (op2 ixD (varE 2) (cE (.int 2))))) nilL))))
def m_worth_in : Fn := fnM 4 2 (
    (retS (biE (g1 sumM) (consL (lcV [2, 3] (zipI (varE 1) (varE 0)) (pT 2 (pCons (pN 2) (pCons (pN 3) pNil))) yesT (op2 mulD (varE 2) (varE 3))) nilL))))
def m_need_day : Fn := fnM 1 1 (
    (ifS (notT (tst (callE m_is_number (consL (varE 0) (consL (cE (.int 1)) (consL (cE (.int 60)) nilL)))))) (raiseS "InvalidMinute") skipS))
def m_need_shifts : Fn := fnM 2 2 (
    (seqS (exprS (callE m_need_day (consL (varE 0) nilL)))
    (ifS (notT (tst (callE m_fits_shifts (consL (varE 0) (consL (varE 1) nilL))))) (raiseS "InvalidSpans") skipS)))
def m_need_all : Fn := fnM 3 3 (
    (seqS (exprS (callE m_need_shifts (consL (varE 0) (consL (varE 1) nilL))))
    (ifS (notT (tst (callE m_fits_need (consL (varE 0) (consL (varE 2) nilL))))) (raiseS "InvalidBounds") skipS)))
def m_are_shifts : Fn := fnM 2 2 (
    (seqS (exprS (callE m_need_day (consL (varE 0) nilL)))
    (retS (callE m_fits_shifts (consL (varE 0) (consL (varE 1) nilL))))))
def m_is_need : Fn := fnM 2 2 (
    (seqS (exprS (callE m_need_day (consL (varE 0) nilL)))
    (retS (callE m_fits_need (consL (varE 0) (consL (varE 1) nilL))))))
def m_is_cover : Fn := fnM 4 4 (
    (seqS (exprS (callE m_need_all (consL (varE 0) (consL (varE 1) (consL (varE 2) nilL)))))
    (retS (callE m_fits_cover (consL (varE 0) (consL (varE 1) (consL (varE 2) (consL (varE 3) nilL))))))))
def m_are_prices : Fn := fnM 3 3 (
    (seqS (exprS (callE m_need_shifts (consL (varE 0) (consL (varE 1) nilL))))
    (retS (callE m_fits_prices (consL (varE 0) (consL (varE 1) (consL (varE 2) nilL)))))))
def m_cost_of : Fn := fnM 4 4 (
    (seqS (exprS (callE m_need_all (consL (varE 0) (consL (varE 1) (consL (varE 2) nilL)))))
    (seqS (ifS (notT (tst (callE m_fits_cover (consL (varE 0) (consL (varE 1) (consL (varE 2) (consL (varE 3) nilL))))))) (raiseS "InvalidPaper") skipS)
    (retS (callE m_cost_in (consL (varE 1) (consL (varE 3) nilL)))))))
def m_worth_of : Fn := fnM 4 4 (
    (seqS (exprS (callE m_need_all (consL (varE 0) (consL (varE 1) (consL (varE 2) nilL)))))
    (seqS (ifS (notT (tst (callE m_fits_prices (consL (varE 0) (consL (varE 1) (consL (varE 3) nilL)))))) (raiseS "InvalidPaper") skipS)
    (retS (callE m_worth_in (consL (varE 2) (consL (varE 3) nilL)))))))
def m_uncovered : Fn := fnM 5 3 (
    (seqS (exprS (callE m_need_all (consL (varE 0) (consL (varE 1) (consL (varE 2) nilL)))))
    (seqS (asgV 3 (callE m_coverage (consL (varE 0) (consL (varE 1) (consL (op2 mulD (tupE (consL (cE (.int 1)) nilL)) (biE (g1 lenM) (consL (varE 1) nilL))) nilL)))))
    (retS (biE (g1 tupleM) (consL (lcV [4] (rng1I (varE 0)) (pN 4) (andT (tst (op2 gtM (op2 ixD (varE 2) (varE 4)) (cE (.int 0)))) (tst (op2 eqD (op2 ixD (varE 3) (varE 4)) (cE (.int 0))))) (varE 4)) nilL))))))
def m__law_cup : Fn := fnM 2 1 (
    (seqS (asgV 1 (biE (g1 absM) (consL (op2 ixD (op2 addD (biE (g1 listV) (consL (varE 0) nilL)) (lstV (consL (cE (.int 0)) nilL))) (cE (.int 0))) nilL)))
    (retS (lstM (consL (iteE (tst (op2 geM (varE 1) (op2 powD (cE (.int 10)) (cE (.int 18))))) (op2 fdivD (varE 1) (cE (.int 73))) (cE (.int 0))) (consL (op2 addD (op2 modD (biE (g1 intM) (consL (op2 addD (op2 mulD (varE 1) (cE (.int 283))) (cE (.int 3907))) nilL)) (cE (.int 2077503167))) (cE (.int 167))) nilL))))))
def m__law_roll : Fn := fnM 4 2 (
    (seqS (ifS (tst (op2 gtM (op2 ixD (varE 0) (cE (.int 0))) (cE (.int 0)))) (seqS (asgV 2 (op2 modD (biE (g1 intM) (consL (op2 ixD (varE 0) (cE (.int 0))) nilL)) (varE 1)))
    (seqS (setI (op2 fdivD (op2 ixD (varE 0) (cE (.int 0))) (varE 1)) (varE 0) (cE (.int 0)))
    (retS (varE 2)))) skipS)
    (seqS (setI (op2 modD (biE (g1 intM) (consL (op2 addD (op2 mulD (op2 ixD (varE 0) (cE (.int 1))) (cE (.int 31051))) (cE (.int 7993))) nilL)) (cE (.int 2147483543))) (varE 0) (cE (.int 1)))
    (seqS (asgV 3 (op2 modD (biE (g1 intM) (consL (op2 mulD (op2 ixD (varE 0) (cE (.int 1))) (op2 addD (op2 ixD (varE 0) (cE (.int 1))) (cE (.int 229)))) nilL)) (cE (.int 2147483587))))
    (retS (op2 modD (biE (g1 intM) (consL (op2 fdivD (varE 3) (cE (.int 821))) nilL)) (varE 1)))))))
def m__law_some : Fn := fnM 2 2 (
    (retS (op2 ixD (varE 1) (callE m__law_roll (consL (varE 0) (consL (biE (g1 lenM) (consL (varE 1) nilL)) nilL))))))
def m__law_sort : Fn := fnM 1 1 (
    (seqS (ifS (orT (tst (op2 isNonD (varE 0) (cE .non))) (tst (op1 (isTyD .bool) (varE 0)))) (retS (iteE (tst (op2 isNonD (varE 0) (cE .non))) (cE (.int 0)) (cE (.int 1)))) skipS)
    (seqS (ifS (orT (tst (op1 (isTyD .int) (varE 0))) (tst (op1 (isTyD .str) (varE 0)))) (retS (iteE (tst (op1 (isTyD .int) (varE 0))) (cE (.int 2)) (cE (.int 3)))) skipS)
    (retS (iteE (tst (op1 (isTyD .tuple) (varE 0))) (cE (.int 4)) (iteE (tst (op1 (isTyD .list) (varE 0))) (cE (.int 5)) (cE (.int 6))))))))
def m__law_like : Nat → Fn
  | 0 => fun _ _ => .stuck
  | n + 1 => fnM 5 2 (
    (seqS (asgV 2 (callE m__law_sort (consL (varE 1) nilL)))
    (seqS (ifS (orT (tst (op2 neD (callE m__law_sort (consL (varE 0) nilL)) (varE 2))) (tst (op2 eqD (varE 2) (cE (.int 6))))) (retS (cE (.bl false))) skipS)
    (seqS (ifS (tst (op2 inD (varE 2) (tupE (consL (cE (.int 4)) (consL (cE (.int 5)) nilL))))) (retS (andE (op2 eqD (biE (g1 lenM) (consL (varE 0) nilL)) (biE (g1 lenM) (consL (varE 1) nilL))) (op2 eqD (lcV [3, 4] (zipI (varE 0) (varE 1)) (pT 2 (pCons (pN 3) (pCons (pN 4) pNil))) (notT (tst (callE (m__law_like n) (consL (varE 3) (consL (varE 4) nilL))))) (cE (.int 1))) (lstV nilL)))) skipS)
    (retS (op2 eqD (varE 0) (varE 1)))))))
def m__law_is_number : Fn := fnM 3 3 (
    (retS (andE (op1 (isTyD .int) (varE 0)) (andE (notE (op1 (isTyD .bool) (varE 0))) (chn leM leM (varE 1) (varE 0) (varE 2))))))
def m__law_shifts : Fn := fnM 8 4 (
    (seqS (asgV 4 (dnewE true))
    (seqS (forS (rng1I (callE m__law_roll (consL (varE 0) (consL (op2 addD (varE 2) (cE (.int 1))) nilL)))) (pN 5) (seqS (asgV 6 (callE m__law_roll (consL (varE 0) (consL (varE 1) nilL))))
    (dputS (op2 addD (cE (.int 1)) (callE m__law_roll (consL (varE 0) (consL (varE 3) nilL)))) (varE 4) (tupE (consL (varE 6) (consL (op2 addD (op2 addD (varE 6) (cE (.int 1))) (callE m__law_roll (consL (varE 0) (consL (op2 subD (varE 1) (varE 6)) nilL)))) nilL))))))
    (retS (biE (g1 tupleM) (consL (lcV [7] (seqI (biE (g1 sortDT) (consL (varE 4) nilL))) (pN 7) yesT (op2 addD (varE 7) (tupE (consL (op2 dgetD (varE 4) (varE 7)) nilL)))) nilL))))))
def m__law_need : Fn := fnM 10 4 (
    (seqS (asgV 4 (tupE nilL))
    (seqS (forS (rng1I (varE 1)) (pN 5) (seqS (asgV 6 (op2 neD (lcV [7, 8, 9] (seqI (varE 2)) (pT 3 (pCons (pN 7) (pCons (pN 8) (pCons (pN 9) pNil)))) (tst (chn leM ltM (varE 7) (varE 5) (varE 8))) (cE (.int 1))) (lstV nilL)))
    (asgV 4 (op2 addD (varE 4) (tupE (consL (iteE (orT (tst (varE 6)) (tst (op2 eqD (callE m__law_roll (consL (varE 0) (consL (cE (.int 30)) nilL))) (cE (.int 0))))) (callE m__law_roll (consL (varE 0) (consL (op2 addD (varE 3) (cE (.int 1))) nilL))) (cE (.int 0))) nilL))))))
    (retS (varE 4)))))
def m__law_works : Fn := fnM 9 3 (
    (seqS (asgV 3 (lstM nilL))
    (seqS (forS (rng1I (varE 0)) (pN 4) (exprS (appE (varE 3) (biE (g1 sumM) (consL (lcV [5, 6, 7, 8] (zipI (varE 1) (varE 2)) (pT 2 (pCons (pT 3 (pCons (pN 5) (pCons (pN 6) (pCons (pN 7) pNil)))) (pCons (pN 8) pNil))) (tst (chn leM ltM (varE 5) (varE 4) (varE 6))) (varE 8)) nilL)))))
    (retS (varE 3)))))
def m__law_is_cover : Fn := fnM 6 4 (
    (seqS (ifS (orT (notT (tst (op1 (isTyD .tuple) (varE 3)))) (orT (tst (op2 neD (biE (g1 lenM) (consL (varE 3) nilL)) (biE (g1 lenM) (consL (varE 1) nilL)))) (tst (op2 neD (lcV [4] (seqI (varE 3)) (pN 4) (notT (tst (callE m__law_is_number (consL (varE 4) (consL (cE (.int 0)) (consL (op2 powD (cE (.int 10)) (cE (.int 64))) nilL)))))) (varE 4)) (lstV nilL))))) (retS (cE (.bl false))) skipS)
    (retS (op2 eqD (lcV [4, 5] (zipI (callE m__law_works (consL (varE 0) (consL (varE 1) (consL (varE 3) nilL)))) (varE 2)) (pT 2 (pCons (pN 4) (pCons (pN 5) pNil))) (tst (op2 ltM (varE 4) (varE 5))) (cE (.int 1))) (lstV nilL)))))
def m__law_are_prices : Fn := fnM 7 3 (
    (seqS (ifS (orT (notT (tst (op1 (isTyD .tuple) (varE 2)))) (orT (tst (op2 neD (biE (g1 lenM) (consL (varE 2) nilL)) (varE 0))) (tst (op2 neD (lcV [3] (seqI (varE 2)) (pN 3) (notT (tst (callE m__law_is_number (consL (varE 3) (consL (cE (.int 0)) (consL (op2 powD (cE (.int 10)) (cE (.int 64))) nilL)))))) (varE 3)) (lstV nilL))))) (retS (cE (.bl false))) skipS)
    (retS (op2 eqD (lcV [4, 5, 6] (seqI (varE 1)) (pT 3 (pCons (pN 4) (pCons (pN 5) (pCons (pN 6) pNil)))) (tst (op2 gtM (biE (g1 sumM) (consL (slE (varE 2) (mO1 (varE 4)) (mO1 (varE 5))) nilL)) (varE 6))) (cE (.int 1))) (lstV nilL)))))
def m__law_cost : Fn := fnM 4 2 (
    (retS (biE (g1 sumM) (consL (lcV [2, 3] (zipI (varE 0) (varE 1)) (pT 2 (pCons (pN 2) (pCons (pN 3) pNil))) yesT (op2 mulD (varE 3) (op2 ixD (varE 2) (cE (.int 2))))) nilL))))
def m__law_worth : Fn := fnM 4 2 (
    (retS (biE (g1 sumM) (consL (lcV [2, 3] (zipI (varE 1) (varE 0)) (pT 2 (pCons (pN 2) (pCons (pN 3) pNil))) yesT (op2 mulD (varE 2) (varE 3))) nilL))))
def m__law_bent : Nat → Fn
  | 0 => fun _ _ => .stuck
  | n + 1 => fnM 5 2 (
    (seqS (ifS (orT (notT (tst (op1 (isTyD .tuple) (varE 1)))) (orT (tst (op2 eqD (varE 1) (tupE nilL))) (tst (op2 eqD (callE m__law_roll (consL (varE 0) (consL (cE (.int 9)) nilL))) (cE (.int 0)))))) (seqS (asgV 2 (lstV (consL (cE .non) (consL (cE (.bl true)) (consL (cE (.bl false)) (consL (cE (.int 0)) (consL (cE (.int 1)) (consL (cE (.int 4)) (consL (cE (.int 5)) (consL (cE (.int 8)) (consL (cE (.int 9)) (consL (cE (.int 20)) (consL (cE (.int 21)) (consL (cE (.int 60)) (consL (cE (.int 61)) (consL (op1 negD (cE (.int 1))) (consL (cE (.str "")) (consL (cE (.str "a")) (consL (cE (.str "A")) (consL (cE (.str "order")) (consL (cE (.str "if")) (consL (cE (.str "slack")) (consL (cE (.str "narrow")) (consL (tupE nilL) (consL (lstV nilL) (consL (tupE (consL (cE (.str "a")) nilL)) (consL (tupE (consL (tupE (consL (cE (.int 0)) (consL (cE (.int 1)) nilL))) nilL)) nilL)))))))))))))))))))))))))))
    (seqS (ifS (tst (op2 eqD (callE m__law_sort (consL (varE 1) nilL)) (cE (.int 2)))) (asgV 2 (op2 addD (varE 2) (lstV (consL (op2 subD (varE 1) (cE (.int 1))) (consL (op2 addD (varE 1) (cE (.int 1))) (consL (op2 addD (varE 1) (cE (.int 1))) (consL (op2 addD (varE 1) (cE (.int 2))) nilL))))))) skipS)
    (retS (callE m__law_some (consL (varE 0) (consL (varE 2) nilL)))))) skipS)
    (seqS (parS 3 4 (consL (callE m__law_roll (consL (varE 0) (consL (biE (g1 lenM) (consL (varE 1) nilL)) nilL))) (consL (callE m__law_roll (consL (varE 0) (consL (cE (.int 12)) nilL))) nilL)))
    (seqS (ifS (tst (op2 eqD (varE 4) (cE (.int 0)))) (retS (op2 addD (slE (varE 1) mO0 (mO1 (varE 3))) (slE (varE 1) (mO1 (op2 addD (varE 3) (cE (.int 1)))) mO0))) skipS)
    (seqS (ifS (tst (op2 eqD (varE 4) (cE (.int 1)))) (retS (op2 addD (slE (varE 1) mO0 (mO1 (op2 addD (varE 3) (cE (.int 1))))) (slE (varE 1) (mO1 (varE 3)) mO0))) skipS)
    (seqS (ifS (tst (op2 eqD (varE 4) (cE (.int 2)))) (retS (biE (g1 listV) (consL (varE 1) nilL))) skipS)
    (seqS (ifS (tst (op2 eqD (varE 4) (cE (.int 3)))) (retS (op1 revD (varE 1))) skipS)
    (retS (op2 addD (op2 addD (slE (varE 1) mO0 (mO1 (varE 3))) (tupE (consL (callE (m__law_bent n) (consL (varE 0) (consL (op2 ixD (varE 1) (varE 3)) nilL))) nilL))) (slE (varE 1) (mO1 (op2 addD (varE 3) (cE (.int 1)))) mO0))))))))))
def m__law_are_shifts : Fn := fnM 8 2 (
    (seqS (ifS (orT (notT (tst (op1 (isTyD .tuple) (varE 1)))) (orT (tst (op2 gtM (biE (g1 lenM) (consL (varE 1) nilL)) (cE (.int 12)))) (tst (op2 neD (lcV [5] (seqI (varE 1)) (pN 5) (orT (notT (tst (op1 (isTyD .tuple) (varE 5)))) (tst (op2 neD (biE (g1 lenM) (consL (varE 5) nilL)) (cE (.int 3))))) (varE 5)) (lstV nilL))))) (retS (cE (.bl false))) skipS)
    (seqS (forS (seqI (varE 1)) (pT 3 (pCons (pN 2) (pCons (pN 3) (pCons (pN 4) pNil)))) (ifS (orT (notT (tst (callE m__law_is_number (consL (varE 2) (consL (cE (.int 0)) (consL (op2 subD (varE 0) (cE (.int 1))) nilL)))))) (orT (notT (tst (callE m__law_is_number (consL (varE 3) (consL (op2 addD (varE 2) (cE (.int 1))) (consL (varE 0) nilL)))))) (notT (tst (callE m__law_is_number (consL (varE 4) (consL (cE (.int 1)) (consL (cE (.int 99)) nilL)))))))) (retS (cE (.bl false))) skipS))
    (retS (op2 eqD (lcV [6, 7] (zipI (varE 1) (slE (varE 1) (mO1 (cE (.int 1))) mO0)) (pT 2 (pCons (pN 6) (pCons (pN 7) pNil))) (tst (op2 geM (slE (varE 6) mO0 (mO1 (cE (.int 2)))) (slE (varE 7) mO0 (mO1 (cE (.int 2)))))) (cE (.int 1))) (lstV nilL))))))
def m__law_is_need : Fn := fnM 3 2 (
    (retS (andE (op1 (isTyD .tuple) (varE 1)) (andE (op2 eqD (biE (g1 lenM) (consL (varE 1) nilL)) (varE 0)) (op2 eqD (lcV [2] (seqI (varE 1)) (pN 2) (notT (tst (callE m__law_is_number (consL (varE 2) (consL (cE (.int 0)) (consL (cE (.int 50)) nilL)))))) (varE 2)) (lstV nilL))))))
def m__law_right : Fn := fnM 17 2 (
    (seqS (asgV 2 (callE m__law_shifts (consL (varE 0) (consL (varE 1) (consL (callE m__law_some (consL (varE 0) (consL (lstV (consL (cE (.int 2)) (consL (cE (.int 12)) nilL))) nilL))) (consL (cE (.int 99)) nilL))))))
    (seqS (asgV 3 (callE m__law_need (consL (varE 0) (consL (varE 1) (consL (varE 2) (consL (callE m__law_some (consL (varE 0) (consL (lstV (consL (cE (.int 1)) (consL (cE (.int 50)) nilL))) nilL))) nilL))))))
    (seqS (asgV 4 (biE (g1 tupleM) (consL (lcV [14] (seqI (varE 2)) (pN 14) yesT (callE m__law_roll (consL (varE 0) (consL (op2 addD (biE (g1 maxD) (consL (varE 3) nilL)) (cE (.int 2))) nilL)))) nilL)))
    (seqS (asgV 5 (biE (g1 tupleM) (consL (lcV [15] (rng1I (varE 1)) (pN 15) yesT (callE m__law_some (consL (varE 0) (consL (lstV (consL (cE (.int 0)) (consL (cE (.int 0)) (consL (cE (.int 1)) (consL (callE m__law_roll (consL (varE 0) (consL (cE (.int 100)) nilL))) nilL))))) nilL)))) nilL)))
    (seqS (asgV 6 (callE m__law_works (consL (varE 1) (consL (varE 2) (consL (op2 mulD (tupE (consL (cE (.int 1)) nilL)) (biE (g1 lenM) (consL (varE 2) nilL))) nilL)))))
    (seqS (asgV 7 (biE (g1 tupleM) (consL (lcV [15] (rng1I (varE 1)) (pN 15) (andT (tst (op2 gtM (op2 ixD (varE 3) (varE 15)) (cE (.int 0)))) (tst (op2 eqD (op2 ixD (varE 6) (varE 15)) (cE (.int 0))))) (varE 15)) nilL)))
    (seqS (ifS (notT (tst (callE (m__law_like 6) (consL (lstV (consL (callE m_are_shifts (consL (varE 1) (consL (varE 2) nilL))) (consL (callE m_is_need (consL (varE 1) (consL (varE 3) nilL))) (consL (callE m_uncovered (consL (varE 1) (consL (varE 2) (consL (varE 3) nilL)))) nilL)))) (consL (lstV (consL (cE (.bl true)) (consL (cE (.bl true)) (consL (varE 7) nilL)))) nilL))))) (retS (cE (.bl false))) skipS)
    (seqS (asgV 8 (op2 mulD (tupE (consL (biE (g1 maxD) (consL (varE 3) nilL)) nilL)) (biE (g1 lenM) (consL (varE 2) nilL))))
    (seqS (forS (seqI (tupE (consL (varE 4) (consL (varE 8) (consL (callE (m__law_bent 6) (consL (varE 0) (consL (varE 4) nilL))) (consL (callE (m__law_bent 6) (consL (varE 0) (consL (varE 8) nilL))) nilL)))))) (pN 9) (seqS (asgV 10 (callE m__law_is_cover (consL (varE 1) (consL (varE 2) (consL (varE 3) (consL (varE 9) nilL))))))
    (seqS (ifS (notT (tst (callE (m__law_like 6) (consL (callE m_is_cover (consL (varE 1) (consL (varE 2) (consL (varE 3) (consL (varE 9) nilL))))) (consL (varE 10) nilL))))) (retS (cE (.bl false))) skipS)
    (seqS (ifS (andT (tst (varE 10)) (notT (tst (callE (m__law_like 6) (consL (callE m_cost_of (consL (varE 1) (consL (varE 2) (consL (varE 3) (consL (varE 9) nilL))))) (consL (callE m__law_cost (consL (varE 2) (consL (varE 9) nilL))) nilL)))))) (retS (cE (.bl false))) skipS)
    (ifS (andT (notT (tst (varE 10))) (tst (op2 neD (wordE wans (callE m_cost_of (consL (varE 1) (consL (varE 2) (consL (varE 3) (consL (varE 9) nilL)))))) (cE (.int 1))))) (retS (cE (.bl false))) skipS)))))
    (seqS (forS (seqI (tupE (consL (varE 5) (consL (op2 mulD (tupE (consL (cE (.int 0)) nilL)) (varE 1)) (consL (callE (m__law_bent 6) (consL (varE 0) (consL (varE 5) nilL))) (consL (biE (g1 tupleM) (consL (lcV [16] (seqI (varE 5)) (pN 16) yesT (biE (g2 min2D) (consL (varE 16) (consL (cE (.int 1)) nilL)))) nilL)) nilL)))))) (pN 9) (seqS (asgV 10 (callE m__law_are_prices (consL (varE 1) (consL (varE 2) (consL (varE 9) nilL)))))
    (seqS (ifS (notT (tst (callE (m__law_like 6) (consL (callE m_are_prices (consL (varE 1) (consL (varE 2) (consL (varE 9) nilL)))) (consL (varE 10) nilL))))) (retS (cE (.bl false))) skipS)
    (seqS (ifS (andT (tst (varE 10)) (notT (tst (callE (m__law_like 6) (consL (callE m_worth_of (consL (varE 1) (consL (varE 2) (consL (varE 3) (consL (varE 9) nilL))))) (consL (callE m__law_worth (consL (varE 3) (consL (varE 9) nilL))) nilL)))))) (retS (cE (.bl false))) skipS)
    (ifS (andT (notT (tst (varE 10))) (tst (op2 neD (wordE wans (callE m_worth_of (consL (varE 1) (consL (varE 2) (consL (varE 3) (consL (varE 9) nilL)))))) (cE (.int 1))))) (retS (cE (.bl false))) skipS)))))
    (seqS (forS (rng1I (cE (.int 4))) (pN 11) (seqS (parS 12 13 (consL (callE (m__law_bent 6) (consL (varE 0) (consL (varE 2) nilL))) (consL (callE (m__law_bent 6) (consL (varE 0) (consL (varE 3) nilL))) nilL)))
    (ifS (notT (tst (callE (m__law_like 6) (consL (lstV (consL (callE m_are_shifts (consL (varE 1) (consL (varE 12) nilL))) (consL (callE m_is_need (consL (varE 1) (consL (varE 13) nilL))) nilL))) (consL (lstV (consL (callE m__law_are_shifts (consL (varE 1) (consL (varE 12) nilL))) (consL (callE m__law_is_need (consL (varE 1) (consL (varE 13) nilL))) nilL))) nilL))))) (retS (cE (.bl false))) skipS)))
    (retS (cE (.bl true)))))))))))))))
def m__law_written_right : Fn := fnM 8 0 (
    (seqS (asgV 0 (biE (g1 tupleM) (consL (op2 addD (op2 addD (lcV [6] (rng2I (cE (.int 1)) (cE (.int 6))) (pN 6) yesT (tupE (consL (cE (.int 0)) (consL (varE 6) (consL (cE (.int 1)) nilL))))) (lcV [6] (rng2I (cE (.int 2)) (cE (.int 6))) (pN 6) yesT (tupE (consL (cE (.int 1)) (consL (varE 6) (consL (cE (.int 99)) nilL)))))) (lcV [6] (rng2I (cE (.int 3)) (cE (.int 6))) (pN 6) yesT (tupE (consL (cE (.int 2)) (consL (varE 6) (consL (cE (.int 1)) nilL)))))) nilL)))
    (seqS (asgV 1 (lstV (consL (tupE nilL) (consL (varE 0) (consL (tupE (consL (tupE (consL (cE (.int 0)) (consL (cE (.int 5)) (consL (cE (.int 1)) nilL)))) nilL)) (consL (tupE (consL (tupE (consL (cE (.int 4)) (consL (cE (.int 5)) (consL (cE (.int 99)) nilL)))) nilL)) (consL (tupE (consL (tupE (consL (cE (.int 0)) (consL (cE (.int 1)) (consL (cE (.int 1)) nilL)))) (consL (tupE (consL (cE (.int 0)) (consL (cE (.int 2)) (consL (cE (.int 1)) nilL)))) nilL))) nilL)))))))
    (seqS (asgV 2 (lstM (consL (op2 addD (varE 0) (tupE (consL (tupE (consL (cE (.int 3)) (consL (cE (.int 4)) (consL (cE (.int 1)) nilL)))) nilL))) (consL (tupE (consL (tupE (consL (cE (.int 0)) (consL (cE (.int 6)) (consL (cE (.int 1)) nilL)))) nilL)) (consL (tupE (consL (tupE (consL (cE (.int 5)) (consL (cE (.int 6)) (consL (cE (.int 1)) nilL)))) nilL)) (consL (tupE (consL (tupE (consL (cE (.int 2)) (consL (cE (.int 2)) (consL (cE (.int 1)) nilL)))) nilL)) (consL (tupE (consL (tupE (consL (cE (.int 3)) (consL (cE (.int 2)) (consL (cE (.int 1)) nilL)))) nilL)) (consL (tupE (consL (tupE (consL (cE (.int 0)) (consL (cE (.int 1)) (consL (cE (.int 0)) nilL)))) nilL)) (consL (tupE (consL (tupE (consL (cE (.int 0)) (consL (cE (.int 1)) (consL (cE (.int 100)) nilL)))) nilL)) (consL (tupE (consL (tupE (consL (op1 negD (cE (.int 1))) (consL (cE (.int 1)) (consL (cE (.int 1)) nilL)))) nilL)) nilL))))))))))
    (seqS (asgV 2 (op2 addM (varE 2) (lstV (consL (tupE (consL (tupE (consL (cE (.int 0)) (consL (cE (.int 1)) (consL (cE (.int 1)) nilL)))) (consL (tupE (consL (cE (.int 0)) (consL (cE (.int 1)) (consL (cE (.int 2)) nilL)))) nilL))) (consL (tupE (consL (tupE (consL (cE (.int 1)) (consL (cE (.int 2)) (consL (cE (.int 1)) nilL)))) (consL (tupE (consL (cE (.int 0)) (consL (cE (.int 1)) (consL (cE (.int 1)) nilL)))) nilL))) (consL (tupE (consL (tupE (consL (cE (.bl false)) (consL (cE (.int 1)) (consL (cE (.int 1)) nilL)))) nilL)) (consL (tupE (consL (tupE (consL (cE (.int 0)) (consL (cE (.bl true)) (consL (cE (.int 1)) nilL)))) nilL)) (consL (tupE (consL (tupE (consL (cE (.int 0)) (consL (cE (.int 1)) (consL (cE (.bl true)) nilL)))) nilL)) (consL (tupE (consL (tupE (consL (cE (.int 0)) (consL (cE (.int 1)) nilL))) nilL)) (consL (tupE (consL (tupE (consL (cE (.int 0)) (consL (cE (.int 1)) (consL (cE (.int 1)) (consL (cE (.int 1)) nilL))))) nilL)) nilL))))))))))
    (seqS (asgV 2 (op2 addM (varE 2) (lstV (consL (lstV (consL (tupE (consL (cE (.int 0)) (consL (cE (.int 1)) (consL (cE (.int 1)) nilL)))) nilL)) (consL (tupE (consL (lstV (consL (cE (.int 0)) (consL (cE (.int 1)) (consL (cE (.int 1)) nilL)))) nilL)) (consL (cE .non) (consL (tupE (consL (cE (.int 0)) (consL (cE (.int 1)) (consL (cE (.int 1)) nilL)))) nilL)))))))
    (seqS (ifS (orT (tst (op2 neD (lcV [7] (seqI (varE 1)) (pN 7) (tst (op2 notBlD (callE m_are_shifts (consL (cE (.int 5)) (consL (varE 7) nilL))) (cE (.bl true)))) (varE 7)) (lstV nilL))) (tst (op2 neD (lcV [7] (seqI (varE 2)) (pN 7) (tst (op2 notBlD (callE m_are_shifts (consL (cE (.int 5)) (consL (varE 7) nilL))) (cE (.bl false)))) (varE 7)) (lstV nilL)))) (retS (cE (.bl false))) skipS)
    (seqS (parS 1 2 (consL (lstV (consL (op2 mulD (tupE (consL (cE (.int 0)) nilL)) (cE (.int 5))) (consL (op2 mulD (tupE (consL (cE (.int 50)) nilL)) (cE (.int 5))) nilL))) (consL (lstM (consL (op2 addD (tupE (consL (cE (.int 51)) nilL)) (op2 mulD (tupE (consL (cE (.int 0)) nilL)) (cE (.int 4)))) (consL (op2 addD (tupE (consL (op1 negD (cE (.int 1))) nilL)) (op2 mulD (tupE (consL (cE (.int 0)) nilL)) (cE (.int 4)))) (consL (op2 mulD (tupE (consL (cE (.int 0)) nilL)) (cE (.int 4))) (consL (op2 mulD (tupE (consL (cE (.int 0)) nilL)) (cE (.int 6))) (consL (op2 mulD (lstV (consL (cE (.int 0)) nilL)) (cE (.int 5))) (consL (op2 mulD (tupE (consL (cE .non) nilL)) (cE (.int 5))) (consL (cE .non) (consL (cE (.int 0)) nilL))))))))) nilL)))
    (seqS (exprS (appE (varE 2) (op2 addD (tupE (consL (cE (.bl true)) nilL)) (op2 mulD (tupE (consL (cE (.int 0)) nilL)) (cE (.int 4))))))
    (seqS (ifS (orT (tst (op2 neD (lcV [7] (seqI (varE 1)) (pN 7) (tst (op2 notBlD (callE m_is_need (consL (cE (.int 5)) (consL (varE 7) nilL))) (cE (.bl true)))) (varE 7)) (lstV nilL))) (tst (op2 neD (lcV [7] (seqI (varE 2)) (pN 7) (tst (op2 notBlD (callE m_is_need (consL (cE (.int 5)) (consL (varE 7) nilL))) (cE (.bl false)))) (varE 7)) (lstV nilL)))) (retS (cE (.bl false))) skipS)
    (seqS (asgP (pT 2 (pCons (pN 3) (pCons (pN 4) pNil))) (tupE (consL (tupE (consL (tupE (consL (cE (.int 0)) (consL (cE (.int 3)) (consL (cE (.int 2)) nilL)))) (consL (tupE (consL (cE (.int 1)) (consL (cE (.int 4)) (consL (cE (.int 3)) nilL)))) (consL (tupE (consL (cE (.int 3)) (consL (cE (.int 5)) (consL (cE (.int 2)) nilL)))) nilL)))) (consL (tupE (consL (cE (.int 1)) (consL (cE (.int 2)) (consL (cE (.int 2)) (consL (cE (.int 0)) (consL (cE (.int 1)) nilL)))))) nilL))))
    (seqS (asgV 1 (lstV (consL (tupE (consL (cE (.int 2)) (consL (cE (.int 0)) (consL (cE (.int 1)) nilL)))) (consL (tupE (consL (cE (.int 1)) (consL (cE (.int 1)) (consL (cE (.int 1)) nilL)))) (consL (tupE (consL (op2 powD (cE (.int 10)) (cE (.int 60))) (consL (cE (.int 0)) (consL (op2 powD (cE (.int 10)) (cE (.int 60))) nilL)))) nilL)))))
    (seqS (asgV 2 (lstM (consL (tupE (consL (cE (.int 1)) (consL (cE (.int 0)) (consL (cE (.int 1)) nilL)))) (consL (tupE (consL (cE (.int 2)) (consL (cE (.int 0)) (consL (cE (.int 0)) nilL)))) (consL (tupE (consL (cE (.int 2)) (consL (cE (.int 0)) nilL))) (consL (tupE (consL (cE (.int 2)) (consL (cE (.int 0)) (consL (cE (.int 1)) (consL (cE (.int 0)) nilL))))) (consL (lstV (consL (cE (.int 2)) (consL (cE (.int 0)) (consL (cE (.int 1)) nilL)))) (consL (tupE (consL (cE (.int 2)) (consL (op1 negD (cE (.int 1))) (consL (cE (.int 1)) nilL)))) (consL (tupE (consL (cE (.int 2)) (consL (cE (.bl false)) (consL (cE (.int 1)) nilL)))) (consL (cE .non) nilL))))))))))
    (seqS (ifS (notT (tst (callE (m__law_like 6) (consL (lcV [7] (seqI (op2 addD (varE 1) (varE 2))) (pN 7) yesT (callE m_is_cover (consL (cE (.int 5)) (consL (varE 3) (consL (varE 4) (consL (varE 7) nilL)))))) (consL (op2 addD (op2 mulD (lstV (consL (cE (.bl true)) nilL)) (cE (.int 3))) (op2 mulD (lstV (consL (cE (.bl false)) nilL)) (cE (.int 8)))) nilL))))) (retS (cE (.bl false))) skipS)
    (seqS (asgV 1 (lstV (consL (tupE (consL (cE (.int 0)) (consL (cE (.int 2)) (consL (cE (.int 0)) (consL (cE (.int 0)) (consL (cE (.int 2)) nilL)))))) (consL (op2 mulD (tupE (consL (cE (.int 0)) nilL)) (cE (.int 5))) (consL (tupE (consL (cE (.int 2)) (consL (cE (.int 0)) (consL (cE (.int 0)) (consL (cE (.int 2)) (consL (cE (.int 0)) nilL)))))) nilL)))))
    (seqS (asgV 2 (lstM (consL (tupE (consL (cE (.int 1)) (consL (cE (.int 2)) (consL (cE (.int 0)) (consL (cE (.int 0)) (consL (cE (.int 0)) nilL)))))) (consL (tupE (consL (cE (.int 0)) (consL (cE (.int 2)) (consL (cE (.int 0)) (consL (cE (.int 2)) (consL (cE (.int 0)) nilL)))))) (consL (tupE (consL (cE (.int 0)) (consL (cE (.int 2)) (consL (cE (.int 0)) (consL (cE (.int 1)) (consL (cE (.int 2)) nilL)))))) (consL (op2 mulD (tupE (consL (cE (.int 0)) nilL)) (cE (.int 4))) (consL (op2 mulD (lstV (consL (cE (.int 0)) nilL)) (cE (.int 5))) (consL (tupE (consL (op1 negD (cE (.int 1))) (consL (cE (.int 1)) (consL (cE (.int 0)) (consL (cE (.int 0)) (consL (cE (.int 0)) nilL)))))) (consL (tupE (consL (cE (.int 0)) (consL (cE (.int 2)) (consL (cE (.int 0)) (consL (cE (.int 0)) (consL (cE (.bl true)) nilL)))))) (consL (cE .non) nilL))))))))))
    (seqS (ifS (notT (tst (callE (m__law_like 6) (consL (lcV [7] (seqI (op2 addD (varE 1) (varE 2))) (pN 7) yesT (callE m_are_prices (consL (cE (.int 5)) (consL (varE 3) (consL (varE 7) nilL))))) (consL (op2 addD (op2 mulD (lstV (consL (cE (.bl true)) nilL)) (cE (.int 3))) (op2 mulD (lstV (consL (cE (.bl false)) nilL)) (cE (.int 8)))) nilL))))) (retS (cE (.bl false))) skipS)
    (seqS (asgV 5 (lstV (consL (callE m_cost_of (consL (cE (.int 5)) (consL (varE 3) (consL (varE 4) (consL (tupE (consL (cE (.int 2)) (consL (cE (.int 0)) (consL (cE (.int 1)) nilL)))) nilL))))) (consL (callE m_worth_of (consL (cE (.int 5)) (consL (varE 3) (consL (varE 4) (consL (tupE (consL (cE (.int 0)) (consL (cE (.int 2)) (consL (cE (.int 0)) (consL (cE (.int 0)) (consL (cE (.int 2)) nilL)))))) nilL))))) (consL (callE m_uncovered (consL (cE (.int 5)) (consL (slE (varE 3) mO0 (mO1 (cE (.int 2)))) (consL (varE 4) nilL)))) nilL)))))
    (seqS (ifS (notT (tst (callE (m__law_like 6) (consL (op2 addD (varE 5) (lstV (consL (callE m_uncovered (consL (cE (.int 5)) (consL (tupE nilL) (consL (varE 4) nilL)))) (consL (callE m_uncovered (consL (cE (.int 5)) (consL (tupE nilL) (consL (op2 mulD (tupE (consL (cE (.int 0)) nilL)) (cE (.int 5))) nilL)))) nilL)))) (consL (lstV (consL (cE (.int 6)) (consL (cE (.int 6)) (consL (tupE (consL (cE (.int 4)) nilL)) (consL (tupE (consL (cE (.int 0)) (consL (cE (.int 1)) (consL (cE (.int 2)) (consL (cE (.int 4)) nilL))))) (consL (tupE nilL) nilL)))))) nilL))))) (retS (cE (.bl false))) skipS)
    (retS (andE (op2 eqD (callE m_cost_of (consL (cE (.int 5)) (consL (varE 3) (consL (varE 4) (consL (tupE (consL (op2 powD (cE (.int 10)) (cE (.int 60))) (consL (cE (.int 0)) (consL (cE (.int 1)) nilL)))) nilL))))) (op2 addD (op2 mulD (cE (.int 2)) (op2 powD (cE (.int 10)) (cE (.int 60)))) (cE (.int 2)))) (op2 isBlD (callE m_are_prices (consL (cE (.int 5)) (consL (tupE nilL) (consL (op2 mulD (tupE (consL (op2 powD (cE (.int 10)) (cE (.int 60))) nilL)) (cE (.int 5))) nilL)))) (cE (.bl true))))))))))))))))))))))))
def m_law : Fn := fnM 3 1 (
    (seqS (ifS (notT (tst (callE m__law_written_right nilL))) (retS (cE (.bl false))) skipS)
    (seqS (asgV 1 (callE m__law_cup (consL (varE 0) nilL)))
    (seqS (forS (rng1I (cE (.int 4))) (pN 2) (ifS (notT (tst (callE m__law_right (consL (varE 1) (consL (callE m__law_some (consL (varE 1) (consL (lstV (consL (cE (.int 1)) (consL (cE (.int 3)) (consL (cE (.int 8)) (consL (cE (.int 60)) nilL))))) nilL))) nilL))))) (retS (cE (.bl false))) skipS))
    (retS (cE (.bl true)))))))
/-! ### each def does what its mirror tells -/
section
variable {P : Program} {w : World} {K : PySem.W.Frag} {mg : Str → Option Value} {base : Heap} {T : List (Addr × Str)}
abbrev ansW (K : PySem.W.Frag) := Ans1 K (He.ga K "KeptError") (He.ga K "InvalidPaper")
theorem wans_ok (G : Top K mg) : ∀ (y : Str) (i : Int) (D : Addr), mg y = some (.ref D) → wans y = some i → ansW K (.ref D) none i := by
  intro y i D hg h
  unfold wans at h
  split at h
  · rename_i e; subst e; cases h; rw [G.e_InvalidMinute.g] at hg; cases hg; exact G.w_InvalidMinute.ans
  · split at h
    · rename_i e; subst e; cases h; rw [G.e_InvalidSpans.g] at hg; cases hg; exact G.w_InvalidSpans.ans
    · split at h
      · rename_i e; subst e; cases h; rw [G.e_InvalidBounds.g] at hg; cases hg; exact G.w_InvalidBounds.ans
      · split at h
        · rename_i e; subst e; cases h; rw [G.e_InvalidPaper.g] at hg; cases hg; exact G.w_InvalidPaper.ans
        · cases h
abbrev N__law_word : List Str := ["call", "error", "some"]
theorem sc__law_word : FnScope N__law_word ["call"] (defScope s__law_word) := ⟨rfl, rfl, rfl, by decide +kernel, rfl, by decide +kernel, by decide +kernel⟩
theorem word_ok {fdw : FuncData} (Fw : FunD K "_law_word" "_law_word" (defArgs s__law_word) (defBody s__law_word) (defScope s__law_word) [] [] (He.ga K "_law_word") fdw) (G : Top K mg) :
    WordF K mg "_law_word" "call" (defArgs s__law_word) (defBody s__law_word) (defScope s__law_word) N__law_word (He.ga K "_law_word") fdw :=
  ⟨Fw, G.g__law_word, Fw.bindsN fun _ _ _ _ _ _ us hl => match us, hl with | [_], _ => rfl, sc__law_word, rfl, Or.inl rfl⟩
/-- what the suite reads -/
def tSuite (K : PySem.W.Frag) (a D ip : Addr) : TS :=
  tSeq (tAsg (tLst (tCons (tCB (rIsE K D a) (tCons (tVar 1) (tCons (tC (.ref ip)) tNil))) tNil)) (gName 2))
    (tRet (tIf (tAnd (tTest (tOp rEq (tBM K "list" (rCntV K) (tVar 2) (tCons (tC (.bl true)) tNil)) (tC (.int 1)))) (tB (tCB (rIsE K D a) (tCons (tVar 1) (tCons (tC (.ty "ValueError")) tNil)))))
      (tOp (rI0 fun i j => .int (i + j)) (tBM K "list" (rIndex K) (tVar 2) (tCons (tC (.bl true)) tNil)) (tC (.int 1))) (tC (.int 0))))
theorem wgives {X : Cx} (G : Top X.K X.mg) {g : Addr} {cdg : Value} {q : Str} : LamX.GivesTo X N__law_word "_law_word" (defScope s__law_word) g cdg (defBody s__law_word) "call" q (TTw (ansW X.K)) := by
  intro f c' s H Q tl act hc h
  have nd := sc__law_word.nd
  refine ⟨_, pss_cons (ps_try_as (X := (cxOf C8.CX0 X.prog X.w X.K X.mg X.base N__law_word "_law_word" (defScope s__law_word) g cdg X.A X.stack s H C8.E0).nox) (c := .ref (He.ga X.K "KeptError")) (i := 1)
      (tb := fun W D σ H => ∃ Ech : XK, (∀ cls d σ' H', Ech cls d H' → W cls d σ' H') ∧ σ[0]? = some (some (.ref f)) ∧ H c' = some (LamX.CodeO c' q) ∧ tl Ech H fun _ H' => D.nx σ H')
      (ts := fun a cls d D σ H => ∃ Dd, cls = .ref Dd ∧ d = none ∧ ExcC X.K Dd ∧ (σ.length = 3 → tSuite X.K a Dd (He.ga X.K "InvalidPaper") D σ H))
      rfl rfl nd rfl rfl ⟨rfl, by decide, .inl G.k_KeptError⟩ LamX.takes0 (fun W pn xe tk _ => ?_) (fun a oe cls d pn hz hf => ?_)) (pss_one (ps_ret (pe_un un_neg pe_int))), ?_⟩
  · refine ⟨fun pins s' σ H' D I h' => ?_⟩
    obtain ⟨Ech, hW, h1, h2, h3⟩ := h'
    exact (pss_one (ps_expr (act W pn xe Ech _ _ tk hW))).run pins s' σ H' D I ⟨h1, h2, h3⟩
  · refine ⟨fun pins s' σ H' D I h' => ?_⟩
    obtain ⟨Dd, rfl, rfl, hC, hr⟩ := h'
    have hl : σ.length = 3 := I.len
    have pe := call_isE (pn := pn) (a := a) (X := (cxOf C8.CX0 X.prog X.w X.K X.mg X.base N__law_word "_law_word" (defScope s__law_word) g cdg X.A X.stack s H C8.E0).nox) hC hz hf
    refine PSs.run (t := tSuite X.K a Dd (He.ga X.K "InvalidPaper")) ?_ pins s' σ H' D I (hr hl)
    exact pss_cons (ps_set (i := 2) nd rfl (.inl rfl) (pe_lst (pa_cons (pe_callB pe (by exact rfl) G.n_isinstance (by decide +kernel) (pa_cons (pv 1) (pa_cons (pe_glob (by exact rfl) G.e_InvalidPaper.g rfl) pa_nil))) pa_nil)))
      (pss_one (ps_ret (pe_ifExp (pw_and (pt_cmpR op_eq (pe_bm PySem.F.plainAttrs_list PySem.F.slot_list_count PySem.F.type_list_count mt_countV (pv 2) (pa_cons pe_bl pa_nil)) pe_int rfl) (pw_and1 (pt_val (pe_callB pe (by exact rfl) G.n_isinstance (by decide +kernel) (pa_cons (pv 1) (pa_cons (pe_bltn (v := .ty "ValueError") (u := .type "ValueError") (by exact rfl) G.n_ValueError (by decide +kernel) rfl) pa_nil)))))).pt
        (pe_op op_add (pe_bm PySem.F.plainAttrs_list PySem.F.slot_list_index PySem.F.type_list_index mt_index (pv 2) (pa_cons pe_bl pa_nil)) pe_int) pe_int)))
  · refine ⟨wishW (ansW X.K) Q, fun cls d σ' H' hw => ?_, rfl, hc, ?_⟩
    · obtain ⟨i, hA, hq⟩ := hw
      obtain ⟨Dd, b, rfl, rfl, x1, x2, x3, x4, rfl⟩ := hA
      refine ⟨true, x1, fun _ a ha => ⟨Dd, rfl, rfl, x2, fun hl => ?_⟩, fun z => by cases z⟩
      obtain ⟨v0, v1, v2, e⟩ : ∃ v0 v1 v2, σ' = [v0, v1, v2] := by
        match σ', hl with
        | [v0, v1, v2], _ => exact ⟨v0, v1, v2, rfl⟩
      subst e
      refine ⟨.ref a, rfl, .ref (He.ga X.K "InvalidPaper"), _, b, rfl, (fun u r => r), x3, (by show 1 ≤ sizeLine; decide), fun p hp => ?_⟩
      have fin : ∀ i : Int, Q (.int (if b = true then 1 else 0)) (upd H' p (.lst [.bl b])) := fun i => hq _ fun b' o e => by rw [upd_ne (ne_of_none e hp)]; exact e
      refine ⟨.ref p, rfl, .inl ⟨rfl, _, SqL.of upd_same⟩, p, [.bl b], .bl true, rfl, rfl, SqL.of upd_same, rfl, rfl, ?_⟩
      refine ⟨rfl, ?_⟩
      cases b with
      | true =>
        refine ⟨true, rfl, ?_⟩
        refine ⟨.ref a, rfl, .ty "ValueError", _, true, rfl, (fun u r => r), x4, true, rfl, ?_⟩
        refine ⟨.ref p, rfl, .inl ⟨rfl, _, SqL.of upd_same⟩, p, [.bl true], .bl true, 0, .bl true, rfl, rfl, SqL.of upd_same, rfl, rfl, rfl, rfl, fun m z hm _ => absurd hm (Nat.not_lt_zero _), ?_⟩
        exact ⟨_, _, rfl, rfl, fin 0⟩
      | false => exact ⟨false, rfl, fin 0⟩
    · have e : (fun (_ : V) (H' : Hp) => ∃ i : Int, V.int 1 = V.int i ∧ Q (.int (-i)) H') = fun _ H' => Q (.int (-1)) H' := by
        funext v H'
        refine propext ⟨fun ⟨i, e, q⟩ => by cases e; exact q, fun q => ⟨1, rfl, q⟩⟩
      have h2 : tl (wishW (ansW X.K) Q) H (fun (_ : V) (H' : Hp) => ∃ i : Int, V.int 1 = V.int i ∧ Q (.int (-i)) H') := by
        rw [e]; exact h
      exact h2
theorem ok_is_number (G : Top K mg) : ∃ fd, FM P w K mg base T 1 "is_number" (He.ga K "is_number") fd ["value", "least", "most"] m_is_number := by
  obtain ⟨fd, F⟩ := G.F_is_number
  have bd : Binds K fd ["value", "least", "most"] [] := F.bindsN fun _ _ _ _ _ _ us hl => match us, hl with | [_, _, _], _ => rfl
  refine ⟨fd, fn_okD (k := 0) F sc_is_number G.g_is_number bd ?_⟩
  intro no cdv A outer s H E hcd hr hx hp tk
  have nd := sc_is_number.nd
  have hu := units64 hr
  have hu1 := units1 hr
  have hu2 := units128 hr
  exact (mss_cons (ms_if (mt_w (mw_or (mt_val (me_isi .bool (me_var 0) rfl G.n_isinstance G.n_bool (by decide +kernel))) (mw_or1 (mt_not (mt_val (me_isi .int (me_var 0) rfl G.n_isinstance G.n_int (by decide +kernel))))))) (mss_one (ms_ret me_bl)) mss_nil)
    (mss_one (ms_ret (me_chain (op_leM hu) (op_leM hu) rule_le rule_le (me_var 1) (me_var 0) (me_var 2)))))
theorem ok_is_row (G : Top K mg) : ∃ fd, FM P w K mg base T 2 "is_row" (He.ga K "is_row") fd ["value", "least", "most"] m_is_row := by
  obtain ⟨fd, F⟩ := G.F_is_row
  have bd : Binds K fd ["value", "least", "most"] [] := F.bindsN fun _ _ _ _ _ _ us hl => match us, hl with | [_, _, _], _ => rfl
  obtain ⟨_, F_is_number⟩ := ok_is_number (P := P) (w := w) (base := base) (T := T) G
  refine ⟨fd, fn_okD (k := 1) F sc_is_row G.g_is_row bd ?_⟩
  intro no cdv A outer s H E hcd hr hx hp tk
  have nd := sc_is_row.nd
  have hu := units64 hr
  have hu1 := units1 hr
  have hu2 := units128 hr
  replace F_is_number := F_is_number.mono (k := 1) (by decide)
  exact (mss_one (ms_ret (me_and (me_isi .tuple (me_var 0) rfl G.n_isinstance G.n_tuple (by decide +kernel)) (me_one (me_call F_is_number hr hx (ml_cons (me_bi call_lenM rule_len.l G.n_len (by decide +kernel) (ml_cons (me_var 0) ml_nil)) (ml_cons (me_var 1) (ml_cons (me_var 2) ml_nil))))))))
theorem ok_fits_shift (G : Top K mg) : ∃ fd, FM P w K mg base T 3 "fits_shift" (He.ga K "fits_shift") fd ["day", "value"] m_fits_shift := by
  obtain ⟨fd, F⟩ := G.F_fits_shift
  have bd : Binds K fd ["day", "value"] [] := F.bindsN fun _ _ _ _ _ _ us hl => match us, hl with | [_, _], _ => rfl
  obtain ⟨_, F_is_row⟩ := ok_is_row (P := P) (w := w) (base := base) (T := T) G
  obtain ⟨_, F_is_number⟩ := ok_is_number (P := P) (w := w) (base := base) (T := T) G
  obtain ⟨_, i_COST⟩ := G.i_COST
  refine ⟨fd, fn_okD (k := 2) F sc_fits_shift G.g_fits_shift bd ?_⟩
  intro no cdv A outer s H E hcd hr hx hp tk
  have nd := sc_fits_shift.nd
  have hu := units64 hr
  have hu1 := units1 hr
  have hu2 := units128 hr
  replace F_is_row := F_is_row.mono (k := 2) (by decide)
  replace F_is_number := F_is_number.mono (k := 2) (by decide)
  exact (mss_cons (ms_if (mt_w (mw_or (mt_not (mt_val (me_call F_is_row hr hx (ml_cons (me_var 1) (ml_cons me_int (ml_cons me_int ml_nil)))))) (mw_or1 (mt_not (mt_val (me_call F_is_number hr hx (ml_cons (me_ix rfl (me_var 1) me_int) (ml_cons me_int (ml_cons (me_op op_sub' rule_sub (me_var 0) me_int) ml_nil))))))))) (mss_one (ms_ret me_bl)) mss_nil)
    (mss_one (ms_ret (me_and (me_call F_is_number hr hx (ml_cons (me_ix rfl (me_var 1) me_int) (ml_cons (me_op op_addM rule_add (me_ix rfl (me_var 1) me_int) me_int) (ml_cons (me_var 0) ml_nil)))) (me_one (me_call F_is_number hr hx (ml_cons (me_ix rfl (me_var 1) me_int) (ml_cons me_int (ml_cons (me_gint i_COST) ml_nil)))))))))
theorem ok_fits_shifts (G : Top K mg) : ∃ fd, FM P w K mg base T 4 "fits_shifts" (He.ga K "fits_shifts") fd ["day", "value"] m_fits_shifts := by
  obtain ⟨fd, F⟩ := G.F_fits_shifts
  have bd : Binds K fd ["day", "value"] [] := F.bindsN fun _ _ _ _ _ _ us hl => match us, hl with | [_, _], _ => rfl
  obtain ⟨_, F_is_row⟩ := ok_is_row (P := P) (w := w) (base := base) (T := T) G
  obtain ⟨_, F_fits_shift⟩ := ok_fits_shift (P := P) (w := w) (base := base) (T := T) G
  obtain ⟨_, i_SHIFTS⟩ := G.i_SHIFTS
  refine ⟨fd, fn_okD (k := 3) F sc_fits_shifts G.g_fits_shifts bd ?_⟩
  intro no cdv A outer s H E hcd hr hx hp tk
  have nd := sc_fits_shifts.nd
  have hu := units64 hr
  have hu1 := units1 hr
  have hu2 := units128 hr
  replace F_is_row := F_is_row.mono (k := 3) (by decide)
  replace F_fits_shift := F_fits_shift.mono (k := 3) (by decide)
  exact (mss_cons (ms_if (mt_w (mw_or (mt_not (mt_val (me_call F_is_row hr hx (ml_cons (me_var 1) (ml_cons me_int (ml_cons (me_gint i_SHIFTS) ml_nil)))))) (mw_or1 (mt_not (mt_val (me_bi (cr_all rfl) rule_all.l G.n_all (by decide +kernel) (ml_cons (me_lcV (own := [("row", 2)]) rfl nd (mi_seq rfl (me_var 1)) (blkOk_by (N := N_fits_shifts) (sc := defScope s_fits_shifts) (by decide +kernel)) (fun _ _ _ _ _ => (pg_name (i := 2) nd rfl (by first | exact Or.inl rfl | exact Or.inr rfl))) (fun _ hK => (gr_name 2)) (fun _ => fun _ _ _ _ _ => mts_nil) (fun _ => fun _ _ _ _ _ => (me_call F_fits_shift hr passL (ml_cons (me_var 0) (ml_cons (me_var 2) ml_nil))))) ml_nil))))))) (mss_one (ms_ret me_bl)) mss_nil)
    (mss_one (ms_ret (me_bi (cr_all rfl) rule_all.l G.n_all (by decide +kernel) (ml_cons (me_lcV (own := [("one", 3), ("other", 4)]) rfl nd (mi_zip rfl (me_var 1) (me_sl rfl (me_var 1) (mo_some me_int) mo_none) G.n_zip) (blkOk_by (N := N_fits_shifts) (sc := defScope s_fits_shifts) (by decide +kernel)) (fun _ _ _ _ _ => (pg_tup rfl (pgs_cons (pg_name (i := 3) nd rfl (by first | exact Or.inl rfl | exact Or.inr rfl)) (pgs_cons (pg_name (i := 4) nd rfl (by first | exact Or.inl rfl | exact Or.inr rfl)) pgs_nil)))) (fun _ hK => (gr_tupK hK (grs_cons (gr_name 3) (grs_cons (gr_name 4) grs_nil)))) (fun _ => fun _ _ _ _ _ => mts_nil) (fun _ => fun _ _ _ _ _ => (me_cmp (op_ltM hu) rule_lt (me_sl rfl (me_var 3) mo_none (mo_some me_int)) (me_sl rfl (me_var 4) mo_none (mo_some me_int))))) ml_nil)))))
theorem ok_fits_need (G : Top K mg) : ∃ fd, FM P w K mg base T 3 "fits_need" (He.ga K "fits_need") fd ["day", "value"] m_fits_need := by
  obtain ⟨fd, F⟩ := G.F_fits_need
  have bd : Binds K fd ["day", "value"] [] := F.bindsN fun _ _ _ _ _ _ us hl => match us, hl with | [_, _], _ => rfl
  obtain ⟨_, F_is_row⟩ := ok_is_row (P := P) (w := w) (base := base) (T := T) G
  obtain ⟨_, F_is_number⟩ := ok_is_number (P := P) (w := w) (base := base) (T := T) G
  obtain ⟨_, i_NEED⟩ := G.i_NEED
  refine ⟨fd, fn_okD (k := 2) F sc_fits_need G.g_fits_need bd ?_⟩
  intro no cdv A outer s H E hcd hr hx hp tk
  have nd := sc_fits_need.nd
  have hu := units64 hr
  have hu1 := units1 hr
  have hu2 := units128 hr
  replace F_is_row := F_is_row.mono (k := 2) (by decide)
  replace F_is_number := F_is_number.mono (k := 2) (by decide)
  exact (mss_one (ms_ret (me_and (me_call F_is_row hr hx (ml_cons (me_var 1) (ml_cons (me_var 0) (ml_cons (me_var 0) ml_nil)))) (me_one (me_bi (cr_all rfl) rule_all.l G.n_all (by decide +kernel) (ml_cons (me_lcV (own := [("many", 2)]) rfl nd (mi_seq rfl (me_var 1)) (blkOk_by (N := N_fits_need) (sc := defScope s_fits_need) (by decide +kernel)) (fun _ _ _ _ _ => (pg_name (i := 2) nd rfl (by first | exact Or.inl rfl | exact Or.inr rfl))) (fun _ hK => (gr_name 2)) (fun _ => fun _ _ _ _ _ => mts_nil) (fun _ => fun _ _ _ _ _ => (me_call F_is_number hr passL (ml_cons (me_var 2) (ml_cons me_int (ml_cons (me_gint i_NEED) ml_nil)))))) ml_nil))))))
theorem ok_is_from_zero (G : Top K mg) : ∃ fd, FM P w K mg base T 1 "is_from_zero" (He.ga K "is_from_zero") fd ["value"] m_is_from_zero := by
  obtain ⟨fd, F⟩ := G.F_is_from_zero
  have bd : Binds K fd ["value"] [] := F.bindsN fun _ _ _ _ _ _ us hl => match us, hl with | [_], _ => rfl
  refine ⟨fd, fn_okD (k := 0) F sc_is_from_zero G.g_is_from_zero bd ?_⟩
  intro no cdv A outer s H E hcd hr hx hp tk
  have nd := sc_is_from_zero.nd
  have hu := units64 hr
  have hu1 := units1 hr
  have hu2 := units128 hr
  exact (mss_one (ms_ret (me_and (me_isi .int (me_var 0) rfl G.n_isinstance G.n_int (by decide +kernel)) (me_and (me_not (me_isi .bool (me_var 0) rfl G.n_isinstance G.n_bool (by decide +kernel))) (me_one (me_cmp (op_geM hu) rule_ge (me_var 0) me_int))))))
theorem ok_coverage (G : Top K mg) : ∃ fd, FM P w K mg base T 1 "coverage" (He.ga K "coverage") fd ["day", "shifts", "cover"] m_coverage := by
  obtain ⟨fd, F⟩ := G.F_coverage
  have bd : Binds K fd ["day", "shifts", "cover"] [] := F.bindsN fun _ _ _ _ _ _ us hl => match us, hl with | [_, _, _], _ => rfl
  refine ⟨fd, fn_okD (k := 0) F sc_coverage G.g_coverage bd ?_⟩
  intro no cdv A outer s H E hcd hr hx hp tk
  have nd := sc_coverage.nd
  have hu := units64 hr
  have hu1 := units1 hr
  have hu2 := units128 hr
  exact (mss_cons (ms_set 3 nd (me_op op_mulM rule_mulM (me_lstV (ml_cons me_int ml_nil)) (me_var 0)))
    (mss_cons (ms_for hp rfl (mi_zip rfl (me_var 1) (me_var 2) G.n_zip) (pg_tup rfl (pgs_cons (pg_tup rfl (pgs_cons (pg_name (i := 4) nd rfl (by first | exact Or.inl rfl | exact Or.inr rfl)) (pgs_cons (pg_name (i := 5) nd rfl (by first | exact Or.inl rfl | exact Or.inr rfl)) (pgs_cons (pg_name (i := 6) nd rfl (by first | exact Or.inl rfl | exact Or.inr rfl)) pgs_nil)))) (pgs_cons (pg_name (i := 7) nd rfl (by first | exact Or.inl rfl | exact Or.inr rfl)) pgs_nil))) (gr_tupK rfl (grs_cons (gr_tupK rfl (grs_cons (gr_name 4) (grs_cons (gr_name 5) (grs_cons (gr_name 6) grs_nil)))) (grs_cons (gr_name 7) grs_nil))) (mss_one (ms_for hp rfl (mi_range2 (me_var 4) (me_var 5) G.n_range) (pg_name (i := 8) nd rfl (by first | exact Or.inl rfl | exact Or.inr rfl)) (gr_name 8) (mss_one (ms_setI (me_op op_addM rule_add (me_ix rfl (me_var 3) (me_var 8)) (me_var 7)) (me_var 3) (me_var 8))))))
    (mss_one (ms_ret (me_var 3)))))
theorem ok_fits_cover (G : Top K mg) : ∃ fd, FM P w K mg base T 3 "fits_cover" (He.ga K "fits_cover") fd ["day", "shifts", "need", "value"] m_fits_cover := by
  obtain ⟨fd, F⟩ := G.F_fits_cover
  have bd : Binds K fd ["day", "shifts", "need", "value"] [] := F.bindsN fun _ _ _ _ _ _ us hl => match us, hl with | [_, _, _, _], _ => rfl
  obtain ⟨_, F_is_row⟩ := ok_is_row (P := P) (w := w) (base := base) (T := T) G
  obtain ⟨_, F_is_from_zero⟩ := ok_is_from_zero (P := P) (w := w) (base := base) (T := T) G
  obtain ⟨_, F_coverage⟩ := ok_coverage (P := P) (w := w) (base := base) (T := T) G
  refine ⟨fd, fn_okD (k := 2) F sc_fits_cover G.g_fits_cover bd ?_⟩
  intro no cdv A outer s H E hcd hr hx hp tk
  have nd := sc_fits_cover.nd
  have hu := units64 hr
  have hu1 := units1 hr
  have hu2 := units128 hr
  replace F_is_row := F_is_row.mono (k := 2) (by decide)
  replace F_is_from_zero := F_is_from_zero.mono (k := 2) (by decide)
  replace F_coverage := F_coverage.mono (k := 2) (by decide)
  exact (mss_cons (ms_if (mt_w (mw_or (mt_not (mt_val (me_call F_is_row hr hx (ml_cons (me_var 3) (ml_cons (me_bi call_lenM rule_len.l G.n_len (by decide +kernel) (ml_cons (me_var 1) ml_nil)) (ml_cons (me_bi call_lenM rule_len.l G.n_len (by decide +kernel) (ml_cons (me_var 1) ml_nil)) ml_nil)))))) (mw_or1 (mt_not (mt_val (me_bi (cr_all rfl) rule_all.l G.n_all (by decide +kernel) (ml_cons (me_lcV (own := [("many", 4)]) rfl nd (mi_seq rfl (me_var 3)) (blkOk_by (N := N_fits_cover) (sc := defScope s_fits_cover) (by decide +kernel)) (fun _ _ _ _ _ => (pg_name (i := 4) nd rfl (by first | exact Or.inl rfl | exact Or.inr rfl))) (fun _ hK => (gr_name 4)) (fun _ => fun _ _ _ _ _ => mts_nil) (fun _ => fun _ _ _ _ _ => (me_call F_is_from_zero hr passL (ml_cons (me_var 4) ml_nil)))) ml_nil))))))) (mss_one (ms_ret me_bl)) mss_nil)
    (mss_one (ms_ret (me_bi (cr_all rfl) rule_all.l G.n_all (by decide +kernel) (ml_cons (me_lcV (own := [("many", 4), ("wanted", 5)]) rfl nd (mi_zip rfl (me_call F_coverage hr hx (ml_cons (me_var 0) (ml_cons (me_var 1) (ml_cons (me_var 3) ml_nil)))) (me_var 2) G.n_zip) (blkOk_by (N := N_fits_cover) (sc := defScope s_fits_cover) (by decide +kernel)) (fun _ _ _ _ _ => (pg_tup rfl (pgs_cons (pg_name (i := 4) nd rfl (by first | exact Or.inl rfl | exact Or.inr rfl)) (pgs_cons (pg_name (i := 5) nd rfl (by first | exact Or.inl rfl | exact Or.inr rfl)) pgs_nil)))) (fun _ hK => (gr_tupK hK (grs_cons (gr_name 4) (grs_cons (gr_name 5) grs_nil)))) (fun _ => fun _ _ _ _ _ => mts_nil) (fun _ => fun _ _ _ _ _ => (me_cmp (op_geM hu) rule_ge (me_var 4) (me_var 5)))) ml_nil)))))
theorem ok_fits_prices (G : Top K mg) : ∃ fd, FM P w K mg base T 3 "fits_prices" (He.ga K "fits_prices") fd ["day", "shifts", "value"] m_fits_prices := by
  obtain ⟨fd, F⟩ := G.F_fits_prices
  have bd : Binds K fd ["day", "shifts", "value"] [] := F.bindsN fun _ _ _ _ _ _ us hl => match us, hl with | [_, _, _], _ => rfl
  obtain ⟨_, F_is_row⟩ := ok_is_row (P := P) (w := w) (base := base) (T := T) G
  obtain ⟨_, F_is_from_zero⟩ := ok_is_from_zero (P := P) (w := w) (base := base) (T := T) G
  refine ⟨fd, fn_okD (k := 2) F sc_fits_prices G.g_fits_prices bd ?_⟩
  intro no cdv A outer s H E hcd hr hx hp tk
  have nd := sc_fits_prices.nd
  have hu := units64 hr
  have hu1 := units1 hr
  have hu2 := units128 hr
  replace F_is_row := F_is_row.mono (k := 2) (by decide)
  replace F_is_from_zero := F_is_from_zero.mono (k := 2) (by decide)
  exact (mss_cons (ms_if (mt_w (mw_or (mt_not (mt_val (me_call F_is_row hr hx (ml_cons (me_var 2) (ml_cons (me_var 0) (ml_cons (me_var 0) ml_nil)))))) (mw_or1 (mt_not (mt_val (me_bi (cr_all rfl) rule_all.l G.n_all (by decide +kernel) (ml_cons (me_lcV (own := [("price", 3)]) rfl nd (mi_seq rfl (me_var 2)) (blkOk_by (N := N_fits_prices) (sc := defScope s_fits_prices) (by decide +kernel)) (fun _ _ _ _ _ => (pg_name (i := 3) nd rfl (by first | exact Or.inl rfl | exact Or.inr rfl))) (fun _ hK => (gr_name 3)) (fun _ => fun _ _ _ _ _ => mts_nil) (fun _ => fun _ _ _ _ _ => (me_call F_is_from_zero hr passL (ml_cons (me_var 3) ml_nil)))) ml_nil))))))) (mss_one (ms_ret me_bl)) mss_nil)
    (mss_one (ms_ret (me_bi (cr_all rfl) rule_all.l G.n_all (by decide +kernel) (ml_cons (me_lcV (own := [("start", 4), ("end", 5), ("cost", 6)]) rfl nd (mi_seq rfl (me_var 1)) (blkOk_by (N := N_fits_prices) (sc := defScope s_fits_prices) (by decide +kernel)) (fun _ _ _ _ _ => (pg_tup rfl (pgs_cons (pg_name (i := 4) nd rfl (by first | exact Or.inl rfl | exact Or.inr rfl)) (pgs_cons (pg_name (i := 5) nd rfl (by first | exact Or.inl rfl | exact Or.inr rfl)) (pgs_cons (pg_name (i := 6) nd rfl (by first | exact Or.inl rfl | exact Or.inr rfl)) pgs_nil))))) (fun _ hK => (gr_tupK hK (grs_cons (gr_name 4) (grs_cons (gr_name 5) (grs_cons (gr_name 6) grs_nil))))) (fun _ => fun _ _ _ _ _ => mts_nil) (fun _ => fun _ _ _ _ _ => (me_cmp (op_leM hu) rule_le (me_bi (call_sumM rfl) rule_sum.l G.n_sum (by decide +kernel) (ml_cons (me_sl rfl (me_var 2) (mo_some (me_var 4)) (mo_some (me_var 5))) ml_nil)) (me_var 6)))) ml_nil)))))
theorem ok_cost_in (G : Top K mg) : ∃ fd, FM P w K mg base T 1 "cost_in" (He.ga K "cost_in") fd ["shifts", "cover"] m_cost_in := by
  obtain ⟨fd, F⟩ := G.F_cost_in
  have bd : Binds K fd ["shifts", "cover"] [] := F.bindsN fun _ _ _ _ _ _ us hl => match us, hl with | [_, _], _ => rfl
  refine ⟨fd, fn_okD (k := 0) F sc_cost_in G.g_cost_in bd ?_⟩
  intro no cdv A outer s H E hcd hr hx hp tk
  have nd := sc_cost_in.nd
  have hu := units64 hr
  have hu1 := units1 hr
  have hu2 := units128 hr
  exact (mss_one (ms_ret (me_bi (call_sumM rfl) rule_sum.l G.n_sum (by decide +kernel) (ml_cons (me_lcV (own := [("row", 2), ("many", 3)]) rfl nd (mi_zip rfl (me_var 0) (me_var 1) G.n_zip) (blkOk_by (N := N_cost_in) (sc := defScope s_cost_in) (by decide +kernel)) (fun _ _ _ _ _ => (pg_tup rfl (pgs_cons (pg_name (i := 2) nd rfl (by first | exact Or.inl rfl | exact Or.inr rfl)) (pgs_cons (pg_name (i := 3) nd rfl (by first | exact Or.inl rfl | exact Or.inr rfl)) pgs_nil)))) (fun _ hK => (gr_tupK hK (grs_cons (gr_name 2) (grs_cons (gr_name 3) grs_nil)))) (fun _ => fun _ _ _ _ _ => mts_nil) (fun _ => fun _ _ _ _ _ => (me_op op_mulM rule_mul (me_var 3) (me_ix rfl (me_var 2) me_int)))) ml_nil))))
theorem ok_worth_in (G : Top K mg) : ∃ fd, FM P w K mg base T 1 "worth_in" (He.ga K "worth_in") fd ["need", "prices"] m_worth_in := by
  obtain ⟨fd, F⟩ := G.F_worth_in
  have bd : Binds K fd ["need", "prices"] [] := F.bindsN fun _ _ _ _ _ _ us hl => match us, hl with | [_, _], _ => rfl
  refine ⟨fd, fn_okD (k := 0) F sc_worth_in G.g_worth_in bd ?_⟩
  intro no cdv A outer s H E hcd hr hx hp tk
  have nd := sc_worth_in.nd
  have hu := units64 hr
  have hu1 := units1 hr
  have hu2 := units128 hr
  exact (mss_one (ms_ret (me_bi (call_sumM rfl) rule_sum.l G.n_sum (by decide +kernel) (ml_cons (me_lcV (own := [("price", 2), ("many", 3)]) rfl nd (mi_zip rfl (me_var 1) (me_var 0) G.n_zip) (blkOk_by (N := N_worth_in) (sc := defScope s_worth_in) (by decide +kernel)) (fun _ _ _ _ _ => (pg_tup rfl (pgs_cons (pg_name (i := 2) nd rfl (by first | exact Or.inl rfl | exact Or.inr rfl)) (pgs_cons (pg_name (i := 3) nd rfl (by first | exact Or.inl rfl | exact Or.inr rfl)) pgs_nil)))) (fun _ hK => (gr_tupK hK (grs_cons (gr_name 2) (grs_cons (gr_name 3) grs_nil)))) (fun _ => fun _ _ _ _ _ => mts_nil) (fun _ => fun _ _ _ _ _ => (me_op op_mulM rule_mul (me_var 2) (me_var 3)))) ml_nil))))
theorem ok_need_day (G : Top K mg) : ∃ fd, FM P w K mg base T 2 "need_day" (He.ga K "need_day") fd ["day"] m_need_day := by
  obtain ⟨fd, F⟩ := G.F_need_day
  have bd : Binds K fd ["day"] [] := F.bindsN fun _ _ _ _ _ _ us hl => match us, hl with | [_], _ => rfl
  obtain ⟨_, F_is_number⟩ := ok_is_number (P := P) (w := w) (base := base) (T := T) G
  obtain ⟨_, i_LONGEST_DAY⟩ := G.i_LONGEST_DAY
  refine ⟨fd, fn_okD (k := 1) F sc_need_day G.g_need_day bd ?_⟩
  intro no cdv A outer s H E hcd hr hx hp tk
  have nd := sc_need_day.nd
  have hu := units64 hr
  have hu1 := units1 hr
  have hu2 := units128 hr
  replace F_is_number := F_is_number.mono (k := 1) (by decide)
  exact (mss_one (ms_if (mt_not (mt_val (me_call F_is_number hr hx (ml_cons (me_var 0) (ml_cons me_int (ml_cons (me_gint i_LONGEST_DAY) ml_nil)))))) (mss_one (ms_raise rfl tk rfl G.e_InvalidMinute)) mss_nil))
theorem ok_need_shifts (G : Top K mg) : ∃ fd, FM P w K mg base T 5 "need_shifts" (He.ga K "need_shifts") fd ["day", "shifts"] m_need_shifts := by
  obtain ⟨fd, F⟩ := G.F_need_shifts
  have bd : Binds K fd ["day", "shifts"] [] := F.bindsN fun _ _ _ _ _ _ us hl => match us, hl with | [_, _], _ => rfl
  obtain ⟨_, F_need_day⟩ := ok_need_day (P := P) (w := w) (base := base) (T := T) G
  obtain ⟨_, F_fits_shifts⟩ := ok_fits_shifts (P := P) (w := w) (base := base) (T := T) G
  refine ⟨fd, fn_okD (k := 4) F sc_need_shifts G.g_need_shifts bd ?_⟩
  intro no cdv A outer s H E hcd hr hx hp tk
  have nd := sc_need_shifts.nd
  have hu := units64 hr
  have hu1 := units1 hr
  have hu2 := units128 hr
  replace F_need_day := F_need_day.mono (k := 4) (by decide)
  replace F_fits_shifts := F_fits_shifts.mono (k := 4) (by decide)
  exact (mss_cons (ms_expr (me_call F_need_day hr hx (ml_cons (me_var 0) ml_nil)))
    (mss_one (ms_if (mt_not (mt_val (me_call F_fits_shifts hr hx (ml_cons (me_var 0) (ml_cons (me_var 1) ml_nil))))) (mss_one (ms_raise rfl tk rfl G.e_InvalidSpans)) mss_nil)))
theorem ok_need_all (G : Top K mg) : ∃ fd, FM P w K mg base T 6 "need_all" (He.ga K "need_all") fd ["day", "shifts", "need"] m_need_all := by
  obtain ⟨fd, F⟩ := G.F_need_all
  have bd : Binds K fd ["day", "shifts", "need"] [] := F.bindsN fun _ _ _ _ _ _ us hl => match us, hl with | [_, _, _], _ => rfl
  obtain ⟨_, F_need_shifts⟩ := ok_need_shifts (P := P) (w := w) (base := base) (T := T) G
  obtain ⟨_, F_fits_need⟩ := ok_fits_need (P := P) (w := w) (base := base) (T := T) G
  refine ⟨fd, fn_okD (k := 5) F sc_need_all G.g_need_all bd ?_⟩
  intro no cdv A outer s H E hcd hr hx hp tk
  have nd := sc_need_all.nd
  have hu := units64 hr
  have hu1 := units1 hr
  have hu2 := units128 hr
  replace F_need_shifts := F_need_shifts.mono (k := 5) (by decide)
  replace F_fits_need := F_fits_need.mono (k := 5) (by decide)
  exact (mss_cons (ms_expr (me_call F_need_shifts hr hx (ml_cons (me_var 0) (ml_cons (me_var 1) ml_nil))))
    (mss_one (ms_if (mt_not (mt_val (me_call F_fits_need hr hx (ml_cons (me_var 0) (ml_cons (me_var 2) ml_nil))))) (mss_one (ms_raise rfl tk rfl G.e_InvalidBounds)) mss_nil)))
theorem ok_are_shifts (G : Top K mg) : ∃ fd, FM P w K mg base T 5 "are_shifts" (He.ga K "are_shifts") fd ["day", "value"] m_are_shifts := by
  obtain ⟨fd, F⟩ := G.F_are_shifts
  have bd : Binds K fd ["day", "value"] [] := F.bindsN fun _ _ _ _ _ _ us hl => match us, hl with | [_, _], _ => rfl
  obtain ⟨_, F_need_day⟩ := ok_need_day (P := P) (w := w) (base := base) (T := T) G
  obtain ⟨_, F_fits_shifts⟩ := ok_fits_shifts (P := P) (w := w) (base := base) (T := T) G
  refine ⟨fd, fn_okD (k := 4) F sc_are_shifts G.g_are_shifts bd ?_⟩
  intro no cdv A outer s H E hcd hr hx hp tk
  have nd := sc_are_shifts.nd
  have hu := units64 hr
  have hu1 := units1 hr
  have hu2 := units128 hr
  replace F_need_day := F_need_day.mono (k := 4) (by decide)
  replace F_fits_shifts := F_fits_shifts.mono (k := 4) (by decide)
  exact (mss_cons (ms_expr (me_call F_need_day hr hx (ml_cons (me_var 0) ml_nil)))
    (mss_one (ms_ret (me_call F_fits_shifts hr hx (ml_cons (me_var 0) (ml_cons (me_var 1) ml_nil))))))
theorem ok_is_need (G : Top K mg) : ∃ fd, FM P w K mg base T 4 "is_need" (He.ga K "is_need") fd ["day", "value"] m_is_need := by
  obtain ⟨fd, F⟩ := G.F_is_need
  have bd : Binds K fd ["day", "value"] [] := F.bindsN fun _ _ _ _ _ _ us hl => match us, hl with | [_, _], _ => rfl
  obtain ⟨_, F_need_day⟩ := ok_need_day (P := P) (w := w) (base := base) (T := T) G
  obtain ⟨_, F_fits_need⟩ := ok_fits_need (P := P) (w := w) (base := base) (T := T) G
  refine ⟨fd, fn_okD (k := 3) F sc_is_need G.g_is_need bd ?_⟩
  intro no cdv A outer s H E hcd hr hx hp tk
  have nd := sc_is_need.nd
  have hu := units64 hr
  have hu1 := units1 hr
  have hu2 := units128 hr
  replace F_need_day := F_need_day.mono (k := 3) (by decide)
  replace F_fits_need := F_fits_need.mono (k := 3) (by decide)
  exact (mss_cons (ms_expr (me_call F_need_day hr hx (ml_cons (me_var 0) ml_nil)))
    (mss_one (ms_ret (me_call F_fits_need hr hx (ml_cons (me_var 0) (ml_cons (me_var 1) ml_nil))))))
theorem ok_is_cover (G : Top K mg) : ∃ fd, FM P w K mg base T 7 "is_cover" (He.ga K "is_cover") fd ["day", "shifts", "need", "value"] m_is_cover := by
  obtain ⟨fd, F⟩ := G.F_is_cover
  have bd : Binds K fd ["day", "shifts", "need", "value"] [] := F.bindsN fun _ _ _ _ _ _ us hl => match us, hl with | [_, _, _, _], _ => rfl
  obtain ⟨_, F_need_all⟩ := ok_need_all (P := P) (w := w) (base := base) (T := T) G
  obtain ⟨_, F_fits_cover⟩ := ok_fits_cover (P := P) (w := w) (base := base) (T := T) G
  refine ⟨fd, fn_okD (k := 6) F sc_is_cover G.g_is_cover bd ?_⟩
  intro no cdv A outer s H E hcd hr hx hp tk
  have nd := sc_is_cover.nd
  have hu := units64 hr
  have hu1 := units1 hr
  have hu2 := units128 hr
  replace F_need_all := F_need_all.mono (k := 6) (by decide)
  replace F_fits_cover := F_fits_cover.mono (k := 6) (by decide)
  exact (mss_cons (ms_expr (me_call F_need_all hr hx (ml_cons (me_var 0) (ml_cons (me_var 1) (ml_cons (me_var 2) ml_nil)))))
    (mss_one (ms_ret (me_call F_fits_cover hr hx (ml_cons (me_var 0) (ml_cons (me_var 1) (ml_cons (me_var 2) (ml_cons (me_var 3) ml_nil))))))))
theorem ok_are_prices (G : Top K mg) : ∃ fd, FM P w K mg base T 6 "are_prices" (He.ga K "are_prices") fd ["day", "shifts", "value"] m_are_prices := by
  obtain ⟨fd, F⟩ := G.F_are_prices
  have bd : Binds K fd ["day", "shifts", "value"] [] := F.bindsN fun _ _ _ _ _ _ us hl => match us, hl with | [_, _, _], _ => rfl
  obtain ⟨_, F_need_shifts⟩ := ok_need_shifts (P := P) (w := w) (base := base) (T := T) G
  obtain ⟨_, F_fits_prices⟩ := ok_fits_prices (P := P) (w := w) (base := base) (T := T) G
  refine ⟨fd, fn_okD (k := 5) F sc_are_prices G.g_are_prices bd ?_⟩
  intro no cdv A outer s H E hcd hr hx hp tk
  have nd := sc_are_prices.nd
  have hu := units64 hr
  have hu1 := units1 hr
  have hu2 := units128 hr
  replace F_need_shifts := F_need_shifts.mono (k := 5) (by decide)
  replace F_fits_prices := F_fits_prices.mono (k := 5) (by decide)
  exact (mss_cons (ms_expr (me_call F_need_shifts hr hx (ml_cons (me_var 0) (ml_cons (me_var 1) ml_nil))))
    (mss_one (ms_ret (me_call F_fits_prices hr hx (ml_cons (me_var 0) (ml_cons (me_var 1) (ml_cons (me_var 2) ml_nil)))))))
theorem ok_cost_of (G : Top K mg) : ∃ fd, FM P w K mg base T 7 "cost_of" (He.ga K "cost_of") fd ["day", "shifts", "need", "cover"] m_cost_of := by
  obtain ⟨fd, F⟩ := G.F_cost_of
  have bd : Binds K fd ["day", "shifts", "need", "cover"] [] := F.bindsN fun _ _ _ _ _ _ us hl => match us, hl with | [_, _, _, _], _ => rfl
  obtain ⟨_, F_need_all⟩ := ok_need_all (P := P) (w := w) (base := base) (T := T) G
  obtain ⟨_, F_fits_cover⟩ := ok_fits_cover (P := P) (w := w) (base := base) (T := T) G
  obtain ⟨_, F_cost_in⟩ := ok_cost_in (P := P) (w := w) (base := base) (T := T) G
  refine ⟨fd, fn_okD (k := 6) F sc_cost_of G.g_cost_of bd ?_⟩
  intro no cdv A outer s H E hcd hr hx hp tk
  have nd := sc_cost_of.nd
  have hu := units64 hr
  have hu1 := units1 hr
  have hu2 := units128 hr
  replace F_need_all := F_need_all.mono (k := 6) (by decide)
  replace F_fits_cover := F_fits_cover.mono (k := 6) (by decide)
  replace F_cost_in := F_cost_in.mono (k := 6) (by decide)
  exact (mss_cons (ms_expr (me_call F_need_all hr hx (ml_cons (me_var 0) (ml_cons (me_var 1) (ml_cons (me_var 2) ml_nil)))))
    (mss_cons (ms_if (mt_not (mt_val (me_call F_fits_cover hr hx (ml_cons (me_var 0) (ml_cons (me_var 1) (ml_cons (me_var 2) (ml_cons (me_var 3) ml_nil))))))) (mss_one (ms_raise rfl tk rfl G.e_InvalidPaper)) mss_nil)
    (mss_one (ms_ret (me_call F_cost_in hr hx (ml_cons (me_var 1) (ml_cons (me_var 3) ml_nil)))))))
theorem ok_worth_of (G : Top K mg) : ∃ fd, FM P w K mg base T 7 "worth_of" (He.ga K "worth_of") fd ["day", "shifts", "need", "prices"] m_worth_of := by
  obtain ⟨fd, F⟩ := G.F_worth_of
  have bd : Binds K fd ["day", "shifts", "need", "prices"] [] := F.bindsN fun _ _ _ _ _ _ us hl => match us, hl with | [_, _, _, _], _ => rfl
  obtain ⟨_, F_need_all⟩ := ok_need_all (P := P) (w := w) (base := base) (T := T) G
  obtain ⟨_, F_fits_prices⟩ := ok_fits_prices (P := P) (w := w) (base := base) (T := T) G
  obtain ⟨_, F_worth_in⟩ := ok_worth_in (P := P) (w := w) (base := base) (T := T) G
  refine ⟨fd, fn_okD (k := 6) F sc_worth_of G.g_worth_of bd ?_⟩
  intro no cdv A outer s H E hcd hr hx hp tk
  have nd := sc_worth_of.nd
  have hu := units64 hr
  have hu1 := units1 hr
  have hu2 := units128 hr
  replace F_need_all := F_need_all.mono (k := 6) (by decide)
  replace F_fits_prices := F_fits_prices.mono (k := 6) (by decide)
  replace F_worth_in := F_worth_in.mono (k := 6) (by decide)
  exact (mss_cons (ms_expr (me_call F_need_all hr hx (ml_cons (me_var 0) (ml_cons (me_var 1) (ml_cons (me_var 2) ml_nil)))))
    (mss_cons (ms_if (mt_not (mt_val (me_call F_fits_prices hr hx (ml_cons (me_var 0) (ml_cons (me_var 1) (ml_cons (me_var 3) ml_nil)))))) (mss_one (ms_raise rfl tk rfl G.e_InvalidPaper)) mss_nil)
    (mss_one (ms_ret (me_call F_worth_in hr hx (ml_cons (me_var 2) (ml_cons (me_var 3) ml_nil)))))))
theorem ok_uncovered (G : Top K mg) : ∃ fd, FM P w K mg base T 7 "uncovered" (He.ga K "uncovered") fd ["day", "shifts", "need"] m_uncovered := by
  obtain ⟨fd, F⟩ := G.F_uncovered
  have bd : Binds K fd ["day", "shifts", "need"] [] := F.bindsN fun _ _ _ _ _ _ us hl => match us, hl with | [_, _, _], _ => rfl
  obtain ⟨_, F_need_all⟩ := ok_need_all (P := P) (w := w) (base := base) (T := T) G
  obtain ⟨_, F_coverage⟩ := ok_coverage (P := P) (w := w) (base := base) (T := T) G
  refine ⟨fd, fn_okD (k := 6) F sc_uncovered G.g_uncovered bd ?_⟩
  intro no cdv A outer s H E hcd hr hx hp tk
  have nd := sc_uncovered.nd
  have hu := units64 hr
  have hu1 := units1 hr
  have hu2 := units128 hr
  replace F_need_all := F_need_all.mono (k := 6) (by decide)
  replace F_coverage := F_coverage.mono (k := 6) (by decide)
  exact (mss_cons (ms_expr (me_call F_need_all hr hx (ml_cons (me_var 0) (ml_cons (me_var 1) (ml_cons (me_var 2) ml_nil)))))
    (mss_cons (ms_set 3 nd (me_call F_coverage hr hx (ml_cons (me_var 0) (ml_cons (me_var 1) (ml_cons (me_op op_mulM rule_mul (me_tup (ml_cons me_int ml_nil)) (me_bi call_lenM rule_len.l G.n_len (by decide +kernel) (ml_cons (me_var 1) ml_nil))) ml_nil)))))
    (mss_one (ms_ret (me_ty call_tuple_of rule_tuple.l G.n_tuple (by decide +kernel) (ml_cons (me_lcV (own := [("clock", 4)]) rfl nd (mi_range1 (me_var 0) G.n_range) (blkOk_by (N := N_uncovered) (sc := defScope s_uncovered) (by decide +kernel)) (fun _ _ _ _ _ => (pg_name (i := 4) nd rfl (by first | exact Or.inl rfl | exact Or.inr rfl))) (fun _ hK => (gr_name 4)) (fun _ => fun _ _ _ _ _ => (mts_one (mt_w (mw_and (mt_cmp (op_gtM hu) rule_gt (me_ix rfl (me_var 2) (me_var 4)) me_int) (mw_and1 (mt_cmp (op_eqM hu) rule_eq (me_ix rfl (me_var 3) (me_var 4)) me_int)))))) (fun _ => fun _ _ _ _ _ => (me_var 4))) ml_nil))))))
theorem ok__law_cup (G : Top K mg) : ∃ fd, FM P w K mg base T 1 "_law_cup" (He.ga K "_law_cup") fd ["script"] m__law_cup := by
  obtain ⟨fd, F⟩ := G.F__law_cup
  have bd : Binds K fd ["script"] [] := F.bindsN fun _ _ _ _ _ _ us hl => match us, hl with | [_], _ => rfl
  refine ⟨fd, fn_okD (k := 0) F sc__law_cup G.g__law_cup bd ?_⟩
  intro no cdv A outer s H E hcd hr hx hp tk
  have nd := sc__law_cup.nd
  have hu := units64 hr
  have hu1 := units1 hr
  have hu2 := units128 hr
  exact (mss_cons (ms_set 1 nd (me_bi call_abs rule_abs.l G.n_abs (by decide +kernel) (ml_cons (me_ix rfl (me_op op_addM rule_add (me_ty call_list_of rule_listV.l G.n_list (by decide +kernel) (ml_cons (me_var 0) ml_nil)) (me_lstV (ml_cons me_int ml_nil))) me_int) ml_nil)))
    (mss_one (ms_ret (me_lstM (ml_cons (me_ite (mt_cmp (op_geM hu) rule_ge (me_var 1) (me_op op_pow rule_pow me_int me_int)) (me_op op_fdiv rule_fdiv (me_var 1) me_int) me_int) (ml_cons (me_op op_addM rule_add (me_op op_mod rule_mod (me_ty call_int1 rule_int.l G.n_int (by decide +kernel) (ml_cons (me_op op_addM rule_add (me_op op_mulM rule_mul (me_var 1) me_int) me_int) ml_nil)) me_int) me_int) ml_nil))))))
theorem ok__law_roll (G : Top K mg) : ∃ fd, FM P w K mg base T 1 "_law_roll" (He.ga K "_law_roll") fd ["cup", "many"] m__law_roll := by
  obtain ⟨fd, F⟩ := G.F__law_roll
  have bd : Binds K fd ["cup", "many"] [] := F.bindsN fun _ _ _ _ _ _ us hl => match us, hl with | [_, _], _ => rfl
  refine ⟨fd, fn_okD (k := 0) F sc__law_roll G.g__law_roll bd ?_⟩
  intro no cdv A outer s H E hcd hr hx hp tk
  have nd := sc__law_roll.nd
  have hu := units64 hr
  have hu1 := units1 hr
  have hu2 := units128 hr
  exact (mss_cons (ms_if (mt_cmp (op_gtM hu) rule_gt (me_ix rfl (me_var 0) me_int) me_int) (mss_cons (ms_set 2 nd (me_op op_mod rule_mod (me_ty call_int1 rule_int.l G.n_int (by decide +kernel) (ml_cons (me_ix rfl (me_var 0) me_int) ml_nil)) (me_var 1)))
    (mss_cons (ms_setI (me_op op_fdiv rule_fdiv (me_ix rfl (me_var 0) me_int) (me_var 1)) (me_var 0) me_int)
    (mss_one (ms_ret (me_var 2))))) mss_nil)
    (mss_cons (ms_setI (me_op op_mod rule_mod (me_ty call_int1 rule_int.l G.n_int (by decide +kernel) (ml_cons (me_op op_addM rule_add (me_op op_mulM rule_mul (me_ix rfl (me_var 0) me_int) me_int) me_int) ml_nil)) me_int) (me_var 0) me_int)
    (mss_cons (ms_set 3 nd (me_op op_mod rule_mod (me_ty call_int1 rule_int.l G.n_int (by decide +kernel) (ml_cons (me_op op_mulM rule_mul (me_ix rfl (me_var 0) me_int) (me_op op_addM rule_add (me_ix rfl (me_var 0) me_int) me_int)) ml_nil)) me_int))
    (mss_one (ms_ret (me_op op_mod rule_mod (me_ty call_int1 rule_int.l G.n_int (by decide +kernel) (ml_cons (me_op op_fdiv rule_fdiv (me_var 3) me_int) ml_nil)) (me_var 1)))))))
theorem ok__law_some (G : Top K mg) : ∃ fd, FM P w K mg base T 2 "_law_some" (He.ga K "_law_some") fd ["cup", "things"] m__law_some := by
  obtain ⟨fd, F⟩ := G.F__law_some
  have bd : Binds K fd ["cup", "things"] [] := F.bindsN fun _ _ _ _ _ _ us hl => match us, hl with | [_, _], _ => rfl
  obtain ⟨_, F__law_roll⟩ := ok__law_roll (P := P) (w := w) (base := base) (T := T) G
  refine ⟨fd, fn_okD (k := 1) F sc__law_some G.g__law_some bd ?_⟩
  intro no cdv A outer s H E hcd hr hx hp tk
  have nd := sc__law_some.nd
  have hu := units64 hr
  have hu1 := units1 hr
  have hu2 := units128 hr
  replace F__law_roll := F__law_roll.mono (k := 1) (by decide)
  exact (mss_one (ms_ret (me_ix rfl (me_var 1) (me_call F__law_roll hr hx (ml_cons (me_var 0) (ml_cons (me_bi call_lenM rule_len.l G.n_len (by decide +kernel) (ml_cons (me_var 1) ml_nil)) ml_nil))))))
theorem ok__law_sort (G : Top K mg) : ∃ fd, FM P w K mg base T 1 "_law_sort" (He.ga K "_law_sort") fd ["value"] m__law_sort := by
  obtain ⟨fd, F⟩ := G.F__law_sort
  have bd : Binds K fd ["value"] [] := F.bindsN fun _ _ _ _ _ _ us hl => match us, hl with | [_], _ => rfl
  refine ⟨fd, fn_okD (k := 0) F sc__law_sort G.g__law_sort bd ?_⟩
  intro no cdv A outer s H E hcd hr hx hp tk
  have nd := sc__law_sort.nd
  have hu := units64 hr
  have hu1 := units1 hr
  have hu2 := units128 hr
  exact (mss_cons (ms_if (mt_w (mw_or (mt_cmp op_isN rule_isN (me_var 0) me_non) (mw_or1 (mt_val (me_isi .bool (me_var 0) rfl G.n_isinstance G.n_bool (by decide +kernel)))))) (mss_one (ms_ret (me_ite (mt_cmp op_isN rule_isN (me_var 0) me_non) me_int me_int))) mss_nil)
    (mss_cons (ms_if (mt_w (mw_or (mt_val (me_isi .int (me_var 0) rfl G.n_isinstance G.n_int (by decide +kernel))) (mw_or1 (mt_val (me_isi .str (me_var 0) rfl G.n_isinstance G.n_str (by decide +kernel)))))) (mss_one (ms_ret (me_ite (mt_val (me_isi .int (me_var 0) rfl G.n_isinstance G.n_int (by decide +kernel))) me_int me_int))) mss_nil)
    (mss_one (ms_ret (me_ite (mt_val (me_isi .tuple (me_var 0) rfl G.n_isinstance G.n_tuple (by decide +kernel))) me_int (me_ite (mt_val (me_isi .list (me_var 0) rfl G.n_isinstance G.n_list (by decide +kernel))) me_int me_int))))))
theorem ok__law_like (G : Top K mg) : ∀ n, ∃ fd, FM P w K mg base T (1 + n) "_law_like" (He.ga K "_law_like") fd ["one", "other"] (m__law_like n) := by
  obtain ⟨fd, F⟩ := G.F__law_like
  have bd : Binds K fd ["one", "other"] [] := F.bindsN fun _ _ _ _ _ _ us hl => match us, hl with | [_, _], _ => rfl
  obtain ⟨_, F__law_sort⟩ := ok__law_sort (P := P) (w := w) (base := base) (T := T) G
  intro n
  induction n with
  | zero => exact ⟨fd, fm_stuck F G.g__law_like bd⟩
  | succ n ih =>
    obtain ⟨_, ih⟩ := ih
    refine ⟨fd, fn_okD (k := 1 + n) F sc__law_like G.g__law_like bd ?_⟩
    intro no cdv A outer s H E hcd hr hx hp tk
    have nd := sc__law_like.nd
    have hu := units64 hr
    have hu1 := units1 hr
    have hu2 := units128 hr
    replace F__law_sort := F__law_sort.mono (k := 1 + n) (by omega)
    exact (mss_cons (ms_set 2 nd (me_call F__law_sort hr hx (ml_cons (me_var 1) ml_nil)))
    (mss_cons (ms_if (mt_w (mw_or (mt_cmp (op_neM hu) rule_ne (me_call F__law_sort hr hx (ml_cons (me_var 0) ml_nil)) (me_var 2)) (mw_or1 (mt_cmp (op_eqM hu) rule_eq (me_var 2) me_int)))) (mss_one (ms_ret me_bl)) mss_nil)
    (mss_cons (ms_if (mt_cmp (op_inM hu) rule_in (me_var 2) (me_tup (ml_cons me_int (ml_cons me_int ml_nil)))) (mss_one (ms_ret (me_and (me_cmp (op_eqM hu) rule_eq (me_bi call_lenM rule_len.l G.n_len (by decide +kernel) (ml_cons (me_var 0) ml_nil)) (me_bi call_lenM rule_len.l G.n_len (by decide +kernel) (ml_cons (me_var 1) ml_nil))) (me_one (me_cmp (op_eqM hu) rule_eq (me_lcV (own := [("first", 3), ("second", 4)]) rfl nd (mi_zip rfl (me_var 0) (me_var 1) G.n_zip) (blkOk_by (N := N__law_like) (sc := defScope s__law_like) (by decide +kernel)) (fun _ _ _ _ _ => (pg_tup rfl (pgs_cons (pg_name (i := 3) nd rfl (by first | exact Or.inl rfl | exact Or.inr rfl)) (pgs_cons (pg_name (i := 4) nd rfl (by first | exact Or.inl rfl | exact Or.inr rfl)) pgs_nil)))) (fun _ hK => (gr_tupK hK (grs_cons (gr_name 3) (grs_cons (gr_name 4) grs_nil)))) (fun _ => fun _ _ _ _ _ => (mts_one (mt_not (mt_val (me_call ih hr passL (ml_cons (me_var 3) (ml_cons (me_var 4) ml_nil))))))) (fun _ => fun _ _ _ _ _ => me_int)) (me_lstV ml_nil)))))) mss_nil)
    (mss_one (ms_ret (me_cmp (op_eqM hu) rule_eq (me_var 0) (me_var 1)))))))
theorem ok__law_is_number (G : Top K mg) : ∃ fd, FM P w K mg base T 1 "_law_is_number" (He.ga K "_law_is_number") fd ["value", "least", "most"] m__law_is_number := by
  obtain ⟨fd, F⟩ := G.F__law_is_number
  have bd : Binds K fd ["value", "least", "most"] [] := F.bindsN fun _ _ _ _ _ _ us hl => match us, hl with | [_, _, _], _ => rfl
  refine ⟨fd, fn_okD (k := 0) F sc__law_is_number G.g__law_is_number bd ?_⟩
  intro no cdv A outer s H E hcd hr hx hp tk
  have nd := sc__law_is_number.nd
  have hu := units64 hr
  have hu1 := units1 hr
  have hu2 := units128 hr
  exact (mss_one (ms_ret (me_and (me_isi .int (me_var 0) rfl G.n_isinstance G.n_int (by decide +kernel)) (me_and (me_not (me_isi .bool (me_var 0) rfl G.n_isinstance G.n_bool (by decide +kernel))) (me_one (me_chain (op_leM hu) (op_leM hu) rule_le rule_le (me_var 1) (me_var 0) (me_var 2)))))))
theorem ok__law_shifts (G : Top K mg) : ∃ fd, FM P w K mg base T 2 "_law_shifts" (He.ga K "_law_shifts") fd ["cup", "day", "many", "cost"] m__law_shifts := by
  obtain ⟨fd, F⟩ := G.F__law_shifts
  have bd : Binds K fd ["cup", "day", "many", "cost"] [] := F.bindsN fun _ _ _ _ _ _ us hl => match us, hl with | [_, _, _, _], _ => rfl
  obtain ⟨_, F__law_roll⟩ := ok__law_roll (P := P) (w := w) (base := base) (T := T) G
  refine ⟨fd, fn_okD (k := 1) F sc__law_shifts G.g__law_shifts bd ?_⟩
  intro no cdv A outer s H E hcd hr hx hp tk
  have nd := sc__law_shifts.nd
  have hu := units64 hr
  have hu1 := units1 hr
  have hu2 := units128 hr
  replace F__law_roll := F__law_roll.mono (k := 1) (by decide)
  exact (mss_cons (ms_set 4 nd me_dnewT)
    (mss_cons (ms_for hp rfl (mi_range1 (me_call F__law_roll hr hx (ml_cons (me_var 0) (ml_cons (me_op op_addM rule_add (me_var 2) me_int) ml_nil))) G.n_range) (pg_name (i := 5) nd rfl (by first | exact Or.inl rfl | exact Or.inr rfl)) (gr_name 5) (mss_cons (ms_set 6 nd (me_call F__law_roll hr hx (ml_cons (me_var 0) (ml_cons (me_var 1) ml_nil))))
    (mss_one (ms_dput hu1 (me_op op_addM rule_add me_int (me_call F__law_roll hr hx (ml_cons (me_var 0) (ml_cons (me_var 3) ml_nil)))) (me_var 4) (me_tup (ml_cons (me_var 6) (ml_cons (me_op op_addM rule_add (me_op op_addM rule_add (me_var 6) me_int) (me_call F__law_roll hr hx (ml_cons (me_var 0) (ml_cons (me_op op_sub' rule_sub (me_var 1) (me_var 6)) ml_nil)))) ml_nil)))))))
    (mss_one (ms_ret (me_ty call_tuple_of rule_tuple.l G.n_tuple (by decide +kernel) (ml_cons (me_lcV (own := [("pair", 7)]) rfl nd (mi_seq rfl (me_bi (call_sortedDT rfl hu2) rule_sortDT.l G.n_sorted (by decide +kernel) (ml_cons (me_var 4) ml_nil))) (blkOk_by (N := N__law_shifts) (sc := defScope s__law_shifts) (by decide +kernel)) (fun _ _ _ _ _ => (pg_name (i := 7) nd rfl (by first | exact Or.inl rfl | exact Or.inr rfl))) (fun _ hK => (gr_name 7)) (fun _ => fun _ _ _ _ _ => mts_nil) (fun _ => fun _ _ _ _ _ => (me_op op_addM rule_add (me_var 7) (me_tup (ml_cons (me_dget hu1 (me_var 4) (me_var 7)) ml_nil))))) ml_nil))))))
theorem ok__law_need (G : Top K mg) : ∃ fd, FM P w K mg base T 2 "_law_need" (He.ga K "_law_need") fd ["cup", "day", "shifts", "most"] m__law_need := by
  obtain ⟨fd, F⟩ := G.F__law_need
  have bd : Binds K fd ["cup", "day", "shifts", "most"] [] := F.bindsN fun _ _ _ _ _ _ us hl => match us, hl with | [_, _, _, _], _ => rfl
  obtain ⟨_, F__law_roll⟩ := ok__law_roll (P := P) (w := w) (base := base) (T := T) G
  refine ⟨fd, fn_okD (k := 1) F sc__law_need G.g__law_need bd ?_⟩
  intro no cdv A outer s H E hcd hr hx hp tk
  have nd := sc__law_need.nd
  have hu := units64 hr
  have hu1 := units1 hr
  have hu2 := units128 hr
  replace F__law_roll := F__law_roll.mono (k := 1) (by decide)
  exact (mss_cons (ms_set 4 nd (me_tup ml_nil))
    (mss_cons (ms_for hp rfl (mi_range1 (me_var 1) G.n_range) (pg_name (i := 5) nd rfl (by first | exact Or.inl rfl | exact Or.inr rfl)) (gr_name 5) (mss_cons (ms_set 6 nd (me_cmp (op_neM hu) rule_ne (me_lcV (own := [("start", 7), ("end", 8), ("cost", 9)]) rfl nd (mi_seq rfl (me_var 2)) (blkOk_by (N := N__law_need) (sc := defScope s__law_need) (by decide +kernel)) (fun _ _ _ _ _ => (pg_tup rfl (pgs_cons (pg_name (i := 7) nd rfl (by first | exact Or.inl rfl | exact Or.inr rfl)) (pgs_cons (pg_name (i := 8) nd rfl (by first | exact Or.inl rfl | exact Or.inr rfl)) (pgs_cons (pg_name (i := 9) nd rfl (by first | exact Or.inl rfl | exact Or.inr rfl)) pgs_nil))))) (fun _ hK => (gr_tupK hK (grs_cons (gr_name 7) (grs_cons (gr_name 8) (grs_cons (gr_name 9) grs_nil))))) (fun _ => fun _ _ _ _ _ => (mts_one (mt_chain (op_leM hu) (op_ltM hu) rule_le rule_lt (me_var 7) (me_var 5) (me_var 8)))) (fun _ => fun _ _ _ _ _ => me_int)) (me_lstV ml_nil)))
    (mss_one (ms_set 4 nd (me_op op_addM rule_add (me_var 4) (me_tup (ml_cons (me_ite (mt_w (mw_or (mt_val (me_var 6)) (mw_or1 (mt_cmp (op_eqM hu) rule_eq (me_call F__law_roll hr hx (ml_cons (me_var 0) (ml_cons me_int ml_nil))) me_int)))) (me_call F__law_roll hr hx (ml_cons (me_var 0) (ml_cons (me_op op_addM rule_add (me_var 3) me_int) ml_nil))) me_int) ml_nil)))))))
    (mss_one (ms_ret (me_var 4)))))
theorem ok__law_works (G : Top K mg) : ∃ fd, FM P w K mg base T 1 "_law_works" (He.ga K "_law_works") fd ["day", "shifts", "cover"] m__law_works := by
  obtain ⟨fd, F⟩ := G.F__law_works
  have bd : Binds K fd ["day", "shifts", "cover"] [] := F.bindsN fun _ _ _ _ _ _ us hl => match us, hl with | [_, _, _], _ => rfl
  refine ⟨fd, fn_okD (k := 0) F sc__law_works G.g__law_works bd ?_⟩
  intro no cdv A outer s H E hcd hr hx hp tk
  have nd := sc__law_works.nd
  have hu := units64 hr
  have hu1 := units1 hr
  have hu2 := units128 hr
  exact (mss_cons (ms_set 3 nd (me_lstM ml_nil))
    (mss_cons (ms_for hp rfl (mi_range1 (me_var 0) G.n_range) (pg_name (i := 4) nd rfl (by first | exact Or.inl rfl | exact Or.inr rfl)) (gr_name 4) (mss_one (ms_expr (me_append (me_var 3) (me_bi (call_sumM rfl) rule_sum.l G.n_sum (by decide +kernel) (ml_cons (me_lcV (own := [("start", 5), ("end", 6), ("cost", 7), ("many", 8)]) rfl nd (mi_zip rfl (me_var 1) (me_var 2) G.n_zip) (blkOk_by (N := N__law_works) (sc := defScope s__law_works) (by decide +kernel)) (fun _ _ _ _ _ => (pg_tup rfl (pgs_cons (pg_tup rfl (pgs_cons (pg_name (i := 5) nd rfl (by first | exact Or.inl rfl | exact Or.inr rfl)) (pgs_cons (pg_name (i := 6) nd rfl (by first | exact Or.inl rfl | exact Or.inr rfl)) (pgs_cons (pg_name (i := 7) nd rfl (by first | exact Or.inl rfl | exact Or.inr rfl)) pgs_nil)))) (pgs_cons (pg_name (i := 8) nd rfl (by first | exact Or.inl rfl | exact Or.inr rfl)) pgs_nil)))) (fun _ hK => (gr_tupK hK (grs_cons (gr_tupK hK (grs_cons (gr_name 5) (grs_cons (gr_name 6) (grs_cons (gr_name 7) grs_nil)))) (grs_cons (gr_name 8) grs_nil)))) (fun _ => fun _ _ _ _ _ => (mts_one (mt_chain (op_leM hu) (op_ltM hu) rule_le rule_lt (me_var 5) (me_var 4) (me_var 6)))) (fun _ => fun _ _ _ _ _ => (me_var 8))) ml_nil))))))
    (mss_one (ms_ret (me_var 3)))))
theorem ok__law_is_cover (G : Top K mg) : ∃ fd, FM P w K mg base T 2 "_law_is_cover" (He.ga K "_law_is_cover") fd ["day", "shifts", "need", "value"] m__law_is_cover := by
  obtain ⟨fd, F⟩ := G.F__law_is_cover
  have bd : Binds K fd ["day", "shifts", "need", "value"] [] := F.bindsN fun _ _ _ _ _ _ us hl => match us, hl with | [_, _, _, _], _ => rfl
  obtain ⟨_, F__law_is_number⟩ := ok__law_is_number (P := P) (w := w) (base := base) (T := T) G
  obtain ⟨_, F__law_works⟩ := ok__law_works (P := P) (w := w) (base := base) (T := T) G
  refine ⟨fd, fn_okD (k := 1) F sc__law_is_cover G.g__law_is_cover bd ?_⟩
  intro no cdv A outer s H E hcd hr hx hp tk
  have nd := sc__law_is_cover.nd
  have hu := units64 hr
  have hu1 := units1 hr
  have hu2 := units128 hr
  replace F__law_is_number := F__law_is_number.mono (k := 1) (by decide)
  replace F__law_works := F__law_works.mono (k := 1) (by decide)
  exact (mss_cons (ms_if (mt_w (mw_or (mt_not (mt_val (me_isi .tuple (me_var 3) rfl G.n_isinstance G.n_tuple (by decide +kernel)))) (mw_or (mt_cmp (op_neM hu) rule_ne (me_bi call_lenM rule_len.l G.n_len (by decide +kernel) (ml_cons (me_var 3) ml_nil)) (me_bi call_lenM rule_len.l G.n_len (by decide +kernel) (ml_cons (me_var 1) ml_nil))) (mw_or1 (mt_cmp (op_neM hu) rule_ne (me_lcV (own := [("many", 4)]) rfl nd (mi_seq rfl (me_var 3)) (blkOk_by (N := N__law_is_cover) (sc := defScope s__law_is_cover) (by decide +kernel)) (fun _ _ _ _ _ => (pg_name (i := 4) nd rfl (by first | exact Or.inl rfl | exact Or.inr rfl))) (fun _ hK => (gr_name 4)) (fun _ => fun _ _ _ _ _ => (mts_one (mt_not (mt_val (me_call F__law_is_number hr passL (ml_cons (me_var 4) (ml_cons me_int (ml_cons (me_op op_pow rule_pow me_int me_int) ml_nil)))))))) (fun _ => fun _ _ _ _ _ => (me_var 4))) (me_lstV ml_nil)))))) (mss_one (ms_ret me_bl)) mss_nil)
    (mss_one (ms_ret (me_cmp (op_eqM hu) rule_eq (me_lcV (own := [("many", 4), ("wanted", 5)]) rfl nd (mi_zip rfl (me_call F__law_works hr hx (ml_cons (me_var 0) (ml_cons (me_var 1) (ml_cons (me_var 3) ml_nil)))) (me_var 2) G.n_zip) (blkOk_by (N := N__law_is_cover) (sc := defScope s__law_is_cover) (by decide +kernel)) (fun _ _ _ _ _ => (pg_tup rfl (pgs_cons (pg_name (i := 4) nd rfl (by first | exact Or.inl rfl | exact Or.inr rfl)) (pgs_cons (pg_name (i := 5) nd rfl (by first | exact Or.inl rfl | exact Or.inr rfl)) pgs_nil)))) (fun _ hK => (gr_tupK hK (grs_cons (gr_name 4) (grs_cons (gr_name 5) grs_nil)))) (fun _ => fun _ _ _ _ _ => (mts_one (mt_cmp (op_ltM hu) rule_lt (me_var 4) (me_var 5)))) (fun _ => fun _ _ _ _ _ => me_int)) (me_lstV ml_nil)))))
theorem ok__law_are_prices (G : Top K mg) : ∃ fd, FM P w K mg base T 2 "_law_are_prices" (He.ga K "_law_are_prices") fd ["day", "shifts", "value"] m__law_are_prices := by
  obtain ⟨fd, F⟩ := G.F__law_are_prices
  have bd : Binds K fd ["day", "shifts", "value"] [] := F.bindsN fun _ _ _ _ _ _ us hl => match us, hl with | [_, _, _], _ => rfl
  obtain ⟨_, F__law_is_number⟩ := ok__law_is_number (P := P) (w := w) (base := base) (T := T) G
  refine ⟨fd, fn_okD (k := 1) F sc__law_are_prices G.g__law_are_prices bd ?_⟩
  intro no cdv A outer s H E hcd hr hx hp tk
  have nd := sc__law_are_prices.nd
  have hu := units64 hr
  have hu1 := units1 hr
  have hu2 := units128 hr
  replace F__law_is_number := F__law_is_number.mono (k := 1) (by decide)
  exact (mss_cons (ms_if (mt_w (mw_or (mt_not (mt_val (me_isi .tuple (me_var 2) rfl G.n_isinstance G.n_tuple (by decide +kernel)))) (mw_or (mt_cmp (op_neM hu) rule_ne (me_bi call_lenM rule_len.l G.n_len (by decide +kernel) (ml_cons (me_var 2) ml_nil)) (me_var 0)) (mw_or1 (mt_cmp (op_neM hu) rule_ne (me_lcV (own := [("price", 3)]) rfl nd (mi_seq rfl (me_var 2)) (blkOk_by (N := N__law_are_prices) (sc := defScope s__law_are_prices) (by decide +kernel)) (fun _ _ _ _ _ => (pg_name (i := 3) nd rfl (by first | exact Or.inl rfl | exact Or.inr rfl))) (fun _ hK => (gr_name 3)) (fun _ => fun _ _ _ _ _ => (mts_one (mt_not (mt_val (me_call F__law_is_number hr passL (ml_cons (me_var 3) (ml_cons me_int (ml_cons (me_op op_pow rule_pow me_int me_int) ml_nil)))))))) (fun _ => fun _ _ _ _ _ => (me_var 3))) (me_lstV ml_nil)))))) (mss_one (ms_ret me_bl)) mss_nil)
    (mss_one (ms_ret (me_cmp (op_eqM hu) rule_eq (me_lcV (own := [("start", 4), ("end", 5), ("cost", 6)]) rfl nd (mi_seq rfl (me_var 1)) (blkOk_by (N := N__law_are_prices) (sc := defScope s__law_are_prices) (by decide +kernel)) (fun _ _ _ _ _ => (pg_tup rfl (pgs_cons (pg_name (i := 4) nd rfl (by first | exact Or.inl rfl | exact Or.inr rfl)) (pgs_cons (pg_name (i := 5) nd rfl (by first | exact Or.inl rfl | exact Or.inr rfl)) (pgs_cons (pg_name (i := 6) nd rfl (by first | exact Or.inl rfl | exact Or.inr rfl)) pgs_nil))))) (fun _ hK => (gr_tupK hK (grs_cons (gr_name 4) (grs_cons (gr_name 5) (grs_cons (gr_name 6) grs_nil))))) (fun _ => fun _ _ _ _ _ => (mts_one (mt_cmp (op_gtM hu) rule_gt (me_bi (call_sumM rfl) rule_sum.l G.n_sum (by decide +kernel) (ml_cons (me_sl rfl (me_var 2) (mo_some (me_var 4)) (mo_some (me_var 5))) ml_nil)) (me_var 6)))) (fun _ => fun _ _ _ _ _ => me_int)) (me_lstV ml_nil)))))
theorem ok__law_cost (G : Top K mg) : ∃ fd, FM P w K mg base T 1 "_law_cost" (He.ga K "_law_cost") fd ["shifts", "cover"] m__law_cost := by
  obtain ⟨fd, F⟩ := G.F__law_cost
  have bd : Binds K fd ["shifts", "cover"] [] := F.bindsN fun _ _ _ _ _ _ us hl => match us, hl with | [_, _], _ => rfl
  refine ⟨fd, fn_okD (k := 0) F sc__law_cost G.g__law_cost bd ?_⟩
  intro no cdv A outer s H E hcd hr hx hp tk
  have nd := sc__law_cost.nd
  have hu := units64 hr
  have hu1 := units1 hr
  have hu2 := units128 hr
  exact (mss_one (ms_ret (me_bi (call_sumM rfl) rule_sum.l G.n_sum (by decide +kernel) (ml_cons (me_lcV (own := [("row", 2), ("many", 3)]) rfl nd (mi_zip rfl (me_var 0) (me_var 1) G.n_zip) (blkOk_by (N := N__law_cost) (sc := defScope s__law_cost) (by decide +kernel)) (fun _ _ _ _ _ => (pg_tup rfl (pgs_cons (pg_name (i := 2) nd rfl (by first | exact Or.inl rfl | exact Or.inr rfl)) (pgs_cons (pg_name (i := 3) nd rfl (by first | exact Or.inl rfl | exact Or.inr rfl)) pgs_nil)))) (fun _ hK => (gr_tupK hK (grs_cons (gr_name 2) (grs_cons (gr_name 3) grs_nil)))) (fun _ => fun _ _ _ _ _ => mts_nil) (fun _ => fun _ _ _ _ _ => (me_op op_mulM rule_mul (me_var 3) (me_ix rfl (me_var 2) me_int)))) ml_nil))))
theorem ok__law_worth (G : Top K mg) : ∃ fd, FM P w K mg base T 1 "_law_worth" (He.ga K "_law_worth") fd ["need", "prices"] m__law_worth := by
  obtain ⟨fd, F⟩ := G.F__law_worth
  have bd : Binds K fd ["need", "prices"] [] := F.bindsN fun _ _ _ _ _ _ us hl => match us, hl with | [_, _], _ => rfl
  refine ⟨fd, fn_okD (k := 0) F sc__law_worth G.g__law_worth bd ?_⟩
  intro no cdv A outer s H E hcd hr hx hp tk
  have nd := sc__law_worth.nd
  have hu := units64 hr
  have hu1 := units1 hr
  have hu2 := units128 hr
  exact (mss_one (ms_ret (me_bi (call_sumM rfl) rule_sum.l G.n_sum (by decide +kernel) (ml_cons (me_lcV (own := [("price", 2), ("many", 3)]) rfl nd (mi_zip rfl (me_var 1) (me_var 0) G.n_zip) (blkOk_by (N := N__law_worth) (sc := defScope s__law_worth) (by decide +kernel)) (fun _ _ _ _ _ => (pg_tup rfl (pgs_cons (pg_name (i := 2) nd rfl (by first | exact Or.inl rfl | exact Or.inr rfl)) (pgs_cons (pg_name (i := 3) nd rfl (by first | exact Or.inl rfl | exact Or.inr rfl)) pgs_nil)))) (fun _ hK => (gr_tupK hK (grs_cons (gr_name 2) (grs_cons (gr_name 3) grs_nil)))) (fun _ => fun _ _ _ _ _ => mts_nil) (fun _ => fun _ _ _ _ _ => (me_op op_mulM rule_mul (me_var 2) (me_var 3)))) ml_nil))))
theorem ok__law_bent (G : Top K mg) : ∀ n, ∃ fd, FM P w K mg base T (2 + n) "_law_bent" (He.ga K "_law_bent") fd ["cup", "value"] (m__law_bent n) := by
  obtain ⟨fd, F⟩ := G.F__law_bent
  have bd : Binds K fd ["cup", "value"] [] := F.bindsN fun _ _ _ _ _ _ us hl => match us, hl with | [_, _], _ => rfl
  obtain ⟨_, F__law_roll⟩ := ok__law_roll (P := P) (w := w) (base := base) (T := T) G
  obtain ⟨_, F__law_sort⟩ := ok__law_sort (P := P) (w := w) (base := base) (T := T) G
  obtain ⟨_, F__law_some⟩ := ok__law_some (P := P) (w := w) (base := base) (T := T) G
  intro n
  induction n with
  | zero => exact ⟨fd, fm_stuck F G.g__law_bent bd⟩
  | succ n ih =>
    obtain ⟨_, ih⟩ := ih
    refine ⟨fd, fn_okD (k := 2 + n) F sc__law_bent G.g__law_bent bd ?_⟩
    intro no cdv A outer s H E hcd hr hx hp tk
    have nd := sc__law_bent.nd
    have hu := units64 hr
    have hu1 := units1 hr
    have hu2 := units128 hr
    replace F__law_roll := F__law_roll.mono (k := 2 + n) (by omega)
    replace F__law_sort := F__law_sort.mono (k := 2 + n) (by omega)
    replace F__law_some := F__law_some.mono (k := 2 + n) (by omega)
    exact (mss_cons (ms_if (mt_w (mw_or (mt_not (mt_val (me_isi .tuple (me_var 1) rfl G.n_isinstance G.n_tuple (by decide +kernel)))) (mw_or (mt_cmp (op_eqM hu) rule_eq (me_var 1) (me_tup ml_nil)) (mw_or1 (mt_cmp (op_eqM hu) rule_eq (me_call F__law_roll hr hx (ml_cons (me_var 0) (ml_cons me_int ml_nil))) me_int))))) (mss_cons (ms_set 2 nd (me_lstV (ml_cons me_non (ml_cons me_bl (ml_cons me_bl (ml_cons me_int (ml_cons me_int (ml_cons me_int (ml_cons me_int (ml_cons me_int (ml_cons me_int (ml_cons me_int (ml_cons me_int (ml_cons me_int (ml_cons me_int (ml_cons (me_un un_neg rule_neg me_int) (ml_cons me_str (ml_cons me_str (ml_cons me_str (ml_cons me_str (ml_cons me_str (ml_cons me_str (ml_cons me_str (ml_cons (me_tup ml_nil) (ml_cons (me_lstV ml_nil) (ml_cons (me_tup (ml_cons me_str ml_nil)) (ml_cons (me_tup (ml_cons (me_tup (ml_cons me_int (ml_cons me_int ml_nil))) ml_nil)) ml_nil)))))))))))))))))))))))))))
    (mss_cons (ms_if (mt_cmp (op_eqM hu) rule_eq (me_call F__law_sort hr hx (ml_cons (me_var 1) ml_nil)) me_int) (mss_one (ms_set 2 nd (me_op op_addM rule_add (me_var 2) (me_lstV (ml_cons (me_op op_sub' rule_sub (me_var 1) me_int) (ml_cons (me_op op_addM rule_add (me_var 1) me_int) (ml_cons (me_op op_addM rule_add (me_var 1) me_int) (ml_cons (me_op op_addM rule_add (me_var 1) me_int) ml_nil)))))))) mss_nil)
    (mss_one (ms_ret (me_call F__law_some hr hx (ml_cons (me_var 0) (ml_cons (me_var 2) ml_nil))))))) mss_nil)
    (mss_cons (ms_par 3 4 rfl nd (ml_cons (me_call F__law_roll hr hx (ml_cons (me_var 0) (ml_cons (me_bi call_lenM rule_len.l G.n_len (by decide +kernel) (ml_cons (me_var 1) ml_nil)) ml_nil))) (ml_cons (me_call F__law_roll hr hx (ml_cons (me_var 0) (ml_cons me_int ml_nil))) ml_nil)))
    (mss_cons (ms_if (mt_cmp (op_eqM hu) rule_eq (me_var 4) me_int) (mss_one (ms_ret (me_op op_addM rule_add (me_sl rfl (me_var 1) mo_none (mo_some (me_var 3))) (me_sl rfl (me_var 1) (mo_some (me_op op_addM rule_add (me_var 3) me_int)) mo_none)))) mss_nil)
    (mss_cons (ms_if (mt_cmp (op_eqM hu) rule_eq (me_var 4) me_int) (mss_one (ms_ret (me_op op_addM rule_add (me_sl rfl (me_var 1) mo_none (mo_some (me_op op_addM rule_add (me_var 3) me_int))) (me_sl rfl (me_var 1) (mo_some (me_var 3)) mo_none)))) mss_nil)
    (mss_cons (ms_if (mt_cmp (op_eqM hu) rule_eq (me_var 4) me_int) (mss_one (ms_ret (me_ty call_list_of rule_listV.l G.n_list (by decide +kernel) (ml_cons (me_var 1) ml_nil)))) mss_nil)
    (mss_cons (ms_if (mt_cmp (op_eqM hu) rule_eq (me_var 4) me_int) (mss_one (ms_ret (me_rev rfl (me_var 1)))) mss_nil)
    (mss_one (ms_ret (me_op op_addM rule_add (me_op op_addM rule_add (me_sl rfl (me_var 1) mo_none (mo_some (me_var 3))) (me_tup (ml_cons (me_call ih hr hx (ml_cons (me_var 0) (ml_cons (me_ix rfl (me_var 1) (me_var 3)) ml_nil))) ml_nil))) (me_sl rfl (me_var 1) (mo_some (me_op op_addM rule_add (me_var 3) me_int)) mo_none))))))))))
theorem ok__law_are_shifts (G : Top K mg) : ∃ fd, FM P w K mg base T 2 "_law_are_shifts" (He.ga K "_law_are_shifts") fd ["day", "value"] m__law_are_shifts := by
  obtain ⟨fd, F⟩ := G.F__law_are_shifts
  have bd : Binds K fd ["day", "value"] [] := F.bindsN fun _ _ _ _ _ _ us hl => match us, hl with | [_, _], _ => rfl
  obtain ⟨_, F__law_is_number⟩ := ok__law_is_number (P := P) (w := w) (base := base) (T := T) G
  refine ⟨fd, fn_okD (k := 1) F sc__law_are_shifts G.g__law_are_shifts bd ?_⟩
  intro no cdv A outer s H E hcd hr hx hp tk
  have nd := sc__law_are_shifts.nd
  have hu := units64 hr
  have hu1 := units1 hr
  have hu2 := units128 hr
  replace F__law_is_number := F__law_is_number.mono (k := 1) (by decide)
  exact (mss_cons (ms_if (mt_w (mw_or (mt_not (mt_val (me_isi .tuple (me_var 1) rfl G.n_isinstance G.n_tuple (by decide +kernel)))) (mw_or (mt_cmp (op_gtM hu) rule_gt (me_bi call_lenM rule_len.l G.n_len (by decide +kernel) (ml_cons (me_var 1) ml_nil)) me_int) (mw_or1 (mt_cmp (op_neM hu) rule_ne (me_lcV (own := [("row", 5)]) rfl nd (mi_seq rfl (me_var 1)) (blkOk_by (N := N__law_are_shifts) (sc := defScope s__law_are_shifts) (by decide +kernel)) (fun _ _ _ _ _ => (pg_name (i := 5) nd rfl (by first | exact Or.inl rfl | exact Or.inr rfl))) (fun _ hK => (gr_name 5)) (fun _ => fun _ _ _ _ _ => (mts_one (mt_w (mw_or (mt_not (mt_val (me_isi .tuple (me_var 5) rfl G.n_isinstance G.n_tuple (by decide +kernel)))) (mw_or1 (mt_cmp (op_neM hu) rule_ne (me_bi call_lenM rule_len.l G.n_len (by decide +kernel) (ml_cons (me_var 5) ml_nil)) me_int)))))) (fun _ => fun _ _ _ _ _ => (me_var 5))) (me_lstV ml_nil)))))) (mss_one (ms_ret me_bl)) mss_nil)
    (mss_cons (ms_for hp rfl (mi_seq rfl (me_var 1)) (pg_tup rfl (pgs_cons (pg_name (i := 2) nd rfl (by first | exact Or.inl rfl | exact Or.inr rfl)) (pgs_cons (pg_name (i := 3) nd rfl (by first | exact Or.inl rfl | exact Or.inr rfl)) (pgs_cons (pg_name (i := 4) nd rfl (by first | exact Or.inl rfl | exact Or.inr rfl)) pgs_nil)))) (gr_tupK rfl (grs_cons (gr_name 2) (grs_cons (gr_name 3) (grs_cons (gr_name 4) grs_nil)))) (mss_one (ms_if (mt_w (mw_or (mt_not (mt_val (me_call F__law_is_number hr hx (ml_cons (me_var 2) (ml_cons me_int (ml_cons (me_op op_sub' rule_sub (me_var 0) me_int) ml_nil)))))) (mw_or (mt_not (mt_val (me_call F__law_is_number hr hx (ml_cons (me_var 3) (ml_cons (me_op op_addM rule_add (me_var 2) me_int) (ml_cons (me_var 0) ml_nil)))))) (mw_or1 (mt_not (mt_val (me_call F__law_is_number hr hx (ml_cons (me_var 4) (ml_cons me_int (ml_cons me_int ml_nil)))))))))) (mss_one (ms_ret me_bl)) mss_nil)))
    (mss_one (ms_ret (me_cmp (op_eqM hu) rule_eq (me_lcV (own := [("one", 6), ("other", 7)]) rfl nd (mi_zip rfl (me_var 1) (me_sl rfl (me_var 1) (mo_some me_int) mo_none) G.n_zip) (blkOk_by (N := N__law_are_shifts) (sc := defScope s__law_are_shifts) (by decide +kernel)) (fun _ _ _ _ _ => (pg_tup rfl (pgs_cons (pg_name (i := 6) nd rfl (by first | exact Or.inl rfl | exact Or.inr rfl)) (pgs_cons (pg_name (i := 7) nd rfl (by first | exact Or.inl rfl | exact Or.inr rfl)) pgs_nil)))) (fun _ hK => (gr_tupK hK (grs_cons (gr_name 6) (grs_cons (gr_name 7) grs_nil)))) (fun _ => fun _ _ _ _ _ => (mts_one (mt_cmp (op_geM hu) rule_ge (me_sl rfl (me_var 6) mo_none (mo_some me_int)) (me_sl rfl (me_var 7) mo_none (mo_some me_int))))) (fun _ => fun _ _ _ _ _ => me_int)) (me_lstV ml_nil))))))
theorem ok__law_is_need (G : Top K mg) : ∃ fd, FM P w K mg base T 2 "_law_is_need" (He.ga K "_law_is_need") fd ["day", "value"] m__law_is_need := by
  obtain ⟨fd, F⟩ := G.F__law_is_need
  have bd : Binds K fd ["day", "value"] [] := F.bindsN fun _ _ _ _ _ _ us hl => match us, hl with | [_, _], _ => rfl
  obtain ⟨_, F__law_is_number⟩ := ok__law_is_number (P := P) (w := w) (base := base) (T := T) G
  refine ⟨fd, fn_okD (k := 1) F sc__law_is_need G.g__law_is_need bd ?_⟩
  intro no cdv A outer s H E hcd hr hx hp tk
  have nd := sc__law_is_need.nd
  have hu := units64 hr
  have hu1 := units1 hr
  have hu2 := units128 hr
  replace F__law_is_number := F__law_is_number.mono (k := 1) (by decide)
  exact (mss_one (ms_ret (me_and (me_isi .tuple (me_var 1) rfl G.n_isinstance G.n_tuple (by decide +kernel)) (me_and (me_cmp (op_eqM hu) rule_eq (me_bi call_lenM rule_len.l G.n_len (by decide +kernel) (ml_cons (me_var 1) ml_nil)) (me_var 0)) (me_one (me_cmp (op_eqM hu) rule_eq (me_lcV (own := [("many", 2)]) rfl nd (mi_seq rfl (me_var 1)) (blkOk_by (N := N__law_is_need) (sc := defScope s__law_is_need) (by decide +kernel)) (fun _ _ _ _ _ => (pg_name (i := 2) nd rfl (by first | exact Or.inl rfl | exact Or.inr rfl))) (fun _ hK => (gr_name 2)) (fun _ => fun _ _ _ _ _ => (mts_one (mt_not (mt_val (me_call F__law_is_number hr passL (ml_cons (me_var 2) (ml_cons me_int (ml_cons me_int ml_nil)))))))) (fun _ => fun _ _ _ _ _ => (me_var 2))) (me_lstV ml_nil)))))))
theorem ok__law_right (G : Top K mg) (TB : LamX.TabB base mg (He.cT K (LamD, none)).1 (He.cT K (LamD, none)).2) : ∃ fd, FM P w K mg base (TL K) 11 "_law_right" (He.ga K "_law_right") fd ["cup", "day"] m__law_right := by
  obtain ⟨fd, F⟩ := G.F__law_right
  have bd : Binds K fd ["cup", "day"] [] := F.bindsN fun _ _ _ _ _ _ us hl => match us, hl with | [_, _], _ => rfl
  obtain ⟨_, F__law_shifts⟩ := ok__law_shifts (P := P) (w := w) (base := base) (T := (TL K)) G
  obtain ⟨_, F__law_some⟩ := ok__law_some (P := P) (w := w) (base := base) (T := (TL K)) G
  obtain ⟨_, F__law_need⟩ := ok__law_need (P := P) (w := w) (base := base) (T := (TL K)) G
  obtain ⟨_, F__law_roll⟩ := ok__law_roll (P := P) (w := w) (base := base) (T := (TL K)) G
  obtain ⟨_, F__law_works⟩ := ok__law_works (P := P) (w := w) (base := base) (T := (TL K)) G
  obtain ⟨_, F__law_like⟩ := ok__law_like (P := P) (w := w) (base := base) (T := (TL K)) G 6
  obtain ⟨_, F_are_shifts⟩ := ok_are_shifts (P := P) (w := w) (base := base) (T := (TL K)) G
  obtain ⟨_, F_is_need⟩ := ok_is_need (P := P) (w := w) (base := base) (T := (TL K)) G
  obtain ⟨_, F_uncovered⟩ := ok_uncovered (P := P) (w := w) (base := base) (T := (TL K)) G
  obtain ⟨_, F__law_bent⟩ := ok__law_bent (P := P) (w := w) (base := base) (T := (TL K)) G 6
  obtain ⟨_, F__law_is_cover⟩ := ok__law_is_cover (P := P) (w := w) (base := base) (T := (TL K)) G
  obtain ⟨_, F_is_cover⟩ := ok_is_cover (P := P) (w := w) (base := base) (T := (TL K)) G
  obtain ⟨_, F_cost_of⟩ := ok_cost_of (P := P) (w := w) (base := base) (T := (TL K)) G
  obtain ⟨_, F__law_cost⟩ := ok__law_cost (P := P) (w := w) (base := base) (T := (TL K)) G
  obtain ⟨_, F__law_are_prices⟩ := ok__law_are_prices (P := P) (w := w) (base := base) (T := (TL K)) G
  obtain ⟨_, F_are_prices⟩ := ok_are_prices (P := P) (w := w) (base := base) (T := (TL K)) G
  obtain ⟨_, F_worth_of⟩ := ok_worth_of (P := P) (w := w) (base := base) (T := (TL K)) G
  obtain ⟨_, F__law_worth⟩ := ok__law_worth (P := P) (w := w) (base := base) (T := (TL K)) G
  obtain ⟨_, F__law_are_shifts⟩ := ok__law_are_shifts (P := P) (w := w) (base := base) (T := (TL K)) G
  obtain ⟨_, F__law_is_need⟩ := ok__law_is_need (P := P) (w := w) (base := base) (T := (TL K)) G
  refine ⟨fd, fn_okD (k := 10) F sc__law_right G.g__law_right bd ?_⟩
  intro no cdv A outer s H E hcd hr hx hp tk
  have nd := sc__law_right.nd
  have hu := units64 hr
  have hu1 := units1 hr
  have hu2 := units128 hr
  replace F__law_shifts := F__law_shifts.mono (k := 10) (by decide)
  replace F__law_some := F__law_some.mono (k := 10) (by decide)
  replace F__law_need := F__law_need.mono (k := 10) (by decide)
  replace F__law_roll := F__law_roll.mono (k := 10) (by decide)
  replace F__law_works := F__law_works.mono (k := 10) (by decide)
  replace F__law_like := F__law_like.mono (k := 10) (by decide)
  replace F_are_shifts := F_are_shifts.mono (k := 10) (by decide)
  replace F_is_need := F_is_need.mono (k := 10) (by decide)
  replace F_uncovered := F_uncovered.mono (k := 10) (by decide)
  replace F__law_bent := F__law_bent.mono (k := 10) (by decide)
  replace F__law_is_cover := F__law_is_cover.mono (k := 10) (by decide)
  replace F_is_cover := F_is_cover.mono (k := 10) (by decide)
  have F0_cost_of := F_cost_of
  replace F_cost_of := F_cost_of.mono (k := 10) (by decide)
  replace F__law_cost := F__law_cost.mono (k := 10) (by decide)
  replace F__law_are_prices := F__law_are_prices.mono (k := 10) (by decide)
  replace F_are_prices := F_are_prices.mono (k := 10) (by decide)
  have F0_worth_of := F_worth_of
  replace F_worth_of := F_worth_of.mono (k := 10) (by decide)
  replace F__law_worth := F__law_worth.mono (k := 10) (by decide)
  replace F__law_are_shifts := F__law_are_shifts.mono (k := 10) (by decide)
  replace F__law_is_need := F__law_is_need.mono (k := 10) (by decide)
  obtain ⟨oc, od, osl, lk, hcd, hcq⟩ := hcd
  have hcode := lam_code (p := ("_law_right", none)) lk hcd hcq
  obtain ⟨fdw, Fw⟩ := G.F__law_word
  exact (mss_cons (ms_set 2 nd (me_call F__law_shifts hr hx (ml_cons (me_var 0) (ml_cons (me_var 1) (ml_cons (me_call F__law_some hr hx (ml_cons (me_var 0) (ml_cons (me_lstV (ml_cons me_int (ml_cons me_int ml_nil))) ml_nil))) (ml_cons me_int ml_nil))))))
    (mss_cons (ms_set 3 nd (me_call F__law_need hr hx (ml_cons (me_var 0) (ml_cons (me_var 1) (ml_cons (me_var 2) (ml_cons (me_call F__law_some hr hx (ml_cons (me_var 0) (ml_cons (me_lstV (ml_cons me_int (ml_cons me_int ml_nil))) ml_nil))) ml_nil))))))
    (mss_cons (ms_set 4 nd (me_ty call_tuple_of rule_tuple.l G.n_tuple (by decide +kernel) (ml_cons (me_lcV (own := [("row", 14)]) rfl nd (mi_seq rfl (me_var 2)) (blkOk_by (N := N__law_right) (sc := defScope s__law_right) (by decide +kernel)) (fun _ _ _ _ _ => (pg_name (i := 14) nd rfl (by first | exact Or.inl rfl | exact Or.inr rfl))) (fun _ hK => (gr_name 14)) (fun _ => fun _ _ _ _ _ => mts_nil) (fun _ => fun _ _ _ _ _ => (me_call F__law_roll hr passL (ml_cons (me_var 0) (ml_cons (me_op op_addM rule_add (me_bi (call_maxM rfl hu) rule_maxD.l G.n_max (by decide +kernel) (ml_cons (me_var 3) ml_nil)) me_int) ml_nil))))) ml_nil)))
    (mss_cons (ms_set 5 nd (me_ty call_tuple_of rule_tuple.l G.n_tuple (by decide +kernel) (ml_cons (me_lcV (own := [("clock", 15)]) rfl nd (mi_range1 (me_var 1) G.n_range) (blkOk_by (N := N__law_right) (sc := defScope s__law_right) (by decide +kernel)) (fun _ _ _ _ _ => (pg_name (i := 15) nd rfl (by first | exact Or.inl rfl | exact Or.inr rfl))) (fun _ hK => (gr_name 15)) (fun _ => fun _ _ _ _ _ => mts_nil) (fun _ => fun _ _ _ _ _ => (me_call F__law_some hr passL (ml_cons (me_var 0) (ml_cons (me_lstV (ml_cons me_int (ml_cons me_int (ml_cons me_int (ml_cons (me_call F__law_roll hr passL (ml_cons (me_var 0) (ml_cons me_int ml_nil))) ml_nil))))) ml_nil))))) ml_nil)))
    (mss_cons (ms_set 6 nd (me_call F__law_works hr hx (ml_cons (me_var 1) (ml_cons (me_var 2) (ml_cons (me_op op_mulM rule_mul (me_tup (ml_cons me_int ml_nil)) (me_bi call_lenM rule_len.l G.n_len (by decide +kernel) (ml_cons (me_var 2) ml_nil))) ml_nil)))))
    (mss_cons (ms_set 7 nd (me_ty call_tuple_of rule_tuple.l G.n_tuple (by decide +kernel) (ml_cons (me_lcV (own := [("clock", 15)]) rfl nd (mi_range1 (me_var 1) G.n_range) (blkOk_by (N := N__law_right) (sc := defScope s__law_right) (by decide +kernel)) (fun _ _ _ _ _ => (pg_name (i := 15) nd rfl (by first | exact Or.inl rfl | exact Or.inr rfl))) (fun _ hK => (gr_name 15)) (fun _ => fun _ _ _ _ _ => (mts_one (mt_w (mw_and (mt_cmp (op_gtM hu) rule_gt (me_ix rfl (me_var 3) (me_var 15)) me_int) (mw_and1 (mt_cmp (op_eqM hu) rule_eq (me_ix rfl (me_var 6) (me_var 15)) me_int)))))) (fun _ => fun _ _ _ _ _ => (me_var 15))) ml_nil)))
    (mss_cons (ms_if (mt_not (mt_val (me_call F__law_like hr hx (ml_cons (me_lstV (ml_cons (me_call F_are_shifts hr hx (ml_cons (me_var 1) (ml_cons (me_var 2) ml_nil))) (ml_cons (me_call F_is_need hr hx (ml_cons (me_var 1) (ml_cons (me_var 3) ml_nil))) (ml_cons (me_call F_uncovered hr hx (ml_cons (me_var 1) (ml_cons (me_var 2) (ml_cons (me_var 3) ml_nil)))) ml_nil)))) (ml_cons (me_lstV (ml_cons me_bl (ml_cons me_bl (ml_cons (me_var 7) ml_nil)))) ml_nil))))) (mss_one (ms_ret me_bl)) mss_nil)
    (mss_cons (ms_set 8 nd (me_op op_mulM rule_mul (me_tup (ml_cons (me_bi (call_maxM rfl hu) rule_maxD.l G.n_max (by decide +kernel) (ml_cons (me_var 3) ml_nil)) ml_nil)) (me_bi call_lenM rule_len.l G.n_len (by decide +kernel) (ml_cons (me_var 2) ml_nil))))
    (mss_cons (ms_for hp rfl (mi_seq rfl (me_tup (ml_cons (me_var 4) (ml_cons (me_var 8) (ml_cons (me_call F__law_bent hr hx (ml_cons (me_var 0) (ml_cons (me_var 4) ml_nil))) (ml_cons (me_call F__law_bent hr hx (ml_cons (me_var 0) (ml_cons (me_var 8) ml_nil))) ml_nil)))))) (pg_name (i := 9) nd rfl (by first | exact Or.inl rfl | exact Or.inr rfl)) (gr_name 9) (mss_cons (ms_set 10 nd (me_call F__law_is_cover hr hx (ml_cons (me_var 1) (ml_cons (me_var 2) (ml_cons (me_var 3) (ml_cons (me_var 9) ml_nil))))))
    (mss_cons (ms_if (mt_not (mt_val (me_call F__law_like hr hx (ml_cons (me_call F_is_cover hr hx (ml_cons (me_var 1) (ml_cons (me_var 2) (ml_cons (me_var 3) (ml_cons (me_var 9) ml_nil))))) (ml_cons (me_var 10) ml_nil))))) (mss_one (ms_ret me_bl)) mss_nil)
    (mss_cons (ms_if (mt_w (mw_and (mt_val (me_var 10)) (mw_and1 (mt_not (mt_val (me_call F__law_like hr hx (ml_cons (me_call F_cost_of hr hx (ml_cons (me_var 1) (ml_cons (me_var 2) (ml_cons (me_var 3) (ml_cons (me_var 9) ml_nil))))) (ml_cons (me_call F__law_cost hr hx (ml_cons (me_var 2) (ml_cons (me_var 9) ml_nil))) ml_nil)))))))) (mss_one (ms_ret me_bl)) mss_nil)
    (mss_one (ms_if (mt_w (mw_and (mt_not (mt_val (me_var 10))) (mw_and1 (mt_cmp (op_neM hu) rule_ne (me_word (k := 8) (word_ok Fw G) (wans_ok G) (fun _ => wgives G) TB hcode (List.mem_singleton.mpr rfl) (fun p hp _ => by rw [List.mem_singleton.mp hp]; rfl) (hr.mono (by decide)) (fun A' outer' s' H' E' f' c'' hr hx' => (me_call (F0_cost_of.mono (k := 8) (by decide)) hr hx' (ml_cons (me_var 1) (ml_cons (me_var 2) (ml_cons (me_var 3) (ml_cons (me_var 9) ml_nil)))))) (LamX.lamS_by (sc := defScope s__law_right) (by decide +kernel))) me_int)))) (mss_one (ms_ret me_bl)) mss_nil))))))
    (mss_cons (ms_for hp rfl (mi_seq rfl (me_tup (ml_cons (me_var 5) (ml_cons (me_op op_mulM rule_mul (me_tup (ml_cons me_int ml_nil)) (me_var 1)) (ml_cons (me_call F__law_bent hr hx (ml_cons (me_var 0) (ml_cons (me_var 5) ml_nil))) (ml_cons (me_ty call_tuple_of rule_tuple.l G.n_tuple (by decide +kernel) (ml_cons (me_lcV (own := [("price", 16)]) rfl nd (mi_seq rfl (me_var 5)) (blkOk_by (N := N__law_right) (sc := defScope s__law_right) (by decide +kernel)) (fun _ _ _ _ _ => (pg_name (i := 16) nd rfl (by first | exact Or.inl rfl | exact Or.inr rfl))) (fun _ hK => (gr_name 16)) (fun _ => fun _ _ _ _ _ => mts_nil) (fun _ => fun _ _ _ _ _ => (me_bi (call_min2 rfl) rule_min2 G.n_min (by decide +kernel) (ml_cons (me_var 16) (ml_cons me_int ml_nil))))) ml_nil)) ml_nil)))))) (pg_name (i := 9) nd rfl (by first | exact Or.inl rfl | exact Or.inr rfl)) (gr_name 9) (mss_cons (ms_set 10 nd (me_call F__law_are_prices hr hx (ml_cons (me_var 1) (ml_cons (me_var 2) (ml_cons (me_var 9) ml_nil)))))
    (mss_cons (ms_if (mt_not (mt_val (me_call F__law_like hr hx (ml_cons (me_call F_are_prices hr hx (ml_cons (me_var 1) (ml_cons (me_var 2) (ml_cons (me_var 9) ml_nil)))) (ml_cons (me_var 10) ml_nil))))) (mss_one (ms_ret me_bl)) mss_nil)
    (mss_cons (ms_if (mt_w (mw_and (mt_val (me_var 10)) (mw_and1 (mt_not (mt_val (me_call F__law_like hr hx (ml_cons (me_call F_worth_of hr hx (ml_cons (me_var 1) (ml_cons (me_var 2) (ml_cons (me_var 3) (ml_cons (me_var 9) ml_nil))))) (ml_cons (me_call F__law_worth hr hx (ml_cons (me_var 3) (ml_cons (me_var 9) ml_nil))) ml_nil)))))))) (mss_one (ms_ret me_bl)) mss_nil)
    (mss_one (ms_if (mt_w (mw_and (mt_not (mt_val (me_var 10))) (mw_and1 (mt_cmp (op_neM hu) rule_ne (me_word (k := 8) (word_ok Fw G) (wans_ok G) (fun _ => wgives G) TB hcode (List.mem_singleton.mpr rfl) (fun p hp _ => by rw [List.mem_singleton.mp hp]; rfl) (hr.mono (by decide)) (fun A' outer' s' H' E' f' c'' hr hx' => (me_call (F0_worth_of.mono (k := 8) (by decide)) hr hx' (ml_cons (me_var 1) (ml_cons (me_var 2) (ml_cons (me_var 3) (ml_cons (me_var 9) ml_nil)))))) (LamX.lamS_by (sc := defScope s__law_right) (by decide +kernel))) me_int)))) (mss_one (ms_ret me_bl)) mss_nil))))))
    (mss_cons (ms_for hp rfl (mi_range1 me_int G.n_range) (pg_name (i := 11) nd rfl (by first | exact Or.inl rfl | exact Or.inr rfl)) (gr_name 11) (mss_cons (ms_par 12 13 rfl nd (ml_cons (me_call F__law_bent hr hx (ml_cons (me_var 0) (ml_cons (me_var 2) ml_nil))) (ml_cons (me_call F__law_bent hr hx (ml_cons (me_var 0) (ml_cons (me_var 3) ml_nil))) ml_nil)))
    (mss_one (ms_if (mt_not (mt_val (me_call F__law_like hr hx (ml_cons (me_lstV (ml_cons (me_call F_are_shifts hr hx (ml_cons (me_var 1) (ml_cons (me_var 12) ml_nil))) (ml_cons (me_call F_is_need hr hx (ml_cons (me_var 1) (ml_cons (me_var 13) ml_nil))) ml_nil))) (ml_cons (me_lstV (ml_cons (me_call F__law_are_shifts hr hx (ml_cons (me_var 1) (ml_cons (me_var 12) ml_nil))) (ml_cons (me_call F__law_is_need hr hx (ml_cons (me_var 1) (ml_cons (me_var 13) ml_nil))) ml_nil))) ml_nil))))) (mss_one (ms_ret me_bl)) mss_nil))))
    (mss_one (ms_ret me_bl)))))))))))))
theorem ok__law_written_right (G : Top K mg) : ∃ fd, FM P w K mg base T 8 "_law_written_right" (He.ga K "_law_written_right") fd [] m__law_written_right := by
  obtain ⟨fd, F⟩ := G.F__law_written_right
  have bd : Binds K fd [] [] := F.bindsN fun _ _ _ _ _ _ us hl => match us, hl with | [], _ => rfl
  obtain ⟨_, F_are_shifts⟩ := ok_are_shifts (P := P) (w := w) (base := base) (T := T) G
  obtain ⟨_, F_is_need⟩ := ok_is_need (P := P) (w := w) (base := base) (T := T) G
  obtain ⟨_, F__law_like⟩ := ok__law_like (P := P) (w := w) (base := base) (T := T) G 6
  obtain ⟨_, F_is_cover⟩ := ok_is_cover (P := P) (w := w) (base := base) (T := T) G
  obtain ⟨_, F_are_prices⟩ := ok_are_prices (P := P) (w := w) (base := base) (T := T) G
  obtain ⟨_, F_cost_of⟩ := ok_cost_of (P := P) (w := w) (base := base) (T := T) G
  obtain ⟨_, F_worth_of⟩ := ok_worth_of (P := P) (w := w) (base := base) (T := T) G
  obtain ⟨_, F_uncovered⟩ := ok_uncovered (P := P) (w := w) (base := base) (T := T) G
  refine ⟨fd, fn_okD (k := 7) F sc__law_written_right G.g__law_written_right bd ?_⟩
  intro no cdv A outer s H E hcd hr hx hp tk
  have nd := sc__law_written_right.nd
  have hu := units64 hr
  have hu1 := units1 hr
  have hu2 := units128 hr
  replace F_are_shifts := F_are_shifts.mono (k := 7) (by decide)
  replace F_is_need := F_is_need.mono (k := 7) (by decide)
  replace F__law_like := F__law_like.mono (k := 7) (by decide)
  replace F_is_cover := F_is_cover.mono (k := 7) (by decide)
  replace F_are_prices := F_are_prices.mono (k := 7) (by decide)
  replace F_cost_of := F_cost_of.mono (k := 7) (by decide)
  replace F_worth_of := F_worth_of.mono (k := 7) (by decide)
  replace F_uncovered := F_uncovered.mono (k := 7) (by decide)
  exact (mss_cons (ms_set 0 nd (me_ty call_tuple_of rule_tuple.l G.n_tuple (by decide +kernel) (ml_cons (me_op op_addM rule_add (me_op op_addM rule_add (me_lcV (own := [("end", 6)]) rfl nd (mi_range2 me_int me_int G.n_range) (blkOk_by (N := N__law_written_right) (sc := defScope s__law_written_right) (by decide +kernel)) (fun _ _ _ _ _ => (pg_name (i := 6) nd rfl (by first | exact Or.inl rfl | exact Or.inr rfl))) (fun _ hK => (gr_name 6)) (fun _ => fun _ _ _ _ _ => mts_nil) (fun _ => fun _ _ _ _ _ => (me_tup (ml_cons me_int (ml_cons (me_var 6) (ml_cons me_int ml_nil)))))) (me_lcV (own := [("end", 6)]) rfl nd (mi_range2 me_int me_int G.n_range) (blkOk_by (N := N__law_written_right) (sc := defScope s__law_written_right) (by decide +kernel)) (fun _ _ _ _ _ => (pg_name (i := 6) nd rfl (by first | exact Or.inl rfl | exact Or.inr rfl))) (fun _ hK => (gr_name 6)) (fun _ => fun _ _ _ _ _ => mts_nil) (fun _ => fun _ _ _ _ _ => (me_tup (ml_cons me_int (ml_cons (me_var 6) (ml_cons me_int ml_nil))))))) (me_lcV (own := [("end", 6)]) rfl nd (mi_range2 me_int me_int G.n_range) (blkOk_by (N := N__law_written_right) (sc := defScope s__law_written_right) (by decide +kernel)) (fun _ _ _ _ _ => (pg_name (i := 6) nd rfl (by first | exact Or.inl rfl | exact Or.inr rfl))) (fun _ hK => (gr_name 6)) (fun _ => fun _ _ _ _ _ => mts_nil) (fun _ => fun _ _ _ _ _ => (me_tup (ml_cons me_int (ml_cons (me_var 6) (ml_cons me_int ml_nil))))))) ml_nil)))
    (mss_cons (ms_set 1 nd (me_lstV (ml_cons (me_tup ml_nil) (ml_cons (me_var 0) (ml_cons (me_tup (ml_cons (me_tup (ml_cons me_int (ml_cons me_int (ml_cons me_int ml_nil)))) ml_nil)) (ml_cons (me_tup (ml_cons (me_tup (ml_cons me_int (ml_cons me_int (ml_cons me_int ml_nil)))) ml_nil)) (ml_cons (me_tup (ml_cons (me_tup (ml_cons me_int (ml_cons me_int (ml_cons me_int ml_nil)))) (ml_cons (me_tup (ml_cons me_int (ml_cons me_int (ml_cons me_int ml_nil)))) ml_nil))) ml_nil)))))))
    (mss_cons (ms_set 2 nd (me_lstM (ml_cons (me_op op_addM rule_add (me_var 0) (me_tup (ml_cons (me_tup (ml_cons me_int (ml_cons me_int (ml_cons me_int ml_nil)))) ml_nil))) (ml_cons (me_tup (ml_cons (me_tup (ml_cons me_int (ml_cons me_int (ml_cons me_int ml_nil)))) ml_nil)) (ml_cons (me_tup (ml_cons (me_tup (ml_cons me_int (ml_cons me_int (ml_cons me_int ml_nil)))) ml_nil)) (ml_cons (me_tup (ml_cons (me_tup (ml_cons me_int (ml_cons me_int (ml_cons me_int ml_nil)))) ml_nil)) (ml_cons (me_tup (ml_cons (me_tup (ml_cons me_int (ml_cons me_int (ml_cons me_int ml_nil)))) ml_nil)) (ml_cons (me_tup (ml_cons (me_tup (ml_cons me_int (ml_cons me_int (ml_cons me_int ml_nil)))) ml_nil)) (ml_cons (me_tup (ml_cons (me_tup (ml_cons me_int (ml_cons me_int (ml_cons me_int ml_nil)))) ml_nil)) (ml_cons (me_tup (ml_cons (me_tup (ml_cons (me_un un_neg rule_neg me_int) (ml_cons me_int (ml_cons me_int ml_nil)))) ml_nil)) ml_nil))))))))))
    (mss_cons (ms_set 2 nd (me_op op_addM rule_addM (me_var 2) (me_lstV (ml_cons (me_tup (ml_cons (me_tup (ml_cons me_int (ml_cons me_int (ml_cons me_int ml_nil)))) (ml_cons (me_tup (ml_cons me_int (ml_cons me_int (ml_cons me_int ml_nil)))) ml_nil))) (ml_cons (me_tup (ml_cons (me_tup (ml_cons me_int (ml_cons me_int (ml_cons me_int ml_nil)))) (ml_cons (me_tup (ml_cons me_int (ml_cons me_int (ml_cons me_int ml_nil)))) ml_nil))) (ml_cons (me_tup (ml_cons (me_tup (ml_cons me_bl (ml_cons me_int (ml_cons me_int ml_nil)))) ml_nil)) (ml_cons (me_tup (ml_cons (me_tup (ml_cons me_int (ml_cons me_bl (ml_cons me_int ml_nil)))) ml_nil)) (ml_cons (me_tup (ml_cons (me_tup (ml_cons me_int (ml_cons me_int (ml_cons me_bl ml_nil)))) ml_nil)) (ml_cons (me_tup (ml_cons (me_tup (ml_cons me_int (ml_cons me_int ml_nil))) ml_nil)) (ml_cons (me_tup (ml_cons (me_tup (ml_cons me_int (ml_cons me_int (ml_cons me_int (ml_cons me_int ml_nil))))) ml_nil)) ml_nil))))))))))
    (mss_cons (ms_set 2 nd (me_op op_addM rule_addM (me_var 2) (me_lstV (ml_cons (me_lstV (ml_cons (me_tup (ml_cons me_int (ml_cons me_int (ml_cons me_int ml_nil)))) ml_nil)) (ml_cons (me_tup (ml_cons (me_lstV (ml_cons me_int (ml_cons me_int (ml_cons me_int ml_nil)))) ml_nil)) (ml_cons me_non (ml_cons (me_tup (ml_cons me_int (ml_cons me_int (ml_cons me_int ml_nil)))) ml_nil)))))))
    (mss_cons (ms_if (mt_w (mw_or (mt_cmp (op_neM hu) rule_ne (me_lcV (own := [("value", 7)]) rfl nd (mi_seq rfl (me_var 1)) (blkOk_by (N := N__law_written_right) (sc := defScope s__law_written_right) (by decide +kernel)) (fun _ _ _ _ _ => (pg_name (i := 7) nd rfl (by first | exact Or.inl rfl | exact Or.inr rfl))) (fun _ hK => (gr_name 7)) (fun _ => fun _ _ _ _ _ => (mts_one (mt_cmp op_notBl rule_notB (me_call F_are_shifts hr passL (ml_cons me_int (ml_cons (me_var 7) ml_nil))) me_bl))) (fun _ => fun _ _ _ _ _ => (me_var 7))) (me_lstV ml_nil)) (mw_or1 (mt_cmp (op_neM hu) rule_ne (me_lcV (own := [("value", 7)]) rfl nd (mi_seq rfl (me_var 2)) (blkOk_by (N := N__law_written_right) (sc := defScope s__law_written_right) (by decide +kernel)) (fun _ _ _ _ _ => (pg_name (i := 7) nd rfl (by first | exact Or.inl rfl | exact Or.inr rfl))) (fun _ hK => (gr_name 7)) (fun _ => fun _ _ _ _ _ => (mts_one (mt_cmp op_notBl rule_notB (me_call F_are_shifts hr passL (ml_cons me_int (ml_cons (me_var 7) ml_nil))) me_bl))) (fun _ => fun _ _ _ _ _ => (me_var 7))) (me_lstV ml_nil))))) (mss_one (ms_ret me_bl)) mss_nil)
    (mss_cons (ms_par 1 2 rfl nd (ml_cons (me_lstV (ml_cons (me_op op_mulM rule_mul (me_tup (ml_cons me_int ml_nil)) me_int) (ml_cons (me_op op_mulM rule_mul (me_tup (ml_cons me_int ml_nil)) me_int) ml_nil))) (ml_cons (me_lstM (ml_cons (me_op op_addM rule_add (me_tup (ml_cons me_int ml_nil)) (me_op op_mulM rule_mul (me_tup (ml_cons me_int ml_nil)) me_int)) (ml_cons (me_op op_addM rule_add (me_tup (ml_cons (me_un un_neg rule_neg me_int) ml_nil)) (me_op op_mulM rule_mul (me_tup (ml_cons me_int ml_nil)) me_int)) (ml_cons (me_op op_mulM rule_mul (me_tup (ml_cons me_int ml_nil)) me_int) (ml_cons (me_op op_mulM rule_mul (me_tup (ml_cons me_int ml_nil)) me_int) (ml_cons (me_op op_mulM rule_mul (me_lstV (ml_cons me_int ml_nil)) me_int) (ml_cons (me_op op_mulM rule_mul (me_tup (ml_cons me_non ml_nil)) me_int) (ml_cons me_non (ml_cons me_int ml_nil))))))))) ml_nil)))
    (mss_cons (ms_expr (me_append (me_var 2) (me_op op_addM rule_add (me_tup (ml_cons me_bl ml_nil)) (me_op op_mulM rule_mul (me_tup (ml_cons me_int ml_nil)) me_int))))
    (mss_cons (ms_if (mt_w (mw_or (mt_cmp (op_neM hu) rule_ne (me_lcV (own := [("value", 7)]) rfl nd (mi_seq rfl (me_var 1)) (blkOk_by (N := N__law_written_right) (sc := defScope s__law_written_right) (by decide +kernel)) (fun _ _ _ _ _ => (pg_name (i := 7) nd rfl (by first | exact Or.inl rfl | exact Or.inr rfl))) (fun _ hK => (gr_name 7)) (fun _ => fun _ _ _ _ _ => (mts_one (mt_cmp op_notBl rule_notB (me_call F_is_need hr passL (ml_cons me_int (ml_cons (me_var 7) ml_nil))) me_bl))) (fun _ => fun _ _ _ _ _ => (me_var 7))) (me_lstV ml_nil)) (mw_or1 (mt_cmp (op_neM hu) rule_ne (me_lcV (own := [("value", 7)]) rfl nd (mi_seq rfl (me_var 2)) (blkOk_by (N := N__law_written_right) (sc := defScope s__law_written_right) (by decide +kernel)) (fun _ _ _ _ _ => (pg_name (i := 7) nd rfl (by first | exact Or.inl rfl | exact Or.inr rfl))) (fun _ hK => (gr_name 7)) (fun _ => fun _ _ _ _ _ => (mts_one (mt_cmp op_notBl rule_notB (me_call F_is_need hr passL (ml_cons me_int (ml_cons (me_var 7) ml_nil))) me_bl))) (fun _ => fun _ _ _ _ _ => (me_var 7))) (me_lstV ml_nil))))) (mss_one (ms_ret me_bl)) mss_nil)
    (mss_cons (ms_asgP (me_tup (ml_cons (me_tup (ml_cons (me_tup (ml_cons me_int (ml_cons me_int (ml_cons me_int ml_nil)))) (ml_cons (me_tup (ml_cons me_int (ml_cons me_int (ml_cons me_int ml_nil)))) (ml_cons (me_tup (ml_cons me_int (ml_cons me_int (ml_cons me_int ml_nil)))) ml_nil)))) (ml_cons (me_tup (ml_cons me_int (ml_cons me_int (ml_cons me_int (ml_cons me_int (ml_cons me_int ml_nil)))))) ml_nil))) (pg_tup rfl (pgs_cons (pg_name (i := 3) nd rfl (by first | exact Or.inl rfl | exact Or.inr rfl)) (pgs_cons (pg_name (i := 4) nd rfl (by first | exact Or.inl rfl | exact Or.inr rfl)) pgs_nil))) (gr_tupK rfl (grs_cons (gr_name 3) (grs_cons (gr_name 4) grs_nil))))
    (mss_cons (ms_set 1 nd (me_lstV (ml_cons (me_tup (ml_cons me_int (ml_cons me_int (ml_cons me_int ml_nil)))) (ml_cons (me_tup (ml_cons me_int (ml_cons me_int (ml_cons me_int ml_nil)))) (ml_cons (me_tup (ml_cons (me_op op_pow rule_pow me_int me_int) (ml_cons me_int (ml_cons (me_op op_pow rule_pow me_int me_int) ml_nil)))) ml_nil)))))
    (mss_cons (ms_set 2 nd (me_lstM (ml_cons (me_tup (ml_cons me_int (ml_cons me_int (ml_cons me_int ml_nil)))) (ml_cons (me_tup (ml_cons me_int (ml_cons me_int (ml_cons me_int ml_nil)))) (ml_cons (me_tup (ml_cons me_int (ml_cons me_int ml_nil))) (ml_cons (me_tup (ml_cons me_int (ml_cons me_int (ml_cons me_int (ml_cons me_int ml_nil))))) (ml_cons (me_lstV (ml_cons me_int (ml_cons me_int (ml_cons me_int ml_nil)))) (ml_cons (me_tup (ml_cons me_int (ml_cons (me_un un_neg rule_neg me_int) (ml_cons me_int ml_nil)))) (ml_cons (me_tup (ml_cons me_int (ml_cons me_bl (ml_cons me_int ml_nil)))) (ml_cons me_non ml_nil))))))))))
    (mss_cons (ms_if (mt_not (mt_val (me_call F__law_like hr hx (ml_cons (me_lcV (own := [("value", 7)]) rfl nd (mi_seq rfl (me_op op_addM rule_add (me_var 1) (me_var 2))) (blkOk_by (N := N__law_written_right) (sc := defScope s__law_written_right) (by decide +kernel)) (fun _ _ _ _ _ => (pg_name (i := 7) nd rfl (by first | exact Or.inl rfl | exact Or.inr rfl))) (fun _ hK => (gr_name 7)) (fun _ => fun _ _ _ _ _ => mts_nil) (fun _ => fun _ _ _ _ _ => (me_call F_is_cover hr passL (ml_cons me_int (ml_cons (me_var 3) (ml_cons (me_var 4) (ml_cons (me_var 7) ml_nil))))))) (ml_cons (me_op op_addM rule_add (me_op op_mulM rule_mul (me_lstV (ml_cons me_bl ml_nil)) me_int) (me_op op_mulM rule_mul (me_lstV (ml_cons me_bl ml_nil)) me_int)) ml_nil))))) (mss_one (ms_ret me_bl)) mss_nil)
    (mss_cons (ms_set 1 nd (me_lstV (ml_cons (me_tup (ml_cons me_int (ml_cons me_int (ml_cons me_int (ml_cons me_int (ml_cons me_int ml_nil)))))) (ml_cons (me_op op_mulM rule_mul (me_tup (ml_cons me_int ml_nil)) me_int) (ml_cons (me_tup (ml_cons me_int (ml_cons me_int (ml_cons me_int (ml_cons me_int (ml_cons me_int ml_nil)))))) ml_nil)))))
    (mss_cons (ms_set 2 nd (me_lstM (ml_cons (me_tup (ml_cons me_int (ml_cons me_int (ml_cons me_int (ml_cons me_int (ml_cons me_int ml_nil)))))) (ml_cons (me_tup (ml_cons me_int (ml_cons me_int (ml_cons me_int (ml_cons me_int (ml_cons me_int ml_nil)))))) (ml_cons (me_tup (ml_cons me_int (ml_cons me_int (ml_cons me_int (ml_cons me_int (ml_cons me_int ml_nil)))))) (ml_cons (me_op op_mulM rule_mul (me_tup (ml_cons me_int ml_nil)) me_int) (ml_cons (me_op op_mulM rule_mul (me_lstV (ml_cons me_int ml_nil)) me_int) (ml_cons (me_tup (ml_cons (me_un un_neg rule_neg me_int) (ml_cons me_int (ml_cons me_int (ml_cons me_int (ml_cons me_int ml_nil)))))) (ml_cons (me_tup (ml_cons me_int (ml_cons me_int (ml_cons me_int (ml_cons me_int (ml_cons me_bl ml_nil)))))) (ml_cons me_non ml_nil))))))))))
    (mss_cons (ms_if (mt_not (mt_val (me_call F__law_like hr hx (ml_cons (me_lcV (own := [("value", 7)]) rfl nd (mi_seq rfl (me_op op_addM rule_add (me_var 1) (me_var 2))) (blkOk_by (N := N__law_written_right) (sc := defScope s__law_written_right) (by decide +kernel)) (fun _ _ _ _ _ => (pg_name (i := 7) nd rfl (by first | exact Or.inl rfl | exact Or.inr rfl))) (fun _ hK => (gr_name 7)) (fun _ => fun _ _ _ _ _ => mts_nil) (fun _ => fun _ _ _ _ _ => (me_call F_are_prices hr passL (ml_cons me_int (ml_cons (me_var 3) (ml_cons (me_var 7) ml_nil)))))) (ml_cons (me_op op_addM rule_add (me_op op_mulM rule_mul (me_lstV (ml_cons me_bl ml_nil)) me_int) (me_op op_mulM rule_mul (me_lstV (ml_cons me_bl ml_nil)) me_int)) ml_nil))))) (mss_one (ms_ret me_bl)) mss_nil)
    (mss_cons (ms_set 5 nd (me_lstV (ml_cons (me_call F_cost_of hr hx (ml_cons me_int (ml_cons (me_var 3) (ml_cons (me_var 4) (ml_cons (me_tup (ml_cons me_int (ml_cons me_int (ml_cons me_int ml_nil)))) ml_nil))))) (ml_cons (me_call F_worth_of hr hx (ml_cons me_int (ml_cons (me_var 3) (ml_cons (me_var 4) (ml_cons (me_tup (ml_cons me_int (ml_cons me_int (ml_cons me_int (ml_cons me_int (ml_cons me_int ml_nil)))))) ml_nil))))) (ml_cons (me_call F_uncovered hr hx (ml_cons me_int (ml_cons (me_sl rfl (me_var 3) mo_none (mo_some me_int)) (ml_cons (me_var 4) ml_nil)))) ml_nil)))))
    (mss_cons (ms_if (mt_not (mt_val (me_call F__law_like hr hx (ml_cons (me_op op_addM rule_add (me_var 5) (me_lstV (ml_cons (me_call F_uncovered hr hx (ml_cons me_int (ml_cons (me_tup ml_nil) (ml_cons (me_var 4) ml_nil)))) (ml_cons (me_call F_uncovered hr hx (ml_cons me_int (ml_cons (me_tup ml_nil) (ml_cons (me_op op_mulM rule_mul (me_tup (ml_cons me_int ml_nil)) me_int) ml_nil)))) ml_nil)))) (ml_cons (me_lstV (ml_cons me_int (ml_cons me_int (ml_cons (me_tup (ml_cons me_int ml_nil)) (ml_cons (me_tup (ml_cons me_int (ml_cons me_int (ml_cons me_int (ml_cons me_int ml_nil))))) (ml_cons (me_tup ml_nil) ml_nil)))))) ml_nil))))) (mss_one (ms_ret me_bl)) mss_nil)
    (mss_one (ms_ret (me_and (me_cmp (op_eqM hu) rule_eq (me_call F_cost_of hr hx (ml_cons me_int (ml_cons (me_var 3) (ml_cons (me_var 4) (ml_cons (me_tup (ml_cons (me_op op_pow rule_pow me_int me_int) (ml_cons me_int (ml_cons me_int ml_nil)))) ml_nil))))) (me_op op_addM rule_add (me_op op_mulM rule_mul me_int (me_op op_pow rule_pow me_int me_int)) me_int)) (me_one (me_cmp op_isBl rule_isB (me_call F_are_prices hr hx (ml_cons me_int (ml_cons (me_tup ml_nil) (ml_cons (me_op op_mulM rule_mul (me_tup (ml_cons (me_op op_pow rule_pow me_int me_int) ml_nil)) me_int) ml_nil)))) me_bl)))))))))))))))))))))))
theorem ok_law (G : Top K mg) (TB : LamX.TabB base mg (He.cT K (LamD, none)).1 (He.cT K (LamD, none)).2) {fd : FuncData} (F : FunD K "law" "law" (defArgs s_law) (defBody s_law) (defScope s_law) [] [] (He.ga K "law") fd) : FM P w K mg base (TL K) 12 "law" (He.ga K "law") fd ["script"] m_law := by
  have bd : Binds K fd ["script"] [] := F.bindsN fun _ _ _ _ _ _ us hl => match us, hl with | [_], _ => rfl
  obtain ⟨_, F__law_written_right⟩ := ok__law_written_right (P := P) (w := w) (base := base) (T := (TL K)) G
  obtain ⟨_, F__law_cup⟩ := ok__law_cup (P := P) (w := w) (base := base) (T := (TL K)) G
  obtain ⟨_, F__law_right⟩ := ok__law_right (P := P) (w := w) (base := base) G TB
  obtain ⟨_, F__law_some⟩ := ok__law_some (P := P) (w := w) (base := base) (T := (TL K)) G
  refine fn_okD (k := 11) F sc_law G.g_law bd ?_
  intro no cdv A outer s H E hcd hr hx hp tk
  have nd := sc_law.nd
  have hu := units64 hr
  have hu1 := units1 hr
  have hu2 := units128 hr
  replace F__law_written_right := F__law_written_right.mono (k := 11) (by decide)
  replace F__law_cup := F__law_cup.mono (k := 11) (by decide)
  replace F__law_right := F__law_right.mono (k := 11) (by decide)
  replace F__law_some := F__law_some.mono (k := 11) (by decide)
  exact (mss_cons (ms_if (mt_not (mt_val (me_call0 F__law_written_right hr hx))) (mss_one (ms_ret me_bl)) mss_nil)
    (mss_cons (ms_set 1 nd (me_call F__law_cup hr hx (ml_cons (me_var 0) ml_nil)))
    (mss_cons (ms_for hp rfl (mi_range1 me_int G.n_range) (pg_name (i := 2) nd rfl (by first | exact Or.inl rfl | exact Or.inr rfl)) (gr_name 2) (mss_one (ms_if (mt_not (mt_val (me_call F__law_right hr hx (ml_cons (me_var 1) (ml_cons (me_call F__law_some hr hx (ml_cons (me_var 1) (ml_cons (me_lstV (ml_cons me_int (ml_cons me_int (ml_cons me_int (ml_cons me_int ml_nil))))) ml_nil))) ml_nil))))) (mss_one (ms_ret me_bl)) mss_nil)))
    (mss_one (ms_ret me_bl)))))
end

end K56

set_option Elab.async false
set_option linter.all false
set_option maxRecDepth 100000
set_option maxHeartbeats 0
namespace K56
open PySem PySem.Spec PyProof.Rows L2 Mini
/-! ### the head -/
def dd (x : Str) (st : Stmt) : He.DefD := ⟨(x, none), x, x, defArgs st, defBody st, defScope st, [], []⟩
def hfn : List He.DefD := [dd "is_number" s_is_number,
  dd "is_row" s_is_row,
  dd "fits_shift" s_fits_shift,
  dd "fits_shifts" s_fits_shifts,
  dd "fits_need" s_fits_need,
  dd "is_from_zero" s_is_from_zero,
  dd "coverage" s_coverage,
  dd "fits_cover" s_fits_cover,
  dd "fits_prices" s_fits_prices,
  dd "cost_in" s_cost_in,
  dd "worth_in" s_worth_in,
  dd "need_day" s_need_day,
  dd "need_shifts" s_need_shifts,
  dd "need_all" s_need_all,
  dd "are_shifts" s_are_shifts,
  dd "is_need" s_is_need,
  dd "is_cover" s_is_cover,
  dd "are_prices" s_are_prices,
  dd "cost_of" s_cost_of,
  dd "worth_of" s_worth_of,
  dd "uncovered" s_uncovered,
  dd "_law_cup" s__law_cup,
  dd "_law_roll" s__law_roll,
  dd "_law_some" s__law_some,
  dd "_law_sort" s__law_sort,
  dd "_law_like" s__law_like,
  dd "_law_is_number" s__law_is_number,
  dd "_law_shifts" s__law_shifts,
  dd "_law_need" s__law_need,
  dd "_law_works" s__law_works,
  dd "_law_is_cover" s__law_is_cover,
  dd "_law_are_prices" s__law_are_prices,
  dd "_law_cost" s__law_cost,
  dd "_law_worth" s__law_worth,
  dd "_law_bent" s__law_bent,
  dd "_law_are_shifts" s__law_are_shifts,
  dd "_law_is_need" s__law_is_need,
  dd "_law_right" s__law_right,
  dd "_law_written_right" s__law_written_right,
  dd "law" s_law,
  dd "_law_word" s__law_word]
def hfa : List He.Fa := [.glo "is_number",
  .glo "is_row",
  .glo "fits_shift",
  .glo "fits_shifts",
  .glo "fits_need",
  .glo "is_from_zero",
  .glo "coverage",
  .glo "fits_cover",
  .glo "fits_prices",
  .glo "cost_in",
  .glo "worth_in",
  .glo "need_day",
  .glo "need_shifts",
  .glo "need_all",
  .glo "are_shifts",
  .glo "is_need",
  .glo "is_cover",
  .glo "are_prices",
  .glo "cost_of",
  .glo "worth_of",
  .glo "uncovered",
  .glo "_law_cup",
  .glo "_law_roll",
  .glo "_law_some",
  .glo "_law_sort",
  .glo "_law_like",
  .glo "_law_is_number",
  .glo "_law_shifts",
  .glo "_law_need",
  .glo "_law_works",
  .glo "_law_is_cover",
  .glo "_law_are_prices",
  .glo "_law_cost",
  .glo "_law_worth",
  .glo "_law_bent",
  .glo "_law_are_shifts",
  .glo "_law_is_need",
  .glo "_law_right",
  .glo "_law_written_right",
  .glo "law",
  .glo "_law_word",
  .free "ValueError",
  .free "abs",
  .free "all",
  .free "bool",
  .free "int",
  .free "isinstance",
  .free "len",
  .free "list",
  .free "max",
  .free "min",
  .free "range",
  .free "sorted",
  .free "str",
  .free "sum",
  .free "tuple",
  .free "zip",
  .int "COST" 99,
  .int "LONGEST_DAY" 60,
  .int "NEED" 50,
  .int "SHIFTS" 12,
  .exc "InvalidBounds",
  .glo "InvalidBounds",
  .exc "InvalidMinute",
  .glo "InvalidMinute",
  .exc "InvalidPaper",
  .glo "InvalidPaper",
  .exc "InvalidSpans",
  .glo "InvalidSpans",
  .glo "KeptError",
  .exm "InvalidMinute" "KeptError" true,
  .exm "InvalidSpans" "KeptError" true,
  .exm "InvalidBounds" "KeptError" true,
  .exm "InvalidPaper" "KeptError" true]
/-- what isinstance asks of an error's class -/
def exW (K : PySem.W.Frag) (x ip : Str) (b : Bool) : Bool :=
  decide (PySem.W.findIn K (.ref (He.ga K x)) "__getattribute__" = some (some (.builtin "BaseException.__getattribute__"))) && (decide (PySem.W.findIn K (.ref (He.ga K x)) "__getattr__" = some none) && (decide (PySem.W.subIn K (.ref (He.ga K x)) (.type "BaseException") = some true) &&
  (PySem.W.hasDictIn K (He.ga K x) && (decide (PySem.W.findIn K (.ref (He.ga K x)) "__class__" = some (some (.builtin "object.__class__"))) && (decide (PySem.W.specialIn K (.builtin "object.__class__") "__get__" = some (some (.builtin "getset_descriptor.__get__"))) &&
  (decide (PySem.W.takesIn K (.builtin "object.__class__") = some true) && (decide (PySem.W.mroIn K (He.ga K x) (.type "object") = some true) && (decide (PySem.W.kitOne K (.ref (He.ga K x)) (.ref (He.ga K ip)) = some b) && decide (PySem.W.kitOne K (.ref (He.ga K x)) (.type "ValueError") = some true)))))))))
theorem exW_ok {K : PySem.W.Frag} {x ip : Str} {b : Bool} (h1 : (He.Fa.exm x "KeptError" true).ok K = true) (h : exW K x ip b = true) : ErrW K (He.ga K x) (He.ga K "KeptError") (He.ga K ip) b := by
  unfold exW at h
  simp only [Bool.and_eq_true, decide_eq_true_eq] at h
  obtain ⟨a1, a2, a3, a4, a5, a6, a7, a8, a9, a10⟩ := h
  exact ⟨He.exm_ok h1, ⟨a1, a2, a3, a4, a5, a6, a7, a8⟩, a9, a10⟩
def exK (K : PySem.W.Frag) : Bool := (((exW K "InvalidMinute" "InvalidPaper" false && exW K "InvalidSpans" "InvalidPaper" false) && exW K "InvalidBounds" "InvalidPaper" false) && exW K "InvalidPaper" "InvalidPaper" true)
def htf : List He.Defn := [("_law_right", none)]
theorem top_of {w : World} {h : Heap} {K : PySem.W.Frag} {mg : Str → Option Value} (X : K.In h) (G : h.Ns mainGlobals mg) (c : He.SaysX hfa hfn [] htf exK w h K) : Top K mg := ⟨
  c.t.d.def_ 0 (d := dd "is_number" s_is_number) rfl,
  He.glo_ok X G (c.t.d.fact 0 rfl),
  c.t.d.def_ 1 (d := dd "is_row" s_is_row) rfl,
  He.glo_ok X G (c.t.d.fact 1 rfl),
  c.t.d.def_ 2 (d := dd "fits_shift" s_fits_shift) rfl,
  He.glo_ok X G (c.t.d.fact 2 rfl),
  c.t.d.def_ 3 (d := dd "fits_shifts" s_fits_shifts) rfl,
  He.glo_ok X G (c.t.d.fact 3 rfl),
  c.t.d.def_ 4 (d := dd "fits_need" s_fits_need) rfl,
  He.glo_ok X G (c.t.d.fact 4 rfl),
  c.t.d.def_ 5 (d := dd "is_from_zero" s_is_from_zero) rfl,
  He.glo_ok X G (c.t.d.fact 5 rfl),
  c.t.d.def_ 6 (d := dd "coverage" s_coverage) rfl,
  He.glo_ok X G (c.t.d.fact 6 rfl),
  c.t.d.def_ 7 (d := dd "fits_cover" s_fits_cover) rfl,
  He.glo_ok X G (c.t.d.fact 7 rfl),
  c.t.d.def_ 8 (d := dd "fits_prices" s_fits_prices) rfl,
  He.glo_ok X G (c.t.d.fact 8 rfl),
  c.t.d.def_ 9 (d := dd "cost_in" s_cost_in) rfl,
  He.glo_ok X G (c.t.d.fact 9 rfl),
  c.t.d.def_ 10 (d := dd "worth_in" s_worth_in) rfl,
  He.glo_ok X G (c.t.d.fact 10 rfl),
  c.t.d.def_ 11 (d := dd "need_day" s_need_day) rfl,
  He.glo_ok X G (c.t.d.fact 11 rfl),
  c.t.d.def_ 12 (d := dd "need_shifts" s_need_shifts) rfl,
  He.glo_ok X G (c.t.d.fact 12 rfl),
  c.t.d.def_ 13 (d := dd "need_all" s_need_all) rfl,
  He.glo_ok X G (c.t.d.fact 13 rfl),
  c.t.d.def_ 14 (d := dd "are_shifts" s_are_shifts) rfl,
  He.glo_ok X G (c.t.d.fact 14 rfl),
  c.t.d.def_ 15 (d := dd "is_need" s_is_need) rfl,
  He.glo_ok X G (c.t.d.fact 15 rfl),
  c.t.d.def_ 16 (d := dd "is_cover" s_is_cover) rfl,
  He.glo_ok X G (c.t.d.fact 16 rfl),
  c.t.d.def_ 17 (d := dd "are_prices" s_are_prices) rfl,
  He.glo_ok X G (c.t.d.fact 17 rfl),
  c.t.d.def_ 18 (d := dd "cost_of" s_cost_of) rfl,
  He.glo_ok X G (c.t.d.fact 18 rfl),
  c.t.d.def_ 19 (d := dd "worth_of" s_worth_of) rfl,
  He.glo_ok X G (c.t.d.fact 19 rfl),
  c.t.d.def_ 20 (d := dd "uncovered" s_uncovered) rfl,
  He.glo_ok X G (c.t.d.fact 20 rfl),
  c.t.d.def_ 21 (d := dd "_law_cup" s__law_cup) rfl,
  He.glo_ok X G (c.t.d.fact 21 rfl),
  c.t.d.def_ 22 (d := dd "_law_roll" s__law_roll) rfl,
  He.glo_ok X G (c.t.d.fact 22 rfl),
  c.t.d.def_ 23 (d := dd "_law_some" s__law_some) rfl,
  He.glo_ok X G (c.t.d.fact 23 rfl),
  c.t.d.def_ 24 (d := dd "_law_sort" s__law_sort) rfl,
  He.glo_ok X G (c.t.d.fact 24 rfl),
  c.t.d.def_ 25 (d := dd "_law_like" s__law_like) rfl,
  He.glo_ok X G (c.t.d.fact 25 rfl),
  c.t.d.def_ 26 (d := dd "_law_is_number" s__law_is_number) rfl,
  He.glo_ok X G (c.t.d.fact 26 rfl),
  c.t.d.def_ 27 (d := dd "_law_shifts" s__law_shifts) rfl,
  He.glo_ok X G (c.t.d.fact 27 rfl),
  c.t.d.def_ 28 (d := dd "_law_need" s__law_need) rfl,
  He.glo_ok X G (c.t.d.fact 28 rfl),
  c.t.d.def_ 29 (d := dd "_law_works" s__law_works) rfl,
  He.glo_ok X G (c.t.d.fact 29 rfl),
  c.t.d.def_ 30 (d := dd "_law_is_cover" s__law_is_cover) rfl,
  He.glo_ok X G (c.t.d.fact 30 rfl),
  c.t.d.def_ 31 (d := dd "_law_are_prices" s__law_are_prices) rfl,
  He.glo_ok X G (c.t.d.fact 31 rfl),
  c.t.d.def_ 32 (d := dd "_law_cost" s__law_cost) rfl,
  He.glo_ok X G (c.t.d.fact 32 rfl),
  c.t.d.def_ 33 (d := dd "_law_worth" s__law_worth) rfl,
  He.glo_ok X G (c.t.d.fact 33 rfl),
  c.t.d.def_ 34 (d := dd "_law_bent" s__law_bent) rfl,
  He.glo_ok X G (c.t.d.fact 34 rfl),
  c.t.d.def_ 35 (d := dd "_law_are_shifts" s__law_are_shifts) rfl,
  He.glo_ok X G (c.t.d.fact 35 rfl),
  c.t.d.def_ 36 (d := dd "_law_is_need" s__law_is_need) rfl,
  He.glo_ok X G (c.t.d.fact 36 rfl),
  c.t.d.def_ 37 (d := dd "_law_right" s__law_right) rfl,
  He.glo_ok X G (c.t.d.fact 37 rfl),
  c.t.d.def_ 38 (d := dd "_law_written_right" s__law_written_right) rfl,
  He.glo_ok X G (c.t.d.fact 38 rfl),
  c.t.d.def_ 39 (d := dd "law" s_law) rfl,
  He.glo_ok X G (c.t.d.fact 39 rfl),
  c.t.d.def_ 40 (d := dd "_law_word" s__law_word) rfl,
  He.glo_ok X G (c.t.d.fact 40 rfl),
  He.free_ok X G (c.t.d.fact 41 rfl),
  He.free_ok X G (c.t.d.fact 42 rfl),
  He.free_ok X G (c.t.d.fact 43 rfl),
  He.free_ok X G (c.t.d.fact 44 rfl),
  He.free_ok X G (c.t.d.fact 45 rfl),
  He.free_ok X G (c.t.d.fact 46 rfl),
  He.free_ok X G (c.t.d.fact 47 rfl),
  He.free_ok X G (c.t.d.fact 48 rfl),
  He.free_ok X G (c.t.d.fact 49 rfl),
  He.free_ok X G (c.t.d.fact 50 rfl),
  He.free_ok X G (c.t.d.fact 51 rfl),
  He.free_ok X G (c.t.d.fact 52 rfl),
  He.free_ok X G (c.t.d.fact 53 rfl),
  He.free_ok X G (c.t.d.fact 54 rfl),
  He.free_ok X G (c.t.d.fact 55 rfl),
  He.free_ok X G (c.t.d.fact 56 rfl),
  He.int_ok X G (c.t.d.fact 57 rfl),
  He.int_ok X G (c.t.d.fact 58 rfl),
  He.int_ok X G (c.t.d.fact 59 rfl),
  He.int_ok X G (c.t.d.fact 60 rfl),
  (let z := He.exc_ok (c.t.d.fact 61 rfl); ⟨He.glo_ok X G (c.t.d.fact 62 rfl), z.1, z.2.1, z.2.2.1, z.2.2.2⟩),
  (let z := He.exc_ok (c.t.d.fact 63 rfl); ⟨He.glo_ok X G (c.t.d.fact 64 rfl), z.1, z.2.1, z.2.2.1, z.2.2.2⟩),
  (let z := He.exc_ok (c.t.d.fact 65 rfl); ⟨He.glo_ok X G (c.t.d.fact 66 rfl), z.1, z.2.1, z.2.2.1, z.2.2.2⟩),
  (let z := He.exc_ok (c.t.d.fact 67 rfl); ⟨He.glo_ok X G (c.t.d.fact 68 rfl), z.1, z.2.1, z.2.2.1, z.2.2.2⟩),
  He.glo_ok X G (c.t.d.fact 69 rfl),
  exW_ok (x := "InvalidMinute") (ip := "InvalidPaper") (b := false) (c.t.d.fact 70 rfl) (by have z := c.more; unfold exK at z; simp only [Bool.and_eq_true] at z; exact z.1.1.1),
  exW_ok (x := "InvalidSpans") (ip := "InvalidPaper") (b := false) (c.t.d.fact 71 rfl) (by have z := c.more; unfold exK at z; simp only [Bool.and_eq_true] at z; exact z.1.1.2),
  exW_ok (x := "InvalidBounds") (ip := "InvalidPaper") (b := false) (c.t.d.fact 72 rfl) (by have z := c.more; unfold exK at z; simp only [Bool.and_eq_true] at z; exact z.1.2),
  exW_ok (x := "InvalidPaper") (ip := "InvalidPaper") (b := true) (c.t.d.fact 73 rfl) (by have z := c.more; unfold exK at z; simp only [Bool.and_eq_true] at z; exact z.2)⟩
abbrev RowR : PySem.W.OpenRow := PySem.W.OpenLaw.row PySem.Challenge.rw_callskept_k56_shifts_needs_and_prices
abbrev hk : PySem.W.Hook := He.hookX 4 hfa hfn [] htf exK
def hob (s : PySem.W.SharedT) : He.AlX := He.obsX 4 hfa hfn [] htf exK (HandSHeadRun.getT s)
theorem hob_eq (s : PySem.W.SharedT) : hob s = hk.obs s.abs := He.obsX_eq (HandSHeadRun.getT_eq s)
def hnames : List PySem.Str := (["KeptError", "InvalidMinute", "InvalidSpans", "InvalidBounds", "InvalidPaper", "LONGEST_DAY", "SHIFTS", "COST", "NEED", "is_number", "is_row", "fits_shift", "fits_shifts", "fits_need", "is_from_zero", "coverage", "fits_cover", "fits_prices", "cost_in", "worth_in", "need_day", "need_shifts", "need_all", "are_shifts", "is_need", "is_cover", "are_prices", "cost_of", "worth_of", "uncovered"] : List PySem.Str) ++ (["_law_cup", "_law_roll", "_law_some", "_law_sort", "_law_like", "_law_is_number", "_law_shifts", "_law_need", "_law_works", "_law_is_cover", "_law_are_prices", "_law_cost", "_law_worth", "_law_bent", "_law_are_shifts", "_law_is_need", "_law_right", "_law_written_right", "_law_word"] : List PySem.Str)
theorem hrun (w : World) : HandSHeadRun.RunEq RowR (PySem.W.view RowR.prog [53]) hk hob 6000 hnames w := by
  intro os
  kernel_rfl
end K56

set_option Elab.async false
set_option linter.all false
set_option maxRecDepth 100000
set_option maxHeartbeats 4000000
/-! Mini: what a mirror gives, by wishes. -/
namespace Mini
def W {α : Type} (r : R α) (Q : α → Mem → Prop) : Prop := ∃ a M, r = .ok a M ∧ Q a M
section
variable {α γ : Type}
theorem W_ok {a : α} {M : Mem} {Q : α → Mem → Prop} : W (.ok a M) Q = Q a M := propext ⟨fun ⟨b, N, e, q⟩ => by cases e; exact q, fun q => ⟨a, M, rfl, q⟩⟩
theorem W_exc {x : Exc} {M : Mem} {Q : α → Mem → Prop} : W (.exc x M) Q = False := propext ⟨fun ⟨_, _, e, _⟩ => (by cases e), False.elim⟩
theorem W_stuck {Q : α → Mem → Prop} : W (.stuck) Q = False := propext ⟨fun ⟨_, _, e, _⟩ => (by cases e), False.elim⟩
theorem W_bind {r : R α} {f : α → Mem → R γ} {Q : γ → Mem → Prop} : W (r.bind f) Q = W r fun a M => W (f a M) Q := by
  cases r with
  | ok a M => exact (W_ok (Q := fun a M => W (f a M) Q)).symm
  | exc x M => rw [W_exc]; exact W_exc
  | stuck => rw [W_stuck]; exact W_stuck
theorem W.mono {r : R α} {Q Q' : α → Mem → Prop} (h : W r Q) (k : ∀ a M, Q a M → Q' a M) : W r Q' := by
  obtain ⟨a, M, e, q⟩ := h
  exact ⟨a, M, e, k _ _ q⟩
theorem W.get {r : R α} {Q : α → Mem → Prop} (h : W r Q) : ∃ a M, r = .ok a M ∧ Q a M := h
theorem W_calm {r : R α} {Q : α → Mem → Prop} : W (calmR r) Q = W r Q := by
  cases r with
  | ok a M => rfl
  | exc x M => rw [W_exc]; exact W_stuck
  | stuck => rfl
theorem W_ite {c : Prop} [Decidable c] {a b : R α} {Q : α → Mem → Prop} : W (if c then a else b) Q = if c then W a Q else W b Q := by split <;> rfl
end
/-- what a suite's end wishes -/
def QF (Qn : MEnv → Mem → Prop) (Qr : D → Mem → Prop) : Fl → Mem → Prop := fun f M => match f with
  | .nx ρ => Qn ρ M
  | .rt d => Qr d M
section
variable {Qn : MEnv → Mem → Prop} {Qr : D → Mem → Prop} {Q : Fl → Mem → Prop} {ρ : MEnv} {M : Mem} {a b : MS'} {e : ME'} {c : MEnv → Mem → R Bool}
theorem QF_nx : QF Qn Qr (.nx ρ) M = Qn ρ M := rfl
theorem QF_rt {d : D} : QF Qn Qr (.rt d) M = Qr d M := rfl
theorem W_seq (h : W (a ρ M) (QF (fun ρ1 M1 => W (b ρ1 M1) (QF Qn Qr)) Qr)) : W (seqS a b ρ M) (QF Qn Qr) := by
  unfold seqS thenS
  rw [W_bind]
  refine h.mono fun f M1 q => ?_
  cases f with
  | nx ρ1 => exact q
  | rt d => show W (R.ok (Fl.rt d) M1) _; rw [W_ok]; exact q
theorem W_ret (h : W (e ρ M) Qr) : W (retS e ρ M) (QF Qn Qr) := by
  unfold retS
  rw [W_bind]
  exact h.mono fun d M1 q => by rw [W_ok]; exact q
theorem W_asg {i : Nat} (h : W (e ρ M) fun d M1 => Qn (ρ.set i (some d)) M1) : W (asgV i e ρ M) (QF Qn Qr) := by
  unfold asgV
  rw [W_bind]
  exact h.mono fun d M1 q => by rw [W_ok]; exact q
theorem W_if (h : W (c ρ M) fun k M1 => if k = true then W (a ρ M1) (QF Qn Qr) else W (b ρ M1) (QF Qn Qr)) : W (ifS c a b ρ M) (QF Qn Qr) := by
  unfold ifS
  rw [W_bind]
  refine h.mono fun k M1 q => ?_
  cases k <;> exact q
theorem W_skip (h : Qn ρ M) : W (skipS ρ M) (QF Qn Qr) := by show W (R.ok (Fl.nx ρ) M) _; rw [W_ok]; exact h
theorem W_expr (h : W (e ρ M) fun _ M1 => Qn ρ M1) : W (exprS e ρ M) (QF Qn Qr) := by
  unfold exprS
  rw [W_bind]
  exact h.mono fun d M1 q => by rw [W_ok]; exact q
theorem W_fn {N n : Nat} {ds : List D} {Q : D → Mem → Prop} (hl : ds.length = n) (h : W (b (startD N ds) M) (QF (fun _ M1 => Q .non M1) Q)) : W (fnM N n b ds M) Q := by
  unfold fnM
  rw [if_pos hl, W_bind]
  refine h.mono fun f M1 q => ?_
  cases f with
  | nx ρ => show W (R.ok D.non M1) _; rw [W_ok]; exact q
  | rt d => show W (R.ok d M1) _; rw [W_ok]; exact q
/-- a loop over what is told by place -/
theorem W_forN {S : Src} {p : Pat} {L : Nat} {f : Nat → D} {Inv : Nat → MEnv → Mem → Prop} (hget : ∀ i ρ M, i ≤ L → Inv i ρ M → S.get i M = some (if i < L then some (f i) else none))
    (step : ∀ i ρ M, i < L → Inv i ρ M → ∃ ρ1, p (f i) ρ = some ρ1 ∧ W (b ρ1 M) (QF (Inv (i + 1)) Qr)) (done : ∀ ρ M, Inv L ρ M → Qn ρ M) : ∀ m i ρ M, m + i = L → Inv i ρ M → W (forN S p b m i ρ M) (QF Qn Qr)
  | 0, i, ρ, M, hi, h => by
    have hi : i = L := by omega
    subst hi
    have e := hget i ρ M (Nat.le_refl _) h
    rw [if_neg (Nat.lt_irrefl _)] at e
    simp only [forN, e, W_ok]
    exact done _ _ h
  | m + 1, i, ρ, M, hi, h => by
    have hl : i < L := by omega
    have e := hget i ρ M (by omega) h
    rw [if_pos hl] at e
    obtain ⟨ρ1, hp, hb⟩ := step i ρ M hl h
    simp only [forN, e, hp]
    unfold thenS
    rw [W_bind]
    refine hb.mono fun fl M1 q => ?_
    cases fl with
    | nx ρ2 => exact W_forN hget step done m (i + 1) ρ2 M1 (by omega) q
    | rt d => show W (R.ok (Fl.rt d) M1) _; rw [W_ok]; exact q
theorem W_for {src : MEnv → Mem → R Src} {p : Pat} (h : W (src ρ M) fun S M1 => ∃ (L : Nat) (f : Nat → D) (Inv : Nat → MEnv → Mem → Prop), S.len M1 = L ∧ Inv 0 ρ M1 ∧ (∀ i ρ M, i ≤ L → Inv i ρ M → S.get i M = some (if i < L then some (f i) else none)) ∧
    (∀ i ρ M, i < L → Inv i ρ M → ∃ ρ1, p (f i) ρ = some ρ1 ∧ W (b ρ1 M) (QF (Inv (i + 1)) Qr)) ∧ (∀ ρ M, Inv L ρ M → Qn ρ M)) : W (forS src p b ρ M) (QF Qn Qr) := by
  unfold forS
  rw [W_bind]
  refine h.mono fun S M1 ⟨L, f, Inv, h1, h2, h3, h4, h5⟩ => ?_
  rw [h1]
  exact W_forN h3 h4 h5 L 0 ρ M1 (by omega) h2
/-- a comprehension over what is told by place -/
theorem W_lcN {S : Src} {p : Pat} {c : MEnv → Mem → R Bool} {e : ME'} {L : Nat} {f : Nat → D} {Inv : Nat → List D → Mem → Prop} {Q : List D → Mem → Prop} (hz : L ≤ PySem.sizeLine) (hget : ∀ i acc M, i ≤ L → Inv i acc M → S.get i M = some (if i < L then some (f i) else none))
    (step : ∀ i acc M, i < L → Inv i acc M → ∃ ρ1, p (f i) ρ = some ρ1 ∧ W (c ρ1 M) fun k M1 => if k = true then W (e ρ1 M1) (fun y M2 => Inv (i + 1) (acc ++ [y]) M2) else Inv (i + 1) acc M1)
    (done : ∀ acc M, Inv L acc M → Q acc M) : ∀ m i k acc M, m + i = L → k ≤ i → Inv i acc M → W (lcN S p c e m i k ρ M) fun ys M' => Q (acc ++ ys) M'
  | 0, i, k, acc, M, hi, hk, h => by
    have hi : i = L := by omega
    subst hi
    have e := hget i acc M (Nat.le_refl _) h
    rw [if_neg (Nat.lt_irrefl _)] at e
    simp only [lcN, e, W_ok, List.append_nil]
    exact done _ _ h
  | m + 1, i, k, acc, M, hi, hk, h => by
    have hl : i < L := by omega
    have e1 := hget i acc M (by omega) h
    rw [if_pos hl] at e1
    obtain ⟨ρ1, hp, hc⟩ := step i acc M hl h
    simp only [lcN, e1, hp, W_bind, W_calm]
    refine hc.mono fun b M1 q => ?_
    cases b with
    | false => exact W_lcN hz hget step done m (i + 1) k acc M1 (by omega) (by omega) q
    | true =>
      rw [if_pos rfl, W_bind, W_calm]
      refine W.mono (show W (e ρ1 M1) (fun y M2 => Inv (i + 1) (acc ++ [y]) M2) from q) fun y M2 q2 => ?_
      rw [if_pos (by omega : k < PySem.sizeLine), W_bind]
      refine (W_lcN hz hget step done m (i + 1) (k + 1) (acc ++ [y]) M2 (by omega) (by omega) q2).mono fun ys M3 q3 => ?_
      rw [W_ok]
      rw [List.append_assoc] at q3
      exact q3
theorem W_lcV {vs : List Nat} {src : MEnv → Mem → R Src} {p : Pat} {c : MEnv → Mem → R Bool} {e : ME'} {Q : D → Mem → Prop} (h : W (src ρ M) fun S M1 => ∃ (L : Nat) (f : Nat → D) (Inv : Nat → List D → Mem → Prop), L ≤ PySem.sizeLine ∧ S.len M1 = L ∧ Inv 0 [] M1 ∧
    (∀ i acc M, i ≤ L → Inv i acc M → S.get i M = some (if i < L then some (f i) else none)) ∧
    (∀ i acc M, i < L → Inv i acc M → ∃ ρ1, p (f i) (wipeD ρ vs) = some ρ1 ∧ W (c ρ1 M) fun k M1 => if k = true then W (e ρ1 M1) (fun y M2 => Inv (i + 1) (acc ++ [y]) M2) else Inv (i + 1) acc M1) ∧
    (∀ acc M, Inv L acc M → Q (.frl acc) M)) : W (lcV vs src p c e ρ M) Q := by
  unfold lcV lcL
  rw [W_bind, W_bind]
  refine h.mono fun S M1 ⟨L, f, Inv, hz, h1, h2, h3, h4, h5⟩ => ?_
  rw [h1]
  refine (W_lcN (Q := fun ys M => Q (.frl ys) M) hz h3 h4 h5 L 0 0 [] M1 (by omega) (Nat.le_refl _) h2).mono fun ys M2 q => ?_
  rw [W_ok]
  exact q
end
/-! ### sources that nobody changes -/
theorem get_fix {ds : List D} {i : Nat} {M : Mem} (h : i ≤ ds.length) : (Src.one (.fix ds)).get i M = some (if i < ds.length then some (ds.getD i .non) else none) := by
  simp only [Src.get, Sq.get, if_pos h]
  by_cases hi : i < ds.length
  · rw [if_pos hi, List.getElem?_eq_getElem hi, List.getD_eq_getElem?_getD, List.getElem?_eq_getElem hi]; rfl
  · rw [if_neg hi, List.getElem?_eq_none (by omega)]
/-- a comprehension that changes nothing -/
theorem lc_pure {vs : List Nat} {src : MEnv → Mem → R Src} {p : Pat} {c : MEnv → Mem → R Bool} {e : ME'} {ρ : MEnv} {M : Mem} {S : Src} (ds : List D) (cb : D → Bool) (g : D → D) (hs : src ρ M = .ok S M) (hz : ds.length ≤ PySem.sizeLine) (hl : S.len M = ds.length)
    (hg : ∀ i, i ≤ ds.length → S.get i M = some (if i < ds.length then some (ds.getD i .non) else none))
    (h : ∀ d, d ∈ ds → ∃ ρ1, p d (wipeD ρ vs) = some ρ1 ∧ c ρ1 M = .ok (cb d) M ∧ (cb d = true → e ρ1 M = .ok (g d) M)) : lcV vs src p c e ρ M = .ok (.frl ((ds.filter cb).map g)) M := by
  have key : W (lcV vs src p c e ρ M) fun d M' => d = .frl ((ds.filter cb).map g) ∧ M' = M := by
    refine W_lcV ?_
    rw [hs, W_ok]
    refine ⟨ds.length, fun i => ds.getD i .non, fun i acc M' => acc = ((ds.take i).filter cb).map g ∧ M' = M, hz, hl, ⟨rfl, rfl⟩, fun i acc M' hi ⟨_, hm⟩ => ?_, fun i acc M' hi ⟨ha, hm⟩ => ?_, fun acc M' ⟨ha, hm⟩ => ?_⟩
    · subst hm; exact hg i hi
    · subst hm
      have hd : ds.getD i .non = ds[i] := by rw [List.getD_eq_getElem?_getD, List.getElem?_eq_getElem hi]; rfl
      obtain ⟨ρ1, h1, h2, h3⟩ := h _ (List.getElem_mem hi)
      have ht : ds.take (i + 1) = ds.take i ++ [ds[i]] := by rw [List.take_add_one, List.getElem?_eq_getElem hi]; rfl
      refine ⟨ρ1, by show p (ds.getD i .non) _ = _; rw [hd]; exact h1, ?_⟩
      rw [h2, W_ok]
      by_cases hc : cb ds[i] = true
      · rw [if_pos hc, h3 hc, W_ok]
        refine ⟨?_, rfl⟩
        rw [ht, List.filter_append, List.map_append, ha]
        simp [hc]
      · rw [if_neg hc]
        refine ⟨?_, rfl⟩
        rw [ht, List.filter_append, List.map_append, ha]
        simp [hc]
    · rw [List.take_length] at ha
      exact ⟨by rw [ha], hm⟩
  obtain ⟨d, M', e1, e2, e3⟩ := key.get
  rw [e1, e2, e3]
/-! ### ints -/
section
variable {i j : Int} {M : Mem}
open PySem PySem.Spec PyProof.Rows
theorem ltv_int : ltv (.int i) (.int j) = decide (i < j) := by
  unfold ltv
  simp only [toPy]
  have := PySem.W.dataLe_int (β := Int) id
  have h := congrFun (congrFun this j) i
  simp only [PySem.W.dataLe_eq, cond_false, id] at h
  have h2 : PySem.W.dataLt (.int i) (.int j) = !decide (j ≤ i) := by rw [← h, Bool.not_not]
  rw [h2]
  by_cases hij : i < j
  · rw [decide_eq_true hij, decide_eq_false (by omega)]; rfl
  · rw [decide_eq_false hij, decide_eq_true (by omega)]; rfl
theorem cmpOk_int : cmpOk (.int i) (.int j) = true := by simp [cmpOk, okD, toPy, PySem.W.alike, isNon, depD]
theorem lt_int : ltM (.int i) (.int j) M = .ok (.bl (decide (i < j))) M := by
  show (if cmpOk (.int i) (.int j) = true then _ else _) = _
  rw [if_pos cmpOk_int]
  show R.ok (D.bl (ltv (.int i) (.int j))) M = _
  rw [ltv_int]
theorem gt_int : gtM (.int i) (.int j) M = .ok (.bl (decide (j < i))) M := by
  show (if cmpOk (.int i) (.int j) = true then _ else _) = _
  rw [if_pos cmpOk_int]
  show R.ok (D.bl (ltv (.int j) (.int i))) M = _
  rw [ltv_int]
theorem le_int : leM (.int i) (.int j) M = .ok (.bl (decide (i ≤ j))) M := by
  show (if cmpOk (.int i) (.int j) = true then _ else _) = _
  rw [if_pos cmpOk_int]
  show R.ok (D.bl (!ltv (.int j) (.int i))) M = _
  rw [ltv_int]
  by_cases h : j < i
  · rw [decide_eq_true h, decide_eq_false (by omega)]; rfl
  · rw [decide_eq_false h, decide_eq_true (by omega)]; rfl
theorem ge_int : geM (.int i) (.int j) M = .ok (.bl (decide (j ≤ i))) M := by
  show (if cmpOk (.int i) (.int j) = true then _ else _) = _
  rw [if_pos cmpOk_int]
  show R.ok (D.bl (!ltv (.int i) (.int j))) M = _
  rw [ltv_int]
  by_cases h : i < j
  · rw [decide_eq_true h, decide_eq_false (by omega)]; rfl
  · rw [decide_eq_false h, decide_eq_true (by omega)]; rfl
theorem eq_int : eqD (.int i) (.int j) M = .ok (.bl (decide (i = j))) M := by
  simp [eqD, drf, okD, depD, eqvD, Bool.beq_eq_decide_eq]
theorem ne_int : neD (.int i) (.int j) M = .ok (.bl (!decide (i = j))) M := by
  simp [neD, drf, okD, depD, eqvD, Bool.beq_eq_decide_eq]
end
end Mini

set_option Elab.async false
set_option linter.all false
set_option maxRecDepth 100000
set_option maxHeartbeats 4000000
/-! Mini: the combinators unfolded where they stand applied. -/
namespace Mini
/-- an equation that is no unfolding to simp: else the kernel looks into the defs that are called -/
theorem nr {α : Sort _} {a b : α} (h : a = b) : a = b := h
section
variable {ρ : MEnv} {M : Mem} {a b c e o : ME'} {s t : MS'} {ta tb : MEnv → Mem → R Bool} {l : MEnv → Mem → R (List D)} {i j k n N : Nat} {d x y : D} {ds xs ys : List D} {m : Fn} {α γ : Type}
@[simp] theorem z_bind_ok {v : α} {f : α → Mem → R γ} : (R.ok v M).bind f = f v M := nr rfl
@[simp] theorem z_bind_exc {v : Exc} {f : α → Mem → R γ} : (R.exc v M : R α).bind f = .exc v M := nr rfl
@[simp] theorem z_bind_stuck {f : α → Mem → R γ} : (R.stuck : R α).bind f = .stuck := nr rfl
@[simp] theorem z_fnM {b : MS'} : fnM N n b ds M = if ds.length = n then (b (startD N ds) M).bind fun f M1 => match f with
  | .nx _ => .ok .non M1
  | .rt d => .ok d M1 else .stuck := nr rfl
@[simp] theorem z_startD : startD N ds = ds.map some ++ List.replicate (N - ds.length) none := nr rfl
@[simp] theorem z_then_nx : thenS (.ok (.nx ρ) M) t = t ρ M := nr rfl
@[simp] theorem z_then_rt : thenS (.ok (.rt d) M) t = .ok (.rt d) M := nr rfl
@[simp] theorem z_then_exc {v : Exc} : thenS (.exc v M) t = .exc v M := nr rfl
@[simp] theorem z_seq : seqS s t ρ M = thenS (s ρ M) t := nr rfl
@[simp] theorem z_expr : exprS e ρ M = (e ρ M).bind fun _ M1 => .ok (.nx ρ) M1 := nr rfl
@[simp] theorem z_ret : retS e ρ M = (e ρ M).bind fun d M1 => .ok (.rt d) M1 := nr rfl
@[simp] theorem z_retN : retN ρ M = .ok (.rt .non) M := nr rfl
@[simp] theorem z_if : ifS ta s t ρ M = (ta ρ M).bind fun k M1 => if k = true then s ρ M1 else t ρ M1 := nr rfl
@[simp] theorem z_skip : skipS ρ M = .ok (.nx ρ) M := nr rfl
@[simp] theorem z_asg : asgV i e ρ M = (e ρ M).bind fun d M1 => .ok (.nx (ρ.set i (some d))) M1 := nr rfl
@[simp] theorem z_par : parS i j l ρ M = (l ρ M).bind fun ds M1 => match ds with
  | [x, y] => .ok (.nx ((ρ.set i (some x)).set j (some y))) M1
  | _ => .stuck := nr rfl
@[simp] theorem z_raise {v : PySem.Str} : raiseS v ρ M = .exc ⟨v, []⟩ M := nr rfl
@[simp] theorem z_var : varE i ρ M = match ρ[i]? with
  | some (some d) => .ok d M
  | _ => .stuck := nr rfl
@[simp] theorem z_c : cE d ρ M = .ok d M := nr rfl
@[simp] theorem z_asB {k : Bool} : asB (.bl k) M = .ok k M := nr rfl
@[simp] theorem z_tst : tst e ρ M = (e ρ M).bind asB := nr rfl
@[simp] theorem z_op1 {g : D → Mem → R D} : op1 g a ρ M = (a ρ M).bind g := nr rfl
@[simp] theorem z_op2 {g : D → D → Mem → R D} : op2 g a b ρ M = (a ρ M).bind fun x M1 => (b ρ M1).bind fun y M2 => g x y M2 := nr rfl
@[simp] theorem z_chn {g h : D → D → Mem → R D} : chn g h a b c ρ M = (a ρ M).bind fun x M1 => (b ρ M1).bind fun y M2 => (g x y M2).bind fun z M3 => (asB z M3).bind fun k M4 =>
  if k = true then (c ρ M4).bind fun w M5 => h y w M5 else .ok (.bl false) M4 := nr rfl
@[simp] theorem z_and : andE a b ρ M = (a ρ M).bind fun x M1 => (asB x M1).bind fun k M2 => if k = true then b ρ M2 else .ok (.bl false) M2 := nr rfl
@[simp] theorem z_or : orE a b ρ M = (a ρ M).bind fun x M1 => (asB x M1).bind fun k M2 => if k = true then .ok (.bl true) M2 else b ρ M2 := nr rfl
@[simp] theorem z_not : notE a ρ M = (a ρ M).bind fun x M1 => (asB x M1).bind fun k M2 => .ok (.bl (!k)) M2 := nr rfl
@[simp] theorem z_nil : nilL ρ M = .ok [] M := nr rfl
@[simp] theorem z_cons : consL a l ρ M = (a ρ M).bind fun x M1 => (l ρ M1).bind fun xs M2 => .ok (x :: xs) M2 := nr rfl
@[simp] theorem z_tup : tupE l ρ M = (l ρ M).bind fun xs M1 => if xs.length ≤ PySem.sizeLine then .ok (.tup xs) M1 else .stuck := nr rfl
@[simp] theorem z_lstV : lstV l ρ M = (l ρ M).bind fun xs M1 => if xs.length ≤ PySem.sizeLine then .ok (.frl xs) M1 else .stuck := nr rfl
@[simp] theorem z_lstM : lstM l ρ M = (l ρ M).bind fun xs M1 => if xs.length ≤ PySem.sizeLine then .ok (.ref M1.length) (M1 ++ [.lst xs]) else .stuck := nr rfl
@[simp] theorem z_andT : andT ta tb ρ M = (ta ρ M).bind fun k M1 => if k = true then tb ρ M1 else .ok false M1 := nr rfl
@[simp] theorem z_orT : orT ta tb ρ M = (ta ρ M).bind fun k M1 => if k = true then .ok true M1 else tb ρ M1 := nr rfl
@[simp] theorem z_notT : notT ta ρ M = (ta ρ M).bind fun k M1 => .ok (!k) M1 := nr rfl
@[simp] theorem z_ite : iteE ta a b ρ M = (ta ρ M).bind fun k M1 => if k = true then a ρ M1 else b ρ M1 := nr rfl
@[simp] theorem z_call : callE m l ρ M = (l ρ M).bind fun ds M1 => m ds M1 := nr rfl
@[simp] theorem z_bi {g : List D → Mem → R D} : biE g l ρ M = (l ρ M).bind g := nr rfl
@[simp] theorem z_g1 {g : D → Mem → R D} : g1 g [x] M = g x M := nr rfl
@[simp] theorem z_g2 {g : D → D → Mem → R D} : g2 g [x, y] M = g x y M := nr rfl
@[simp] theorem z_yes : yesT ρ M = .ok true M := nr rfl
@[simp] theorem z_word {ans : PySem.Str → Option Int} : wordE ans a ρ M = wordR ans (a ρ M) := nr rfl
@[simp] theorem z_word_ok {ans : PySem.Str → Option Int} : wordR ans (.ok d M) = .ok (.int (-1)) M := nr rfl
@[simp] theorem z_sub {i j : Int} : subD (.int i) (.int j) M = .ok (.int (i - j)) M := nr rfl
@[simp] theorem z_add {i j : Int} : addD (.int i) (.int j) M = .ok (.int (i + j)) M := nr rfl
@[simp] theorem z_neg {i : Int} : negD (.int i) M = .ok (.int (-i)) M := nr rfl
@[simp] theorem z_len_tup : lenM (.tup xs) M = .ok (.int xs.length) M := nr rfl
@[simp] theorem z_len_frl : lenM (.frl xs) M = .ok (.int xs.length) M := nr rfl
@[simp] theorem z_tuple_frl : tupleM (.frl xs) M = .ok (.tup xs) M := nr rfl
@[simp] theorem z_tuple_tup : tupleM (.tup xs) M = .ok (.tup xs) M := nr rfl
@[simp] theorem z_list_tup : listV (.tup xs) M = .ok (.frl xs) M := nr rfl
@[simp] theorem z_isN : isNonD x .non M = .ok (.bl (isNon x)) M := nr rfl
@[simp] theorem z_notN : notNonD x .non M = .ok (.bl (!isNon x)) M := nr rfl
@[simp] theorem z_isB {p q : Bool} : isBlD (.bl p) (.bl q) M = .ok (.bl (decide (p = q))) M := nr rfl
@[simp] theorem z_notB {p q : Bool} : notBlD (.bl p) (.bl q) M = .ok (.bl (!decide (p = q))) M := nr rfl
@[simp] theorem z_lt {i j : Int} : ltM (.int i) (.int j) M = .ok (.bl (decide (i < j))) M := lt_int
@[simp] theorem z_gt {i j : Int} : gtM (.int i) (.int j) M = .ok (.bl (decide (j < i))) M := gt_int
@[simp] theorem z_le {i j : Int} : leM (.int i) (.int j) M = .ok (.bl (decide (i ≤ j))) M := le_int
@[simp] theorem z_ge {i j : Int} : geM (.int i) (.int j) M = .ok (.bl (decide (j ≤ i))) M := ge_int
@[simp] theorem z_eq {i j : Int} : eqD (.int i) (.int j) M = .ok (.bl (decide (i = j))) M := eq_int
@[simp] theorem z_ne {i j : Int} : neD (.int i) (.int j) M = .ok (.bl (!decide (i = j))) M := ne_int
@[simp] theorem z_mO0 : mO0 ρ M = .ok none M := nr rfl
@[simp] theorem z_mO1 : mO1 e ρ M = (e ρ M).bind fun d M1 => match d with
  | .int i => .ok (some i) M1
  | _ => .stuck := nr rfl
@[simp] theorem z_slE {u v : MEnv → Mem → R (Option Int)} : slE a u v ρ M = (a ρ M).bind fun x M1 => (u ρ M1).bind fun lo M2 => (v ρ M2).bind fun hi M3 => slD x lo hi M3 := nr rfl
@[simp] theorem z_sl_tup {lo hi : Option Int} : slD (.tup xs) lo hi M = .ok (.tup (cutD xs lo hi)) M := nr rfl
@[simp] theorem z_pN : pN i d ρ = some (ρ.set i (some d)) := nr rfl
@[simp] theorem z_pT {p : Pats} : pT n p (.tup xs) ρ = if xs.length = n then p xs ρ else none := nr rfl
@[simp] theorem z_pNil : pNil [] ρ = some ρ := nr rfl
@[simp] theorem z_pCons {p : Pat} {q : Pats} : pCons p q (x :: xs) ρ = (p x ρ).bind (q xs) := nr rfl
@[simp] theorem z_wipe0 : wipeD ρ [] = ρ := nr rfl
@[simp] theorem z_wipe {v : Nat} {vs : List Nat} : wipeD ρ (v :: vs) = (wipeD ρ vs).set v none := nr rfl
theorem get0_fix : ((Sq.fix xs).get 0 M).isSome = true := by simp [Sq.get]
def seqJ (d : D) (M : Mem) : R Src := match sqOfS d with
  | some s => if (s.get 0 M).isSome = true then .ok (.one s) M else .stuck
  | none => .stuck
@[simp] theorem z_seqI : seqI e ρ M = (e ρ M).bind seqJ := nr rfl
@[simp] theorem z_seqJ_tup : seqJ (.tup xs) M = .ok (.one (.fix xs)) M := by
  show (if ((Sq.fix xs).get 0 M).isSome = true then R.ok (Src.one (.fix xs)) M else .stuck) = _
  rw [if_pos get0_fix]
@[simp] theorem z_seqJ_frl : seqJ (.frl xs) M = .ok (.one (.fix xs)) M := by
  show (if ((Sq.fix xs).get 0 M).isSome = true then R.ok (Src.one (.fix xs)) M else .stuck) = _
  rw [if_pos get0_fix]
def zipJ (d e : D) (M2 : Mem) : R Src := match sqOf d, sqOf e with
  | some s, some t => if (s.get 0 M2).isSome = true ∧ (t.get 0 M2).isSome = true then .ok (.zip s t) M2 else .stuck
  | _, _ => .stuck
@[simp] theorem z_zipI : zipI a b ρ M = (a ρ M).bind fun d M1 => (b ρ M1).bind fun e M2 => zipJ d e M2 := nr rfl
@[simp] theorem z_zipJ_tt : zipJ (.tup xs) (.tup ys) M = .ok (.zip (.fix xs) (.fix ys)) M := by
  show (if ((Sq.fix xs).get 0 M).isSome = true ∧ ((Sq.fix ys).get 0 M).isSome = true then R.ok (Src.zip (.fix xs) (.fix ys)) M else .stuck) = _
  rw [if_pos ⟨get0_fix, get0_fix⟩]
theorem z_zipJ_rt {n : Nat} {zs : List D} (h : M[n]? = some (.lst zs)) : zipJ (.ref n) (.tup ys) M = .ok (.zip (.ls n) (.fix ys)) M := by
  show (if ((Sq.ls n).get 0 M).isSome = true ∧ ((Sq.fix ys).get 0 M).isSome = true then R.ok (Src.zip (.ls n) (.fix ys)) M else .stuck) = _
  rw [if_pos ⟨by simp [Sq.get, h], get0_fix⟩]
@[simp] theorem z_rng1 : rng1I a ρ M = (a ρ M).bind fun d M1 => match d with
  | .int j => if -(2 ^ 62) ≤ j ∧ j < 2 ^ 62 then .ok (.one (.fix (rangeL 0 j.toNat))) M1 else .stuck
  | _ => .stuck := nr rfl
@[simp] theorem z_rng2 : rng2I a b ρ M = (a ρ M).bind fun d M1 => (b ρ M1).bind fun e M2 => match d, e with
  | .int i, .int j => if -(2 ^ 62) ≤ i ∧ i < 2 ^ 62 ∧ -(2 ^ 62) ≤ j ∧ j < 2 ^ 62 then .ok (.one (.fix (rangeL i (j - i).toNat))) M2 else .stuck
  | _, _ => .stuck := nr rfl
@[simp] theorem z_isTy {T : Ty} : isTyD T x M = match tdOf M x with
  | some t => .ok (.bl (isA t T)) M
  | none => .stuck := nr rfl
@[simp] theorem z_td_tup : tdOf M (.tup xs) = some .tuple := nr rfl
@[simp] theorem z_td_frl : tdOf M (.frl xs) = some .list := nr rfl
@[simp] theorem z_td_int {i : Int} : tdOf M (.int i) = some .int := nr rfl
@[simp] theorem z_td_bl {k : Bool} : tdOf M (.bl k) = some .bool := nr rfl
@[simp] theorem z_td_non : tdOf M .non = some .non := nr rfl
@[simp] theorem z_td_str {v : PySem.Str} : tdOf M (.str v) = some .str := nr rfl
@[simp] theorem z_td_ktp : tdOf M (.ktp xs) = some .tuple := nr rfl
end
end Mini

set_option Elab.async false
set_option linter.all false
set_option maxRecDepth 100000
set_option maxHeartbeats 4000000
namespace K56
open Mini
def isT : R D → Bool
  | .ok (.bl true) _ => true
  | _ => false
theorem isT_ok {r : R D} (h : isT r = true) : ∃ M, r = .ok (.bl true) M := by
  unfold isT at h
  split at h
  · exact ⟨_, rfl⟩
  · cases h
theorem written : isT (m__law_written_right [] []) = true := by decide +kernel
end K56

set_option Elab.async false
set_option linter.all false
set_option maxRecDepth 100000
set_option maxHeartbeats 4000000
namespace K56
open Mini
/-! ### data -/
def dI (xs : List Int) : List D := xs.map D.int
def bls (bs : List Bool) : List D := bs.map D.bl
theorem filt_true {α : Type} (l : List α) : l.filter (fun _ => true) = l := List.filter_eq_self.2 fun _ _ => rfl
theorem intsOf_dI : ∀ xs : List Int, intsOf (dI xs) = some xs
  | [] => rfl
  | x :: r => by
    have := intsOf_dI r
    simp [intsOf, dI] at this ⊢
    exact this
theorem boolsOf_map : ∀ xs : List Bool, boolsOf (bls xs) = some xs
  | [] => rfl
  | x :: r => by
    have := boolsOf_map r
    simp [boolsOf, bls] at this ⊢
    exact this
theorem all_frl {bs : List Bool} {M : Mem} : allM (.frl (bls bs)) M = .ok (.bl (bs.all id)) M := by
  simp [allM, seqOf, DSq.items, boolsOf_map]
theorem sum_frl {xs : List Int} {M : Mem} : sumM (.frl (dI xs)) M = .ok (.int xs.sum) M := by
  simp [sumM, seqOf, DSq.items, intsOf_dI]
theorem sum_tup {xs : List Int} {M : Mem} : sumM (.tup (dI xs)) M = .ok (.int xs.sum) M := by
  simp [sumM, seqOf, DSq.items, intsOf_dI]
theorem ok_dI : ∀ xs : List Int, okDs (dI xs) = true
  | [] => rfl
  | x :: r => by
    have := ok_dI r
    simp [okDs, okD, dI] at this ⊢
    exact this
theorem dep_dI : ∀ xs : List Int, depDs (dI xs) = 0
  | [] => rfl
  | x :: r => by
    have := dep_dI r
    simp [depDs, depD, dI] at this ⊢
    exact this
theorem eq_nil {xs : List D} {M : Mem} (h : okDs xs = true) : eqD (.frl xs) (.frl []) M = .ok (.bl xs.isEmpty) M := by
  cases xs <;> simp [eqD, drf, okD, okDs, depD, depDs, eqvD, eqvDs] at h ⊢
  simp [h]
theorem ne_nil {xs : List D} {M : Mem} (h : okDs xs = true) : neD (.frl xs) (.frl []) M = .ok (.bl (!xs.isEmpty)) M := by
  cases xs <;> simp [neD, drf, okD, okDs, depD, depDs, eqvD, eqvDs] at h ⊢
  simp [h]
theorem cut_from1 (xs : List D) : cutD xs (some 1) none = xs.drop 1 := by
  unfold cutD
  rw [show HT.sIx xs.length 0 (some 1) = min 1 xs.length from HT.sIx_nat xs.length 0 1, HT.sIx_none]
  cases xs with
  | nil => rfl
  | cons x r =>
    rw [show min 1 (x :: r).length = 1 by rw [List.length_cons]; omega]
    simp
theorem cut_to (xs : List D) (n : Nat) : cutD xs none (some (n : Int)) = xs.take n := by
  unfold cutD
  rw [HT.sIx_nat, HT.sIx_none, List.drop_zero, Nat.sub_zero]
  by_cases h : n ≤ xs.length
  · rw [Nat.min_eq_left h]
  · rw [Nat.min_eq_right (by omega), List.take_length, List.take_of_length_le (by omega)]
def isNum (v : D) (lo hi : Int) : Bool := match v with
  | .int i => decide (lo ≤ i ∧ i ≤ hi)
  | _ => false
def simple : D → Bool
  | .ref _ => false
  | .gl _ => false
  | .scr _ => false
  | .ktp _ => false
  | _ => true
@[simp] theorem simple_int {i : Int} : simple (.int i) = true := rfl
@[simp] theorem simple_bl {i : Bool} : simple (.bl i) = true := rfl
@[simp] theorem simple_tup {xs : List D} : simple (.tup xs) = true := rfl
@[simp] theorem simple_frl {xs : List D} : simple (.frl xs) = true := rfl
@[simp] theorem simple_non : simple .non = true := rfl
@[simp] theorem simple_str {x : PySem.Str} : simple (.str x) = true := rfl
@[simp] theorem isNum_int {i lo hi : Int} : isNum (.int i) lo hi = decide (lo ≤ i ∧ i ≤ hi) := rfl
theorem isNum_true {v : D} {lo hi : Int} (h : isNum v lo hi = true) : ∃ i, v = .int i ∧ lo ≤ i ∧ i ≤ hi := by
  cases v <;> simp [isNum] at h
  exact ⟨_, rfl, h⟩
theorem is_number_eq {v : D} {lo hi : Int} {M : Mem} (h : simple v = true) : m_is_number [v, .int lo, .int hi] M = .ok (.bl (isNum v lo hi)) M := by
  cases v <;> simp [m_is_number, isNum, simple, isA] at h ⊢
  rename_i i
  by_cases h1 : lo ≤ i <;> simp [h1]
theorem law_is_number_eq {v : D} {lo hi : Int} {M : Mem} (h : simple v = true) : m__law_is_number [v, .int lo, .int hi] M = .ok (.bl (isNum v lo hi)) M := by
  cases v <;> simp [m__law_is_number, isNum, simple, isA] at h ⊢
  rename_i i
  by_cases h1 : lo ≤ i <;> simp [h1]
def isFz (v : D) : Bool := match v with
  | .int i => decide (0 ≤ i)
  | _ => false
theorem is_from_zero_eq {v : D} {M : Mem} (h : simple v = true) : m_is_from_zero [v] M = .ok (.bl (isFz v)) M := by
  cases v <;> simp [m_is_from_zero, isFz, simple, isA] at h ⊢
def isRow (v : D) (lo hi : Int) : Bool := match v with
  | .tup xs => decide (lo ≤ xs.length ∧ (xs.length : Int) ≤ hi)
  | _ => false
theorem is_row_eq {v : D} {lo hi : Int} {M : Mem} (h : simple v = true) : m_is_row [v, .int lo, .int hi] M = .ok (.bl (isRow v lo hi)) M := by
  have e : ∀ n : Int, m_is_number [.int n, .int lo, .int hi] M = .ok (.bl (decide (lo ≤ n ∧ n ≤ hi))) M := fun n => is_number_eq simple_int
  cases v <;> simp [m_is_row, isRow, simple, isA, e] at h ⊢
/-! ### shifts -/
def rowB (day : Int) (v : D) : Bool := match v with
  | .tup [a, b, c] => isNum a 0 (day - 1) && (match a with
    | .int s => isNum b (s + 1) day
    | _ => false) && isNum c 1 99
  | _ => false
def items : D → List D
  | .tup xs => xs
  | .frl xs => xs
  | _ => []
theorem ix_tup {xs : List D} {i : Nat} {d : D} {M : Mem} (h : xs[i]? = some d) : ixD (.tup xs) (.int i) M = .ok d M := by
  have hl : i < xs.length := (List.getElem?_eq_some_iff.mp h).1
  have e : L2.atI xs (i : Int) = some d := by
    unfold L2.atI L2.ixN
    rw [if_pos (by omega), if_pos (by omega)]
    exact h
  simp [ixD, itemsOf, e]
theorem ix3_0 {a b c : D} {M : Mem} : ixD (.tup [a, b, c]) (.int 0) M = .ok a M := ix_tup (i := 0) rfl
theorem ix3_1 {a b c : D} {M : Mem} : ixD (.tup [a, b, c]) (.int 1) M = .ok b M := ix_tup (i := 1) rfl
theorem ix3_2 {a b c : D} {M : Mem} : ixD (.tup [a, b, c]) (.int 2) M = .ok c M := ix_tup (i := 2) rfl
theorem isRow_false_rowB {v : D} {day : Int} (h : isRow v 3 3 = false) : rowB day v = false := by
  unfold rowB
  split
  · simp [isRow] at h
  · rfl
theorem isRow_three {v : D} (h : isRow v 3 3 = true) : ∃ a b c, v = .tup [a, b, c] := by
  cases v <;> simp [isRow] at h
  rename_i xs
  have hl : xs.length = 3 := by omega
  match xs, hl with
  | [a, b, c], _ => exact ⟨a, b, c, rfl⟩
theorem fits_shift_eq {v : D} {day : Int} {M : Mem} (h : simple v = true) (hi : ∀ x ∈ items v, simple x = true) : m_fits_shift [.int day, v] M = .ok (.bl (rowB day v)) M := by
  cases hr : isRow v 3 3 with
  | false => simp [m_fits_shift, is_row_eq h, hr, isRow_false_rowB hr]
  | true =>
    obtain ⟨a, b, c, rfl⟩ := isRow_three hr
    have h1 : simple a = true := hi a (by simp [items])
    have h2 : simple b = true := hi b (by simp [items])
    have h3 : simple c = true := hi c (by simp [items])
    cases ha : isNum a 0 (day - 1) with
    | false => simp [m_fits_shift, is_row_eq h, hr, ix3_0, is_number_eq h1, ha, rowB]
    | true =>
      obtain ⟨s, rfl, _, _⟩ := isNum_true ha
      cases hb : isNum b (s + 1) day with
      | false => simp [m_fits_shift, is_row_eq h, hr, ix3_0, ix3_1, is_number_eq h1, is_number_eq h2, ha, hb, rowB]
      | true => simp [m_fits_shift, is_row_eq h, hr, ix3_0, ix3_1, ix3_2, is_number_eq h1, is_number_eq h2, is_number_eq h3, ha, hb, rowB]
/-- alike pairs of ints -/
theorem cmp_pair {a b c d : Int} : cmpOk (.tup [.int a, .int b]) (.tup [.int c, .int d]) = true := by
  simp [cmpOk, okD, okDs, toPy, toPys, PySem.W.alike, PySem.W.alikeAll, isNon, depD, depDs]
def cut2 : D → D
  | .tup xs => .tup (xs.take 2)
  | d => d
def pairsOf (rows : List D) : List (D × D) := rows.zip (rows.drop 1)
/-- shifts of the day -/
def shB (day : Int) (v : D) : Bool := match v with
  | .tup rows => decide (rows.length ≤ 12) && rows.all (rowB day) && (pairsOf rows).all fun p => ltv (cut2 p.1) (cut2 p.2)
  | _ => false
theorem rowB_rows {day : Int} {v : D} (h : rowB day v = true) : ∃ s e c : Int, v = .tup [.int s, .int e, .int c] ∧ 0 ≤ s ∧ s ≤ day - 1 ∧ s + 1 ≤ e ∧ e ≤ day ∧ 1 ≤ c ∧ c ≤ 99 := by
  unfold rowB at h
  split at h
  · rename_i a b c
    rw [Bool.and_eq_true, Bool.and_eq_true] at h
    obtain ⟨⟨h1, h2⟩, h3⟩ := h
    obtain ⟨s, rfl, a1, a2⟩ := isNum_true h1
    obtain ⟨e, rfl, b1, b2⟩ := isNum_true h2
    obtain ⟨k, rfl, c1, c2⟩ := isNum_true h3
    exact ⟨s, e, k, rfl, a1, a2, b1, b2, c1, c2⟩
  · cases h
/-- a zip of two fixed lists, by place -/
theorem get_zip {xs ys : List D} {i : Nat} {M : Mem} (h : i ≤ (xs.zip ys).length) :
    (Src.zip (.fix xs) (.fix ys)).get i M = some (if i < (xs.zip ys).length then some (.tup [xs.getD i .non, ys.getD i .non]) else none) := by
  rw [List.length_zip] at h ⊢
  simp only [Src.get, Sq.get]
  rw [if_pos (by omega), if_pos (by omega)]
  by_cases hi : i < min xs.length ys.length
  · have h1 : i < xs.length := by omega
    have h2 : i < ys.length := by omega
    rw [if_pos hi, List.getD_eq_getElem?_getD, List.getD_eq_getElem?_getD, List.getElem?_eq_getElem h1, List.getElem?_eq_getElem h2]
    rfl
  · rw [if_neg hi]
    by_cases h1 : i < xs.length
    · rw [List.getElem?_eq_getElem h1, List.getElem?_eq_none (by omega : ys.length ≤ i)]
    · rw [List.getElem?_eq_none (by omega : xs.length ≤ i)]
/-- .. a comprehension over it that changes nothing -/
theorem lc_zip {vs : List Nat} {src : MEnv → Mem → R Src} {p : Pat} {c : MEnv → Mem → R Bool} {e : ME'} {ρ : MEnv} {M : Mem} (xs ys : List D) (cb : D × D → Bool) (g : D × D → D) (hs : src ρ M = .ok (.zip (.fix xs) (.fix ys)) M) (hz : xs.length ≤ PySem.sizeLine)
    (h : ∀ q, q ∈ xs.zip ys → ∃ ρ1, p (.tup [q.1, q.2]) (wipeD ρ vs) = some ρ1 ∧ c ρ1 M = .ok (cb q) M ∧ (cb q = true → e ρ1 M = .ok (g q) M)) : lcV vs src p c e ρ M = .ok (.frl (((xs.zip ys).filter cb).map g)) M := by
  have hl : (xs.zip ys).length ≤ xs.length := by rw [List.length_zip]; omega
  have key : W (lcV vs src p c e ρ M) fun d M' => d = .frl (((xs.zip ys).filter cb).map g) ∧ M' = M := by
    refine W_lcV ?_
    rw [hs, W_ok]
    refine ⟨(xs.zip ys).length, fun i => .tup [xs.getD i .non, ys.getD i .non], fun i acc M' => acc = (((xs.zip ys).take i).filter cb).map g ∧ M' = M, by omega, ?_, ⟨rfl, rfl⟩, fun i acc M' hi ⟨_, hm⟩ => get_zip hi, fun i acc M' hi ⟨ha, hm⟩ => ?_, fun acc M' ⟨ha, hm⟩ => ?_⟩
    · simp [Src.len, Sq.len]
    · subst hm
      have hi' := hi
      rw [List.length_zip] at hi'
      have h1 : i < xs.length := by omega
      have h2 : i < ys.length := by omega
      have d1 : xs.getD i .non = xs[i] := by rw [List.getD_eq_getElem?_getD, List.getElem?_eq_getElem h1]; rfl
      have d2 : ys.getD i .non = ys[i] := by rw [List.getD_eq_getElem?_getD, List.getElem?_eq_getElem h2]; rfl
      have dz : (xs.zip ys)[i] = (xs[i], ys[i]) := List.getElem_zip
      obtain ⟨ρ1, k1, k2, k3⟩ := h _ (List.getElem_mem hi)
      have ht : (xs.zip ys).take (i + 1) = (xs.zip ys).take i ++ [(xs.zip ys)[i]] := by rw [List.take_add_one, List.getElem?_eq_getElem hi]; rfl
      refine ⟨ρ1, by show p (.tup [xs.getD i .non, ys.getD i .non]) _ = _; rw [d1, d2]; rw [dz] at k1; exact k1, ?_⟩
      rw [k2, W_ok]
      by_cases hc : cb (xs.zip ys)[i] = true
      · rw [if_pos hc, k3 hc, W_ok]
        refine ⟨?_, rfl⟩
        rw [ht, List.filter_append, List.map_append, ha, List.filter_cons, if_pos hc]
        rfl
      · rw [if_neg hc]
        refine ⟨?_, rfl⟩
        rw [ht, List.filter_append, List.map_append, ha, List.filter_cons, if_neg hc]
        simp
    · rw [List.take_length] at ha
      exact ⟨by rw [ha], hm⟩
  obtain ⟨d, M', e1, e2, e3⟩ := key.get
  rw [e1, e2, e3]
theorem lc_tup {vs : List Nat} {e : ME'} {i : Nat} {p : Pat} {c : MEnv → Mem → R Bool} {ρ : MEnv} {M : Mem} (ds : List D) (cb : D → Bool) (g : D → D) (hv : varE i ρ M = .ok (.tup ds) M) (hz : ds.length ≤ PySem.sizeLine)
    (h : ∀ d, d ∈ ds → ∃ ρ1, p d (wipeD ρ vs) = some ρ1 ∧ c ρ1 M = .ok (cb d) M ∧ (cb d = true → e ρ1 M = .ok (g d) M)) : lcV vs (seqI (varE i)) p c e ρ M = .ok (.frl ((ds.filter cb).map g)) M :=
  lc_pure (S := .one (.fix ds)) ds cb g (by rw [z_seqI, hv]; exact z_seqJ_tup) hz rfl (fun i hi => get_fix hi) h
theorem size_small {n : Nat} (h : n ≤ 1000) : n ≤ PySem.sizeLine := by rw [PySem.sizeLine_eq]; omega
theorem map_bls {α : Type} (f : α → Bool) (l : List α) : (l.map fun x => D.bl (f x)) = bls (l.map f) := by unfold bls; rw [List.map_map]; rfl
theorem map_dI {α : Type} (f : α → Int) (l : List α) : (l.map fun x => D.int (f x)) = dI (l.map f) := by unfold dI; rw [List.map_map]; rfl
theorem fits_shifts_eq {v : D} {day : Int} {M : Mem} (h : simple v = true) (hl : (items v).length ≤ 1000) (hi : ∀ x ∈ items v, simple x = true ∧ ∀ y ∈ items x, simple y = true) : m_fits_shifts [.int day, v] M = .ok (.bl (shB day v)) M := by
  cases hr : isRow v 0 12 with
  | false =>
    have e : shB day v = false := by
      unfold shB
      split
      · simp [isRow] at hr; simp; omega
      · rfl
    simp [m_fits_shifts, is_row_eq h, hr, e]
  | true =>
    obtain ⟨rows, rfl⟩ : ∃ rows, v = .tup rows := by
      cases v <;> simp [isRow] at hr
      exact ⟨_, rfl⟩
    have hn : rows.length ≤ 12 := by simp [isRow] at hr; omega
    have hv : ∀ n, varE 1 [some (.int day), some (.tup rows), none, none, none] n = .ok (.tup rows) n := fun n => rfl
    have e1 : ∀ M, lcV [2] (seqI (varE 1)) (pN 2) yesT (callE m_fits_shift (consL (varE 0) (consL (varE 2) nilL))) [some (.int day), some (.tup rows), none, none, none] M = .ok (.frl (bls (rows.map (rowB day)))) M := by
      intro M
      refine (lc_tup rows (fun _ => true) (fun d => .bl (rowB day d)) (hv M) (size_small hl) fun d hd => ⟨[some (.int day), some (.tup rows), some d, none, none], rfl, rfl, fun _ => ?_⟩).trans ?_
      · have := hi d hd
        simp [fits_shift_eq this.1 this.2]
      · rw [filt_true, map_bls]
    cases ha : rows.all (rowB day) with
    | false =>
      have ea : (rows.map (rowB day)).all id = false := by rw [List.all_map]; exact ha
      have es : shB day (.tup rows) = false := by simp [shB, ha]
      simp [m_fits_shifts, is_row_eq h, hr, e1, all_frl, ea, es]
    | true =>
      have ea : (rows.map (rowB day)).all id = true := by rw [List.all_map]; exact ha
      have e2 : ∀ M, lcV [3, 4] (zipI (varE 1) (slE (varE 1) (mO1 (cE (.int 1))) mO0)) (pT 2 (pCons (pN 3) (pCons (pN 4) pNil))) yesT (op2 ltM (slE (varE 3) mO0 (mO1 (cE (.int 2)))) (slE (varE 4) mO0 (mO1 (cE (.int 2)))))
          [some (.int day), some (.tup rows), none, none, none] M = .ok (.frl (bls ((pairsOf rows).map fun p => ltv (cut2 p.1) (cut2 p.2)))) M := by
        intro M
        refine (lc_zip rows (rows.drop 1) (fun _ => true) (fun q => .bl (ltv (cut2 q.1) (cut2 q.2))) (by simp [cut_from1]) (size_small hl) fun q hq => ⟨[some (.int day), some (.tup rows), none, some q.1, some q.2], rfl, rfl, fun _ => ?_⟩).trans ?_
        · have h1 := List.all_eq_true.mp ha q.1 (List.of_mem_zip hq).1
          have h2 := List.all_eq_true.mp ha q.2 (List.mem_of_mem_drop (List.of_mem_zip hq).2)
          obtain ⟨s1, e1, c1, q1, _⟩ := rowB_rows h1
          obtain ⟨s2, e2, c2, q2, _⟩ := rowB_rows h2
          have t2 : ∀ xs : List D, cutD xs none (some 2) = xs.take 2 := fun xs => cut_to xs 2
          simp [q1, q2, t2, cut2]
          show (if cmpOk (.tup [.int s1, .int e1]) (.tup [.int s2, .int e2]) = true then _ else _) = _
          rw [if_pos cmp_pair]
          rfl
        · rw [filt_true, map_bls]; rfl
      have es : shB day (.tup rows) = (pairsOf rows).all fun p => ltv (cut2 p.1) (cut2 p.2) := by simp [shB, ha, hn]
      simp [m_fits_shifts, is_row_eq h, hr, e1, e2, all_frl, ea, es, List.all_map, Function.comp_def]
end K56

set_option Elab.async false
set_option linter.all false
set_option maxRecDepth 100000
set_option maxHeartbeats 4000000
namespace K56
open Mini
/-! ### values of any kind: ints up to B, no more than L items, k deep -/
def flatP (B : Int) (d : D) : Prop := match d with
  | .non => True
  | .bl _ => True
  | .int i => -B ≤ i ∧ i ≤ B
  | .str x => PySem.PyData.strOk x = true
  | _ => False
def pd (B : Int) (L : Nat) : Nat → D → Prop
  | 0, d => flatP B d
  | k + 1, d => flatP B d ∨ ∃ xs, (d = .tup xs ∨ d = .frl xs) ∧ xs.length ≤ L ∧ ∀ x ∈ xs, pd B L k x
section
variable {B B' : Int} {L L' k k' : Nat} {d : D}
theorem flatP.mono (h : flatP B d) (hB : B ≤ B') : flatP B' d := by
  cases d <;> simp only [flatP] at h ⊢
  · exact ⟨by omega, by omega⟩
  · exact h
theorem pd.mono (hB : B ≤ B') (hL : L ≤ L') : ∀ {k k' : Nat} {d : D}, k ≤ k' → pd B L k d → pd B' L' k' d
  | 0, 0, d, _, h => flatP.mono h hB
  | 0, k' + 1, d, _, h => .inl (flatP.mono h hB)
  | k + 1, 0, d, hk, h => by omega
  | k + 1, k' + 1, d, hk, h => by
    rcases h with h | ⟨xs, e, hl, hx⟩
    · exact .inl (h.mono hB)
    · exact .inr ⟨xs, e, by omega, fun x m => pd.mono hB hL (by omega) (hx x m)⟩
theorem pd.simple (h : pd B L k d) : simple d = true := by
  cases k with
  | zero => cases d <;> simp [pd, flatP, K56.simple] at h ⊢
  | succ k =>
    rcases h with h | ⟨xs, e | e, _, _⟩
    · cases d <;> simp [flatP, K56.simple] at h ⊢
    · subst e; rfl
    · subst e; rfl
theorem okDs_of : ∀ {xs : List D}, (∀ x ∈ xs, okD x = true) → okDs xs = true
  | [], _ => rfl
  | x :: r, h => by
    simp only [okDs, Bool.and_eq_true]
    exact ⟨h x (by simp), okDs_of fun y hy => h y (by simp [hy])⟩
theorem flatP.ok (h : flatP B d) : okD d = true := by cases d <;> simp [flatP, okD] at h ⊢; exact h
theorem pd.ok : ∀ {k : Nat} {d : D}, pd B L k d → okD d = true
  | 0, d, h => flatP.ok h
  | k + 1, d, h => by
    rcases h with h | ⟨xs, e, hl, hx⟩
    · exact h.ok
    · have := okDs_of fun x hm => pd.ok (hx x hm)
      rcases e with e | e <;> (subst e; simpa [okD] using this)
theorem flatP.dep (h : flatP B d) : depD d = 0 := by cases d <;> simp [flatP, depD] at h ⊢
theorem depDs_of {n : Nat} : ∀ {xs : List D}, (∀ x ∈ xs, depD x ≤ n) → depDs xs ≤ n
  | [], _ => by simp [depDs]
  | x :: r, h => by
    simp only [depDs]
    have h1 := h x (by simp)
    have h2 := depDs_of fun y hy => h y (List.mem_cons_of_mem x hy)
    omega
theorem pd.dep : ∀ {k : Nat} {d : D}, pd B L k d → depD d ≤ k
  | 0, d, h => by rw [flatP.dep h]; exact Nat.le_refl _
  | k + 1, d, h => by
    rcases h with h | ⟨xs, e, hl, hx⟩
    · rw [h.dep]; omega
    · have := depDs_of fun x hm => pd.dep (hx x hm)
      rcases e with e | e <;> (subst e; simp only [depD]; omega)
theorem pd.items (h : pd B L k d) : (items d).length ≤ L ∧ ∀ x ∈ items d, pd B L (k - 1) x := by
  cases k with
  | zero => cases d <;> simp [pd, flatP, K56.items] at h ⊢
  | succ k =>
    rcases h with h | ⟨xs, e | e, hl, hx⟩
    · cases d <;> simp [flatP, K56.items] at h ⊢
    · subst e; exact ⟨hl, hx⟩
    · subst e; exact ⟨hl, hx⟩
end
/-! ### needs -/
def ndB (day : Int) (v : D) : Bool := match v with
  | .tup xs => decide ((xs.length : Int) = day) && xs.all fun x => isNum x 0 50
  | _ => false
theorem fits_need_eq {v : D} {day : Int} {M : Mem} {B : Int} {k : Nat} (h : pd B 1000 k v) : m_fits_need [.int day, v] M = .ok (.bl (ndB day v)) M := by
  have hs := h.simple
  obtain ⟨hl, hi⟩ := h.items
  cases hr : isRow v day day with
  | false =>
    have e : ndB day v = false := by
      unfold ndB
      split
      · simp [isRow] at hr; simp; intro e; omega
      · rfl
    simp [m_fits_need, is_row_eq hs, hr, e]
  | true =>
    obtain ⟨xs, rfl⟩ : ∃ rows, v = .tup rows := by
      cases v <;> simp [isRow] at hr
      exact ⟨_, rfl⟩
    have e1 : ∀ M, lcV [2] (seqI (varE 1)) (pN 2) yesT (callE m_is_number (consL (varE 2) (consL (cE (.int 0)) (consL (cE (.int 50)) nilL)))) [some (.int day), some (.tup xs), none] M = .ok (.frl (bls (xs.map fun x => isNum x 0 50))) M := by
      intro M
      refine (lc_tup xs (fun _ => true) (fun d => .bl (isNum d 0 50)) rfl (size_small hl) fun d hd => ⟨[some (.int day), some (.tup xs), some d], rfl, rfl, fun _ => ?_⟩).trans ?_
      · simp [is_number_eq (hi d hd).simple]
      · rw [filt_true, map_bls]
    have en : (xs.length : Int) = day := by simp [isRow] at hr; omega
    simp [m_fits_need, is_row_eq hs, hr, e1, all_frl, ndB, en, List.all_map, Function.comp_def]
theorem law_is_need_eq {v : D} {day : Int} {M : Mem} {B : Int} {k : Nat} (h : pd B 1000 k v) : m__law_is_need [.int day, v] M = .ok (.bl (ndB day v)) M := by
  have hs := h.simple
  obtain ⟨hl, hi⟩ := h.items
  cases v with
  | tup xs =>
    have e1 : ∀ M, lcV [2] (seqI (varE 1)) (pN 2) (notT (tst (callE m__law_is_number (consL (varE 2) (consL (cE (.int 0)) (consL (cE (.int 50)) nilL)))))) (varE 2) [some (.int day), some (.tup xs), none] M = .ok (.frl (xs.filter fun x => !isNum x 0 50)) M := by
      intro M
      refine (lc_tup xs (fun x => !isNum x 0 50) (fun d => d) rfl (size_small hl) fun d hd => ⟨[some (.int day), some (.tup xs), some d], rfl, ?_, fun _ => ?_⟩).trans ?_
      · simp [law_is_number_eq (hi d hd).simple]
      · simp
      · simp
    have ho : okDs (xs.filter fun x => !isNum x 0 50) = true := okDs_of fun x hx => (hi x (List.mem_filter.mp hx).1).ok
    have ee : (xs.filter fun x => !isNum x 0 50).isEmpty = xs.all fun x => isNum x 0 50 := by
      rw [Bool.eq_iff_iff]
      simp [List.isEmpty_iff, List.filter_eq_nil_iff]
    by_cases en : (xs.length : Int) = day <;> simp [m__law_is_need, isA, ndB, en, e1, eq_nil ho, ee]
  | _ => simp [m__law_is_need, isA, ndB] <;> simp [simple] at hs
/-! ### the shifts, by the law's own def -/
theorem filt_nil {α : Type} {l : List α} {f : α → Bool} : (l.filter fun p => !f p).isEmpty = l.all f := by
  rw [Bool.eq_iff_iff]
  simp [List.isEmpty_iff, List.filter_eq_nil_iff]
theorem pairs_nil {rows : List D} {f : D × D → Bool} : (((pairsOf rows).filter fun p => !f p).map fun _ => D.int 1).isEmpty = (pairsOf rows).all f := by
  rw [Bool.eq_iff_iff]
  simp [List.isEmpty_iff, List.filter_eq_nil_iff]
theorem okDs_ones {α : Type} (l : List α) : okDs (l.map fun _ => D.int 1) = true := okDs_of fun x hx => by
  obtain ⟨_, _, e⟩ := List.mem_map.mp hx
  subst e; rfl
theorem law_are_shifts_eq {v : D} {day : Int} {M : Mem} {B : Int} {k : Nat} (h : pd B 1000 k v) : m__law_are_shifts [.int day, v] M = .ok (.bl (shB day v)) M := by
  have hs := h.simple
  obtain ⟨hl, hi⟩ := h.items
  cases v with
  | tup rows =>
    by_cases h12 : 12 < rows.length
    · have h12' : ¬ rows.length ≤ 12 := by omega
      have h12z : (12 : Int) < rows.length := by omega
      simp [m__law_are_shifts, isA, shB, h12', h12z]
    · have h12' : rows.length ≤ 12 := by omega
      have h12z : ¬ (12 : Int) < rows.length := by omega
      have key : W (m__law_are_shifts [.int day, .tup rows] M) fun d M' => d = .bl (shB day (.tup rows)) ∧ M' = M := by
        have e1 : ∀ M, lcV [5] (seqI (varE 1)) (pN 5) (orT (notT (tst (op1 (isTyD .tuple) (varE 5)))) (tst (op2 neD (biE (g1 lenM) (consL (varE 5) nilL)) (cE (.int 3))))) (varE 5) [some (.int day), some (.tup rows), none, none, none, none, none, none] M = .ok (.frl (rows.filter fun x => !isRow x 3 3)) M := by
          intro M
          refine (lc_tup rows (fun x => !isRow x 3 3) (fun d => d) rfl (size_small hl) fun d hd => ⟨[some (.int day), some (.tup rows), none, none, none, some d, none, none], rfl, ?_, fun _ => ?_⟩).trans ?_
          · have := (hi d hd).simple
            cases d <;> simp [isA, isRow, simple] at this ⊢
            rename_i xs
            by_cases hx : xs.length = 3
            · simp [hx]
            · have : ¬ (xs.length : Int) = 3 := by omega
              have h2 : ¬ (3 ≤ xs.length ∧ xs.length ≤ 3) := by omega
              simp [this]
              omega
          · simp
          · simp
        by_cases hall : rows.all (fun x => isRow x 3 3) = true
        · have he : (rows.filter fun x => !isRow x 3 3) = [] := by
            rw [List.filter_eq_nil_iff]
            intro x hx
            simp [List.all_eq_true.mp hall x hx]
          have loop : W (forS (seqI (varE 1)) (pT 3 (pCons (pN 2) (pCons (pN 3) (pCons (pN 4) pNil)))) (ifS (orT (notT (tst (callE m__law_is_number (consL (varE 2) (consL (cE (.int 0)) (consL (op2 subD (varE 0) (cE (.int 1))) nilL)))))) (orT (notT (tst (callE m__law_is_number (consL (varE 3) (consL (op2 addD (varE 2) (cE (.int 1))) (consL (varE 0) nilL)))))) (notT (tst (callE m__law_is_number (consL (varE 4) (consL (cE (.int 1)) (consL (cE (.int 99)) nilL)))))))) (retS (cE (.bl false))) skipS)
              [some (.int day), some (.tup rows), none, none, none, none, none, none] M)
              (QF (fun ρ M' => M' = M ∧ rows.all (rowB day) = true ∧ ∃ x2 x3 x4, ρ = [some (.int day), some (.tup rows), x2, x3, x4, none, none, none]) (fun d M' => M' = M ∧ rows.all (rowB day) = false ∧ d = .bl false)) := by
            refine W_for ?_
            have es : seqI (varE 1) [some (.int day), some (.tup rows), none, none, none, none, none, none] M = .ok (.one (.fix rows)) M := by simp
            rw [es, W_ok]
            refine ⟨rows.length, fun i => rows.getD i .non, fun i ρ M' => M' = M ∧ (rows.take i).all (rowB day) = true ∧ ∃ x2 x3 x4, ρ = [some (.int day), some (.tup rows), x2, x3, x4, none, none, none], rfl, ⟨rfl, rfl, none, none, none, rfl⟩, fun i ρ M' hi _ => get_fix hi, fun i ρ M' hi' ⟨hm, ht, x2, x3, x4, hρ⟩ => ?_, fun ρ M' ⟨hm, ht, hx⟩ => ⟨hm, by rw [List.take_length] at ht; exact ht, hx⟩⟩
            subst hm hρ
            have hd : rows.getD i .non = rows[i] := by rw [List.getD_eq_getElem?_getD, List.getElem?_eq_getElem hi']; rfl
            have hmem : rows[i] ∈ rows := List.getElem_mem hi'
            obtain ⟨a, b, c, hr⟩ := isRow_three (List.all_eq_true.mp hall _ hmem)
            have hp := (hi _ hmem).items.2
            rw [hr] at hp
            have h1 : simple a = true := (hp a (by simp [items])).simple
            have h2 : simple b = true := (hp b (by simp [items])).simple
            have h3 : simple c = true := (hp c (by simp [items])).simple
            have htk : rows.take (i + 1) = rows.take i ++ [rows[i]] := by rw [List.take_add_one, List.getElem?_eq_getElem hi']; rfl
            refine ⟨[some (.int day), some (.tup rows), some a, some b, some c, none, none, none], by show pT 3 _ (rows.getD i .non) _ = _; rw [hd, hr]; rfl, W_if ?_⟩
            have bad : rowB day rows[i] = false → rows.all (rowB day) = false := fun hb => by
              rw [Bool.eq_false_iff]
              intro z
              rw [List.all_eq_true.mp z _ hmem] at hb
              cases hb
            cases ha : isNum a 0 (day - 1) with
            | false => simp [law_is_number_eq h1, ha, W_ok, QF_rt]; exact ⟨_, hmem, by rw [hr]; simp [rowB, ha]⟩
            | true =>
              obtain ⟨s, rfl, _, _⟩ := isNum_true ha
              cases hb : isNum b (s + 1) day with
              | false => simp [law_is_number_eq h1, law_is_number_eq h2, ha, hb, W_ok, QF_rt]; exact ⟨_, hmem, by rw [hr]; simp [rowB, hb]⟩
              | true =>
                cases hc : isNum c 1 99 with
                | false => simp [law_is_number_eq h1, law_is_number_eq h2, law_is_number_eq h3, ha, hb, hc, W_ok, QF_rt]; exact ⟨_, hmem, by rw [hr]; simp [rowB, hc]⟩
                | true =>
                  simp [law_is_number_eq h1, law_is_number_eq h2, law_is_number_eq h3, ha, hb, hc, W_ok, QF_nx]
                  have hrow : rowB day rows[i] = true := by rw [hr]; simp [rowB, ha, hb, hc]
                  exact List.all_eq_true.mp (by rw [htk, List.all_append, Bool.and_eq_true]; exact ⟨ht, by simp [hrow]⟩ : (rows.take (i + 1)).all (rowB day) = true)
          obtain ⟨f, M', hf, q⟩ := loop.get
          have hne : neD (.frl []) (.frl []) M = .ok (.bl false) M := ne_nil rfl
          cases f with
          | rt d =>
            obtain ⟨rfl, ha, rfl⟩ := q
            simp [m__law_are_shifts, isA, h12z, e1, he, hne, hf, shB, ha, W_ok]
          | nx ρ =>
            obtain ⟨rfl, ha, x2, x3, x4, rfl⟩ := q
            have e2 : ∀ M, lcV [6, 7] (zipI (varE 1) (slE (varE 1) (mO1 (cE (.int 1))) mO0)) (pT 2 (pCons (pN 6) (pCons (pN 7) pNil))) (tst (op2 geM (slE (varE 6) mO0 (mO1 (cE (.int 2)))) (slE (varE 7) mO0 (mO1 (cE (.int 2)))))) (cE (.int 1))
                [some (.int day), some (.tup rows), x2, x3, x4, none, none, none] M = .ok (.frl (((pairsOf rows).filter fun p => !ltv (cut2 p.1) (cut2 p.2)).map fun _ => D.int 1)) M := by
              intro M
              refine (lc_zip rows (rows.drop 1) (fun q => !ltv (cut2 q.1) (cut2 q.2)) (fun _ => .int 1) (by simp [cut_from1]) (size_small hl) fun q hq => ⟨[some (.int day), some (.tup rows), x2, x3, x4, none, some q.1, some q.2], rfl, ?_, fun _ => by simp⟩)
              have h1 := List.all_eq_true.mp ha q.1 (List.of_mem_zip hq).1
              have h2 := List.all_eq_true.mp ha q.2 (List.mem_of_mem_drop (List.of_mem_zip hq).2)
              obtain ⟨s1, e1, c1, q1, _⟩ := rowB_rows h1
              obtain ⟨s2, e2, c2, q2, _⟩ := rowB_rows h2
              have t2 : ∀ xs : List D, cutD xs none (some 2) = xs.take 2 := fun xs => cut_to xs 2
              have hg : geM (.tup [.int s1, .int e1]) (.tup [.int s2, .int e2]) M = .ok (.bl (!ltv (.tup [.int s1, .int e1]) (.tup [.int s2, .int e2]))) M := by
                show (if cmpOk (.tup [.int s1, .int e1]) (.tup [.int s2, .int e2]) = true then _ else _) = _
                rw [if_pos cmp_pair]
                rfl
              simp [q1, q2, t2, cut2, hg]
            simp [m__law_are_shifts, isA, h12z, h12', e1, he, hne, hf, e2, eq_nil (okDs_ones _), filt_nil, shB, ha, W_ok]
        · have hall : rows.all (fun x => isRow x 3 3) = false := Bool.eq_false_iff.mpr hall
          have he : (rows.filter fun x => !isRow x 3 3).isEmpty = false := by
            rw [Bool.eq_false_iff]
            intro z
            rw [List.isEmpty_iff, List.filter_eq_nil_iff] at z
            rw [Bool.eq_false_iff] at hall
            exact hall (List.all_eq_true.mpr fun x hx => by simpa using z x hx)
          have hrow : rows.all (rowB day) = false := by
            rw [Bool.eq_false_iff]
            intro z
            rw [Bool.eq_false_iff] at hall
            refine hall (List.all_eq_true.mpr fun x hx => ?_)
            obtain ⟨s, e, c, q, _⟩ := rowB_rows (List.all_eq_true.mp z x hx)
            rw [q]; rfl
          have ho : okDs (rows.filter fun x => !isRow x 3 3) = true := okDs_of fun x hx => (hi x (List.mem_filter.mp hx).1).ok
          simp [m__law_are_shifts, isA, h12z, e1, ne_nil ho, he, shB, hrow, W_ok]
      obtain ⟨d, M', e1, e2, e3⟩ := key.get
      rw [e1, e2, e3]
  | _ => simp [m__law_are_shifts, isA, shB] <;> simp [simple] at hs
/-! ### what the program asks first -/
theorem need_day_eq {day : Int} {M : Mem} (h : 1 ≤ day ∧ day ≤ 60) : m_need_day [.int day] M = .ok .non M := by
  have e : m_is_number [.int day, .int 1, .int 60] M = .ok (.bl true) M := by rw [is_number_eq simple_int, isNum_int]; simp [h]
  simp [m_need_day, e]
theorem need_shifts_eq {v : D} {day : Int} {M : Mem} {B : Int} {k : Nat} (hd : 1 ≤ day ∧ day ≤ 60) (h : pd B 1000 k v) (hs : shB day v = true) : m_need_shifts [.int day, v] M = .ok .non M := by
  have e := fits_shifts_eq (v := v) (day := day) (M := M) h.simple h.items.1 fun x hx => ⟨(h.items.2 x hx).simple, fun y hy => ((h.items.2 x hx).items.2 y hy).simple⟩
  simp [m_need_shifts, need_day_eq hd, e, hs]
theorem need_all_eq {v u : D} {day : Int} {M : Mem} {B : Int} {k : Nat} (hd : 1 ≤ day ∧ day ≤ 60) (h : pd B 1000 k v) (hs : shB day v = true) (h2 : pd B 1000 k u) (hn : ndB day u = true) : m_need_all [.int day, v, u] M = .ok .non M := by
  simp [m_need_all, need_shifts_eq hd h hs, fits_need_eq h2, hn]
theorem are_shifts_eq {v : D} {day : Int} {M : Mem} {B : Int} {k : Nat} (hd : 1 ≤ day ∧ day ≤ 60) (h : pd B 1000 k v) : m_are_shifts [.int day, v] M = .ok (.bl (shB day v)) M := by
  have e := fits_shifts_eq (v := v) (day := day) (M := M) h.simple h.items.1 fun x hx => ⟨(h.items.2 x hx).simple, fun y hy => ((h.items.2 x hx).items.2 y hy).simple⟩
  simp [m_are_shifts, need_day_eq hd, e]
theorem is_need_eq {v : D} {day : Int} {M : Mem} {B : Int} {k : Nat} (hd : 1 ≤ day ∧ day ≤ 60) (h : pd B 1000 k v) : m_is_need [.int day, v] M = .ok (.bl (ndB day v)) M := by
  simp [m_is_need, need_day_eq hd, fits_need_eq h]
end K56

set_option Elab.async false
set_option linter.all false
set_option maxRecDepth 100000
set_option maxHeartbeats 4000000
namespace K56
open Mini
abbrev Row := Int × Int × Int
def rowD (r : Row) : D := .tup [.int r.1, .int r.2.1, .int r.2.2]
def shD (sh : List Row) : D := .tup (sh.map rowD)
/-- what the pairs of shift and number make of a minute -/
def wk (ps : List (Row × Int)) (t : Nat) : Int := ((ps.filter fun p => decide (p.1.1 ≤ (t : Int)) && decide ((t : Int) < p.1.2.1)).map Prod.snd).sum
def works (day : Nat) (sh : List Row) (cv : List Int) : List Int := (List.range day).map (wk (sh.zip cv))
theorem lst_last {M : Mem} {xs : List D} : lstAt (M ++ [.lst xs]) M.length = some xs := by
  unfold lstAt
  rw [List.getElem?_append_right (Nat.le_refl _), Nat.sub_self]
  rfl
theorem set_last {M : Mem} {o o' : MO} : (M ++ [o]).set M.length o' = M ++ [o'] := by
  rw [List.set_append_right _ _ (Nat.le_refl _), Nat.sub_self]
  rfl
theorem get_last' {M : Mem} {o : MO} : (M ++ [o])[M.length]? = some o := by
  rw [List.getElem?_append_right (Nat.le_refl _), Nat.sub_self]
  rfl
theorem dI_len {xs : List Int} : (dI xs).length = xs.length := List.length_map _
theorem dI_app {xs ys : List Int} : dI (xs ++ ys) = dI xs ++ dI ys := List.map_append
theorem zip_maps (sh : List Row) (cv : List Int) : (sh.map rowD).zip (dI cv) = (sh.zip cv).map fun p => (rowD p.1, D.int p.2) := by
  unfold dI
  rw [List.zip_map]
  rfl
theorem filt_map {α γ : Type} (f : α → γ) (p : γ → Bool) (l : List α) : (l.map f).filter p = (l.filter fun x => p (f x)).map f := by
  rw [List.filter_map]; rfl
/-- zip(shifts, cover) in a comprehension -/
theorem lc_rows {vs : List Nat} {src : MEnv → Mem → R Src} {p : Pat} {c : MEnv → Mem → R Bool} {e : ME'} {ρ : MEnv} {M : Mem} (sh : List Row) (cv : List Int) (cb : Row × Int → Bool) (g : Row × Int → D)
    (hs : src ρ M = .ok (.zip (.fix (sh.map rowD)) (.fix (dI cv))) M) (hz : sh.length ≤ 1000)
    (h : ∀ q, q ∈ sh.zip cv → ∃ ρ1, p (.tup [rowD q.1, .int q.2]) (wipeD ρ vs) = some ρ1 ∧ c ρ1 M = .ok (cb q) M ∧ (cb q = true → e ρ1 M = .ok (g q) M)) : lcV vs src p c e ρ M = .ok (.frl (((sh.zip cv).filter cb).map g)) M := by
  -- over the pairs as they stand
  have key : W (lcV vs src p c e ρ M) fun d M' => d = .frl (((sh.zip cv).filter cb).map g) ∧ M' = M := by
    refine W_lcV ?_
    rw [hs, W_ok]
    have hl : (sh.zip cv).length ≤ sh.length := by rw [List.length_zip]; omega
    have hlen : ((sh.map rowD).zip (dI cv)).length = (sh.zip cv).length := by rw [zip_maps, List.length_map]
    refine ⟨(sh.zip cv).length, fun i => .tup [(sh.map rowD).getD i .non, (dI cv).getD i .non], fun i acc M' => acc = (((sh.zip cv).take i).filter cb).map g ∧ M' = M, size_small (by omega), ?_, ⟨rfl, rfl⟩, fun i acc M' hi ⟨_, hm⟩ => ?_, fun i acc M' hi ⟨ha, hm⟩ => ?_, fun acc M' ⟨ha, hm⟩ => ?_⟩
    · simp [Src.len, Sq.len, dI_len]
    · rw [← hlen] at hi ⊢
      exact get_zip hi
    · subst hm
      have hi' := hi
      rw [List.length_zip] at hi'
      have h1 : i < sh.length := by omega
      have h2 : i < cv.length := by omega
      have d1 : (sh.map rowD).getD i .non = rowD sh[i] := by rw [List.getD_eq_getElem?_getD, List.getElem?_map, List.getElem?_eq_getElem h1]; rfl
      have d2 : (dI cv).getD i .non = .int cv[i] := by unfold dI; rw [List.getD_eq_getElem?_getD, List.getElem?_map, List.getElem?_eq_getElem h2]; rfl
      have dz : (sh.zip cv)[i] = (sh[i], cv[i]) := List.getElem_zip
      obtain ⟨ρ1, k1, k2, k3⟩ := h _ (List.getElem_mem hi)
      have ht : (sh.zip cv).take (i + 1) = (sh.zip cv).take i ++ [(sh.zip cv)[i]] := by rw [List.take_add_one, List.getElem?_eq_getElem hi]; rfl
      refine ⟨ρ1, by show p (.tup [(sh.map rowD).getD i .non, (dI cv).getD i .non]) _ = _; rw [d1, d2]; rw [dz] at k1; exact k1, ?_⟩
      rw [k2, W_ok]
      by_cases hc : cb (sh.zip cv)[i] = true
      · rw [if_pos hc, k3 hc, W_ok]
        refine ⟨?_, rfl⟩
        rw [ht, List.filter_append, List.map_append, ha, List.filter_cons, if_pos hc]
        rfl
      · rw [if_neg hc]
        refine ⟨?_, rfl⟩
        rw [ht, List.filter_append, List.map_append, ha, List.filter_cons, if_neg hc]
        simp
    · rw [List.take_length] at ha
      exact ⟨by rw [ha], hm⟩
  obtain ⟨d, M', e1, e2, e3⟩ := key.get
  rw [e1, e2, e3]
theorem rangeL_get {n i : Nat} {lo : Int} (h : i < n) : (rangeL lo n).getD i .non = .int (lo + i) := by
  unfold rangeL
  rw [List.getD_eq_getElem?_getD, List.getElem?_map, List.getElem?_range h]
  rfl
theorem rangeL_len {n : Nat} {lo : Int} : (rangeL lo n).length = n := by simp [rangeL]
theorem small62 {n : Int} (h0 : -100000 ≤ n) (h1 : n ≤ 100000) : -(2 ^ 62) ≤ n ∧ n < 2 ^ 62 := by
  have e : (2 : Int) ^ 62 = 4611686018427387904 := by decide
  rw [e]
  omega
theorem rng1_ok {e : ME'} {ρ : MEnv} {M M' : Mem} {n : Nat} (h : e ρ M = .ok (.int n) M') (hn : n ≤ 100000) : rng1I e ρ M = .ok (.one (.fix (rangeL 0 n))) M' := by
  rw [z_rng1, h, z_bind_ok]
  show (if -(2 ^ 62) ≤ (n : Int) ∧ (n : Int) < 2 ^ 62 then R.ok (Src.one (.fix (rangeL 0 (n : Int).toNat))) M' else .stuck) = _
  rw [if_pos (small62 (by omega) (by omega)), Int.toNat_natCast]
theorem rng2_ok {e e2 : ME'} {ρ : MEnv} {M : Mem} {i j : Int} (h : e ρ M = .ok (.int i) M) (h2 : e2 ρ M = .ok (.int j) M) (a : -100000 ≤ i ∧ i ≤ 100000) (b : -100000 ≤ j ∧ j ≤ 100000) : rng2I e e2 ρ M = .ok (.one (.fix (rangeL i (j - i).toNat))) M := by
  rw [z_rng2, h, z_bind_ok, h2, z_bind_ok]
  show (if -(2 ^ 62) ≤ i ∧ i < 2 ^ 62 ∧ -(2 ^ 62) ≤ j ∧ j < 2 ^ 62 then R.ok (Src.one (.fix (rangeL i (j - i).toNat))) M else .stuck) = _
  rw [if_pos ⟨(small62 a.1 a.2).1, (small62 a.1 a.2).2, (small62 b.1 b.2).1, (small62 b.1 b.2).2⟩]
theorem law_works_eq {day : Nat} {sh : List Row} {cv : List Int} {M : Mem} (hd : day ≤ 60) (hs : sh.length ≤ 1000) : m__law_works [.int day, shD sh, .tup (dI cv)] M = .ok (.ref M.length) (M ++ [.lst (dI (works day sh cv))]) := by
  have key : W (m__law_works [.int day, shD sh, .tup (dI cv)] M) fun d M' => d = .ref M.length ∧ M' = M ++ [.lst (dI (works day sh cv))] := by
    unfold m__law_works
    refine W_fn rfl ?_
    refine W_seq ?_
    refine W_asg ?_
    rw [z_lstM, z_nil, z_bind_ok, if_pos (size_small (by simp)), W_ok]
    refine W_seq (W_for ?_)
    have es : rng1I (varE 0) [some (.int day), some (shD sh), some (.tup (dI cv)), some (.ref M.length), none, none, none, none, none] (M ++ [.lst []]) = .ok (.one (.fix (rangeL 0 day))) (M ++ [.lst []]) := by
      exact rng1_ok (n := day) rfl (by omega)
    have h0 : (startD 9 [.int (day : Int), shD sh, .tup (dI cv)]).set 3 (some (.ref M.length)) = [some (.int day), some (shD sh), some (.tup (dI cv)), some (.ref M.length), none, none, none, none, none] := rfl
    rw [h0, es, W_ok]
    refine ⟨day, fun i => (rangeL 0 day).getD i .non, fun i ρ M' => M' = M ++ [.lst (dI ((works day sh cv).take i))] ∧ ∃ x4, ρ = [some (.int day), some (shD sh), some (.tup (dI cv)), some (.ref M.length), x4, none, none, none, none], rangeL_len, ⟨rfl, none, rfl⟩, fun i ρ M' hi _ => ?_, fun i ρ M' hi ⟨hm, x4, hρ⟩ => ?_, fun ρ M' ⟨hm, x4, hρ⟩ => ?_⟩
    · have := get_fix (ds := rangeL 0 day) (i := i) (M := M') (by rw [rangeL_len]; exact hi)
      rw [rangeL_len] at this
      exact this
    · subst hm hρ
      refine ⟨[some (.int day), some (shD sh), some (.tup (dI cv)), some (.ref M.length), some (.int i), none, none, none, none], by show pN 4 ((rangeL 0 day).getD i .non) _ = _; rw [rangeL_get hi, Int.zero_add]; rfl, W_expr ?_⟩
      have e1 : ∀ N : Mem, lcV [5, 6, 7, 8] (zipI (varE 1) (varE 2)) (pT 2 (pCons (pT 3 (pCons (pN 5) (pCons (pN 6) (pCons (pN 7) pNil)))) (pCons (pN 8) pNil))) (tst (chn leM ltM (varE 5) (varE 4) (varE 6))) (varE 8)
          [some (.int day), some (shD sh), some (.tup (dI cv)), some (.ref M.length), some (.int i), none, none, none, none] N = .ok (.frl (dI (((sh.zip cv).filter fun p => decide (p.1.1 ≤ (i : Int)) && decide ((i : Int) < p.1.2.1)).map Prod.snd))) N := by
        intro N
        refine (lc_rows sh cv (fun p => decide (p.1.1 ≤ (i : Int)) && decide ((i : Int) < p.1.2.1)) (fun p => .int p.2) (by simp [shD]) hs fun q hq => ⟨[some (.int day), some (shD sh), some (.tup (dI cv)), some (.ref M.length), some (.int i), some (.int q.1.1), some (.int q.1.2.1), some (.int q.1.2.2), some (.int q.2)], rfl, ?_, fun _ => by simp⟩).trans ?_
        · by_cases h1 : q.1.1 ≤ (i : Int) <;> simp [h1]
        · rw [map_dI]
      have hw : (((sh.zip cv).filter fun p => decide (p.1.1 ≤ (i : Int)) && decide ((i : Int) < p.1.2.1)).map Prod.snd).sum = wk (sh.zip cv) i := rfl
      have ht : (works day sh cv).take (i + 1) = (works day sh cv).take i ++ [wk (sh.zip cv) i] := by
        rw [List.take_add_one, works, List.getElem?_map, List.getElem?_range hi]; rfl
      have ha : appE (varE 3) (biE (g1 sumM) (consL (lcV [5, 6, 7, 8] (zipI (varE 1) (varE 2)) (pT 2 (pCons (pT 3 (pCons (pN 5) (pCons (pN 6) (pCons (pN 7) pNil)))) (pCons (pN 8) pNil))) (tst (chn leM ltM (varE 5) (varE 4) (varE 6))) (varE 8)) nilL))
          [some (.int day), some (shD sh), some (.tup (dI cv)), some (.ref M.length), some (.int i), none, none, none, none] (M ++ [.lst (dI ((works day sh cv).take i))]) = .ok .non (M ++ [.lst (dI ((works day sh cv).take (i + 1)))]) := by
        have hz : (dI ((works day sh cv).take i)).length < PySem.sizeLine := by
          have h1 : (dI ((works day sh cv).take i)).length ≤ 60 := by rw [dI_len, List.length_take]; simp [works]; omega
          have := size_small (n := 1000) (Nat.le_refl _)
          omega
        unfold appE
        simp [e1, lst_last, sum_frl, set_last, hz, hw]
        rw [ht, dI_app]
        rfl
      rw [ha, W_ok]
      exact ⟨rfl, _, rfl⟩
    · subst hm hρ
      refine W_ret ?_
      simp [W_ok]
      rw [List.take_of_length_le (by simp [works])]
  obtain ⟨d, M', e1, e2, e3⟩ := key.get
  rw [e1, e2, e3]
end K56

set_option Elab.async false
set_option linter.all false
set_option maxRecDepth 100000
set_option maxHeartbeats 4000000
namespace K56
open Mini
theorem wk_snoc {ps : List (Row × Int)} {p : Row × Int} {t : Nat} : wk (ps ++ [p]) t = wk ps t + (if p.1.1 ≤ (t : Int) ∧ (t : Int) < p.1.2.1 then p.2 else 0) := by
  unfold wk
  rw [List.filter_append, List.map_append, List.sum_append]
  congr 1
  rw [List.filter_cons]
  by_cases h : p.1.1 ≤ (t : Int) ∧ (t : Int) < p.1.2.1
  · simp [h.1, h.2]
  · by_cases h1 : p.1.1 ≤ (t : Int)
    · have h2 : ¬ (t : Int) < p.1.2.1 := fun z => h ⟨h1, z⟩
      simp [h1, h2]
    · simp [h1]
theorem range_set {n t : Nat} {f : Nat → Int} {v : Int} (h : t < n) : ((List.range n).map f).set t v = (List.range n).map fun u => if u = t then v else f u := by
  refine List.ext_getElem? fun u => ?_
  by_cases hu : u = t
  · subst hu
    rw [List.getElem?_set_self (by simpa using h), List.getElem?_map, List.getElem?_range h]
    simp
  · rw [List.getElem?_set_ne (Ne.symm hu), List.getElem?_map, List.getElem?_map]
    by_cases hn : u < n
    · rw [List.getElem?_range hn]; simp [hu]
    · rw [List.getElem?_eq_none (by simpa using hn)]; rfl
theorem dI_set {xs : List Int} {t : Nat} {v : Int} : dI (xs.set t v) = (dI xs).set t (.int v) := List.map_set
theorem dI_get {xs : List Int} {t : Nat} : (dI xs)[t]? = (xs[t]?).map D.int := List.getElem?_map
theorem ix_last {M : Mem} {xs : List D} {t : Nat} {d : D} (h : xs[t]? = some d) : ixD (.ref M.length) (.int t) (M ++ [.lst xs]) = .ok d (M ++ [.lst xs]) := by
  have hl : t < xs.length := (List.getElem?_eq_some_iff.mp h).1
  have e : L2.atI xs (t : Int) = some d := by
    unfold L2.atI L2.ixN
    rw [if_pos (by omega), if_pos (by omega)]
    exact h
  have e2 : itemsOf (M ++ [.lst xs]) (.ref M.length) = some xs := by simp [itemsOf, get_last']
  simp [ixD, e2, e]
theorem z_mulM {xs : List D} {k : Int} {M : Mem} (h : -(2 ^ 63) ≤ k ∧ k < 2 ^ 63 ∧ xs.length * k.toNat ≤ PySem.sizeLine) : mulM (.frl xs) (.int k) M = .ok (.ref M.length) (M ++ [.lst (repD xs k)]) := by
  unfold mulM
  exact if_pos h
theorem mul_zeros {day : Nat} {M : Mem} (h : day ≤ 1000) : mulM (.frl [.int 0]) (.int day) M = .ok (.ref M.length) (M ++ [.lst (dI (List.replicate day 0))]) := by
  have e : repD [.int 0] (day : Int) = dI (List.replicate day 0) := by
    unfold repD dI
    rw [Int.toNat_natCast, List.map_replicate]
    induction day with
    | zero => rfl
    | succ n ih => rw [List.replicate_succ, List.replicate_succ, List.flatten_cons, ih (by omega)]; rfl
  have hz := size_small h
  have h63 : (day : Int) < 2 ^ 63 := by have : (2 : Int) ^ 63 = 9223372036854775808 := by decide
                                        omega
  have h62 : -(2 ^ 63 : Int) ≤ (day : Int) := by have : (2 : Int) ^ 63 = 9223372036854775808 := by decide
                                                 omega
  rw [z_mulM ⟨h62, h63, by rw [Int.toNat_natCast]; simpa using hz⟩, e]
theorem set_item {M : Mem} {ρ : MEnv} {xs : List D} {t : Nat} {d : D} {v o i : ME'} (hv : v ρ (M ++ [.lst xs]) = .ok d (M ++ [.lst xs])) (ho : o ρ (M ++ [.lst xs]) = .ok (.ref M.length) (M ++ [.lst xs])) (hi : i ρ (M ++ [.lst xs]) = .ok (.int t) (M ++ [.lst xs])) (hl : t < xs.length) :
    setI v o i ρ (M ++ [.lst xs]) = .ok (.nx ρ) (M ++ [.lst (xs.set t d)]) := by
  have e : L2.ixN xs.length (t : Int) = some t := by
    unfold L2.ixN
    rw [if_pos (by omega), if_pos (by omega), Int.toNat_natCast]
  unfold setI
  rw [hv, z_bind_ok, ho, z_bind_ok, hi, z_bind_ok]
  simp only [lst_last, e, set_last]
def partial_ (ps : List (Row × Int)) (s : Int) (j : Nat) (m : Int) (t : Nat) : Int := wk ps t + if s ≤ (t : Int) ∧ (t : Int) < s + j then m else 0
abbrev covB : MS' := forS (rng2I (varE 4) (varE 5)) (pN 8) (setI (op2 addD (op2 ixD (varE 3) (varE 8)) (varE 7)) (varE 3) (varE 8))
theorem cov_step {day n : Nat} {M : Mem} {xs : List Int} {t : Nat} {v m : Int} {ρ : MEnv} (h3 : ρ[3]? = some (some (.ref M.length))) (h7 : ρ[7]? = some (some (.int m))) (h8 : ρ[8]? = some (some (.int t))) (hg : xs[t]? = some v) :
    setI (op2 addD (op2 ixD (varE 3) (varE 8)) (varE 7)) (varE 3) (varE 8) ρ (M ++ [.lst (dI xs)]) = .ok (.nx ρ) (M ++ [.lst (dI (xs.set t (v + m)))]) := by
  have e3 : ∀ N, varE 3 ρ N = .ok (.ref M.length) N := fun N => by rw [z_var, h3]
  have e7 : ∀ N, varE 7 ρ N = .ok (.int m) N := fun N => by rw [z_var, h7]
  have e8 : ∀ N, varE 8 ρ N = .ok (.int t) N := fun N => by rw [z_var, h8]
  have hl : t < (dI xs).length := by rw [dI_len]; exact (List.getElem?_eq_some_iff.mp hg).1
  have hx := ix_last (M := M) (xs := dI xs) (t := t) (d := .int v) (by rw [dI_get, hg]; rfl)
  rw [set_item (d := .int (v + m)) (by rw [z_op2, z_op2, e3, z_bind_ok, e8, z_bind_ok, hx, z_bind_ok, e7, z_bind_ok, z_add]) (e3 _) (e8 _) hl, dI_set]
theorem cov_inner {day : Nat} {M : Mem} {ps : List (Row × Int)} {s e c m : Int} {a b : D} {x8 : Option D} (hd : day ≤ 60) (r0 : 0 ≤ s) (r1 : s ≤ e) (r2 : e ≤ day) :
    W (covB [some (.int day), some a, some b, some (.ref M.length), some (.int s), some (.int e), some (.int c), some (.int m), x8] (M ++ [.lst (dI ((List.range day).map (wk ps)))]))
      (QF (fun ρ M' => M' = M ++ [.lst (dI ((List.range day).map (partial_ ps s (e - s).toNat m)))] ∧ ∃ x8, ρ = [some (.int day), some a, some b, some (.ref M.length), some (.int s), some (.int e), some (.int c), some (.int m), x8]) (fun _ _ => False)) := by
  refine W_for ?_
  have es2 : ∀ N : Mem, rng2I (varE 4) (varE 5) [some (.int day), some a, some b, some (.ref M.length), some (.int s), some (.int e), some (.int c), some (.int m), x8] N = .ok (.one (.fix (rangeL s (e - s).toNat))) N :=
    fun N => rng2_ok rfl rfl ⟨by omega, by omega⟩ ⟨by omega, by omega⟩
  rw [es2, W_ok]
  refine ⟨(e - s).toNat, fun j => (rangeL s (e - s).toNat).getD j .non, fun j ρ M' => M' = M ++ [.lst (dI ((List.range day).map (partial_ ps s j m)))] ∧ ∃ x8, ρ = [some (.int day), some a, some b, some (.ref M.length), some (.int s), some (.int e), some (.int c), some (.int m), x8],
    rangeL_len, ⟨?_, _, rfl⟩, fun j ρ M' hj _ => ?_, fun j ρ M' hj ⟨hm2, x8', hρ⟩ => ?_, fun ρ M' h => h⟩
  · have e0 : (List.range day).map (wk ps) = (List.range day).map (partial_ ps s 0 m) := by
      refine List.map_congr_left fun t _ => ?_
      unfold partial_
      rw [if_neg (by omega)]; omega
    rw [e0]
  · have := get_fix (ds := rangeL s (e - s).toNat) (i := j) (M := M') (by rw [rangeL_len]; exact hj)
    rw [rangeL_len] at this
    exact this
  · subst hm2 hρ
    obtain ⟨t, ht0⟩ : ∃ t : Nat, (t : Int) = s + j := ⟨(s + j).toNat, by omega⟩
    have htd : t < day := by omega
    refine ⟨[some (.int day), some a, some b, some (.ref M.length), some (.int s), some (.int e), some (.int c), some (.int m), some (.int t)], by show pN 8 ((rangeL s (e - s).toNat).getD j .non) _ = _; rw [rangeL_get hj, ← ht0]; rfl, ?_⟩
    have hg : ((List.range day).map (partial_ ps s j m))[t]? = some (partial_ ps s j m t) := by rw [List.getElem?_map, List.getElem?_range htd]; rfl
    rw [cov_step (day := day) (n := day) (t := t) rfl rfl rfl hg, W_ok, QF_nx]
    refine ⟨?_, _, rfl⟩
    rw [range_set htd]
    have e0 : ((List.range day).map fun u => if u = t then partial_ ps s j m t + m else partial_ ps s j m u) = (List.range day).map (partial_ ps s (j + 1) m) := by
      refine List.map_congr_left fun u _ => ?_
      unfold partial_
      by_cases hu : u = t
      · subst hu
        rw [if_pos rfl, if_neg (by omega), if_pos (by omega)]; omega
      · rw [if_neg hu]
        by_cases h3 : s ≤ (u : Int) ∧ (u : Int) < s + j
        · rw [if_pos h3, if_pos (by omega)]
        · rw [if_neg h3, if_neg (by omega)]
    rw [e0]
theorem lst_zero {M : Mem} {ρ : MEnv} : lstV (consL (cE (.int 0)) nilL) ρ M = .ok (.frl [.int 0]) M := by
  have hz : [D.int 0].length ≤ PySem.sizeLine := size_small (n := 1) (by omega)
  rw [z_lstV, z_cons, z_c, z_bind_ok, z_nil, z_bind_ok, z_bind_ok, if_pos hz]
theorem var0 {day : Nat} {a b : D} (N : Mem) : varE 0 (startD 9 [.int (day : Int), a, b]) N = .ok (.int day) N := rfl
theorem cov_zero {day : Nat} {a b : D} {M : Mem} (hd : day ≤ 60) : op2 mulM (lstV (consL (cE (.int 0)) nilL)) (varE 0) (startD 9 [.int (day : Int), a, b]) M = .ok (.ref M.length) (M ++ [.lst (dI (List.replicate day 0))]) := by
  rw [z_op2, lst_zero, z_bind_ok, var0, z_bind_ok, mul_zeros (by omega)]
theorem cov_outer {day : Nat} {sh : List Row} {cv : List Int} {M : Mem} (hd : day ≤ 60) (hr : ∀ r ∈ sh, 0 ≤ r.1 ∧ r.1 ≤ r.2.1 ∧ r.2.1 ≤ day) :
    W (forS (zipI (varE 1) (varE 2)) (pT 2 (pCons (pT 3 (pCons (pN 4) (pCons (pN 5) (pCons (pN 6) pNil)))) (pCons (pN 7) pNil))) covB [some (.int day), some (shD sh), some (.tup (dI cv)), some (.ref M.length), none, none, none, none, none] (M ++ [.lst (dI (List.replicate day 0))]))
      (QF (fun ρ M' => M' = M ++ [.lst (dI ((List.range day).map (wk ((sh.zip cv).take (sh.zip cv).length))))] ∧ ∃ x4 x5 x6 x7 x8, ρ = [some (.int day), some (shD sh), some (.tup (dI cv)), some (.ref M.length), x4, x5, x6, x7, x8]) (fun _ _ => False)) := by
  refine W_for ?_
  have es : ∀ N : Mem, zipI (varE 1) (varE 2) [some (.int day), some (shD sh), some (.tup (dI cv)), some (.ref M.length), none, none, none, none, none] N = .ok (.zip (.fix (sh.map rowD)) (.fix (dI cv))) N := fun N => by simp [shD]
  rw [es, W_ok]
  have hlen : ((sh.map rowD).zip (dI cv)).length = (sh.zip cv).length := by rw [zip_maps, List.length_map]
  refine ⟨(sh.zip cv).length, fun i => .tup [(sh.map rowD).getD i .non, (dI cv).getD i .non], fun i ρ M' => M' = M ++ [.lst (dI ((List.range day).map (wk ((sh.zip cv).take i))))] ∧ ∃ x4 x5 x6 x7 x8, ρ = [some (.int day), some (shD sh), some (.tup (dI cv)), some (.ref M.length), x4, x5, x6, x7, x8],
    by simp [Src.len, Sq.len, dI_len], ⟨?_, none, none, none, none, none, rfl⟩, fun i ρ M' hi _ => ?_, fun i ρ M' hi ⟨hm, x4, x5, x6, x7, x8, hρ⟩ => ?_, fun ρ M' h => h⟩
  · have e0 : List.replicate day 0 = (List.range day).map (wk ((sh.zip cv).take 0)) := by
      refine List.ext_getElem? fun u => ?_
      rw [List.getElem?_map]
      by_cases hu : u < day
      · rw [List.getElem?_range hu, List.getElem?_replicate, if_pos hu]; simp [wk]
      · rw [List.getElem?_replicate, if_neg hu, List.getElem?_eq_none (by simpa using hu)]; simp
    rw [e0]
  · rw [← hlen] at hi ⊢
    exact get_zip hi
  · subst hm hρ
    have hi' := hi
    rw [List.length_zip] at hi'
    have h1 : i < sh.length := by omega
    have h2 : i < cv.length := by omega
    have d1 : (sh.map rowD).getD i .non = rowD sh[i] := by rw [List.getD_eq_getElem?_getD, List.getElem?_map, List.getElem?_eq_getElem h1]; rfl
    have d2 : (dI cv).getD i .non = .int cv[i] := by unfold dI; rw [List.getD_eq_getElem?_getD, List.getElem?_map, List.getElem?_eq_getElem h2]; rfl
    obtain ⟨r0, r1, r2⟩ := hr _ (List.getElem_mem h1)
    have hp : pT 2 (pCons (pT 3 (pCons (pN 4) (pCons (pN 5) (pCons (pN 6) pNil)))) (pCons (pN 7) pNil)) (.tup [rowD sh[i], .int cv[i]]) [some (.int day), some (shD sh), some (.tup (dI cv)), some (.ref M.length), x4, x5, x6, x7, x8] =
        some [some (.int day), some (shD sh), some (.tup (dI cv)), some (.ref M.length), some (.int sh[i].1), some (.int sh[i].2.1), some (.int sh[i].2.2), some (.int cv[i]), x8] := by simp [rowD]
    refine ⟨_, by show pT 2 _ (.tup [(sh.map rowD).getD i .non, (dI cv).getD i .non]) _ = _; rw [d1, d2]; exact hp, ?_⟩
    generalize hs' : sh[i].1 = s at hp r0 r1
    generalize he' : sh[i].2.1 = e at hp r1 r2
    generalize hc' : sh[i].2.2 = c at hp
    generalize hm' : cv[i] = m at hp
    refine (cov_inner hd (ps := (sh.zip cv).take i) r0 r1 r2).mono fun f M' q => ?_
    cases f with
    | rt d => exact q.elim
    | nx ρ =>
      obtain ⟨rfl, x8', rfl⟩ := q
      refine ⟨?_, _, _, _, _, _, rfl⟩
      have ht : (sh.zip cv).take (i + 1) = (sh.zip cv).take i ++ [(sh[i], cv[i])] := by rw [List.take_add_one, List.getElem?_eq_getElem hi, List.getElem_zip]; rfl
      have e0 : (List.range day).map (partial_ ((sh.zip cv).take i) s (e - s).toNat m) = (List.range day).map (wk ((sh.zip cv).take (i + 1))) := by
        refine List.map_congr_left fun u _ => ?_
        rw [ht, wk_snoc]
        unfold partial_
        rw [hs', he', hm']
        have : s + ((e - s).toNat : Int) = e := by omega
        rw [this]
      rw [e0]
theorem coverage_eq {day : Nat} {sh : List Row} {cv : List Int} {M : Mem} (hd : day ≤ 60) (hs : sh.length ≤ 1000) (hr : ∀ r ∈ sh, 0 ≤ r.1 ∧ r.1 ≤ r.2.1 ∧ r.2.1 ≤ day) : m_coverage [.int day, shD sh, .tup (dI cv)] M = .ok (.ref M.length) (M ++ [.lst (dI (works day sh cv))]) := by
  have key : W (m_coverage [.int day, shD sh, .tup (dI cv)] M) fun d M' => d = .ref M.length ∧ M' = M ++ [.lst (dI (works day sh cv))] := by
    unfold m_coverage
    refine W_fn rfl ?_
    refine W_seq ?_
    refine W_asg ?_
    rw [cov_zero hd, W_ok]
    have h0 : (startD 9 [.int (day : Int), shD sh, .tup (dI cv)]).set 3 (some (.ref M.length)) = [some (.int day), some (shD sh), some (.tup (dI cv)), some (.ref M.length), none, none, none, none, none] := rfl
    rw [h0]
    refine W_seq ((cov_outer hd hr).mono fun f M' q => ?_)
    cases f with
    | rt d => exact q.elim
    | nx ρ =>
      obtain ⟨rfl, x4, x5, x6, x7, x8, rfl⟩ := q
      refine W_ret ?_
      rw [List.take_length]
      exact ⟨_, _, rfl, rfl, rfl⟩
  obtain ⟨d, M', e1, e2, e3⟩ := key.get
  rw [e1, e2, e3]
end K56

set_option Elab.async false
set_option linter.all false
set_option maxRecDepth 100000
set_option maxHeartbeats 4000000
namespace K56
open Mini
theorem lc_zipG {vs : List Nat} {src : MEnv → Mem → R Src} {p : Pat} {c : MEnv → Mem → R Bool} {e : ME'} {ρ : MEnv} {M N : Mem} {S : Src} (xs ys : List D) (cb : D × D → Bool) (g : D × D → D) (hs : src ρ M = .ok S N) (hlen : S.len N = (xs.zip ys).length)
    (hget : ∀ i, S.get i N = (Src.zip (.fix xs) (.fix ys)).get i N) (hz : xs.length ≤ 1000)
    (h : ∀ q, q ∈ xs.zip ys → ∃ ρ1, p (.tup [q.1, q.2]) (wipeD ρ vs) = some ρ1 ∧ c ρ1 N = .ok (cb q) N ∧ (cb q = true → e ρ1 N = .ok (g q) N)) : lcV vs src p c e ρ M = .ok (.frl (((xs.zip ys).filter cb).map g)) N := by
  have hl : (xs.zip ys).length ≤ xs.length := by rw [List.length_zip]; omega
  have key : W (lcV vs src p c e ρ M) fun d M' => d = .frl (((xs.zip ys).filter cb).map g) ∧ M' = N := by
    refine W_lcV ?_
    rw [hs, W_ok]
    refine ⟨(xs.zip ys).length, fun i => .tup [xs.getD i .non, ys.getD i .non], fun i acc M' => acc = (((xs.zip ys).take i).filter cb).map g ∧ M' = N, size_small (by omega), hlen, ⟨rfl, rfl⟩, fun i acc M' hi ⟨_, hm⟩ => ?_, fun i acc M' hi ⟨ha, hm⟩ => ?_, fun acc M' ⟨ha, hm⟩ => ?_⟩
    · subst hm; rw [hget]; exact get_zip hi
    · subst hm
      have hi' := hi
      rw [List.length_zip] at hi'
      have h1 : i < xs.length := by omega
      have h2 : i < ys.length := by omega
      have d1 : xs.getD i .non = xs[i] := by rw [List.getD_eq_getElem?_getD, List.getElem?_eq_getElem h1]; rfl
      have d2 : ys.getD i .non = ys[i] := by rw [List.getD_eq_getElem?_getD, List.getElem?_eq_getElem h2]; rfl
      have dz : (xs.zip ys)[i] = (xs[i], ys[i]) := List.getElem_zip
      obtain ⟨ρ1, k1, k2, k3⟩ := h _ (List.getElem_mem hi)
      have ht : (xs.zip ys).take (i + 1) = (xs.zip ys).take i ++ [(xs.zip ys)[i]] := by rw [List.take_add_one, List.getElem?_eq_getElem hi]; rfl
      refine ⟨ρ1, by show p (.tup [xs.getD i .non, ys.getD i .non]) _ = _; rw [d1, d2]; rw [dz] at k1; exact k1, ?_⟩
      rw [k2, W_ok]
      by_cases hc : cb (xs.zip ys)[i] = true
      · rw [if_pos hc, k3 hc, W_ok]
        refine ⟨?_, rfl⟩
        rw [ht, List.filter_append, List.map_append, ha, List.filter_cons, if_pos hc]
        rfl
      · rw [if_neg hc]
        refine ⟨?_, rfl⟩
        rw [ht, List.filter_append, List.map_append, ha, List.filter_cons, if_neg hc]
        simp
    · rw [List.take_length] at ha
      exact ⟨by rw [ha], hm⟩
  obtain ⟨d, M', e1, e2, e3⟩ := key.get
  rw [e1, e2, e3]
theorem get_ls {xs ys : List D} {n i : Nat} {N : Mem} (h : N[n]? = some (.lst xs)) : (Src.zip (.ls n) (.fix ys)).get i N = (Src.zip (.fix xs) (.fix ys)).get i N := by
  simp [Src.get, Sq.get, h]
theorem len_ls {xs ys : List D} {n : Nat} {N : Mem} (h : N[n]? = some (.lst xs)) : (Src.zip (.ls n) (.fix ys)).len N = (xs.zip ys).length := by
  simp [Src.len, Sq.len, h]
def intD : D → Int
  | .int i => i
  | _ => 0
theorem fz_ints : ∀ {xs : List D}, xs.all isFz = true → xs = dI (xs.map intD)
  | [], _ => rfl
  | x :: r, h => by
    rw [List.all_cons, Bool.and_eq_true] at h
    have ih := fz_ints h.2
    cases x <;> simp [isFz] at h
    unfold dI at ih ⊢
    rw [List.map_cons, List.map_cons, ← ih]
    rfl
/-- enough in each minute -/
def enough (ws nd : List Int) : Bool := (ws.zip nd).all fun p => decide (p.2 ≤ p.1)
def cvB (day : Nat) (sh : List Row) (nd : List Int) (v : D) : Bool := match v with
  | .tup xs => decide (xs.length = sh.length) && xs.all isFz && enough (works day sh (xs.map intD)) nd
  | _ => false
theorem zip_ints (ws nd : List Int) : (dI ws).zip (dI nd) = (ws.zip nd).map fun p => (D.int p.1, D.int p.2) := by
  unfold dI
  rw [List.zip_map]
  rfl
section
variable {day : Nat} {sh : List Row} {nd : List Int} {v : D} {M : Mem} {B : Int} {k : Nat}
theorem works_len {cv : List Int} : (works day sh cv).length = day := by simp [works]
theorem fits_cover_eq (hd : day ≤ 60) (hs : sh.length ≤ 1000) (hr : ∀ r ∈ sh, 0 ≤ r.1 ∧ r.1 ≤ r.2.1 ∧ r.2.1 ≤ day) (h : pd B 1000 k v) : ∃ e, m_fits_cover [.int day, shD sh, .tup (dI nd), v] M = .ok (.bl (cvB day sh nd v)) (M ++ e) := by
  have hv := h.simple
  obtain ⟨hl, hi⟩ := h.items
  have hlen : ∀ N, lenM (shD sh) N = .ok (.int sh.length) N := fun N => by simp [shD]
  cases hrow : isRow v sh.length sh.length with
  | false =>
    have e : cvB day sh nd v = false := by
      unfold cvB
      split
      · rename_i ys
        have hn : ¬ ys.length = sh.length := fun z => by
          simp [isRow] at hrow
          have := hrow (by omega)
          omega
        simp [hn]
      · rfl
    exact ⟨[], by simp [m_fits_cover, hlen, is_row_eq hv, hrow, e]⟩
  | true =>
    obtain ⟨xs, rfl⟩ : ∃ rows, v = .tup rows := by
      cases v <;> simp [isRow] at hrow
      exact ⟨_, rfl⟩
    have hn : xs.length = sh.length := by simp [isRow] at hrow; omega
    have e1 : ∀ N : Mem, lcV [4] (seqI (varE 3)) (pN 4) yesT (callE m_is_from_zero (consL (varE 4) nilL)) [some (.int day), some (shD sh), some (.tup (dI nd)), some (.tup xs), none, none] N = .ok (.frl (bls (xs.map isFz))) N := by
      intro N
      refine (lc_tup xs (fun _ => true) (fun d => .bl (isFz d)) rfl (size_small hl) fun d hd => ⟨[some (.int day), some (shD sh), some (.tup (dI nd)), some (.tup xs), some d, none], rfl, rfl, fun _ => ?_⟩).trans ?_
      · simp [is_from_zero_eq (hi d hd).simple]
      · rw [filt_true, map_bls]
    cases ha : xs.all isFz with
    | false =>
      have ea : (xs.map isFz).all id = false := by rw [List.all_map]; exact ha
      exact ⟨[], by simp [m_fits_cover, hlen, is_row_eq hv, hrow, e1, all_frl, ea, cvB, ha]⟩
    | true =>
      have ea : (xs.map isFz).all id = true := by rw [List.all_map]; exact ha
      have ex := fz_ints ha
      have hc := coverage_eq (M := M) (cv := xs.map intD) hd hs hr
      rw [← ex] at hc
      refine ⟨[.lst (dI (works day sh (xs.map intD)))], ?_⟩
      have e2 : lcV [4, 5] (zipI (callE m_coverage (consL (varE 0) (consL (varE 1) (consL (varE 3) nilL)))) (varE 2)) (pT 2 (pCons (pN 4) (pCons (pN 5) pNil))) yesT (op2 geM (varE 4) (varE 5)) [some (.int day), some (shD sh), some (.tup (dI nd)), some (.tup xs), none, none] M =
          .ok (.frl (bls (((works day sh (xs.map intD)).zip nd).map fun p => decide (p.2 ≤ p.1)))) (M ++ [.lst (dI (works day sh (xs.map intD)))]) := by
        have hsrc : zipI (callE m_coverage (consL (varE 0) (consL (varE 1) (consL (varE 3) nilL)))) (varE 2) [some (.int day), some (shD sh), some (.tup (dI nd)), some (.tup xs), none, none] M = .ok (.zip (.ls M.length) (.fix (dI nd))) (M ++ [.lst (dI (works day sh (xs.map intD)))]) := by
          simp [hc, z_zipJ_rt (get_last' (M := M) (o := .lst (dI (works day sh (xs.map intD)))))]
        refine (lc_zipG (dI (works day sh (xs.map intD))) (dI nd) (fun _ => true) (fun q => .bl (decide (intD q.2 ≤ intD q.1))) hsrc (len_ls get_last') (fun i => get_ls get_last') (by rw [dI_len, works_len]; omega) fun q hq => ?_).trans ?_
        · rw [zip_ints] at hq
          obtain ⟨p, _, rfl⟩ := List.mem_map.mp hq
          exact ⟨[some (.int day), some (shD sh), some (.tup (dI nd)), some (.tup xs), some (.int p.1), some (.int p.2)], rfl, rfl, fun _ => by simp [intD]; try rfl⟩
        · rw [filt_true, zip_ints, List.map_map, ← map_bls]
          rfl
      simp [m_fits_cover, hlen, is_row_eq hv, hrow, e1, all_frl, ea, e2, cvB, ha, hn, enough, List.all_map, Function.comp_def]
/-! the law's own -/
theorem pow64 {M : Mem} : powD (.int 10) (.int 64) M = .ok (.int (10 ^ 64)) M := by
  show (if (decide ((0 : Int) ≤ 64 ∧ (64 : Int) ≤ 1000000 ∧ (10 : Int).natAbs < 2 ^ 64)) = true then R.ok (D.int ((10 : Int) ^ (64 : Int).toNat)) M else .stuck) = _
  rw [if_pos (by decide)]
  rfl
/-- ints that are not below 0: the same for both -/
theorem fz_num {d : D} (h : pd B 1000 k d) (hB : B ≤ 100000) : isNum d 0 (10 ^ 64) = isFz d := by
  have big : (100000 : Int) ≤ 10 ^ 64 := by decide
  cases k with
  | zero =>
    cases d <;> simp only [pd, flatP] at h <;> simp [isNum, isFz]
    rename_i i
    by_cases h0 : 0 ≤ i
    · simp [h0]; omega
    · simp [h0]
  | succ k =>
    rcases h with h | ⟨xs, e | e, _, _⟩
    · cases d <;> simp only [flatP] at h <;> simp [isNum, isFz]
      rename_i i
      by_cases h0 : 0 ≤ i
      · simp [h0]; omega
      · simp [h0]
    · subst e; rfl
    · subst e; rfl
theorem law_is_cover_eq (hB : B ≤ 100000) (hd : day ≤ 60) (hs : sh.length ≤ 1000) (h : pd B 1000 k v) : ∃ e, m__law_is_cover [.int day, shD sh, .tup (dI nd), v] M = .ok (.bl (cvB day sh nd v)) (M ++ e) := by
  have hv := h.simple
  obtain ⟨hl, hi⟩ := h.items
  have hlen : ∀ N, lenM (shD sh) N = .ok (.int sh.length) N := fun N => by simp [shD]
  cases v with
  | tup xs =>
    by_cases hn : xs.length = sh.length
    · have hnz : (xs.length : Int) = sh.length := by omega
      have e1 : ∀ N : Mem, lcV [4] (seqI (varE 3)) (pN 4) (notT (tst (callE m__law_is_number (consL (varE 4) (consL (cE (.int 0)) (consL (op2 powD (cE (.int 10)) (cE (.int 64))) nilL)))))) (varE 4) [some (.int day), some (shD sh), some (.tup (dI nd)), some (.tup xs), none, none] N = .ok (.frl (xs.filter fun d => !isFz d)) N := by
        intro N
        refine (lc_tup xs (fun d => !isFz d) (fun d => d) rfl (size_small hl) fun d hd => ⟨[some (.int day), some (shD sh), some (.tup (dI nd)), some (.tup xs), some d, none], rfl, ?_, fun _ => by simp⟩).trans (by simp)
        have fz := fz_num (hi d hd) hB
        simp at fz
        simp [pow64, law_is_number_eq (hi d hd).simple, fz]
      have ho : okDs (xs.filter fun d => !isFz d) = true := okDs_of fun x hx => (hi x (List.mem_filter.mp hx).1).ok
      cases ha : xs.all isFz with
      | false => exact ⟨[], by simp [m__law_is_cover, isA, hlen, hn, hnz, e1, ne_nil ho, filt_nil, ha, cvB]⟩
      | true =>
        have ex := fz_ints ha
        have hc := law_works_eq (M := M) (sh := sh) (cv := xs.map intD) hd hs
        rw [← ex] at hc
        refine ⟨[.lst (dI (works day sh (xs.map intD)))], ?_⟩
        have e2 : lcV [4, 5] (zipI (callE m__law_works (consL (varE 0) (consL (varE 1) (consL (varE 3) nilL)))) (varE 2)) (pT 2 (pCons (pN 4) (pCons (pN 5) pNil))) (tst (op2 ltM (varE 4) (varE 5))) (cE (.int 1)) [some (.int day), some (shD sh), some (.tup (dI nd)), some (.tup xs), none, none] M =
            .ok (.frl ((((works day sh (xs.map intD)).zip nd).filter fun p => !decide (p.2 ≤ p.1)).map fun _ => D.int 1)) (M ++ [.lst (dI (works day sh (xs.map intD)))]) := by
          have hsrc : zipI (callE m__law_works (consL (varE 0) (consL (varE 1) (consL (varE 3) nilL)))) (varE 2) [some (.int day), some (shD sh), some (.tup (dI nd)), some (.tup xs), none, none] M = .ok (.zip (.ls M.length) (.fix (dI nd))) (M ++ [.lst (dI (works day sh (xs.map intD)))]) := by
            simp [hc, z_zipJ_rt (get_last' (M := M) (o := .lst (dI (works day sh (xs.map intD)))))]
          refine (lc_zipG (dI (works day sh (xs.map intD))) (dI nd) (fun q => !decide (intD q.2 ≤ intD q.1)) (fun _ => .int 1) hsrc (len_ls get_last') (fun i => get_ls get_last') (by rw [dI_len, works_len]; omega) fun q hq => ?_).trans ?_
          · rw [zip_ints] at hq
            obtain ⟨p, _, rfl⟩ := List.mem_map.mp hq
            refine ⟨[some (.int day), some (shD sh), some (.tup (dI nd)), some (.tup xs), some (.int p.1), some (.int p.2)], rfl, ?_, fun _ => by simp⟩
            by_cases hp : p.1 < p.2
            · have : ¬ p.2 ≤ p.1 := by omega
              simp [intD, hp, this]
            · have : p.2 ≤ p.1 := by omega
              simp [intD, hp, this]
          · rw [zip_ints, filt_map, List.map_map]
            rfl
        simp [m__law_is_cover, isA, hlen, hn, hnz, e1, ne_nil ho, filt_nil, ha, e2, eq_nil (okDs_ones _), cvB, enough]
    · have hnz : ¬ (xs.length : Int) = sh.length := by omega
      exact ⟨[], by simp [m__law_is_cover, isA, hlen, hn, hnz, cvB]⟩
  | _ => exact ⟨[], by simp [m__law_is_cover, isA, cvB] <;> simp [simple] at hv⟩
theorem pd_ints {xs : List Int} {L : Nat} (hl : xs.length ≤ L) (h : ∀ i ∈ xs, -B ≤ i ∧ i ≤ B) : pd B L 1 (.tup (dI xs)) := .inr ⟨_, .inl rfl, by rw [dI_len]; exact hl, fun x hx => by
  obtain ⟨i, hi, rfl⟩ := List.mem_map.mp hx
  exact h i hi⟩
/-- shifts of the day, as they are made -/
structure ShOk (day : Nat) (sh : List Row) : Prop where
  len : sh.length ≤ 12
  rows : ∀ r ∈ sh, 0 ≤ r.1 ∧ r.1 + 1 ≤ r.2.1 ∧ r.2.1 ≤ day ∧ 1 ≤ r.2.2 ∧ r.2.2 ≤ 99
  ups : (pairsOf (sh.map rowD)).all (fun p => ltv (cut2 p.1) (cut2 p.2)) = true
theorem ShOk.shB (h : ShOk day sh) : shB day (shD sh) = true := by
  have h1 : (sh.map rowD).all (rowB day) = true := List.all_eq_true.mpr fun x hx => by
    obtain ⟨r, hr, rfl⟩ := List.mem_map.mp hx
    obtain ⟨a, b, c, d, e⟩ := h.rows r hr
    simp [rowD, rowB, isNum]
    omega
  simp [K56.shB, shD, h1, h.len, h.ups]
theorem ShOk.pd (h : ShOk day sh) (hd : day ≤ 60) : pd 100 1000 2 (shD sh) := .inr ⟨_, .inl rfl, by rw [List.length_map]; have := h.len; omega, fun x hx => by
  obtain ⟨r, hr, rfl⟩ := List.mem_map.mp hx
  obtain ⟨a, b, c, d, e⟩ := h.rows r hr
  refine .inr ⟨_, .inl rfl, by simp, fun y hy => ?_⟩
  simp at hy
  rcases hy with rfl | rfl | rfl <;> simp only [K56.pd, flatP] <;> omega⟩
theorem ShOk.rng (h : ShOk day sh) : ∀ r ∈ sh, 0 ≤ r.1 ∧ r.1 ≤ r.2.1 ∧ r.2.1 ≤ day := fun r hr => by
  obtain ⟨a, b, c, d, e⟩ := h.rows r hr
  omega
structure NdOk (day : Nat) (nd : List Int) : Prop where
  len : nd.length = day
  rng : ∀ i ∈ nd, 0 ≤ i ∧ i ≤ 50
theorem NdOk.ndB (h : NdOk day nd) : ndB day (.tup (dI nd)) = true := by
  have h1 : (dI nd).all (fun x => isNum x 0 50) = true := List.all_eq_true.mpr fun x hx => by
    obtain ⟨i, hi, rfl⟩ := List.mem_map.mp hx
    simp [isNum]; exact h.rng i hi
  simp [K56.ndB, h1, dI_len, h.len]
theorem NdOk.pd (h : NdOk day nd) (hd : day ≤ 60) : pd 100 1000 2 (.tup (dI nd)) :=
  (pd_ints (B := 100) (L := 1000) (by rw [h.len]; omega) fun i hi => by have := h.rng i hi; omega).mono (Int.le_refl _) (Nat.le_refl _) (by omega)
theorem is_cover_eq (h1 : 1 ≤ day) (hd : day ≤ 60) (hs : ShOk day sh) (hn : NdOk day nd) (h : pd B 1000 k v) : ∃ e, m_is_cover [.int day, shD sh, .tup (dI nd), v] M = .ok (.bl (cvB day sh nd v)) (M ++ e) := by
  obtain ⟨e, he⟩ := fits_cover_eq (M := M) (nd := nd) hd (by have := hs.len; omega) hs.rng h
  exact ⟨e, by simp [m_is_cover, need_all_eq (M := M) ⟨by omega, by omega⟩ (hs.pd hd) hs.shB (hn.pd hd) hn.ndB, he]⟩
/-! ### what a cover costs -/
def costI (sh : List Row) (cv : List Int) : Int := ((sh.zip cv).map fun p => p.2 * p.1.2.2).sum
theorem mul_small {i j : Int} {M : Mem} (h : -100000 ≤ i ∧ i ≤ 100000) : mulD (.int i) (.int j) M = .ok (.int (i * j)) M := by
  have h1 : smallI i = true := by
    unfold smallI
    rw [decide_eq_true_eq]
    have e : (2 : Int) ^ 64 = 18446744073709551616 := by decide
    rw [e]
    omega
  show (if smallI i = true ∨ smallI j = true then R.ok (D.int (i * j)) M else .stuck) = _
  rw [if_pos (.inl h1)]
theorem cost_in_eq {cv : List Int} (hs : sh.length ≤ 1000) (hc : ∀ i ∈ cv, -100000 ≤ i ∧ i ≤ 100000) : m_cost_in [shD sh, .tup (dI cv)] M = .ok (.int (costI sh cv)) M := by
  have e1 : lcV [2, 3] (zipI (varE 0) (varE 1)) (pT 2 (pCons (pN 2) (pCons (pN 3) pNil))) yesT (op2 mulD (varE 3) (op2 ixD (varE 2) (cE (.int 2)))) [some (shD sh), some (.tup (dI cv)), none, none] M = .ok (.frl (dI ((sh.zip cv).map fun p => p.2 * p.1.2.2))) M := by
    refine (lc_rows sh cv (fun _ => true) (fun p => .int (p.2 * p.1.2.2)) (by simp [shD]) hs fun q hq => ⟨[some (shD sh), some (.tup (dI cv)), some (rowD q.1), some (.int q.2)], rfl, rfl, fun _ => ?_⟩).trans ?_
    · have hq2 := hc q.2 (List.of_mem_zip hq).2
      simp [rowD, ix3_2, mul_small hq2]
    · rw [filt_true, map_dI]
  simp [m_cost_in, e1, sum_frl, costI]
theorem law_cost_eq {cv : List Int} (hs : sh.length ≤ 1000) (hc : ∀ i ∈ cv, -100000 ≤ i ∧ i ≤ 100000) : m__law_cost [shD sh, .tup (dI cv)] M = .ok (.int (costI sh cv)) M := by
  have e1 : lcV [2, 3] (zipI (varE 0) (varE 1)) (pT 2 (pCons (pN 2) (pCons (pN 3) pNil))) yesT (op2 mulD (varE 3) (op2 ixD (varE 2) (cE (.int 2)))) [some (shD sh), some (.tup (dI cv)), none, none] M = .ok (.frl (dI ((sh.zip cv).map fun p => p.2 * p.1.2.2))) M := by
    refine (lc_rows sh cv (fun _ => true) (fun p => .int (p.2 * p.1.2.2)) (by simp [shD]) hs fun q hq => ⟨[some (shD sh), some (.tup (dI cv)), some (rowD q.1), some (.int q.2)], rfl, rfl, fun _ => ?_⟩).trans ?_
    · have hq2 := hc q.2 (List.of_mem_zip hq).2
      simp [rowD, ix3_2, mul_small hq2]
    · rw [filt_true, map_dI]
  simp [m__law_cost, e1, sum_frl, costI]
theorem costs_eq (h1 : 1 ≤ day) (hd : day ≤ 60) (hs : ShOk day sh) (hn : NdOk day nd) (h : pd B 1000 k v) (hB : B ≤ 100000) :
    if cvB day sh nd v = true then ∃ e i, m_cost_of [.int day, shD sh, .tup (dI nd), v] M = .ok (.int i) (M ++ e) ∧ ∀ N, m__law_cost [shD sh, v] N = .ok (.int i) N
    else ∃ e, m_cost_of [.int day, shD sh, .tup (dI nd), v] M = .exc ⟨"InvalidPaper", []⟩ (M ++ e) := by
  obtain ⟨e, he⟩ := fits_cover_eq (M := M) (nd := nd) hd (by have := hs.len; omega) hs.rng h
  have hna := need_all_eq (M := M) ⟨by omega, by omega⟩ (hs.pd hd) hs.shB (hn.pd hd) hn.ndB
  cases hc : cvB day sh nd v with
  | false => exact ⟨e, by simp [m_cost_of, hna, he, hc]⟩
  | true =>
    obtain ⟨xs, rfl⟩ : ∃ xs, v = .tup xs := by
      unfold cvB at hc
      split at hc
      · exact ⟨_, rfl⟩
      · cases hc
    have ha : xs.all isFz = true := by simp [cvB] at hc; exact List.all_eq_true.mpr hc.1.2
    have ex := fz_ints ha
    have hr : ∀ i ∈ xs.map intD, -100000 ≤ i ∧ i ≤ 100000 := fun i hi => by
      obtain ⟨x, hx, rfl⟩ := List.mem_map.mp hi
      have hp := h.items.2 x hx
      have hf := List.all_eq_true.mp ha x hx
      cases x <;> simp [isFz] at hf
      rename_i j
      generalize k - 1 = k' at hp
      cases k' with
      | zero => simp only [pd, flatP] at hp; simp [intD]; omega
      | succ k' =>
        rcases hp with hp | ⟨_, e | e, _⟩
        · simp only [flatP] at hp; simp [intD]; omega
        · cases e
        · cases e
    have hs12 : sh.length ≤ 1000 := by have := hs.len; omega
    have c1 : ∀ N, m_cost_in [shD sh, .tup xs] N = .ok (.int (costI sh (xs.map intD))) N := fun N => by
      have := cost_in_eq (M := N) hs12 hr
      rw [← ex] at this
      exact this
    have c2 : ∀ N, m__law_cost [shD sh, .tup xs] N = .ok (.int (costI sh (xs.map intD))) N := fun N => by
      have := law_cost_eq (M := N) hs12 hr
      rw [← ex] at this
      exact this
    exact ⟨e, _, by simp [m_cost_of, hna, he, hc, c1], c2⟩
end
end K56

set_option Elab.async false
set_option linter.all false
set_option maxRecDepth 100000
set_option maxHeartbeats 4000000
namespace K56
open Mini
def cutI (xs : List Int) (lo hi : Option Int) : List Int := (xs.drop (HT.sIx xs.length 0 lo)).take (HT.sIx xs.length xs.length hi - HT.sIx xs.length 0 lo)
theorem cut_dI {xs : List Int} {lo hi : Option Int} : cutD (dI xs) lo hi = dI (cutI xs lo hi) := by
  unfold cutD cutI
  rw [dI_len]
  unfold dI
  rw [List.map_take, List.map_drop]
/-- the row's price is not passed -/
def rowP (ps : List Int) (r : Row) : Bool := decide ((cutI ps (some r.1) (some r.2.1)).sum ≤ r.2.2)
def rowPD (ps : List Int) : D → Bool
  | .tup [.int s, .int e, .int c] => rowP ps (s, e, c)
  | _ => false
theorem rowPD_eq {ps : List Int} {r : Row} : rowPD ps (rowD r) = rowP ps r := rfl
def prB (day : Nat) (sh : List Row) (v : D) : Bool := match v with
  | .tup xs => decide (xs.length = day) && xs.all isFz && sh.all (rowP (xs.map intD))
  | _ => false
section
variable {day : Nat} {sh : List Row} {nd : List Int} {v : D} {M : Mem} {B : Int} {k : Nat}
theorem fits_prices_eq (hs : sh.length ≤ 1000) (h : pd B 1000 k v) : m_fits_prices [.int day, shD sh, v] M = .ok (.bl (prB day sh v)) M := by
  have hv := h.simple
  obtain ⟨hl, hi⟩ := h.items
  cases hrow : isRow v day day with
  | false =>
    have e : prB day sh v = false := by
      unfold prB
      split
      · rename_i ys
        have hn : ¬ ys.length = day := fun z => by
          simp [isRow] at hrow
          have := hrow (by omega)
          omega
        simp [hn]
      · rfl
    simp [m_fits_prices, is_row_eq hv, hrow, e]
  | true =>
    obtain ⟨xs, rfl⟩ : ∃ rows, v = .tup rows := by
      cases v <;> simp [isRow] at hrow
      exact ⟨_, rfl⟩
    have hn : xs.length = day := by simp [isRow] at hrow; omega
    have e1 : ∀ N : Mem, lcV [3] (seqI (varE 2)) (pN 3) yesT (callE m_is_from_zero (consL (varE 3) nilL)) [some (.int day), some (shD sh), some (.tup xs), none, none, none, none] N = .ok (.frl (bls (xs.map isFz))) N := by
      intro N
      refine (lc_tup xs (fun _ => true) (fun d => .bl (isFz d)) rfl (size_small hl) fun d hd => ⟨[some (.int day), some (shD sh), some (.tup xs), some d, none, none, none], rfl, rfl, fun _ => ?_⟩).trans ?_
      · simp [is_from_zero_eq (hi d hd).simple]
      · rw [filt_true, map_bls]
    cases ha : xs.all isFz with
    | false =>
      have ea : (xs.map isFz).all id = false := by rw [List.all_map]; exact ha
      simp [m_fits_prices, is_row_eq hv, hrow, e1, all_frl, ea, prB, ha]
    | true =>
      have ea : (xs.map isFz).all id = true := by rw [List.all_map]; exact ha
      have ex := fz_ints ha
      have e2 : ∀ N : Mem, lcV [4, 5, 6] (seqI (varE 1)) (pT 3 (pCons (pN 4) (pCons (pN 5) (pCons (pN 6) pNil)))) yesT (op2 leM (biE (g1 sumM) (consL (slE (varE 2) (mO1 (varE 4)) (mO1 (varE 5))) nilL)) (varE 6)) [some (.int day), some (shD sh), some (.tup xs), none, none, none, none] N =
          .ok (.frl (bls (sh.map (rowP (xs.map intD))))) N := by
        intro N
        refine (lc_tup (sh.map rowD) (fun _ => true) (fun d => .bl (rowPD (xs.map intD) d)) rfl (size_small (by rw [List.length_map]; exact hs)) fun d hd => ?_).trans ?_
        · obtain ⟨r, hr, rfl⟩ := List.mem_map.mp hd
          refine ⟨[some (.int day), some (shD sh), some (.tup xs), none, some (.int r.1), some (.int r.2.1), some (.int r.2.2)], by simp [rowD], rfl, fun _ => ?_⟩
          rw [ex]
          simp [cut_dI, sum_tup]
          rw [← ex]
          rfl
        · rw [filt_true, map_bls, List.map_map]; rfl
      simp [m_fits_prices, is_row_eq hv, hrow, e1, all_frl, ea, e2, prB, ha, hn, List.all_map, Function.comp_def]
theorem law_are_prices_eq (hB : B ≤ 100000) (hs : sh.length ≤ 1000) (h : pd B 1000 k v) : m__law_are_prices [.int day, shD sh, v] M = .ok (.bl (prB day sh v)) M := by
  have hv := h.simple
  obtain ⟨hl, hi⟩ := h.items
  cases v with
  | tup xs =>
    by_cases hn : xs.length = day
    · have hnz : (xs.length : Int) = day := by omega
      have e1 : ∀ N : Mem, lcV [3] (seqI (varE 2)) (pN 3) (notT (tst (callE m__law_is_number (consL (varE 3) (consL (cE (.int 0)) (consL (op2 powD (cE (.int 10)) (cE (.int 64))) nilL)))))) (varE 3) [some (.int day), some (shD sh), some (.tup xs), none, none, none, none] N = .ok (.frl (xs.filter fun d => !isFz d)) N := by
        intro N
        refine (lc_tup xs (fun d => !isFz d) (fun d => d) rfl (size_small hl) fun d hd => ⟨[some (.int day), some (shD sh), some (.tup xs), some d, none, none, none], rfl, ?_, fun _ => by simp⟩).trans (by simp)
        have fz := fz_num (hi d hd) hB
        simp at fz
        simp [pow64, law_is_number_eq (hi d hd).simple, fz]
      have ho : okDs (xs.filter fun d => !isFz d) = true := okDs_of fun x hx => (hi x (List.mem_filter.mp hx).1).ok
      cases ha : xs.all isFz with
      | false => simp [m__law_are_prices, isA, hn, hnz, e1, ne_nil ho, filt_nil, ha, prB]
      | true =>
        have ex := fz_ints ha
        have e2 : ∀ N : Mem, lcV [4, 5, 6] (seqI (varE 1)) (pT 3 (pCons (pN 4) (pCons (pN 5) (pCons (pN 6) pNil)))) (tst (op2 gtM (biE (g1 sumM) (consL (slE (varE 2) (mO1 (varE 4)) (mO1 (varE 5))) nilL)) (varE 6))) (cE (.int 1)) [some (.int day), some (shD sh), some (.tup xs), none, none, none, none] N =
            .ok (.frl ((sh.filter fun r => !rowP (xs.map intD) r).map fun _ => D.int 1)) N := by
          intro N
          refine (lc_tup (sh.map rowD) (fun d => !rowPD (xs.map intD) d) (fun _ => .int 1) rfl (size_small (by rw [List.length_map]; exact hs)) fun d hd => ?_).trans ?_
          · obtain ⟨r, hr, rfl⟩ := List.mem_map.mp hd
            refine ⟨[some (.int day), some (shD sh), some (.tup xs), none, some (.int r.1), some (.int r.2.1), some (.int r.2.2)], by simp [rowD], ?_, fun _ => by simp⟩
            rw [ex]
            simp [cut_dI, sum_tup]
            rw [← ex, rowPD_eq]
            unfold rowP
            by_cases hp : (cutI (xs.map intD) (some r.1) (some r.2.1)).sum ≤ r.2.2
            · have : ¬ r.2.2 < (cutI (xs.map intD) (some r.1) (some r.2.1)).sum := by omega
              simp [hp, this]
            · have : r.2.2 < (cutI (xs.map intD) (some r.1) (some r.2.1)).sum := by omega
              simp [hp, this]
          · rw [filt_map, List.map_map]; rfl
        simp [m__law_are_prices, isA, hn, hnz, e1, ne_nil ho, filt_nil, ha, e2, eq_nil (okDs_ones _), prB]
    · have hnz : ¬ (xs.length : Int) = day := by omega
      simp [m__law_are_prices, isA, hn, hnz, prB]
  | _ => simp [m__law_are_prices, isA, prB] <;> simp [simple] at hv
theorem are_prices_eq (h1 : 1 ≤ day) (hd : day ≤ 60) (hs : ShOk day sh) (h : pd B 1000 k v) : m_are_prices [.int day, shD sh, v] M = .ok (.bl (prB day sh v)) M := by
  simp [m_are_prices, need_shifts_eq (M := M) ⟨by omega, by omega⟩ (hs.pd hd) hs.shB, fits_prices_eq (day := day) (sh := sh) (by have := hs.len; omega) h]
/-! ### what prices are worth -/
def worthI (nd ps : List Int) : Int := ((ps.zip nd).map fun p => p.1 * p.2).sum
theorem worth_in_eq {ps : List Int} (hp : ps.length ≤ 1000) (hc : ∀ i ∈ ps, -100000 ≤ i ∧ i ≤ 100000) : m_worth_in [.tup (dI nd), .tup (dI ps)] M = .ok (.int (worthI nd ps)) M := by
  have e1 : lcV [2, 3] (zipI (varE 1) (varE 0)) (pT 2 (pCons (pN 2) (pCons (pN 3) pNil))) yesT (op2 mulD (varE 2) (varE 3)) [some (.tup (dI nd)), some (.tup (dI ps)), none, none] M = .ok (.frl (dI ((ps.zip nd).map fun p => p.1 * p.2))) M := by
    refine (lc_zip (dI ps) (dI nd) (fun _ => true) (fun q => .int (intD q.1 * intD q.2)) (by simp) (size_small (by rw [dI_len]; exact hp)) fun q hq => ?_).trans ?_
    · rw [zip_ints] at hq
      obtain ⟨p, hp, rfl⟩ := List.mem_map.mp hq
      refine ⟨[some (.tup (dI nd)), some (.tup (dI ps)), some (.int p.1), some (.int p.2)], rfl, rfl, fun _ => ?_⟩
      simp [mul_small (hc p.1 (List.of_mem_zip hp).1), intD]
    · rw [filt_true, zip_ints, List.map_map, ← map_dI]
      rfl
  simp [m_worth_in, e1, sum_frl, worthI]
theorem law_worth_eq {ps : List Int} (hp : ps.length ≤ 1000) (hc : ∀ i ∈ ps, -100000 ≤ i ∧ i ≤ 100000) : m__law_worth [.tup (dI nd), .tup (dI ps)] M = .ok (.int (worthI nd ps)) M := by
  have e1 : lcV [2, 3] (zipI (varE 1) (varE 0)) (pT 2 (pCons (pN 2) (pCons (pN 3) pNil))) yesT (op2 mulD (varE 2) (varE 3)) [some (.tup (dI nd)), some (.tup (dI ps)), none, none] M = .ok (.frl (dI ((ps.zip nd).map fun p => p.1 * p.2))) M := by
    refine (lc_zip (dI ps) (dI nd) (fun _ => true) (fun q => .int (intD q.1 * intD q.2)) (by simp) (size_small (by rw [dI_len]; exact hp)) fun q hq => ?_).trans ?_
    · rw [zip_ints] at hq
      obtain ⟨p, hp, rfl⟩ := List.mem_map.mp hq
      refine ⟨[some (.tup (dI nd)), some (.tup (dI ps)), some (.int p.1), some (.int p.2)], rfl, rfl, fun _ => ?_⟩
      simp [mul_small (hc p.1 (List.of_mem_zip hp).1), intD]
    · rw [filt_true, zip_ints, List.map_map, ← map_dI]
      rfl
  simp [m__law_worth, e1, sum_frl, worthI]
theorem int_small {xs : List D} (h : pd B 1000 k (.tup xs)) (ha : xs.all isFz = true) (hB : B ≤ 100000) : ∀ i ∈ xs.map intD, -100000 ≤ i ∧ i ≤ 100000 := fun i hi => by
  obtain ⟨x, hx, rfl⟩ := List.mem_map.mp hi
  have hp := h.items.2 x hx
  have hf := List.all_eq_true.mp ha x hx
  cases x <;> simp [isFz] at hf
  rename_i j
  generalize k - 1 = k' at hp
  cases k' with
  | zero => simp only [pd, flatP] at hp; simp [intD]; omega
  | succ k' =>
    rcases hp with hp | ⟨_, e | e, _⟩
    · simp only [flatP] at hp; simp [intD]; omega
    · cases e
    · cases e
theorem worths_eq (h1 : 1 ≤ day) (hd : day ≤ 60) (hs : ShOk day sh) (hn : NdOk day nd) (h : pd B 1000 k v) (hB : B ≤ 100000) :
    if prB day sh v = true then ∃ i, m_worth_of [.int day, shD sh, .tup (dI nd), v] M = .ok (.int i) M ∧ ∀ N, m__law_worth [.tup (dI nd), v] N = .ok (.int i) N
    else m_worth_of [.int day, shD sh, .tup (dI nd), v] M = .exc ⟨"InvalidPaper", []⟩ M := by
  have he := fits_prices_eq (M := M) (day := day) (sh := sh) (by have := hs.len; omega) h
  have hna := need_all_eq (M := M) ⟨by omega, by omega⟩ (hs.pd hd) hs.shB (hn.pd hd) hn.ndB
  cases hc : prB day sh v with
  | false => simp [m_worth_of, hna, he, hc]
  | true =>
    obtain ⟨xs, rfl⟩ : ∃ xs, v = .tup xs := by
      unfold prB at hc
      split at hc
      · exact ⟨_, rfl⟩
      · cases hc
    have ha : xs.all isFz = true := by simp [prB] at hc; exact List.all_eq_true.mpr hc.1.2
    have ex := fz_ints ha
    have hr := int_small h ha hB
    have hl : (xs.map intD).length ≤ 1000 := by rw [List.length_map]; exact h.items.1
    have c1 : ∀ N, m_worth_in [.tup (dI nd), .tup xs] N = .ok (.int (worthI nd (xs.map intD))) N := fun N => by
      have := worth_in_eq (nd := nd) (M := N) hl hr
      rw [← ex] at this
      exact this
    have c2 : ∀ N, m__law_worth [.tup (dI nd), .tup xs] N = .ok (.int (worthI nd (xs.map intD))) N := fun N => by
      have := law_worth_eq (nd := nd) (M := N) hl hr
      rw [← ex] at this
      exact this
    exact ⟨_, by simp [m_worth_of, hna, he, hc, c1], c2⟩
end
end K56

set_option Elab.async false
set_option linter.all false
set_option maxRecDepth 100000
set_option maxHeartbeats 4000000
namespace K56
open Mini
/-! ### the cup -/
def Cup (n : Nat) (M : Mem) : Prop := ∃ a b : Int, M[n]? = some (.lst [.int a, .int b])
/-- all but the cup stays as it was -/
structure Fr (n : Nat) (M M' : Mem) : Prop where
  len : M.length ≤ M'.length
  same : ∀ i, i < M.length → i ≠ n → M'[i]? = M[i]?
  cup : Cup n M'
theorem Cup.lt {n : Nat} {M : Mem} (h : Cup n M) : n < M.length := by
  obtain ⟨a, b, e⟩ := h
  exact (List.getElem?_eq_some_iff.mp e).1
theorem Fr.refl {n : Nat} {M : Mem} (h : Cup n M) : Fr n M M := ⟨Nat.le_refl _, fun _ _ _ => rfl, h⟩
theorem Fr.trans {n : Nat} {M M1 M2 : Mem} (a : Fr n M M1) (b : Fr n M1 M2) : Fr n M M2 :=
  ⟨Nat.le_trans a.len b.len, fun i hi hn => (b.same i (Nat.lt_of_lt_of_le hi a.len) hn).trans (a.same i hi hn), b.cup⟩
theorem Fr.app {n : Nat} {M e : Mem} (h : Cup n M) : Fr n M (M ++ e) :=
  ⟨by rw [List.length_append]; omega, fun i hi _ => List.getElem?_append_left hi, by
    obtain ⟨a, b, q⟩ := h
    exact ⟨a, b, by rw [List.getElem?_append_left (Cup.lt ⟨a, b, q⟩)]; exact q⟩⟩
theorem Fr.set {n : Nat} {M : Mem} {a b : Int} (h : n < M.length) : Fr n M (M.set n (.lst [.int a, .int b])) :=
  ⟨by rw [List.length_set]; exact Nat.le_refl _, fun i _ hn => List.getElem?_set_ne (Ne.symm hn), a, b, List.getElem?_set_self h⟩
theorem ix_ref {N : Mem} {n t : Nat} {xs : List D} {d : D} (h : N[n]? = some (.lst xs)) (hx : xs[t]? = some d) : ixD (.ref n) (.int t) N = .ok d N := by
  have hl : t < xs.length := (List.getElem?_eq_some_iff.mp hx).1
  have e : L2.atI xs (t : Int) = some d := by
    unfold L2.atI L2.ixN
    rw [if_pos (by omega), if_pos (by omega)]
    exact hx
  have e2 : itemsOf N (.ref n) = some xs := by simp [itemsOf, h]
  simp [ixD, e2, e]
theorem ix_ref0 {N : Mem} {n : Nat} {a b : D} (h : N[n]? = some (.lst [a, b])) : ixD (.ref n) (.int 0) N = .ok a N := ix_ref (t := 0) h rfl
theorem ix_ref1 {N : Mem} {n : Nat} {a b : D} (h : N[n]? = some (.lst [a, b])) : ixD (.ref n) (.int 1) N = .ok b N := ix_ref (t := 1) h rfl
def setJ (d x y : D) (ρ : MEnv) (M : Mem) : R Fl := match x, y with
  | .ref n, .int k => match lstAt M n with
    | some xs => match L2.ixN xs.length k with
      | some j => .ok (.nx ρ) (M.set n (.lst (xs.set j d)))
      | none => .stuck
    | none => .stuck
  | _, _ => .stuck
theorem z_setI {v o i : ME'} {ρ : MEnv} {M : Mem} : setI v o i ρ M = (v ρ M).bind fun d M1 => (o ρ M1).bind fun x M2 => (i ρ M2).bind fun y M3 => setJ d x y ρ M3 := nr rfl
theorem lstAt_of {N : Mem} {n : Nat} {xs : List D} (h : N[n]? = some (.lst xs)) : lstAt N n = some xs := by simp [lstAt, h]
theorem setJ0 {N : Mem} {n : Nat} {a b d : D} {ρ : MEnv} (h : N[n]? = some (.lst [a, b])) : setJ d (.ref n) (.int 0) ρ N = .ok (.nx ρ) (N.set n (.lst [d, b])) := by
  have e : L2.ixN 2 0 = some 0 := rfl
  simp [setJ, lstAt_of h, e]
theorem setJ1 {N : Mem} {n : Nat} {a b d : D} {ρ : MEnv} (h : N[n]? = some (.lst [a, b])) : setJ d (.ref n) (.int 1) ρ N = .ok (.nx ρ) (N.set n (.lst [a, d])) := by
  have e : L2.ixN 2 1 = some 1 := rfl
  simp [setJ, lstAt_of h, e]
theorem int_int {i : Int} {M : Mem} : intM (.int i) M = .ok (.int i) M := nr rfl
theorem mod_int {i j : Int} {M : Mem} (h : 0 < j) : modD (.int i) (.int j) M = .ok (.int (i % j)) M := by
  show (if decide (0 < j) = true then R.ok (D.int (i % j)) M else .stuck) = _
  rw [if_pos (decide_eq_true h)]
theorem fdiv_int {i j : Int} {M : Mem} (h : 0 < j ∧ j < 1073741824) : fdivD (.int i) (.int j) M = .ok (.int (i / j)) M := by
  show (if decide (0 < j ∧ j < 1073741824) = true then R.ok (D.int (i / j)) M else .stuck) = _
  rw [if_pos (decide_eq_true h)]
theorem mul_any {i j : Int} {M : Mem} (h : smallI i = true ∨ smallI j = true) : mulD (.int i) (.int j) M = .ok (.int (i * j)) M := by
  show (if smallI i = true ∨ smallI j = true then R.ok (D.int (i * j)) M else .stuck) = _
  rw [if_pos h]
theorem small_of {i : Int} (h : -9223372036854775808 ≤ i ∧ i ≤ 9223372036854775808) : smallI i = true := by
  unfold smallI
  rw [decide_eq_true_eq]
  have e : (2 : Int) ^ 64 = 18446744073709551616 := by decide
  rw [e]
  omega
theorem roll_ok {n : Nat} {many : Int} {M : Mem} (hc : Cup n M) (h1 : 1 ≤ many) (h2 : many ≤ 100000) : W (m__law_roll [.ref n, .int many] M) fun d M' => ∃ r : Int, d = .int r ∧ 0 ≤ r ∧ r < many ∧ Fr n M M' := by
  obtain ⟨a, b, hM⟩ := hc
  have hl : n < M.length := Cup.lt ⟨a, b, hM⟩
  by_cases ha : 0 < a
  · have hM2 : ∀ d, (M.set n (.lst [d, .int b]))[n]? = some (.lst [d, .int b]) := fun d => List.getElem?_set_self hl
    have e : m__law_roll [.ref n, .int many] M = .ok (.int (a % many)) (M.set n (.lst [.int (a / many), .int b])) := by
      simp [m__law_roll, ix_ref0 hM, ha, int_int, mod_int (show 0 < many by omega), z_setI, fdiv_int (show 0 < many ∧ many < 1073741824 by omega), setJ0 hM]
    rw [e, W_ok]
    exact ⟨_, rfl, Int.emod_nonneg _ (by omega), Int.emod_lt_of_pos _ (by omega), Fr.set hl⟩
  · generalize hb : (b * 31051 + 7993) % 2147483543 = b'
    have hb' : 0 ≤ b' ∧ b' < 2147483543 := by rw [← hb]; exact ⟨Int.emod_nonneg _ (by omega), Int.emod_lt_of_pos _ (by omega)⟩
    have hM2 : (M.set n (.lst [.int a, .int b']))[n]? = some (.lst [.int a, .int b']) := List.getElem?_set_self hl
    have e : m__law_roll [.ref n, .int many] M = .ok (.int ((b' * (b' + 229) % 2147483587) / 821 % many)) (M.set n (.lst [.int a, .int b'])) := by
      simp [m__law_roll, ix_ref0 hM, ix_ref1 hM, ha, int_int, mul_any (i := b) (j := 31051) (.inr (small_of (by omega))), mod_int, hb, z_setI, setJ1 hM, ix_ref1 hM2, mul_any (i := b') (j := b' + 229) (.inl (small_of (by omega))), fdiv_int, mod_int (show 0 < many by omega)]
    rw [e, W_ok]
    exact ⟨_, rfl, Int.emod_nonneg _ (by omega), Int.emod_lt_of_pos _ (by omega), Fr.set hl⟩
theorem some_ok {n : Nat} {xs : List D} {M : Mem} (hc : Cup n M) (h1 : 1 ≤ xs.length) (h2 : xs.length ≤ 1000) : W (m__law_some [.ref n, .frl xs] M) fun d M' => d ∈ xs ∧ Fr n M M' := by
  obtain ⟨d, M', e, r, rfl, r0, r1, hf⟩ := roll_ok (many := xs.length) hc (by omega) (by omega)
  obtain ⟨t, rfl⟩ : ∃ t : Nat, r = (t : Int) := ⟨r.toNat, by omega⟩
  have ht : t < xs.length := by omega
  have hx : ixD (.frl xs) (.int t) M' = .ok xs[t] M' := by
    have e1 : L2.atI xs (t : Int) = some xs[t] := by
      unfold L2.atI L2.ixN
      rw [if_pos (by omega), if_pos (by omega)]
      exact List.getElem?_eq_getElem ht
    simp [ixD, itemsOf, e1]
  have e2 : m__law_some [.ref n, .frl xs] M = .ok xs[t] M' := by simp [m__law_some, e, hx]
  rw [e2, W_ok]
  exact ⟨List.getElem_mem ht, hf⟩
end K56

set_option Elab.async false
set_option linter.all false
set_option maxRecDepth 100000
set_option maxHeartbeats 4000000
namespace K56
open Mini
/-! ### alike -/
def sortI : D → Int
  | .non => 0
  | .bl _ => 1
  | .int _ => 2
  | .str _ => 3
  | .tup _ => 4
  | _ => 5
theorem sort_eq {x : D} {M : Mem} (h : simple x = true) : m__law_sort [x] M = .ok (.int (sortI x)) M := by
  cases x <;> simp [m__law_sort, isA, isNon, sortI, simple] at h ⊢
theorem in45 {s : Int} {M : Mem} : inD (.int s) (.tup [.int 4, .int 5]) M = .ok (.bl (decide (s = 4 ∨ s = 5))) M := by
  simp [inD, itemsOf, flatD, eqvD, Bool.beq_eq_decide_eq]
  rw [Bool.eq_iff_iff]
  simp
  constructor
  · rintro (h | h) <;> omega
  · rintro (h | h) <;> omega
theorem size2 : (2 : Nat) ≤ PySem.sizeLine := size_small (by omega)
theorem flat_refl {B : Int} {x : D} {M : Mem} (h : flatP B x) : eqD x x M = .ok (.bl true) M := by
  cases x <;> simp only [flatP] at h <;> simp [eqD, drf, okD, depD, eqvD, h]
theorem like_flat {B : Int} {n : Nat} {x : D} {M : Mem} (h : flatP B x) : m__law_like (n + 1) [x, x] M = .ok (.bl true) M := by
  have hr := flat_refl (M := M) h
  have e := sort_eq (x := x) (M := M) (pd.simple (k := 0) (L := 0) h)
  cases x <;> simp only [flatP] at h <;> simp [sortI] at e <;> simp [m__law_like, e, in45, size2, hr]
theorem like_refl {B : Int} {L : Nat} (hL : L ≤ 1000) : ∀ {k n : Nat} {x : D} {M : Mem}, pd B L k x → k < n → m__law_like n [x, x] M = .ok (.bl true) M
  | 0, n + 1, x, M, h, _ => like_flat h
  | k + 1, n + 1, x, M, h, hn => by
    rcases h with h | ⟨xs, he, hl, hx⟩
    · exact like_flat h
    · have key : ∀ y : D, (y = .tup xs ∨ y = .frl xs) → ∀ N : Mem, lcV [3, 4] (zipI (varE 0) (varE 1)) (pT 2 (pCons (pN 3) (pCons (pN 4) pNil))) (notT (tst (callE (m__law_like n) (consL (varE 3) (consL (varE 4) nilL))))) (cE (.int 1)) [some y, some y, some (.int (sortI y)), none, none] N = .ok (.frl []) N := fun y hy N => by
        have hz : zipI (varE 0) (varE 1) [some y, some y, some (.int (sortI y)), none, none] N = .ok (.zip (.fix xs) (.fix xs)) N := by
          rcases hy with e | e <;> subst e
          · simp
          · show (if ((Sq.fix xs).get 0 N).isSome = true ∧ ((Sq.fix xs).get 0 N).isSome = true then R.ok (Src.zip (.fix xs) (.fix xs)) N else .stuck) = _
            rw [if_pos ⟨get0_fix, get0_fix⟩]
        refine (lc_zip xs xs (fun _ => false) (fun _ => .int 1) hz (size_small (by omega)) fun q hq => ⟨[some y, some y, some (.int (sortI y)), some q.1, some q.2], rfl, ?_, fun z => by cases z⟩).trans ?_
        · have e : q.1 = q.2 := by
            obtain ⟨i, hi, e⟩ := List.mem_iff_getElem.mp hq
            rw [List.getElem_zip] at e
            rw [← e]
          have hm := (List.of_mem_zip hq).1
          have := like_refl hL (k := k) (n := n) (x := q.1) (M := N) (hx _ hm) (by omega)
          rw [← e]
          simp [this]
        · simp
      have hnil : ∀ N, eqD (.frl []) (.frl []) N = .ok (.bl true) N := fun N => eq_nil rfl
      rcases he with e | e
      · subst e
        have := key _ (.inl rfl)
        have e := sort_eq (x := .tup xs) (M := M) rfl
        simp [sortI] at this e
        simp [m__law_like, e, in45, size2, this, hnil]
      · subst e
        have := key _ (.inr rfl)
        have e := sort_eq (x := .frl xs) (M := M) rfl
        simp [sortI] at this e
        simp [m__law_like, e, in45, size2, this, hnil]
/-! ### minutes that nobody covers -/
def due (day : Nat) (nd ws : List Int) : List Int := ((List.range day).filter fun t => decide (0 < nd.getD t 0) && decide (ws.getD t 0 = 0)).map fun (t : Nat) => (t : Int)
theorem rangeL0 {n : Nat} : rangeL 0 n = (List.range n).map fun (t : Nat) => D.int t := by
  unfold rangeL
  refine List.map_congr_left fun t _ => ?_
  rw [Int.zero_add]
theorem ix_dI {xs : List Int} {t : Nat} {M : Mem} (h : t < xs.length) : ixD (.tup (dI xs)) (.int t) M = .ok (.int (xs.getD t 0)) M := by
  refine ix_tup (i := t) ?_
  rw [dI_get, List.getD_eq_getElem?_getD, List.getElem?_eq_getElem h]
  rfl
theorem ix_dIr {xs : List Int} {n t : Nat} {N : Mem} (hN : N[n]? = some (.lst (dI xs))) (h : t < xs.length) : ixD (.ref n) (.int t) N = .ok (.int (xs.getD t 0)) N := by
  refine ix_ref hN ?_
  rw [dI_get, List.getD_eq_getElem?_getD, List.getElem?_eq_getElem h]
  rfl
/-- a comprehension over range(day) that changes nothing -/
theorem lc_range {vs : List Nat} {a : ME'} {p : Pat} {c : MEnv → Mem → R Bool} {e : ME'} {ρ : MEnv} {M : Mem} {day : Nat} (cb : Nat → Bool) (hd : day ≤ 1000) (ha : a ρ M = .ok (.int day) M)
    (h : ∀ t, t < day → ∃ ρ1, p (.int t) (wipeD ρ vs) = some ρ1 ∧ c ρ1 M = .ok (cb t) M ∧ (cb t = true → e ρ1 M = .ok (.int t) M)) : lcV vs (rng1I a) p c e ρ M = .ok (.frl (dI (((List.range day).filter cb).map fun (t : Nat) => (t : Int)))) M := by
  have hi : ∀ t : Nat, intD (.int t) = t := fun _ => rfl
  refine (lc_pure (S := .one (.fix (rangeL 0 day))) (rangeL 0 day) (fun d => cb (intD d).toNat) (fun d => d) (rng1_ok ha (by omega)) (size_small (by rw [rangeL_len]; exact hd)) rfl (fun i hi => get_fix hi) fun d hd => ?_).trans ?_
  · rw [rangeL0] at hd
    obtain ⟨t, ht, rfl⟩ := List.mem_map.mp hd
    rw [hi, Int.toNat_natCast]
    exact h t (List.mem_range.mp ht)
  · rw [rangeL0, filt_map, List.map_id', ← map_dI]
    simp [intD]
theorem ones_eq {x : Int} {n : Nat} {M : Mem} (h : n ≤ 1000) : mulD (.tup [.int x]) (.int n) M = .ok (.tup (dI (List.replicate n x))) M := by
  have e : repD [.int x] (n : Int) = dI (List.replicate n x) := by
    unfold repD dI
    rw [Int.toNat_natCast, List.map_replicate]
    clear h
    induction n with
    | zero => rfl
    | succ n ih => rw [List.replicate_succ, List.replicate_succ, List.flatten_cons, ih]; rfl
  show (if -1000 ≤ (n : Int) ∧ (n : Int) ≤ 1000 ∧ [D.int x].length ≤ 1000 then R.ok (D.tup (if [D.int x] = [] then [] else repD [.int x] n)) M else .stuck) = _
  rw [if_pos ⟨by omega, by omega, by simp⟩, if_neg (by simp), e]
section
variable {day : Nat} {sh : List Row} {nd : List Int} {M : Mem}
theorem uncovered_eq (h1 : 1 ≤ day) (hd : day ≤ 60) (hs : ShOk day sh) (hn : NdOk day nd) : ∃ e, m_uncovered [.int day, shD sh, .tup (dI nd)] M = .ok (.tup (dI (due day nd (works day sh (List.replicate sh.length 1))))) (M ++ e) := by
  have hna := need_all_eq (M := M) ⟨by omega, by omega⟩ (hs.pd hd) hs.shB (hn.pd hd) hn.ndB
  have hl : sh.length ≤ 1000 := by have := hs.len; omega
  have hlen : ∀ N, lenM (shD sh) N = .ok (.int sh.length) N := fun N => by simp [shD]
  have hc := coverage_eq (M := M) (cv := List.replicate sh.length 1) hd hl hs.rng
  generalize hw : works day sh (List.replicate sh.length 1) = ws at hc
  have hwl : ws.length = day := by rw [← hw, works_len]
  refine ⟨[.lst (dI ws)], ?_⟩
  have e1 : lcV [4] (rng1I (varE 0)) (pN 4) (andT (tst (op2 gtM (op2 ixD (varE 2) (varE 4)) (cE (.int 0)))) (tst (op2 eqD (op2 ixD (varE 3) (varE 4)) (cE (.int 0))))) (varE 4) [some (.int day), some (shD sh), some (.tup (dI nd)), some (.ref M.length), none] (M ++ [.lst (dI ws)]) =
      .ok (.frl (dI (due day nd ws))) (M ++ [.lst (dI ws)]) := by
    refine lc_range (fun t => decide (0 < nd.getD t 0) && decide (ws.getD t 0 = 0)) (by omega) rfl fun t ht => ⟨[some (.int day), some (shD sh), some (.tup (dI nd)), some (.ref M.length), some (.int t)], rfl, ?_, fun _ => by simp⟩
    have q1 : ∀ N : Mem, ixD (.tup (dI nd)) (.int t) N = .ok (.int (nd.getD t 0)) N := fun N => ix_dI (by rw [hn.len]; exact ht)
    have q2 := ix_dIr (N := M ++ [.lst (dI ws)]) (xs := ws) (t := t) get_last' (by rw [hwl]; exact ht)
    generalize nd.getD t 0 = a at q1
    generalize ws.getD t 0 = b at q2
    by_cases ha : 0 < a <;> simp [q1, q2, ha]
  simp [m_uncovered, hna, hlen, size_small (n := 1), ones_eq (x := 1) hl, hc, e1]
end
end K56

set_option Elab.async false
set_option linter.all false
set_option maxRecDepth 100000
set_option maxHeartbeats 4000000
namespace K56
open Mini PySem PySem.Spec
/-! ### the dict of pairs -/
abbrev Ent := (Int × Int) × Int
def encK (p : Int × Int) : List L2.Key := [.inl p.1, .inl p.2]
def encE (q : Ent) : List L2.Key × D := (encK q.1, .int q.2)
def pairD (p : Int × Int) : D := .tup [.int p.1, .int p.2]
theorem encK_inj {p q : Int × Int} : encK p = encK q ↔ p = q := by
  constructor
  · intro h
    simp only [encK, List.cons.injEq, Sum.inl.injEq, and_true] at h
    exact Prod.ext h.1 h.2
  · rintro rfl; rfl
def putP (kv : List Ent) (k : Int × Int) (c : Int) : List Ent := if (kv.any fun q => decide (q.1 = k)) = true then kv.map fun q => if q.1 = k then (q.1, c) else q else kv ++ [(k, c)]
theorem dput_enc {kv : List Ent} {k : Int × Int} {c : Int} : dputM (kv.map encE) (encK k) (.int c) = (putP kv k c).map encE := by
  unfold dputM putP
  have h1 : ((kv.map encE).any fun q => decide (q.1 = encK k)) = kv.any fun q => decide (q.1 = k) := by
    rw [List.any_map]
    congr 1
    funext q
    show decide (encK q.1 = encK k) = decide (q.1 = k)
    rw [Bool.eq_iff_iff, decide_eq_true_eq, decide_eq_true_eq, encK_inj]
  rw [h1]
  split
  · rw [List.map_map, List.map_map]
    refine List.map_congr_left fun q _ => ?_
    show (if encK q.1 = encK k then (encK q.1, D.int c) else encE q) = encE (if q.1 = k then (q.1, c) else q)
    by_cases e : q.1 = k
    · rw [if_pos (by rw [e]), if_pos e]; rfl
    · rw [if_neg (fun z => e (encK_inj.mp z)), if_neg e]
  · rw [List.map_append]; rfl
theorem dval_enc {kv : List Ent} {q : Ent} (hn : (kv.map (·.1)).Nodup) (h : q ∈ kv) : dvalM (kv.map encE) (encK q.1) = some (.int q.2) := by
  induction kv with
  | nil => cases h
  | cons a r ih =>
    rw [List.map_cons, List.nodup_cons] at hn
    unfold dvalM at ih ⊢
    rw [List.map_cons, List.find?_cons]
    by_cases e : a.1 = q.1
    · have ea : a = q := by
        rcases List.mem_cons.mp h with z | z
        · exact z.symm
        · exact absurd (List.mem_map.mpr ⟨q, z, e.symm⟩) hn.1
      subst ea
      have : decide ((encE a).1 = encK a.1) = true := decide_eq_true rfl
      rw [this]
      rfl
    · have : decide ((encE a).1 = encK q.1) = false := decide_eq_false fun z => e (encK_inj.mp z)
      rw [this]
      rcases List.mem_cons.mp h with z | z
      · exact absurd (by rw [z]) e
      · exact ih hn.2 z
/-- what an entry is -/
def EntOk (day : Nat) (cost : Int) (q : Ent) : Prop := 0 ≤ q.1.1 ∧ q.1.1 + 1 ≤ q.1.2 ∧ q.1.2 ≤ day ∧ 1 ≤ q.2 ∧ q.2 ≤ cost
theorem putP_ok {day : Nat} {cost : Int} {kv : List Ent} {k : Int × Int} {c : Int} (h : ∀ q ∈ kv, EntOk day cost q) (hk : EntOk day cost (k, c)) : ∀ q ∈ putP kv k c, EntOk day cost q := fun q hq => by
  unfold putP at hq
  split at hq
  · obtain ⟨a, ha, rfl⟩ := List.mem_map.mp hq
    by_cases e : a.1 = k
    · rw [if_pos e, e]; exact hk
    · rw [if_neg e]; exact h a ha
  · rcases List.mem_append.mp hq with z | z
    · exact h q z
    · rw [List.mem_singleton.mp z]; exact hk
theorem putP_keys {kv : List Ent} {k : Int × Int} {c : Int} (hn : (kv.map (·.1)).Nodup) : ((putP kv k c).map (·.1)).Nodup := by
  unfold putP
  split
  · have e : (kv.map fun q => if q.1 = k then (q.1, c) else q).map (·.1) = kv.map (·.1) := by
      rw [List.map_map]
      refine List.map_congr_left fun q _ => ?_
      show (if q.1 = k then (q.1, c) else q).1 = q.1
      split <;> rfl
    rw [e]; exact hn
  · rename_i hno
    rw [List.map_append, List.nodup_append]
    refine ⟨hn, by simp, fun a ha b hb e => ?_⟩
    have hb' : b = k := by simpa using hb
    subst e hb'
    obtain ⟨q, hq, e2⟩ := List.mem_map.mp ha
    exact hno (List.any_eq_true.mpr ⟨q, hq, decide_eq_true e2⟩)
theorem putP_len {kv : List Ent} {k : Int × Int} {c : Int} : (putP kv k c).length ≤ kv.length + 1 := by
  unfold putP
  split <;> simp
/-! ### sorted -/
def leP (p q : Int × Int) : Bool := decide (p.1 < q.1 ∨ (p.1 = q.1 ∧ p.2 ≤ q.2))
theorem dataLe_pairs : (fun p q => PySem.W.dataLe false toPy (pairD p) (pairD q)) = leP := by
  have h := PySem.W.dataLe_ii (β := Int × Int) (fun p => p.1) (fun p => p.2)
  funext p q
  have h2 := congrFun (congrFun h p) q
  show PySem.W.dataLe false toPy (pairD p) (pairD q) = leP p q
  unfold leP
  rw [← h2]
  simp only [PySem.W.dataLe_eq, pairD, toPy, toPys]
theorem sort_pairs (ks : List (Int × Int)) : sortL (ks.map pairD) = (ks.mergeSort leP).map pairD := by
  unfold sortL
  rw [← dataLe_pairs]
  exact (List.map_mergeSort (r := fun p q => PySem.W.dataLe false toPy (pairD p) (pairD q)) (s := PySem.W.dataLe false toPy) (f := pairD) (l := ks) (fun a _ b _ => rfl)).symm
theorem ltv_pair {p q : Int × Int} : ltv (pairD p) (pairD q) = !leP q p := by
  have h := congrFun (congrFun dataLe_pairs q) p
  rw [← h]
  show PySem.W.dataLt (toPy (pairD p)) (toPy (pairD q)) = !PySem.W.dataLe false toPy (pairD q) (pairD p)
  simp only [PySem.W.dataLe_eq, cond_false, Bool.not_not]
theorem sorted_pairs (ks : List (Int × Int)) : (ks.mergeSort leP).Pairwise fun p q => leP p q = true := by
  refine List.pairwise_mergeSort (fun a b c h1 h2 => ?_) (fun a b => ?_) ks
  · simp only [leP, decide_eq_true_eq] at h1 h2 ⊢
    omega
  · simp only [leP, Bool.or_eq_true, decide_eq_true_eq]
    omega
theorem sortOk_pairs {ks : List (Int × Int)} : sortOk (ks.map pairD) = true := by
  have h1 : okDs (ks.map pairD) = true := okDs_of fun x hx => by
    obtain ⟨p, _, rfl⟩ := List.mem_map.mp hx
    simp [pairD, okD, okDs]
  have h2 : ((ks.map pairD).all fun x => (ks.map pairD).all fun y => PySem.W.alike (toPy x) (toPy y)) = true := List.all_eq_true.mpr fun x hx => List.all_eq_true.mpr fun y hy => by
    obtain ⟨p, _, rfl⟩ := List.mem_map.mp hx
    obtain ⟨q, _, rfl⟩ := List.mem_map.mp hy
    simp [pairD, toPy, toPys, PySem.W.alike, PySem.W.alikeAll]
  have h3 : (ks.map pairD).all isTup1 = true := List.all_eq_true.mpr fun x hx => by
    obtain ⟨p, _, rfl⟩ := List.mem_map.mp hx
    rfl
  have h4 : depDs (ks.map pairD) ≤ 60 := Nat.le_trans (depDs_of (n := 1) fun x hx => by
    obtain ⟨p, _, rfl⟩ := List.mem_map.mp hx
    simp [pairD, depD, depDs]) (by omega)
  unfold sortOk
  rw [h1, h2, h3]
  simp [h4]
theorem keyT_enc {q : Ent} : keyT (encE q).1 = pairD q.1 := rfl
theorem sortDT_eq {kv : List Ent} {n : Nat} {M : Mem} (h : M[n]? = some (.dT (kv.map encE))) : sortDT (.ref n) M = .ok (.frl (((kv.map (·.1)).mergeSort leP).map pairD)) M := by
  have e : ((kv.map encE).map fun q => keyT q.1) = (kv.map (·.1)).map pairD := by
    rw [List.map_map, List.map_map]; rfl
  simp only [sortDT, h, e]
  rw [if_pos sortOk_pairs, sort_pairs]
theorem dget_eq {kv : List Ent} {n : Nat} {M : Mem} {q : Ent} (h : M[n]? = some (.dT (kv.map encE))) (hn : (kv.map (·.1)).Nodup) (hq : q ∈ kv) : dgetD (.ref n) (pairD q.1) M = .ok (.int q.2) M := by
  have hk : keysOf [D.int q.1.1, D.int q.1.2] = some (encK q.1) := rfl
  have e : dgetO (.ref n) (pairD q.1) M = some (some (.int q.2)) := by
    simp only [dgetO, h, pairD, hk, Option.map_some, dval_enc hn hq]
  simp only [dgetD, e]
def dputJ (d x y : D) (ρ : MEnv) (M : Mem) : R Fl := match dputO x y d M with
  | some M4 => .ok (.nx ρ) M4
  | none => .stuck
theorem z_dputS {v o i : ME'} {ρ : MEnv} {M : Mem} : dputS v o i ρ M = (v ρ M).bind fun d M1 => (o ρ M1).bind fun x M2 => (i ρ M2).bind fun y M3 => dputJ d x y ρ M3 := nr rfl
theorem dputJ_eq {kv : List Ent} {n : Nat} {N : Mem} {a b c : Int} {ρ : MEnv} (h : N[n]? = some (.dT (kv.map encE))) (hz : kv.length ≤ 999) : dputJ (.int c) (.ref n) (.tup [.int a, .int b]) ρ N = .ok (.nx ρ) (N.set n (.dT ((putP kv (a, b) c).map encE))) := by
  have hk : keysOf [D.int a, D.int b] = some (encK (a, b)) := rfl
  have hl : (kv.map encE).length < PySem.sizeLine := by
    rw [List.length_map]
    have := size_small (n := 1000) (Nat.le_refl _)
    omega
  have e : dputO (.ref n) (.tup [.int a, .int b]) (.int c) N = some (N.set n (.dT ((putP kv (a, b) c).map encE))) := by
    simp only [dputO, h, hk, if_pos hl, dput_enc]
  simp only [dputJ, e]
theorem Fr.set_new {n p : Nat} {M M' : Mem} {o : MO} (f : Fr n M M') (hp : M.length ≤ p) (hn : p ≠ n) : Fr n M (M'.set p o) :=
  ⟨by rw [List.length_set]; exact f.len, fun i hi hi2 => by rw [List.getElem?_set_ne (by omega)]; exact f.same i hi hi2, by
    obtain ⟨a, b, e⟩ := f.cup
    exact ⟨a, b, by rw [List.getElem?_set_ne hn]; exact e⟩⟩
theorem add_row {a b c : Int} {M : Mem} : addD (.tup [.int a, .int b]) (.tup [.int c]) M = .ok (.tup [.int a, .int b, .int c]) M := by
  show (if [D.int a, .int b].length + [D.int c].length ≤ PySem.sizeLine then R.ok (D.tup ([D.int a, .int b] ++ [.int c])) M else .stuck) = _
  rw [if_pos (show [D.int a, .int b].length + [D.int c].length ≤ PySem.sizeLine from size_small (n := 3) (by omega))]
  rfl
def cval (kv : List Ent) (k : Int × Int) : Int := match dvalM (kv.map encE) (encK k) with
  | some (.int c) => c
  | _ => 0
theorem cval_ok {kv : List Ent} {q : Ent} (hn : (kv.map (·.1)).Nodup) (h : q ∈ kv) : cval kv q.1 = q.2 := by
  unfold cval
  rw [dval_enc hn h]
theorem pairs_mem {α : Type} {R : α → α → Prop} : ∀ {l : List α}, l.Pairwise R → ∀ q ∈ l.zip (l.drop 1), R q.1 q.2
  | [], _, q, h => by simp at h
  | [_], _, q, h => by simp at h
  | a :: b :: r, hp, q, h => by
    rw [List.pairwise_cons] at hp
    have h' : q ∈ (a, b) :: ((b :: r).zip r) := h
    rcases List.mem_cons.mp h' with z | z
    · subst z; exact hp.1 b (by simp)
    · exact pairs_mem hp.2 q z
theorem pairsOf_map {α : Type} (f : α → D) (l : List α) : pairsOf (l.map f) = (l.zip (l.drop 1)).map fun q => (f q.1, f q.2) := by
  unfold pairsOf
  rw [← List.map_drop, List.zip_map]
  rfl
def rowOf (kv : List Ent) (k : Int × Int) : Row := (k.1, k.2, cval kv k)
theorem rows_ok {day : Nat} {kv : List Ent} (k2 : ∀ q ∈ kv, EntOk day 99 q) (k3 : (kv.map (·.1)).Nodup) (k4 : kv.length ≤ 12) : ShOk day (((kv.map (·.1)).mergeSort leP).map (rowOf kv)) := by
  have perm := List.mergeSort_perm (kv.map (·.1)) leP
  refine ⟨by rw [List.length_map, perm.length_eq, List.length_map]; exact k4, fun r hr => ?_, ?_⟩
  · obtain ⟨k, hk, rfl⟩ := List.mem_map.mp hr
    obtain ⟨q, hq, rfl⟩ := List.mem_map.mp (perm.mem_iff.mp hk)
    obtain ⟨a1, a2, a3, a4, a5⟩ := k2 q hq
    have hv := cval_ok k3 hq
    refine ⟨a1, a2, a3, ?_, ?_⟩
    · show 1 ≤ cval kv q.1; rw [hv]; exact a4
    · show cval kv q.1 ≤ 99; rw [hv]; exact a5
  · rw [List.map_map, pairsOf_map, List.all_map]
    refine List.all_eq_true.mpr fun q hq => ?_
    have hp : ((kv.map (·.1)).mergeSort leP).Pairwise fun p q => leP p q = true ∧ p ≠ q := by
      refine List.Pairwise.and (sorted_pairs _) ?_
      exact (perm.nodup_iff.mpr k3)
    obtain ⟨h1, h2⟩ := pairs_mem hp q hq
    show ltv (pairD (q.1.1, q.1.2)) (pairD (q.2.1, q.2.2)) = true
    rw [ltv_pair, Bool.not_eq_true']
    simp only [leP, decide_eq_true_eq, decide_eq_false_iff_not] at h1 ⊢
    intro z
    exact h2 (Prod.ext (by omega) (by omega))
theorem shifts_ok {n day : Nat} {many : Int} {M : Mem} (hc : Cup n M) (h1 : 1 ≤ day) (hd : day ≤ 60) (m1 : 1 ≤ many) (m2 : many ≤ 12) :
    W (m__law_shifts [.ref n, .int day, .int many, .int 99] M) fun d M' => ∃ sh, d = shD sh ∧ ShOk day sh ∧ Fr n M M' := by
  unfold m__law_shifts
  refine W_fn rfl ?_
  refine W_seq ?_
  refine W_asg ?_
  have e0 : dnewE true (startD 8 [.ref n, .int (day : Int), .int many, .int 99]) M = .ok (.ref M.length) (M ++ [.dT []]) := rfl
  rw [e0, W_ok]
  have h0 : (startD 8 [.ref n, .int (day : Int), .int many, .int 99]).set 4 (some (.ref M.length)) = [some (.ref n), some (.int day), some (.int many), some (.int 99), some (.ref M.length), none, none, none] := rfl
  rw [h0]
  have hpn : M.length ≠ n := by have := hc.lt; omega
  have fr0 : Fr n M (M ++ [MO.dT []]) := Fr.app hc
  obtain ⟨d0, M1, er, r, rfl, r0, r1, fr1⟩ := roll_ok (many := many + 1) fr0.cup (by omega) (by omega)
  obtain ⟨t, rfl⟩ : ∃ t : Nat, r = (t : Int) := ⟨r.toNat, by omega⟩
  refine W_seq (W_for ?_)
  have es : rng1I (callE m__law_roll (consL (varE 0) (consL (op2 addD (varE 2) (cE (.int 1))) nilL))) [some (.ref n), some (.int day), some (.int many), some (.int 99), some (.ref M.length), none, none, none] (M ++ [.dT []]) = .ok (.one (.fix (rangeL 0 t))) M1 := by
    refine rng1_ok ?_ (by omega)
    simp [er]
  rw [es, W_ok]
  refine ⟨t, fun i => (rangeL 0 t).getD i .non, fun i ρ M' => ∃ kv : List Ent, M'[M.length]? = some (.dT (kv.map encE)) ∧ (∀ q ∈ kv, EntOk day 99 q) ∧ (kv.map (·.1)).Nodup ∧ kv.length ≤ i ∧ Fr n M M' ∧
    ∃ x5 x6, ρ = [some (.ref n), some (.int day), some (.int many), some (.int 99), some (.ref M.length), x5, x6, none], rangeL_len, ⟨[], ?_, by simp, List.nodup_nil, Nat.le_refl _, fr0.trans fr1, none, none, rfl⟩, fun i ρ M' hi _ => ?_, fun i ρ M' hi ⟨kv, k1, k2, k3, k4, k5, x5, x6, hρ⟩ => ?_, fun ρ M' ⟨kv, k1, k2, k3, k4, k5, x5, x6, hρ⟩ => ?_⟩
  · have := fr1.same M.length (by simp) hpn
    rw [this]
    exact get_last'
  · have := get_fix (ds := rangeL 0 t) (i := i) (M := M') (by rw [rangeL_len]; exact hi)
    rw [rangeL_len] at this
    exact this
  · subst hρ
    refine ⟨[some (.ref n), some (.int day), some (.int many), some (.int 99), some (.ref M.length), some ((rangeL 0 t).getD i .non), x6, none], rfl, ?_⟩
    generalize some ((rangeL 0 t).getD i .non) = x5
    refine W_seq (W_asg ?_)
    obtain ⟨_, N1, e1, s, rfl, s0, s1, f1⟩ := roll_ok (many := (day : Int)) k5.cup (by omega) (by omega)
    obtain ⟨_, N2, e2, c, rfl, c0, c1, f2⟩ := roll_ok (many := 99) f1.cup (by omega) (by omega)
    obtain ⟨_, N3, e3, g, rfl, g0, g1, f3⟩ := roll_ok (many := (day : Int) - s) f2.cup (by omega) (by omega)
    have q0 : callE m__law_roll (consL (varE 0) (consL (varE 1) nilL)) [some (.ref n), some (.int day), some (.int many), some (.int 99), some (.ref M.length), x5, x6, none] M' = .ok (.int s) N1 := by simp [e1]
    rw [q0, W_ok]
    have fr : Fr n M N3 := ((k5.trans f1).trans f2).trans f3
    have hM3 : N3[M.length]? = some (.dT (kv.map encE)) := by
      have l1 : M.length < M'.length := (List.getElem?_eq_some_iff.mp k1).1
      rw [((f1.trans f2).trans f3).same M.length l1 hpn]
      exact k1
    have q1 : dputS (op2 addD (cE (.int 1)) (callE m__law_roll (consL (varE 0) (consL (varE 3) nilL)))) (varE 4) (tupE (consL (varE 6) (consL (op2 addD (op2 addD (varE 6) (cE (.int 1))) (callE m__law_roll (consL (varE 0) (consL (op2 subD (varE 1) (varE 6)) nilL)))) nilL)))
        [some (.ref n), some (.int day), some (.int many), some (.int 99), some (.ref M.length), x5, some (.int s), none] N1 =
        .ok (.nx [some (.ref n), some (.int day), some (.int many), some (.int 99), some (.ref M.length), x5, some (.int s), none]) (N3.set M.length (.dT ((putP kv (s, s + 1 + g) (1 + c)).map encE))) := by
      simp [z_dputS, e2, e3, size2, dputJ_eq hM3 (show kv.length ≤ 999 by omega)]
    show W (dputS _ _ _ [some (.ref n), some (.int day), some (.int many), some (.int 99), some (.ref M.length), x5, some (.int s), none] N1) _
    rw [q1, W_ok]
    refine ⟨putP kv (s, s + 1 + g) (1 + c), List.getElem?_set_self (List.getElem?_eq_some_iff.mp hM3).1, putP_ok k2 ?_, putP_keys k3, ?_, fr.set_new (Nat.le_refl _) hpn, x5, some (.int s), rfl⟩
    · exact ⟨s0, by show s + 1 ≤ s + 1 + g; omega, by show s + 1 + g ≤ day; omega, by show (1 : Int) ≤ 1 + c; omega, by show 1 + c ≤ 99; omega⟩
    · have := putP_len (kv := kv) (k := (s, s + 1 + g)) (c := 1 + c)
      omega
  · subst hρ
    refine W_ret ?_
    have hl : kv.length ≤ 12 := by omega
    have perm := List.mergeSort_perm (kv.map (·.1)) leP
    have e1 : lcV [7] (seqI (biE (g1 sortDT) (consL (varE 4) nilL))) (pN 7) yesT (op2 addD (varE 7) (tupE (consL (op2 dgetD (varE 4) (varE 7)) nilL))) [some (.ref n), some (.int day), some (.int many), some (.int 99), some (.ref M.length), x5, x6, none] M' =
        .ok (.frl ((((kv.map (·.1)).mergeSort leP).map (rowOf kv)).map rowD)) M' := by
      refine (lc_pure (S := .one (.fix (((kv.map (·.1)).mergeSort leP).map pairD))) (((kv.map (·.1)).mergeSort leP).map pairD) (fun _ => true)
        (fun d => match d with
          | .tup [.int a, .int b] => rowD (rowOf kv (a, b))
          | d => d) (by simp [sortDT_eq k1]) (size_small (by rw [List.length_map, perm.length_eq, List.length_map]; omega)) rfl (fun i hi => get_fix hi) fun d hd => ?_).trans ?_
      · obtain ⟨k, hk, rfl⟩ := List.mem_map.mp hd
        obtain ⟨q, hq, rfl⟩ := List.mem_map.mp (perm.mem_iff.mp hk)
        refine ⟨[some (.ref n), some (.int day), some (.int many), some (.int 99), some (.ref M.length), x5, x6, some (pairD q.1)], rfl, rfl, fun _ => ?_⟩
        have hg := dget_eq k1 k3 hq
        have hv := cval_ok k3 hq
        simp [hg, size_small (n := 1)]
        show addD (.tup [.int q.1.1, .int q.1.2]) (.tup [.int q.2]) M' = .ok (rowD (rowOf kv q.1)) M'
        rw [add_row]
        show R.ok (D.tup [.int q.1.1, .int q.1.2, .int q.2]) M' = .ok (D.tup [.int q.1.1, .int q.1.2, .int (cval kv q.1)]) M'
        rw [hv]
      · rw [filt_true, List.map_map, List.map_map]
        rfl
    have e2 : biE (g1 tupleM) (consL (lcV [7] (seqI (biE (g1 sortDT) (consL (varE 4) nilL))) (pN 7) yesT (op2 addD (varE 7) (tupE (consL (op2 dgetD (varE 4) (varE 7)) nilL)))) nilL) [some (.ref n), some (.int day), some (.int many), some (.int 99), some (.ref M.length), x5, x6, none] M' =
        .ok (shD (((kv.map (·.1)).mergeSort leP).map (rowOf kv))) M' := by
      simp only [z_bi, z_cons, e1, z_bind_ok, z_nil, z_g1, z_tuple_frl]
      rfl
    rw [e2, W_ok]
    exact ⟨_, rfl, rows_ok k2 k3 hl, k5⟩
end K56

set_option Elab.async false
set_option linter.all false
set_option maxRecDepth 100000
set_option maxHeartbeats 4000000
namespace K56
open Mini
theorem add_tup {xs ys : List D} {M : Mem} (h : xs.length + ys.length ≤ 5000) : addD (.tup xs) (.tup ys) M = .ok (.tup (xs ++ ys)) M := by
  show (if xs.length + ys.length ≤ PySem.sizeLine then R.ok (D.tup (xs ++ ys)) M else .stuck) = _
  have := PySem.sizeLine_eq
  rw [if_pos (by omega)]
theorem size1 : (1 : Nat) ≤ PySem.sizeLine := size_small (by omega)
theorem need_ok {n day : Nat} {sh : List Row} {most : Int} {M : Mem} (hc : Cup n M) (hd : day ≤ 60) (hs : sh.length ≤ 1000) (m1 : 0 ≤ most) (m2 : most ≤ 1000) :
    W (m__law_need [.ref n, .int day, shD sh, .int most] M) fun d M' => ∃ xs : List Int, d = .tup (dI xs) ∧ xs.length = day ∧ (∀ i ∈ xs, 0 ≤ i ∧ i ≤ most) ∧ Fr n M M' := by
  unfold m__law_need
  refine W_fn rfl ?_
  refine W_seq ?_
  refine W_asg ?_
  have e0 : tupE nilL (startD 10 [.ref n, .int (day : Int), shD sh, .int most]) M = .ok (.tup []) M := by simp
  rw [e0, W_ok]
  have h0 : (startD 10 [.ref n, .int (day : Int), shD sh, .int most]).set 4 (some (.tup [])) = [some (.ref n), some (.int day), some (shD sh), some (.int most), some (.tup []), none, none, none, none, none] := rfl
  rw [h0]
  refine W_seq (W_for ?_)
  have es : rng1I (varE 1) [some (.ref n), some (.int day), some (shD sh), some (.int most), some (.tup []), none, none, none, none, none] M = .ok (.one (.fix (rangeL 0 day))) M := rng1_ok rfl (by omega)
  rw [es, W_ok]
  refine ⟨day, fun i => (rangeL 0 day).getD i .non, fun i ρ M' => ∃ xs : List Int, xs.length = i ∧ (∀ i ∈ xs, 0 ≤ i ∧ i ≤ most) ∧ Fr n M M' ∧ ∃ x5 x6, ρ = [some (.ref n), some (.int day), some (shD sh), some (.int most), some (.tup (dI xs)), x5, x6, none, none, none],
    rangeL_len, ⟨[], rfl, by simp, Fr.refl hc, none, none, rfl⟩, fun i ρ M' hi _ => ?_, fun i ρ M' hi ⟨xs, k1, k2, k3, x5, x6, hρ⟩ => ?_, fun ρ M' ⟨xs, k1, k2, k3, x5, x6, hρ⟩ => ?_⟩
  · have := get_fix (ds := rangeL 0 day) (i := i) (M := M') (by rw [rangeL_len]; exact hi)
    rw [rangeL_len] at this
    exact this
  · subst hρ
    obtain ⟨t, ht⟩ : ∃ t : Int, (i : Int) = t := ⟨_, rfl⟩
    refine ⟨[some (.ref n), some (.int day), some (shD sh), some (.int most), some (.tup (dI xs)), some (.int t), x6, none, none, none], by show pN 5 ((rangeL 0 day).getD i .non) _ = _; rw [rangeL_get hi, Int.zero_add, ht]; rfl, ?_⟩
    refine W_seq (W_asg ?_)
    have e1 : lcV [7, 8, 9] (seqI (varE 2)) (pT 3 (pCons (pN 7) (pCons (pN 8) (pCons (pN 9) pNil)))) (tst (chn leM ltM (varE 7) (varE 5) (varE 8))) (cE (.int 1)) [some (.ref n), some (.int day), some (shD sh), some (.int most), some (.tup (dI xs)), some (.int t), x6, none, none, none] M' =
        .ok (.frl ((sh.filter fun r => decide (r.1 ≤ t) && decide (t < r.2.1)).map fun _ => D.int 1)) M' := by
      refine (lc_tup (sh.map rowD) (fun d => match d with
        | .tup [.int s, .int e, .int c] => decide (s ≤ t) && decide (t < e)
        | _ => false) (fun _ => .int 1) rfl (size_small (by rw [List.length_map]; exact hs)) fun d hd => ?_).trans ?_
      · obtain ⟨r, hr, rfl⟩ := List.mem_map.mp hd
        refine ⟨[some (.ref n), some (.int day), some (shD sh), some (.int most), some (.tup (dI xs)), some (.int t), x6, some (.int r.1), some (.int r.2.1), some (.int r.2.2)], by simp [rowD], ?_, fun _ => by simp⟩
        simp only [rowD]
        by_cases h1 : r.1 ≤ t <;> simp [h1]
      · rw [filt_map, List.map_map]; rfl
    have e2 : ∃ b, op2 neD (lcV [7, 8, 9] (seqI (varE 2)) (pT 3 (pCons (pN 7) (pCons (pN 8) (pCons (pN 9) pNil)))) (tst (chn leM ltM (varE 7) (varE 5) (varE 8))) (cE (.int 1))) (lstV nilL) [some (.ref n), some (.int day), some (shD sh), some (.int most), some (.tup (dI xs)), some (.int t), x6, none, none, none] M' = .ok (.bl b) M' :=
      ⟨_, by simp only [z_op2, e1, z_bind_ok, z_lstV, z_nil]; simp; exact ne_nil (okDs_ones _)⟩
    obtain ⟨b, e2⟩ := e2
    rw [e2, W_ok]
    have fin : ∀ (g : Int) (N : Mem), 0 ≤ g → g ≤ most → Fr n M' N → ∃ ys : List Int, ys.length = i + 1 ∧ (∀ i ∈ ys, 0 ≤ i ∧ i ≤ most) ∧ Fr n M N ∧ addD (.tup (dI xs)) (.tup [.int g]) N = .ok (.tup (dI ys)) N := fun g N g0 g1 f => by
      refine ⟨xs ++ [g], by simp [k1], fun j hj => ?_, k3.trans f, ?_⟩
      · rcases List.mem_append.mp hj with z | z
        · exact k2 j z
        · rw [List.mem_singleton.mp z]; exact ⟨g0, g1⟩
      · rw [add_tup (by rw [dI_len]; simp; omega), dI_app]; rfl
    refine W_asg ?_
    show W (op2 addD _ _ [some (.ref n), some (.int day), some (shD sh), some (.int most), some (.tup (dI xs)), some (.int t), some (.bl b), none, none, none] M') _
    have frc := k3.cup
    cases b with
    | true =>
      obtain ⟨_, N, er, g, rfl, g0, g1, f1⟩ := roll_ok (many := most + 1) frc (by omega) (by omega)
      obtain ⟨ys, y1, y2, y3, y4⟩ := fin g N g0 (by omega) f1
      refine ⟨_, _, by simp [er, size1, y4], ys, y1, y2, y3, _, _, rfl⟩
    | false =>
      obtain ⟨_, N1, er1, q, rfl, q0, q1, f1⟩ := roll_ok (many := 30) frc (by omega) (by omega)
      by_cases hq : q = 0
      · obtain ⟨_, N, er, g, rfl, g0, g1, f2⟩ := roll_ok (many := most + 1) f1.cup (by omega) (by omega)
        obtain ⟨ys, y1, y2, y3, y4⟩ := fin g N g0 (by omega) (f1.trans f2)
        refine ⟨_, _, by simp [er1, hq, er, size1, y4], ys, y1, y2, y3, _, _, rfl⟩
      · obtain ⟨ys, y1, y2, y3, y4⟩ := fin 0 N1 (by omega) m1 f1
        refine ⟨_, _, by simp [er1, hq, size1, y4], ys, y1, y2, y3, _, _, rfl⟩
  · subst hρ
    refine W_ret ⟨_, _, rfl, xs, rfl, k1, k2, k3⟩
end K56

set_option Elab.async false
set_option linter.all false
set_option maxRecDepth 100000
set_option maxHeartbeats 4000000
namespace K56
open Mini
theorem cut_from (xs : List D) (k : Nat) : cutD xs (some (k : Int)) none = xs.drop k := by
  unfold cutD
  rw [HT.sIx_nat, HT.sIx_none]
  by_cases h : k ≤ xs.length
  · rw [Nat.min_eq_left h, List.take_of_length_le (by rw [List.length_drop]; omega)]
  · rw [Nat.min_eq_right (by omega), List.drop_of_length_le (Nat.le_refl _), List.drop_of_length_le (by omega)]
    simp
theorem cut_from' (xs : List D) (k : Nat) : cutD xs (some ((k : Int) + 1)) none = xs.drop (k + 1) := cut_from xs (k + 1)
theorem cut_to' (xs : List D) (k : Nat) : cutD xs none (some ((k : Int) + 1)) = xs.take (k + 1) := cut_to xs (k + 1)
def bentT : MEnv → Mem → R Bool := (orT (notT (tst (op1 (isTyD .tuple) (varE 1)))) (orT (tst (op2 eqD (varE 1) (tupE nilL))) (tst (op2 eqD (callE m__law_roll (consL (varE 0) (consL (cE (.int 9)) nilL))) (cE (.int 0))))))
def bentA : MS' := (seqS (asgV 2 (lstV (consL (cE .non) (consL (cE (.bl true)) (consL (cE (.bl false)) (consL (cE (.int 0)) (consL (cE (.int 1)) (consL (cE (.int 4)) (consL (cE (.int 5)) (consL (cE (.int 8)) (consL (cE (.int 9)) (consL (cE (.int 20)) (consL (cE (.int 21)) (consL (cE (.int 60)) (consL (cE (.int 61)) (consL (op1 negD (cE (.int 1))) (consL (cE (.str "")) (consL (cE (.str "a")) (consL (cE (.str "A")) (consL (cE (.str "order")) (consL (cE (.str "if")) (consL (cE (.str "slack")) (consL (cE (.str "narrow")) (consL (tupE nilL) (consL (lstV nilL) (consL (tupE (consL (cE (.str "a")) nilL)) (consL (tupE (consL (tupE (consL (cE (.int 0)) (consL (cE (.int 1)) nilL))) nilL)) nilL)))))))))))))))))))))))))))
    (seqS (ifS (tst (op2 eqD (callE m__law_sort (consL (varE 1) nilL)) (cE (.int 2)))) (asgV 2 (op2 addD (varE 2) (lstV (consL (op2 subD (varE 1) (cE (.int 1))) (consL (op2 addD (varE 1) (cE (.int 1))) (consL (op2 addD (varE 1) (cE (.int 1))) (consL (op2 addD (varE 1) (cE (.int 2))) nilL))))))) skipS)
    (retS (callE m__law_some (consL (varE 0) (consL (varE 2) nilL))))))
def bentR (n : Nat) : MS' := (seqS (parS 3 4 (consL (callE m__law_roll (consL (varE 0) (consL (biE (g1 lenM) (consL (varE 1) nilL)) nilL))) (consL (callE m__law_roll (consL (varE 0) (consL (cE (.int 12)) nilL))) nilL)))
    (seqS (ifS (tst (op2 eqD (varE 4) (cE (.int 0)))) (retS (op2 addD (slE (varE 1) mO0 (mO1 (varE 3))) (slE (varE 1) (mO1 (op2 addD (varE 3) (cE (.int 1)))) mO0))) skipS)
    (seqS (ifS (tst (op2 eqD (varE 4) (cE (.int 1)))) (retS (op2 addD (slE (varE 1) mO0 (mO1 (op2 addD (varE 3) (cE (.int 1))))) (slE (varE 1) (mO1 (varE 3)) mO0))) skipS)
    (seqS (ifS (tst (op2 eqD (varE 4) (cE (.int 2)))) (retS (biE (g1 listV) (consL (varE 1) nilL))) skipS)
    (seqS (ifS (tst (op2 eqD (varE 4) (cE (.int 3)))) (retS (op1 revD (varE 1))) skipS)
    (retS (op2 addD (op2 addD (slE (varE 1) mO0 (mO1 (varE 3))) (tupE (consL (callE (m__law_bent n) (consL (varE 0) (consL (op2 ixD (varE 1) (varE 3)) nilL))) nilL))) (slE (varE 1) (mO1 (op2 addD (varE 3) (cE (.int 1)))) mO0))))))))
theorem bent_def (n : Nat) : m__law_bent (n + 1) = fnM 5 2 (seqS (ifS bentT bentA skipS) (bentR n)) := rfl
def consts : List D := [.non, .bl true, .bl false, .int 0, .int 1, .int 4, .int 5, .int 8, .int 9, .int 20, .int 21, .int 60, .int 61, .int (-1), .str "", .str "a", .str "A", .str "order", .str "if", .str "slack", .str "narrow", .tup [], .frl [], .tup [.str "a"], .tup [.tup [.int 0, .int 1]]]
section
variable {B : Int} {L k c n : Nat} {v : D} {M : Mem}
theorem pd_str {x : PySem.Str} (h : PySem.PyData.strOk x = true) : pd B L k (.str x) := by
  cases k with
  | zero => exact h
  | succ k => exact .inl h
theorem pd_int {i : Int} (h : -B ≤ i ∧ i ≤ B) : pd B L k (.int i) := by
  cases k with
  | zero => exact h
  | succ k => exact .inl h
theorem pd_tup {xs : List D} (hl : xs.length ≤ L) (h : ∀ x ∈ xs, pd B L k x) : pd B L (k + 1) (.tup xs) := .inr ⟨xs, .inl rfl, hl, h⟩
theorem pd_frl {xs : List D} (hl : xs.length ≤ L) (h : ∀ x ∈ xs, pd B L k x) : pd B L (k + 1) (.frl xs) := .inr ⟨xs, .inr rfl, hl, h⟩
theorem consts_pd (hB : 61 ≤ B) (hL : 2 ≤ L) : ∀ d ∈ consts, pd B L 2 d := fun d hd => by
  have t1 : pd B L 2 (.tup [.str "a"]) := pd_tup (by simp; omega) fun x hx => by
    rw [List.mem_singleton.mp hx]; exact pd_str (by decide +kernel)
  have t2 : pd B L 2 (.tup [.tup [.int 0, .int 1]]) := pd_tup (by simp; omega) fun x hx => by
    rw [List.mem_singleton.mp hx]
    refine pd_tup (by simp; omega) fun y hy => ?_
    simp at hy
    rcases hy with rfl | rfl <;> exact pd_int ⟨by omega, by omega⟩
  have s1 : pd B L 2 (.str "") := pd_str (by decide +kernel)
  have s2 : pd B L 2 (.str "a") := pd_str (by decide +kernel)
  have s3 : pd B L 2 (.str "A") := pd_str (by decide +kernel)
  have s4 : pd B L 2 (.str "order") := pd_str (by decide +kernel)
  have s5 : pd B L 2 (.str "if") := pd_str (by decide +kernel)
  have s6 : pd B L 2 (.str "slack") := pd_str (by decide +kernel)
  have s7 : pd B L 2 (.str "narrow") := pd_str (by decide +kernel)
  have e1 : pd B L 2 (.tup []) := pd_tup (by simp) (by simp)
  have e2 : pd B L 2 (.frl []) := pd_frl (by simp) (by simp)
  simp only [consts, List.mem_cons, List.not_mem_nil, or_false] at hd
  rcases hd with rfl | rfl | rfl | rfl | rfl | rfl | rfl | rfl | rfl | rfl | rfl | rfl | rfl | rfl | rfl | rfl | rfl | rfl | rfl | rfl | rfl | rfl | rfl | rfl | rfl
  all_goals first
    | assumption
    | exact .inl trivial
    | exact pd_int ⟨by omega, by omega⟩
theorem bentA_ok (hB : 61 ≤ B) (hL : 2 ≤ L) (hc : Cup c M) (h : pd B L k v) : W (bentA [some (.ref c), some v, none, none, none] M) (QF (fun _ _ => False) fun d M' => pd (B + 2) (L + 1) (k + 2) d ∧ Fr c M M') := by
  unfold bentA
  refine W_seq (W_asg ?_)
  have s25 : (25 : Nat) ≤ PySem.sizeLine := size_small (by omega)
  have s4 : (4 : Nat) ≤ PySem.sizeLine := size_small (by omega)
  have cpd : ∀ d ∈ consts, pd (B + 2) (L + 1) (k + 2) d := fun d hd => (consts_pd hB hL d hd).mono (by omega) (by omega) (by omega)
  refine ⟨.frl consts, M, by simp [s25, size1, size2, consts], ?_⟩
  show W (seqS _ _ [some (.ref c), some v, some (.frl consts), none, none] M) _
  have hs := sort_eq (x := v) (M := M) h.simple
  by_cases hi : ∃ i, v = .int i
  · obtain ⟨i, rfl⟩ := hi
    have hi : -B ≤ i ∧ i ≤ B := by
      cases k with
      | zero => exact h
      | succ k =>
        rcases h with h | ⟨xs, e | e, _⟩
        · exact h
        · cases e
        · cases e
    have e1 : addD (.frl consts) (.frl [.int (i - 1), .int (i + 1), .int (i + 1), .int (i + 2)]) M = .ok (.frl (consts ++ [.int (i - 1), .int (i + 1), .int (i + 1), .int (i + 2)])) M := by
      show (if consts.length + [D.int (i - 1), .int (i + 1), .int (i + 1), .int (i + 2)].length ≤ PySem.sizeLine then R.ok (D.frl (consts ++ [.int (i - 1), .int (i + 1), .int (i + 1), .int (i + 2)])) M else .stuck) = _
      rw [if_pos (show consts.length + [D.int (i - 1), .int (i + 1), .int (i + 1), .int (i + 2)].length ≤ PySem.sizeLine from size_small (n := 29) (by omega))]
    obtain ⟨d, M', es, hd, hf⟩ := some_ok (xs := consts ++ [.int (i - 1), .int (i + 1), .int (i + 1), .int (i + 2)]) hc (by simp [consts]) (by simp [consts])
    refine W_seq ?_
    refine ⟨.nx [some (.ref c), some (.int i), some (.frl (consts ++ [.int (i - 1), .int (i + 1), .int (i + 1), .int (i + 2)])), none, none], M, by simp [hs, sortI, s4, e1], ?_⟩
    refine W_ret ⟨d, M', by simp [es], ?_, hf⟩
    rcases List.mem_append.mp hd with z | z
    · exact cpd d z
    · refine .inl ?_
      simp at z
      rcases z with rfl | rfl | rfl <;> (show -(B + 2) ≤ _ ∧ _ ≤ B + 2; omega)
  · have e2 : decide (sortI v = 2) = false := decide_eq_false fun z => by
      cases v <;> simp [sortI] at z
      exact hi ⟨_, rfl⟩
    obtain ⟨d, M', es, hd, hf⟩ := some_ok (xs := consts) hc (by simp [consts]) (by simp [consts])
    refine W_seq ?_
    refine ⟨.nx [some (.ref c), some v, some (.frl consts), none, none], M, by simp [hs, e2], ?_⟩
    exact W_ret ⟨d, M', by simp [es], cpd d hd, hf⟩
theorem bentT_tup {xs : List D} (hok : okDs xs = true) : (∃ r M', xs ≠ [] ∧ m__law_roll [.ref c, .int 9] M = .ok (.int r) M' ∧ bentT [some (.ref c), some (.tup xs), none, none, none] M = .ok (decide (r = 0)) M') ∨ ¬ (∃ r M', m__law_roll [.ref c, .int 9] M = .ok (.int r) M') ∨ (xs = [] ∧ bentT [some (.ref c), some (.tup xs), none, none, none] M = .ok true M) := by
  have he : eqD (.tup xs) (.tup []) M = .ok (.bl xs.isEmpty) M := by
    cases xs <;> simp [eqD, drf, okD, okDs, depD, depDs, eqvD, eqvDs] at hok ⊢
    simp [hok]
  by_cases hx : xs = []
  · subst hx
    refine .inr (.inr ⟨rfl, ?_⟩)
    simp [bentT, isA, he]
  · have hx2 : xs.isEmpty = false := by cases xs <;> simp at hx ⊢
    by_cases hr : ∃ r M', m__law_roll [.ref c, .int 9] M = .ok (.int r) M'
    · obtain ⟨r, M', e⟩ := hr
      refine .inl ⟨r, M', hx, e, ?_⟩
      simp [bentT, isA, he, hx2, e]
    · exact .inr (.inl hr)
theorem mem_take {α : Type} {x : α} {xs : List α} {t : Nat} (h : x ∈ xs.take t) : x ∈ xs := List.mem_of_mem_take h
theorem bent_ok (hB : 61 ≤ B) (hL : 2 ≤ L) (hL2 : L ≤ 900) : ∀ {n k : Nat} {v : D} {M : Mem}, pd B L k v → k < n → Cup c M → W (m__law_bent n [.ref c, v] M) fun d M' => pd (B + 2) (L + 1) (k + 2) d ∧ Fr c M M'
  | 0, k, v, M, h, hk, hc => by omega
  | n + 1, k, v, M, h, hk, hc => by
    rw [bent_def]
    refine W_fn rfl ?_
    have h0 : startD 5 [.ref c, v] = [some (.ref c), some v, none, none, none] := rfl
    rw [h0]
    have up : pd (B + 2) (L + 1) (k + 2) v := h.mono (by omega) (by omega) (by omega)
    -- one of the consts, or what is near to v
    have other : ∀ M1, Fr c M M1 → bentT [some (.ref c), some v, none, none, none] M = .ok true M1 →
        W (seqS (ifS bentT bentA skipS) (bentR n) [some (.ref c), some v, none, none, none] M) (QF (fun _ M1 => pd (B + 2) (L + 1) (k + 2) .non ∧ Fr c M M1) fun d M' => pd (B + 2) (L + 1) (k + 2) d ∧ Fr c M M') := fun M1 f1 e => by
      refine W_seq (W_if ?_)
      rw [e, W_ok, if_pos rfl]
      refine (bentA_ok hB hL f1.cup h).mono fun f M2 q => ?_
      cases f with
      | nx ρ => exact q.elim
      | rt d => exact ⟨q.1, f1.trans q.2⟩
    by_cases ht : ∃ xs, v = .tup xs
    · obtain ⟨xs, rfl⟩ := ht
      obtain ⟨hl, hi⟩ := h.items
      have hl : xs.length ≤ L := hl
      have hi : ∀ x ∈ xs, pd B L (k - 1) x := hi
      obtain ⟨_, M1, er, r, rfl, r0, r1, f1⟩ := roll_ok (many := 9) hc (by omega) (by omega)
      rcases bentT_tup (c := c) (M := M) (xs := xs) (okDs_of fun x hx => (hi x hx).ok) with ⟨r', M1', hx, er', eT⟩ | hno | ⟨hx, eT⟩
      · rw [er] at er'
        cases er'
        by_cases hr : r = 0
        · exact other M1 f1 (by rw [eT, hr]; rfl)
        · have eT : bentT [some (.ref c), some (.tup xs), none, none, none] M = .ok false M1 := by rw [eT, decide_eq_false hr]
          refine W_seq (W_if ?_)
          rw [eT, W_ok, if_neg Bool.false_ne_true]
          refine W_skip ?_
          have hx1 : 1 ≤ xs.length := by cases xs with
            | nil => exact absurd rfl hx
            | cons _ _ => simp
          obtain ⟨_, M2, e2, t, rfl, t0, t1, f2⟩ := roll_ok (many := xs.length) f1.cup (by omega) (by omega)
          obtain ⟨_, M3, e3, w, rfl, w0, w1, f3⟩ := roll_ok (many := 12) f2.cup (by omega) (by omega)
          obtain ⟨t, rfl⟩ : ∃ u : Nat, t = (u : Int) := ⟨t.toNat, by omega⟩
          have f : Fr c M M3 := (f1.trans f2).trans f3
          have htl : t < xs.length := by omega
          unfold bentR
          refine W_seq ?_
          refine ⟨.nx [some (.ref c), some (.tup xs), none, some (.int t), some (.int w)], M3, by simp [e2, e3], ?_⟩
          show W (seqS _ _ [some (.ref c), some (.tup xs), none, some (.int t), some (.int w)] M3) _
          have hk1 : 1 ≤ k := by
            cases k with
            | zero => exact False.elim h
            | succ k => omega
          have upx : ∀ x ∈ xs, pd (B + 2) (L + 1) (k + 1) x := fun x hx => (hi x hx).mono (by omega) (by omega) (by omega)
          have c1 : ∀ N, slD (.tup xs) none (some (t : Int)) N = .ok (.tup (xs.take t)) N := fun N => by rw [z_sl_tup, cut_to]
          have c2 : ∀ N, slD (.tup xs) (some ((t : Int) + 1)) none N = .ok (.tup (xs.drop (t + 1))) N := fun N => by rw [z_sl_tup, cut_from']
          have c3 : ∀ N, slD (.tup xs) none (some ((t : Int) + 1)) N = .ok (.tup (xs.take (t + 1))) N := fun N => by rw [z_sl_tup, cut_to']
          have c4 : ∀ N, slD (.tup xs) (some (t : Int)) none N = .ok (.tup (xs.drop t)) N := fun N => by rw [z_sl_tup, cut_from]
          have ll1 : (xs.take t).length ≤ xs.length := by rw [List.length_take]; omega
          have ll2 : (xs.drop (t + 1)).length ≤ xs.length := by rw [List.length_drop]; omega
          have ll3 : (xs.take (t + 1)).length ≤ xs.length := by rw [List.length_take]; omega
          have ll4 : (xs.drop t).length ≤ xs.length := by rw [List.length_drop]; omega
          by_cases w0 : w = 0
          · subst w0
            have ea : addD (.tup (xs.take t)) (.tup (xs.drop (t + 1))) M3 = .ok (.tup (xs.take t ++ xs.drop (t + 1))) M3 := add_tup (by omega)
            refine ⟨.rt (.tup (xs.take t ++ xs.drop (t + 1))), M3, by simp only [z_seq, z_if, z_tst, z_op2, z_var, z_c, z_bind_ok, z_eq, z_asB, z_ret, z_slE, z_mO0, z_mO1, List.getElem?_cons_succ, List.getElem?_cons_zero, z_add, c1, c2, ea, z_then_rt, decide_true, if_true], ?_, f⟩
            refine pd_tup (by rw [List.length_append, List.length_take, List.length_drop]; omega) fun x hx => ?_
            rcases List.mem_append.mp hx with z | z
            · exact upx x (List.mem_of_mem_take z)
            · exact upx x (List.mem_of_mem_drop z)
          by_cases w1' : w = 1
          · subst w1'
            have ea : addD (.tup (xs.take (t + 1))) (.tup (xs.drop t)) M3 = .ok (.tup (xs.take (t + 1) ++ xs.drop t)) M3 := add_tup (by omega)
            refine ⟨.rt (.tup (xs.take (t + 1) ++ xs.drop t)), M3, by simp [c3, c4, ea], ?_, f⟩
            refine pd_tup (by rw [List.length_append, List.length_take, List.length_drop]; omega) fun x hx => ?_
            rcases List.mem_append.mp hx with z | z
            · exact upx x (List.mem_of_mem_take z)
            · exact upx x (List.mem_of_mem_drop z)
          by_cases w2 : w = 2
          · subst w2
            exact ⟨.rt (.frl xs), M3, by simp, pd_frl (by omega) upx, f⟩
          by_cases w3 : w = 3
          · subst w3
            have er : revD (.tup xs) M3 = .ok (.tup xs.reverse) M3 := nr rfl
            exact ⟨.rt (.tup xs.reverse), M3, by simp [er], pd_tup (by rw [List.length_reverse]; omega) (fun x hx => upx x (List.mem_reverse.mp hx)), f⟩
          · have hix : ixD (.tup xs) (.int t) M3 = .ok xs[t] M3 := ix_tup (List.getElem?_eq_getElem htl)
            obtain ⟨y, M4, ey, hy, f4⟩ := bent_ok hB hL hL2 (n := n) (k := k - 1) (hi _ (List.getElem_mem htl)) (by omega) f.cup
            have e1 : addD (.tup (xs.take t)) (.tup [y]) M4 = .ok (.tup (xs.take t ++ [y])) M4 := add_tup (by simp; omega)
            have e2 : addD (.tup (xs.take t ++ [y])) (.tup (xs.drop (t + 1))) M4 = .ok (.tup (xs.take t ++ [y] ++ xs.drop (t + 1))) M4 := add_tup (by simp; omega)
            refine ⟨.rt (.tup (xs.take t ++ [y] ++ xs.drop (t + 1))), M4, by simp only [z_seq, z_if, z_tst, z_op2, z_var, z_c, z_bind_ok, z_eq, z_asB, z_ret, z_slE, z_mO0, z_mO1, List.getElem?_cons_succ, List.getElem?_cons_zero, z_add, w0, w1', w2, w3, decide_false, Bool.false_eq_true, if_false, z_skip, z_then_nx, c1, c2, z_tup, z_cons, z_call, z_nil, hix, ey, List.length_singleton, size1, if_true, e1, e2], ?_, f.trans f4⟩
            refine pd_tup (by simp; omega) fun x hx => ?_
            rcases List.mem_append.mp hx with z | z
            · rcases List.mem_append.mp z with z | z
              · exact upx x (List.mem_of_mem_take z)
              · rw [List.mem_singleton.mp z]
                exact hy.mono (Int.le_refl _) (Nat.le_refl _) (by omega)
            · exact upx x (List.mem_of_mem_drop z)
      · exact absurd ⟨r, M1, er⟩ hno
      · exact other M (Fr.refl hc) eT
    · have eT : bentT [some (.ref c), some v, none, none, none] M = .ok true M := by
        have hs := h.simple
        cases v <;> first | exact absurd ⟨_, rfl⟩ ht | (simp [bentT, isA]; done) | (simp [simple] at hs)
      exact other M (Fr.refl hc) eT
end
end K56

set_option Elab.async false
set_option linter.all false
set_option maxRecDepth 100000
set_option maxHeartbeats 4000000
namespace K56
open Mini
def body1 : MS' := (seqS (asgV 10 (callE m__law_is_cover (consL (varE 1) (consL (varE 2) (consL (varE 3) (consL (varE 9) nilL))))))
    (seqS (ifS (notT (tst (callE (m__law_like 6) (consL (callE m_is_cover (consL (varE 1) (consL (varE 2) (consL (varE 3) (consL (varE 9) nilL))))) (consL (varE 10) nilL))))) (retS (cE (.bl false))) skipS)
    (seqS (ifS (andT (tst (varE 10)) (notT (tst (callE (m__law_like 6) (consL (callE m_cost_of (consL (varE 1) (consL (varE 2) (consL (varE 3) (consL (varE 9) nilL))))) (consL (callE m__law_cost (consL (varE 2) (consL (varE 9) nilL))) nilL)))))) (retS (cE (.bl false))) skipS)
    (ifS (andT (notT (tst (varE 10))) (tst (op2 neD (wordE wans (callE m_cost_of (consL (varE 1) (consL (varE 2) (consL (varE 3) (consL (varE 9) nilL)))))) (cE (.int 1))))) (retS (cE (.bl false))) skipS))))
def body2 : MS' := (seqS (asgV 10 (callE m__law_are_prices (consL (varE 1) (consL (varE 2) (consL (varE 9) nilL)))))
    (seqS (ifS (notT (tst (callE (m__law_like 6) (consL (callE m_are_prices (consL (varE 1) (consL (varE 2) (consL (varE 9) nilL)))) (consL (varE 10) nilL))))) (retS (cE (.bl false))) skipS)
    (seqS (ifS (andT (tst (varE 10)) (notT (tst (callE (m__law_like 6) (consL (callE m_worth_of (consL (varE 1) (consL (varE 2) (consL (varE 3) (consL (varE 9) nilL))))) (consL (callE m__law_worth (consL (varE 3) (consL (varE 9) nilL))) nilL)))))) (retS (cE (.bl false))) skipS)
    (ifS (andT (notT (tst (varE 10))) (tst (op2 neD (wordE wans (callE m_worth_of (consL (varE 1) (consL (varE 2) (consL (varE 3) (consL (varE 9) nilL)))))) (cE (.int 1))))) (retS (cE (.bl false))) skipS))))
def body3 : MS' := (seqS (parS 12 13 (consL (callE (m__law_bent 6) (consL (varE 0) (consL (varE 2) nilL))) (consL (callE (m__law_bent 6) (consL (varE 0) (consL (varE 3) nilL))) nilL)))
    (ifS (notT (tst (callE (m__law_like 6) (consL (lstV (consL (callE m_are_shifts (consL (varE 1) (consL (varE 12) nilL))) (consL (callE m_is_need (consL (varE 1) (consL (varE 13) nilL))) nilL))) (consL (lstV (consL (callE m__law_are_shifts (consL (varE 1) (consL (varE 12) nilL))) (consL (callE m__law_is_need (consL (varE 1) (consL (varE 13) nilL))) nilL))) nilL))))) (retS (cE (.bl false))) skipS))
theorem right_def : m__law_right = fnM 17 2 ((seqS (asgV 2 (callE m__law_shifts (consL (varE 0) (consL (varE 1) (consL (callE m__law_some (consL (varE 0) (consL (lstV (consL (cE (.int 2)) (consL (cE (.int 12)) nilL))) nilL))) (consL (cE (.int 99)) nilL))))))
    (seqS (asgV 3 (callE m__law_need (consL (varE 0) (consL (varE 1) (consL (varE 2) (consL (callE m__law_some (consL (varE 0) (consL (lstV (consL (cE (.int 1)) (consL (cE (.int 50)) nilL))) nilL))) nilL))))))
    (seqS (asgV 4 (biE (g1 tupleM) (consL (lcV [14] (seqI (varE 2)) (pN 14) yesT (callE m__law_roll (consL (varE 0) (consL (op2 addD (biE (g1 maxD) (consL (varE 3) nilL)) (cE (.int 2))) nilL)))) nilL)))
    (seqS (asgV 5 (biE (g1 tupleM) (consL (lcV [15] (rng1I (varE 1)) (pN 15) yesT (callE m__law_some (consL (varE 0) (consL (lstV (consL (cE (.int 0)) (consL (cE (.int 0)) (consL (cE (.int 1)) (consL (callE m__law_roll (consL (varE 0) (consL (cE (.int 100)) nilL))) nilL))))) nilL)))) nilL)))
    (seqS (asgV 6 (callE m__law_works (consL (varE 1) (consL (varE 2) (consL (op2 mulD (tupE (consL (cE (.int 1)) nilL)) (biE (g1 lenM) (consL (varE 2) nilL))) nilL)))))
    (seqS (asgV 7 (biE (g1 tupleM) (consL (lcV [15] (rng1I (varE 1)) (pN 15) (andT (tst (op2 gtM (op2 ixD (varE 3) (varE 15)) (cE (.int 0)))) (tst (op2 eqD (op2 ixD (varE 6) (varE 15)) (cE (.int 0))))) (varE 15)) nilL)))
    (seqS (ifS (notT (tst (callE (m__law_like 6) (consL (lstV (consL (callE m_are_shifts (consL (varE 1) (consL (varE 2) nilL))) (consL (callE m_is_need (consL (varE 1) (consL (varE 3) nilL))) (consL (callE m_uncovered (consL (varE 1) (consL (varE 2) (consL (varE 3) nilL)))) nilL)))) (consL (lstV (consL (cE (.bl true)) (consL (cE (.bl true)) (consL (varE 7) nilL)))) nilL))))) (retS (cE (.bl false))) skipS)
    (seqS (asgV 8 (op2 mulD (tupE (consL (biE (g1 maxD) (consL (varE 3) nilL)) nilL)) (biE (g1 lenM) (consL (varE 2) nilL))))
    (seqS (forS (seqI (tupE (consL (varE 4) (consL (varE 8) (consL (callE (m__law_bent 6) (consL (varE 0) (consL (varE 4) nilL))) (consL (callE (m__law_bent 6) (consL (varE 0) (consL (varE 8) nilL))) nilL)))))) (pN 9) body1)
    (seqS (forS (seqI (tupE (consL (varE 5) (consL (op2 mulD (tupE (consL (cE (.int 0)) nilL)) (varE 1)) (consL (callE (m__law_bent 6) (consL (varE 0) (consL (varE 5) nilL))) (consL (biE (g1 tupleM) (consL (lcV [16] (seqI (varE 5)) (pN 16) yesT (biE (g2 min2D) (consL (varE 16) (consL (cE (.int 1)) nilL)))) nilL)) nilL)))))) (pN 9) body2)
    (seqS (forS (rng1I (cE (.int 4))) (pN 11) body3)
    (retS (cE (.bl true))))))))))))))) := rfl
section
variable {day : Nat} {sh : List Row} {nd : List Int} {v : D} {M : Mem} {B : Int} {k c : Nat}
abbrev env (c day : Nat) (sh : List Row) (nd : List Int) (xs : List (Option D)) : MEnv := some (.ref c) :: some (.int day) :: some (shD sh) :: some (.tup (dI nd)) :: xs
theorem like_bl {b : Bool} : m__law_like 6 [.bl b, .bl b] M = .ok (.bl true) M := like_refl (B := 0) (L := 0) (by omega) (k := 0) (n := 6) trivial (by omega)
theorem like_int {i : Int} : m__law_like 6 [.int i, .int i] M = .ok (.bl true) M := like_refl (B := i.natAbs) (L := 0) (by omega) (k := 0) (n := 6) (show -(i.natAbs : Int) ≤ i ∧ i ≤ i.natAbs by omega) (by omega)
theorem body1_ok {x4 x5 x6 x7 x8 x10 x11 x12 x13 x14 x15 x16 : Option D} (hc : Cup c M) (h1 : 1 ≤ day) (hd : day ≤ 60) (hs : ShOk day sh) (hn : NdOk day nd) (h : pd B 1000 k v) (hB : B ≤ 100000) :
    W (body1 (env c day sh nd [x4, x5, x6, x7, x8, some v, x10, x11, x12, x13, x14, x15, x16]) M) (QF (fun ρ M' => Fr c M M' ∧ ∃ x10, ρ = env c day sh nd [x4, x5, x6, x7, x8, some v, x10, x11, x12, x13, x14, x15, x16]) fun _ _ => False) := by
  obtain ⟨e1, q1⟩ := law_is_cover_eq (M := M) (nd := nd) (sh := sh) (day := day) hB hd (by have := hs.len; omega) h
  obtain ⟨e2, q2⟩ := is_cover_eq (M := M ++ e1) h1 hd hs hn h
  have q3 := costs_eq (M := M ++ e1 ++ e2) h1 hd hs hn h hB
  generalize cvB day sh nd v = b at q1 q2 q3
  cases b with
  | false =>
    rw [if_neg Bool.false_ne_true] at q3
    obtain ⟨e3, q3⟩ := q3
    have hw : ∀ N, wordR wans (R.exc ⟨"InvalidPaper", []⟩ N) = .ok (.int 1) N := fun N => rfl
    refine ⟨.nx (env c day sh nd [x4, x5, x6, x7, x8, some v, some (.bl false), x11, x12, x13, x14, x15, x16]), M ++ e1 ++ e2 ++ e3, by simp [body1, env, q1, q2, like_bl, q3, hw, -List.append_assoc], ?_⟩
    refine ⟨?_, _, rfl⟩
    rw [List.append_assoc, List.append_assoc]
    exact Fr.app hc
  | true =>
    rw [if_pos rfl] at q3
    obtain ⟨e3, i, q3, q4⟩ := q3
    refine ⟨.nx (env c day sh nd [x4, x5, x6, x7, x8, some v, some (.bl true), x11, x12, x13, x14, x15, x16]), M ++ e1 ++ e2 ++ e3, by simp [body1, env, q1, q2, like_bl, q3, q4, like_int, -List.append_assoc], ?_⟩
    refine ⟨?_, _, rfl⟩
    rw [List.append_assoc, List.append_assoc]
    exact Fr.app hc
theorem body2_ok {x4 x5 x6 x7 x8 x10 x11 x12 x13 x14 x15 x16 : Option D} (hc : Cup c M) (h1 : 1 ≤ day) (hd : day ≤ 60) (hs : ShOk day sh) (hn : NdOk day nd) (h : pd B 1000 k v) (hB : B ≤ 100000) :
    W (body2 (env c day sh nd [x4, x5, x6, x7, x8, some v, x10, x11, x12, x13, x14, x15, x16]) M) (QF (fun ρ M' => Fr c M M' ∧ ∃ x10, ρ = env c day sh nd [x4, x5, x6, x7, x8, some v, x10, x11, x12, x13, x14, x15, x16]) fun _ _ => False) := by
  have q1 := law_are_prices_eq (M := M) (sh := sh) (day := day) hB (by have := hs.len; omega) h
  have q2 := are_prices_eq (M := M) h1 hd hs h
  have q3 := worths_eq (M := M) h1 hd hs hn h hB
  generalize prB day sh v = b at q1 q2 q3
  cases b with
  | false =>
    rw [if_neg Bool.false_ne_true] at q3
    have hw : ∀ N, wordR wans (R.exc ⟨"InvalidPaper", []⟩ N) = .ok (.int 1) N := fun N => rfl
    exact ⟨.nx (env c day sh nd [x4, x5, x6, x7, x8, some v, some (.bl false), x11, x12, x13, x14, x15, x16]), M, by simp [body2, env, q1, q2, like_bl, q3, hw], Fr.refl hc, _, rfl⟩
  | true =>
    rw [if_pos rfl] at q3
    obtain ⟨i, q3, q4⟩ := q3
    exact ⟨.nx (env c day sh nd [x4, x5, x6, x7, x8, some v, some (.bl true), x11, x12, x13, x14, x15, x16]), M, by simp [body2, env, q1, q2, like_bl, q3, q4, like_int], Fr.refl hc, _, rfl⟩
theorem body3_ok {x4 x5 x6 x7 x8 x9 x10 x11 x12 x13 x14 x15 x16 : Option D} (hc : Cup c M) (h1 : 1 ≤ day) (hd : day ≤ 60) (hs : ShOk day sh) (hn : NdOk day nd) :
    W (body3 (env c day sh nd [x4, x5, x6, x7, x8, x9, x10, x11, x12, x13, x14, x15, x16]) M) (QF (fun ρ M' => Fr c M M' ∧ ∃ x12 x13, ρ = env c day sh nd [x4, x5, x6, x7, x8, x9, x10, x11, x12, x13, x14, x15, x16]) fun _ _ => False) := by
  have hs2 : pd 100 60 2 (shD sh) := .inr ⟨_, .inl rfl, by rw [List.length_map]; have := hs.len; omega, fun x hx => by
    obtain ⟨r, hr, rfl⟩ := List.mem_map.mp hx
    obtain ⟨a, b, c, d, e⟩ := hs.rows r hr
    refine .inr ⟨_, .inl rfl, by simp, fun y hy => ?_⟩
    simp at hy
    rcases hy with rfl | rfl | rfl <;> (show (-100 : Int) ≤ _ ∧ _ ≤ (100 : Int); omega)⟩
  have hn2 : pd 100 60 1 (.tup (dI nd)) := pd_ints (by rw [hn.len]; omega) fun i hi => by have := hn.rng i hi; omega
  obtain ⟨a, M1, ea, pa, fa⟩ := bent_ok (B := 100) (L := 60) (by omega) (by omega) (by omega) (n := 6) hs2 (by omega) hc
  obtain ⟨b, M2, eb, pb, fb⟩ := bent_ok (B := 100) (L := 60) (by omega) (by omega) (by omega) (n := 6) hn2 (by omega) fa.cup
  have pa : pd 102 1000 4 a := pa.mono (by omega) (by omega) (by omega)
  have pb : pd 102 1000 4 b := pb.mono (by omega) (by omega) (by omega)
  have q1 := are_shifts_eq (M := M2) (day := (day : Int)) ⟨by omega, by omega⟩ pa
  have q2 := is_need_eq (M := M2) (day := (day : Int)) ⟨by omega, by omega⟩ pb
  have q3 := law_are_shifts_eq (M := M2) (day := (day : Int)) pa
  have q4 := law_is_need_eq (M := M2) (day := (day : Int)) pb
  have hl : ∀ x y : Bool, m__law_like 6 [.frl [.bl x, .bl y], .frl [.bl x, .bl y]] M2 = .ok (.bl true) M2 := fun x y => like_refl (B := 0) (L := 2) (by omega) (k := 1) (n := 6) (pd_frl (by simp) fun z hz => by
    simp at hz
    rcases hz with rfl | rfl <;> trivial) (by omega)
  exact ⟨.nx (env c day sh nd [x4, x5, x6, x7, x8, x9, x10, x11, some a, some b, x14, x15, x16]), M2, by simp [body3, env, ea, eb, q1, q2, q3, q4, size2, hl], fa.trans fb, _, _, rfl⟩
end
end K56

set_option Elab.async false
set_option linter.all false
set_option maxRecDepth 100000
set_option maxHeartbeats 4000000
namespace K56
open Mini PySem PySem.Spec PyProof.Rows
theorem argBest_le {f : Nat → Nat → Bool} : ∀ k, argBest f k ≤ k
  | 0 => Nat.le_refl _
  | k + 1 => by
    unfold argBest
    have := argBest_le (f := f) k
    split <;> omega
theorem alike_dI (xs : List Int) : alikeDs (dI xs) = true := by
  have h1 : ((dI xs).all fun x => !isNon x && (dI xs).all fun y => PySem.W.alike (toPy x) (toPy y)) = true := List.all_eq_true.mpr fun x hx => by
    obtain ⟨i, _, rfl⟩ := List.mem_map.mp hx
    rw [Bool.and_eq_true]
    refine ⟨rfl, List.all_eq_true.mpr fun y hy => ?_⟩
    obtain ⟨j, _, rfl⟩ := List.mem_map.mp hy
    simp [toPy, PySem.W.alike]
  unfold alikeDs
  rw [ok_dI, h1]
  rfl
theorem max_ok {xs : List Int} (h : 1 ≤ xs.length) : ∃ m ∈ xs, ∀ N, maxD (.tup (dI xs)) N = .ok (.int m) N := by
  generalize hj : bestI (fun x y => ltv y x) (dI xs) = j
  have hlt : j < xs.length := by
    have : j ≤ (dI xs).length - 1 := by rw [← hj]; exact argBest_le _
    rw [dI_len] at this
    omega
  refine ⟨xs[j], List.getElem_mem hlt, fun N => ?_⟩
  have e : maxL (dI xs) = some (.int xs[j]) := by
    unfold maxL
    rw [if_pos ⟨alike_dI xs, by rw [dep_dI]; omega⟩, hj, dI_get, List.getElem?_eq_getElem hlt]
    rfl
  show (match maxL (dI xs) with
    | some d => R.ok d N
    | none => .stuck) = _
  rw [e]
section
variable {day : Nat} {sh : List Row} {nd : List Int} {M : Mem} {c : Nat}
theorem cover_ok (hc : Cup c M) (h1 : 1 ≤ day) (hs : sh.length ≤ 12) (hn : NdOk day nd) :
    W (biE (g1 tupleM) (consL (lcV [14] (seqI (varE 2)) (pN 14) yesT (callE m__law_roll (consL (varE 0) (consL (op2 addD (biE (g1 maxD) (consL (varE 3) nilL)) (cE (.int 2))) nilL)))) nilL) (env c day sh nd [none, none, none, none, none, none, none, none, none, none, none, none, none]) M)
      fun d M' => ∃ cv : List Int, d = .tup (dI cv) ∧ cv.length = sh.length ∧ (∀ i ∈ cv, 0 ≤ i ∧ i ≤ 51) ∧ Fr c M M' := by
  obtain ⟨m, hm, em⟩ := max_ok (xs := nd) (by rw [hn.len]; exact h1)
  have hmr := hn.rng m hm
  have key : W (lcV [14] (seqI (varE 2)) (pN 14) yesT (callE m__law_roll (consL (varE 0) (consL (op2 addD (biE (g1 maxD) (consL (varE 3) nilL)) (cE (.int 2))) nilL))) (env c day sh nd [none, none, none, none, none, none, none, none, none, none, none, none, none]) M)
      fun d M' => ∃ cv : List Int, d = .frl (dI cv) ∧ cv.length = sh.length ∧ (∀ i ∈ cv, 0 ≤ i ∧ i ≤ 51) ∧ Fr c M M' := by
    refine W_lcV ?_
    have es : seqI (varE 2) (env c day sh nd [none, none, none, none, none, none, none, none, none, none, none, none, none]) M = .ok (.one (.fix (sh.map rowD))) M := by simp [env, shD]
    rw [es, W_ok]
    refine ⟨sh.length, fun i => (sh.map rowD).getD i .non, fun i acc M' => ∃ cv : List Int, acc = dI cv ∧ cv.length = i ∧ (∀ i ∈ cv, 0 ≤ i ∧ i ≤ 51) ∧ Fr c M M', size_small (by omega), by simp [Src.len, Sq.len], ⟨[], rfl, rfl, by simp, Fr.refl hc⟩, fun i acc M' hi _ => ?_, fun i acc M' hi ⟨cv, k1, k2, k3, k4⟩ => ?_, fun acc M' ⟨cv, k1, k2, k3, k4⟩ => ⟨cv, by rw [k1], k2, k3, k4⟩⟩
    · have := get_fix (ds := sh.map rowD) (i := i) (M := M') (by rw [List.length_map]; exact hi)
      rw [List.length_map] at this
      exact this
    · subst k1
      obtain ⟨_, N, er, r, rfl, r0, r1, f⟩ := roll_ok (many := m + 2) k4.cup (by omega) (by omega)
      refine ⟨env c day sh nd [none, none, none, none, none, none, none, none, none, none, some ((sh.map rowD).getD i .non), none, none], rfl, ?_⟩
      generalize (sh.map rowD).getD i .non = x
      rw [z_yes, W_ok, if_pos rfl]
      refine ⟨.int r, N, by simp [env, em, er], cv ++ [r], by rw [dI_app]; rfl, by simp [k2], fun j hj => ?_, k4.trans f⟩
      rcases List.mem_append.mp hj with z | z
      · exact k3 j z
      · rw [List.mem_singleton.mp z]; omega
  obtain ⟨d, M', e, cv, rfl, k2, k3, k4⟩ := key.get
  exact ⟨.tup (dI cv), M', by simp [e], cv, rfl, k2, k3, k4⟩
theorem prices_ok {x4 : Option D} (hc : Cup c M) (hd : day ≤ 60) :
    W (biE (g1 tupleM) (consL (lcV [15] (rng1I (varE 1)) (pN 15) yesT (callE m__law_some (consL (varE 0) (consL (lstV (consL (cE (.int 0)) (consL (cE (.int 0)) (consL (cE (.int 1)) (consL (callE m__law_roll (consL (varE 0) (consL (cE (.int 100)) nilL))) nilL))))) nilL)))) nilL) (env c day sh nd [x4, none, none, none, none, none, none, none, none, none, none, none, none]) M)
      fun d M' => ∃ ps : List Int, d = .tup (dI ps) ∧ ps.length = day ∧ (∀ i ∈ ps, 0 ≤ i ∧ i ≤ 99) ∧ Fr c M M' := by
  have s4 : (4 : Nat) ≤ PySem.sizeLine := size_small (by omega)
  have key : W (lcV [15] (rng1I (varE 1)) (pN 15) yesT (callE m__law_some (consL (varE 0) (consL (lstV (consL (cE (.int 0)) (consL (cE (.int 0)) (consL (cE (.int 1)) (consL (callE m__law_roll (consL (varE 0) (consL (cE (.int 100)) nilL))) nilL))))) nilL))) (env c day sh nd [x4, none, none, none, none, none, none, none, none, none, none, none, none]) M)
      fun d M' => ∃ ps : List Int, d = .frl (dI ps) ∧ ps.length = day ∧ (∀ i ∈ ps, 0 ≤ i ∧ i ≤ 99) ∧ Fr c M M' := by
    refine W_lcV ?_
    have es : rng1I (varE 1) (env c day sh nd [x4, none, none, none, none, none, none, none, none, none, none, none, none]) M = .ok (.one (.fix (rangeL 0 day))) M := rng1_ok rfl (by omega)
    rw [es, W_ok]
    refine ⟨day, fun i => (rangeL 0 day).getD i .non, fun i acc M' => ∃ ps : List Int, acc = dI ps ∧ ps.length = i ∧ (∀ i ∈ ps, 0 ≤ i ∧ i ≤ 99) ∧ Fr c M M', size_small (by omega), rangeL_len, ⟨[], rfl, rfl, by simp, Fr.refl hc⟩, fun i acc M' hi _ => ?_, fun i acc M' hi ⟨cv, k1, k2, k3, k4⟩ => ?_, fun acc M' ⟨cv, k1, k2, k3, k4⟩ => ⟨cv, by rw [k1], k2, k3, k4⟩⟩
    · have := get_fix (ds := rangeL 0 day) (i := i) (M := M') (by rw [rangeL_len]; exact hi)
      rw [rangeL_len] at this
      exact this
    · subst k1
      obtain ⟨_, N, er, r, rfl, r0, r1, f⟩ := roll_ok (many := 100) k4.cup (by omega) (by omega)
      obtain ⟨y, N2, es2, hy, f2⟩ := some_ok (xs := [.int 0, .int 0, .int 1, .int r]) f.cup (by simp) (by simp)
      obtain ⟨q, rfl, q0, q1⟩ : ∃ q : Int, y = .int q ∧ 0 ≤ q ∧ q ≤ 99 := by
        simp at hy
        rcases hy with rfl | rfl | rfl
        · exact ⟨0, rfl, by omega, by omega⟩
        · exact ⟨1, rfl, by omega, by omega⟩
        · exact ⟨r, rfl, by omega, by omega⟩
      refine ⟨env c day sh nd [x4, none, none, none, none, none, none, none, none, none, none, some ((rangeL 0 day).getD i .non), none], rfl, ?_⟩
      generalize (rangeL 0 day).getD i .non = x
      rw [z_yes, W_ok, if_pos rfl]
      refine ⟨.int q, N2, by simp [env, er, es2, s4], cv ++ [q], by rw [dI_app]; rfl, by simp [k2], fun j hj => ?_, (k4.trans f).trans f2⟩
      rcases List.mem_append.mp hj with z | z
      · exact k3 j z
      · rw [List.mem_singleton.mp z]; exact ⟨q0, q1⟩
  obtain ⟨d, M', e, cv, rfl, k2, k3, k4⟩ := key.get
  exact ⟨.tup (dI cv), M', by simp [e], cv, rfl, k2, k3, k4⟩
/-- four values, each looked at -/
theorem four_ok {b : MS'} {x4 x5 x6 x7 x8 x10 : Option D} {a1 a2 a3 a4 : D} {P : D → Prop} (hP : P a1 ∧ P a2 ∧ P a3 ∧ P a4) {src : MEnv → Mem → R Src} {x9 : Option D} {M0 : Mem} (hs : src (env c day sh nd [x4, x5, x6, x7, x8, x9, x10, none, none, none, none, none, none]) M0 = .ok (.one (.fix [a1, a2, a3, a4])) M) (hc : Cup c M)
    (hb : ∀ v x10 N, P v → Cup c N → W (b (env c day sh nd [x4, x5, x6, x7, x8, some v, x10, none, none, none, none, none, none]) N) (QF (fun ρ M' => Fr c N M' ∧ ∃ x10, ρ = env c day sh nd [x4, x5, x6, x7, x8, some v, x10, none, none, none, none, none, none]) fun _ _ => False)) :
    W (forS src (pN 9) b (env c day sh nd [x4, x5, x6, x7, x8, x9, x10, none, none, none, none, none, none]) M0) (QF (fun ρ M' => Fr c M M' ∧ ∃ x9 x10, ρ = env c day sh nd [x4, x5, x6, x7, x8, x9, x10, none, none, none, none, none, none]) fun _ _ => False) := by
  refine W_for ?_
  rw [hs, W_ok]
  refine ⟨4, fun i => [a1, a2, a3, a4].getD i .non, fun i ρ M' => Fr c M M' ∧ ∃ x9 x10, ρ = env c day sh nd [x4, x5, x6, x7, x8, x9, x10, none, none, none, none, none, none], rfl, ⟨Fr.refl hc, _, _, rfl⟩, fun i ρ M' hi _ => get_fix (ds := [a1, a2, a3, a4]) hi, fun i ρ M' hi ⟨f, x9, x10, hρ⟩ => ?_, fun ρ M' h => h⟩
  subst hρ
  have hv : P ([a1, a2, a3, a4].getD i .non) := by
    match i, hi with
    | 0, _ => exact hP.1
    | 1, _ => exact hP.2.1
    | 2, _ => exact hP.2.2.1
    | 3, _ => exact hP.2.2.2
  refine ⟨env c day sh nd [x4, x5, x6, x7, x8, some ([a1, a2, a3, a4].getD i .non), x10, none, none, none, none, none, none], rfl, (hb _ x10 M' hv f.cup).mono fun fl N q => ?_⟩
  cases fl with
  | rt d => exact q.elim
  | nx ρ => exact ⟨f.trans q.1, _, q.2⟩
end
end K56

set_option Elab.async false
set_option linter.all false
set_option maxRecDepth 100000
set_option maxHeartbeats 4000000
namespace K56
open Mini
theorem min2_int {i j : Int} {M : Mem} : min2D (.int i) (.int j) M = .ok (.int (if j < i then j else i)) M := nr rfl
section
variable {day : Nat} {M : Mem} {c : Nat}
theorem right_ok (hc : Cup c M) (h1 : 1 ≤ day) (hd : day ≤ 60) : W (m__law_right [.ref c, .int day] M) fun d M' => d = .bl true ∧ Fr c M M' := by
  rw [right_def]
  refine W_fn rfl ?_
  have h0 : startD 17 [.ref c, .int (day : Int)] = [some (.ref c), some (.int day), none, none, none, none, none, none, none, none, none, none, none, none, none, none, none] := rfl
  rw [h0]
  -- shifts
  obtain ⟨m, M1, e1, hm, f1⟩ := some_ok (xs := [.int 2, .int 12]) hc (by simp) (by simp)
  obtain ⟨m, rfl, m1, m2⟩ : ∃ i : Int, m = .int i ∧ 1 ≤ i ∧ i ≤ 12 := by
    simp at hm
    rcases hm with rfl | rfl
    · exact ⟨2, rfl, by omega, by omega⟩
    · exact ⟨12, rfl, by omega, by omega⟩
  obtain ⟨_, M2, e2, sh, rfl, hs, f2⟩ := shifts_ok (many := m) f1.cup h1 hd m1 m2
  have hsl : sh.length ≤ 1000 := by have := hs.len; omega
  refine W_seq ⟨.nx [some (.ref c), some (.int day), some (shD sh), none, none, none, none, none, none, none, none, none, none, none, none, none, none], M2, by simp [e1, e2, size2], ?_⟩
  -- need
  obtain ⟨m, M3, e3, hm, f3⟩ := some_ok (xs := [.int 1, .int 50]) f2.cup (by simp) (by simp)
  obtain ⟨m, rfl, m1, m2⟩ : ∃ i : Int, m = .int i ∧ 0 ≤ i ∧ i ≤ 50 := by
    simp at hm
    rcases hm with rfl | rfl
    · exact ⟨1, rfl, by omega, by omega⟩
    · exact ⟨50, rfl, by omega, by omega⟩
  obtain ⟨_, M4, e4, nd, rfl, n1, n2, f4⟩ := need_ok (day := day) (sh := sh) (most := m) f3.cup hd hsl m1 (by omega)
  have hn : NdOk day nd := ⟨n1, fun i hi => by have := n2 i hi; omega⟩
  show W (seqS _ _ [some (.ref c), some (.int day), some (shD sh), none, none, none, none, none, none, none, none, none, none, none, none, none, none] M2) _
  refine W_seq ⟨.nx (env c day sh nd [none, none, none, none, none, none, none, none, none, none, none, none, none]), M4, by simp [e3, e4, size2, env], ?_⟩
  -- cover
  obtain ⟨_, M5, e5, cv, rfl, v1, v2, f5⟩ := cover_ok (M := M4) f4.cup h1 hs.len hn
  show W (seqS _ _ (env c day sh nd [none, none, none, none, none, none, none, none, none, none, none, none, none]) M4) _
  refine W_seq ⟨.nx (env c day sh nd [some (.tup (dI cv)), none, none, none, none, none, none, none, none, none, none, none, none]), M5, by rw [z_asg, e5]; rfl, ?_⟩
  -- prices
  obtain ⟨_, M6, e6, ps, rfl, p1, p2, f6⟩ := prices_ok (M := M5) (sh := sh) (nd := nd) (x4 := some (.tup (dI cv))) f5.cup hd
  show W (seqS _ _ (env c day sh nd [some (.tup (dI cv)), none, none, none, none, none, none, none, none, none, none, none, none]) M5) _
  refine W_seq ⟨.nx (env c day sh nd [some (.tup (dI cv)), some (.tup (dI ps)), none, none, none, none, none, none, none, none, none, none, none]), M6, by rw [z_asg, e6]; rfl, ?_⟩
  -- works
  have hlen : ∀ N, lenM (shD sh) N = .ok (.int sh.length) N := fun N => by simp [shD]
  have ew := law_works_eq (M := M6) (cv := List.replicate sh.length 1) hd hsl
  generalize hws : works day sh (List.replicate sh.length 1) = ws at ew
  have hwl : ws.length = day := by rw [← hws, works_len]
  show W (seqS _ _ (env c day sh nd [some (.tup (dI cv)), some (.tup (dI ps)), none, none, none, none, none, none, none, none, none, none, none]) M6) _
  refine W_seq ⟨.nx (env c day sh nd [some (.tup (dI cv)), some (.tup (dI ps)), some (.ref M6.length), none, none, none, none, none, none, none, none, none, none]), M6 ++ [.lst (dI ws)], by simp [env, hlen, size1, ones_eq (x := 1) hsl, ew], ?_⟩
  have f7 : Fr c M (M6 ++ [.lst (dI ws)]) := (((((f1.trans f2).trans f3).trans f4).trans f5).trans f6).trans (Fr.app f6.cup)
  -- due
  have ed : lcV [15] (rng1I (varE 1)) (pN 15) (andT (tst (op2 gtM (op2 ixD (varE 3) (varE 15)) (cE (.int 0)))) (tst (op2 eqD (op2 ixD (varE 6) (varE 15)) (cE (.int 0))))) (varE 15) (env c day sh nd [some (.tup (dI cv)), some (.tup (dI ps)), some (.ref M6.length), none, none, none, none, none, none, none, none, none, none]) (M6 ++ [.lst (dI ws)]) =
      .ok (.frl (dI (due day nd ws))) (M6 ++ [.lst (dI ws)]) := by
    refine lc_range (fun t => decide (0 < nd.getD t 0) && decide (ws.getD t 0 = 0)) (by omega) rfl fun t ht => ⟨env c day sh nd [some (.tup (dI cv)), some (.tup (dI ps)), some (.ref M6.length), none, none, none, none, none, none, none, none, some (.int t), none], rfl, ?_, fun _ => by simp [env]⟩
    have q1 : ∀ N : Mem, ixD (.tup (dI nd)) (.int t) N = .ok (.int (nd.getD t 0)) N := fun N => ix_dI (by rw [hn.len]; exact ht)
    have q2 := ix_dIr (N := M6 ++ [.lst (dI ws)]) (xs := ws) (t := t) get_last' (by rw [hwl]; exact ht)
    generalize nd.getD t 0 = a at q1
    generalize ws.getD t 0 = b at q2
    by_cases ha : 0 < a <;> simp [env, q1, q2, ha]
  generalize hN : M6 ++ [MO.lst (dI ws)] = N at ed f7
  show W (seqS _ _ (env c day sh nd [some (.tup (dI cv)), some (.tup (dI ps)), some (.ref M6.length), none, none, none, none, none, none, none, none, none, none]) N) _
  refine W_seq ⟨.nx (env c day sh nd [some (.tup (dI cv)), some (.tup (dI ps)), some (.ref M6.length), some (.tup (dI (due day nd ws))), none, none, none, none, none, none, none, none, none]), N, by rw [z_asg, z_bi, z_cons, ed, z_bind_ok, z_nil, z_bind_ok, z_bind_ok, z_g1, z_tuple_frl, z_bind_ok]; rfl, ?_⟩
  -- the first look
  have q1 := are_shifts_eq (M := N) (day := (day : Int)) ⟨by omega, by omega⟩ (hs.pd hd)
  have q2 := is_need_eq (M := N) (day := (day : Int)) ⟨by omega, by omega⟩ (hn.pd hd)
  rw [hs.shB] at q1
  rw [hn.ndB] at q2
  obtain ⟨e, q3⟩ := uncovered_eq (M := N) h1 hd hs hn
  rw [hws] at q3
  have s3 : (3 : Nat) ≤ PySem.sizeLine := size_small (by omega)
  have hdl : (due day nd ws).length ≤ 60 := by
    unfold due
    rw [List.length_map]
    exact Nat.le_trans (List.length_filter_le _ _) (by simpa using hd)
  have hdr : ∀ i ∈ due day nd ws, (-100 : Int) ≤ i ∧ i ≤ 100 := fun i hi => by
    obtain ⟨t, ht, rfl⟩ := List.mem_map.mp hi
    have := List.mem_range.mp (List.mem_filter.mp ht).1
    omega
  have hl : m__law_like 6 [.frl [.bl true, .bl true, .tup (dI (due day nd ws))], .frl [.bl true, .bl true, .tup (dI (due day nd ws))]] (N ++ e) = .ok (.bl true) (N ++ e) :=
    like_refl (B := 100) (L := 60) (by omega) (k := 2) (n := 6) (pd_frl (by simp) fun z hz => by
      simp at hz
      rcases hz with rfl | rfl
      · exact .inl trivial
      · exact pd_ints hdl hdr) (by omega)
  show W (seqS _ _ (env c day sh nd [some (.tup (dI cv)), some (.tup (dI ps)), some (.ref M6.length), some (.tup (dI (due day nd ws))), none, none, none, none, none, none, none, none, none]) N) _
  refine W_seq ⟨.nx (env c day sh nd [some (.tup (dI cv)), some (.tup (dI ps)), some (.ref M6.length), some (.tup (dI (due day nd ws))), none, none, none, none, none, none, none, none, none]), N ++ e, by simp [env, q1, q2, q3, s3, hl], ?_⟩
  have f8 : Fr c M (N ++ e) := f7.trans (Fr.app f7.cup)
  generalize N ++ e = N2 at f8
  -- enough
  obtain ⟨mx, hmx, emx⟩ := max_ok (xs := nd) (by rw [hn.len]; exact h1)
  have hmr := hn.rng mx hmx
  show W (seqS _ _ (env c day sh nd [some (.tup (dI cv)), some (.tup (dI ps)), some (.ref M6.length), some (.tup (dI (due day nd ws))), none, none, none, none, none, none, none, none, none]) N2) _
  refine W_seq ⟨.nx (env c day sh nd [some (.tup (dI cv)), some (.tup (dI ps)), some (.ref M6.length), some (.tup (dI (due day nd ws))), some (.tup (dI (List.replicate sh.length mx))), none, none, none, none, none, none, none, none]), N2, by simp [env, emx, hlen, size1, ones_eq (x := mx) hsl], ?_⟩
  have pcv : pd 100 60 1 (.tup (dI cv)) := pd_ints (by rw [v1]; have := hs.len; omega) fun i hi => by have := v2 i hi; omega
  have pen : pd 100 60 1 (.tup (dI (List.replicate sh.length mx))) := pd_ints (by rw [List.length_replicate]; have := hs.len; omega) fun i hi => by rw [List.eq_of_mem_replicate hi]; omega
  have pps : pd 100 60 1 (.tup (dI ps)) := pd_ints (by rw [p1]; omega) fun i hi => by have := p2 i hi; omega
  -- the covers
  obtain ⟨ba, N3, ea, pa, fa1⟩ := bent_ok (B := 100) (L := 60) (by omega) (by omega) (by omega) (n := 6) pcv (by omega) f8.cup
  obtain ⟨bb, N4, eb, pb, fa2⟩ := bent_ok (B := 100) (L := 60) (by omega) (by omega) (by omega) (n := 6) pen (by omega) fa1.cup
  have s4 : (4 : Nat) ≤ PySem.sizeLine := size_small (by omega)
  refine W_seq ((four_ok (b := body1) (P := pd 102 1000 4) (M := N4) (a1 := .tup (dI cv)) (a2 := .tup (dI (List.replicate sh.length mx))) (a3 := ba) (a4 := bb)
    ⟨pcv.mono (by omega) (by omega) (by omega), pen.mono (by omega) (by omega) (by omega), pa.mono (by omega) (by omega) (by omega), pb.mono (by omega) (by omega) (by omega)⟩ (by simp [env, ea, eb, s4]) fa2.cup
    fun v x10 N' hv hc' => body1_ok hc' h1 hd hs hn hv (by omega)).mono fun fl N5 q => ?_)
  cases fl with
  | rt d => exact q.elim
  | nx ρ =>
    obtain ⟨f9, x9, x10, rfl⟩ := q
    have f9 : Fr c M N5 := ((f8.trans fa1).trans fa2).trans f9
    -- the prices
    obtain ⟨bp, N6, ep, pp, fa3⟩ := bent_ok (B := 100) (L := 60) (by omega) (by omega) (by omega) (n := 6) pps (by omega) f9.cup
    have em : ∀ N' : Mem, lcV [16] (seqI (varE 5)) (pN 16) yesT (biE (g2 min2D) (consL (varE 16) (consL (cE (.int 1)) nilL))) (env c day sh nd [some (.tup (dI cv)), some (.tup (dI ps)), some (.ref M6.length), some (.tup (dI (due day nd ws))), some (.tup (dI (List.replicate sh.length mx))), x9, x10, none, none, none, none, none, none]) N' =
        .ok (.frl (dI (ps.map fun p => if 1 < p then 1 else p))) N' := fun N' => by
      refine (lc_tup (dI ps) (fun _ => true) (fun d => .int (if 1 < intD d then 1 else intD d)) rfl (size_small (by rw [dI_len, p1]; omega)) fun d hd => ?_).trans ?_
      · obtain ⟨p, _, rfl⟩ := List.mem_map.mp hd
        refine ⟨env c day sh nd [some (.tup (dI cv)), some (.tup (dI ps)), some (.ref M6.length), some (.tup (dI (due day nd ws))), some (.tup (dI (List.replicate sh.length mx))), x9, x10, none, none, none, none, none, some (.int p)], rfl, rfl, fun _ => ?_⟩
        simp [env, min2_int, intD]
        try rfl
      · rw [filt_true]
        unfold dI
        rw [List.map_map, List.map_map]
        rfl
    have pz : pd 100 60 1 (.tup (dI (List.replicate day 0))) := pd_ints (by rw [List.length_replicate]; omega) fun i hi => by rw [List.eq_of_mem_replicate hi]; omega
    have pm : pd 100 60 1 (.tup (dI (ps.map fun p => if 1 < p then 1 else p))) := pd_ints (by rw [List.length_map, p1]; omega) fun i hi => by
      obtain ⟨p, hp, rfl⟩ := List.mem_map.mp hi
      have := p2 p hp
      split <;> omega
    show W (seqS _ _ (env c day sh nd [some (.tup (dI cv)), some (.tup (dI ps)), some (.ref M6.length), some (.tup (dI (due day nd ws))), some (.tup (dI (List.replicate sh.length mx))), x9, x10, none, none, none, none, none, none]) N5) _
    refine W_seq ((four_ok (b := body2) (P := pd 102 1000 4) (M := N6) (a1 := .tup (dI ps)) (a2 := .tup (dI (List.replicate day 0))) (a3 := bp) (a4 := .tup (dI (ps.map fun p => if 1 < p then 1 else p)))
      ⟨pps.mono (by omega) (by omega) (by omega), pz.mono (by omega) (by omega) (by omega), pp.mono (by omega) (by omega) (by omega), pm.mono (by omega) (by omega) (by omega)⟩ (by
        have em' := em N6
        simp only [env] at em' ⊢
        simp [ep, s4, size1, ones_eq (x := 0) (show day ≤ 1000 by omega), em']) fa3.cup
      fun v x10 N' hv hc' => body2_ok hc' h1 hd hs hn hv (by omega)).mono fun fl N7 q => ?_)
    cases fl with
    | rt d => exact q.elim
    | nx ρ =>
      obtain ⟨f10, y9, y10, rfl⟩ := q
      have f10 : Fr c M N7 := (f9.trans fa3).trans f10
      show W (seqS _ _ (env c day sh nd [some (.tup (dI cv)), some (.tup (dI ps)), some (.ref M6.length), some (.tup (dI (due day nd ws))), some (.tup (dI (List.replicate sh.length mx))), y9, y10, none, none, none, none, none, none]) N7) _
      refine W_seq (W_for ?_)
      have es : rng1I (cE (.int 4)) (env c day sh nd [some (.tup (dI cv)), some (.tup (dI ps)), some (.ref M6.length), some (.tup (dI (due day nd ws))), some (.tup (dI (List.replicate sh.length mx))), y9, y10, none, none, none, none, none, none]) N7 = .ok (.one (.fix (rangeL 0 4))) N7 := rng1_ok (n := 4) rfl (by omega)
      rw [es, W_ok]
      refine ⟨4, fun i => (rangeL 0 4).getD i .non, fun i ρ M' => Fr c M M' ∧ ∃ x11 x12 x13, ρ = env c day sh nd [some (.tup (dI cv)), some (.tup (dI ps)), some (.ref M6.length), some (.tup (dI (due day nd ws))), some (.tup (dI (List.replicate sh.length mx))), y9, y10, x11, x12, x13, none, none, none], rangeL_len,
        ⟨f10, none, none, none, rfl⟩, fun i ρ M' hi _ => ?_, fun i ρ M' hi ⟨f, x11, x12, x13, hρ⟩ => ?_, fun ρ M' ⟨f, x11, x12, x13, hρ⟩ => ?_⟩
      · have := get_fix (ds := rangeL 0 4) (i := i) (M := M') (by rw [rangeL_len]; exact hi)
        rw [rangeL_len] at this
        exact this
      · subst hρ
        refine ⟨env c day sh nd [some (.tup (dI cv)), some (.tup (dI ps)), some (.ref M6.length), some (.tup (dI (due day nd ws))), some (.tup (dI (List.replicate sh.length mx))), y9, y10, some ((rangeL 0 4).getD i .non), x12, x13, none, none, none], rfl, ?_⟩
        refine (body3_ok f.cup h1 hd hs hn).mono fun fl N8 q => ?_
        cases fl with
        | rt d => exact q.elim
        | nx ρ =>
          obtain ⟨g, z12, z13, rfl⟩ := q
          exact ⟨f.trans g, _, _, _, rfl⟩
      · refine W_ret ?_
        rw [z_c, W_ok]
        exact ⟨rfl, f⟩
end
end K56

set_option Elab.async false
set_option linter.all false
set_option maxRecDepth 100000
set_option maxHeartbeats 4000000
namespace K56
open Mini
theorem pow18 {M : Mem} : powD (.int 10) (.int 18) M = .ok (.int (10 ^ 18)) M := by
  show (if (decide ((0 : Int) ≤ 18 ∧ (18 : Int) ≤ 1000000 ∧ (10 : Int).natAbs < 2 ^ 64)) = true then R.ok (D.int ((10 : Int) ^ (18 : Int).toNat)) M else .stuck) = _
  rw [if_pos (by decide)]
  rfl
theorem list_scr {xs : List Int} {M : Mem} : listV (.scr xs) M = .ok (.frl (dI xs)) M := nr rfl
theorem add_frl {xs ys : List D} {M : Mem} (h : xs.length + ys.length ≤ 5000) : addD (.frl xs) (.frl ys) M = .ok (.frl (xs ++ ys)) M := by
  show (if xs.length + ys.length ≤ PySem.sizeLine then R.ok (D.frl (xs ++ ys)) M else .stuck) = _
  have := PySem.sizeLine_eq
  rw [if_pos (by omega)]
theorem ix_frl0 {x : D} {xs : List D} {M : Mem} : ixD (.frl (x :: xs)) (.int 0) M = .ok x M := by
  have e : L2.atI (x :: xs) (0 : Int) = some x := by
    unfold L2.atI L2.ixN
    rw [if_pos (by omega), if_pos (by simp)]
    rfl
  simp [ixD, itemsOf, e]
theorem abs_int {i : Int} {M : Mem} : absM (.int i) M = .ok (.int (if i < 0 then -i else i)) M := nr rfl
theorem cup_ok {xs : List Int} {M : Mem} (hl : xs.length ≤ 63) : ∃ a b : Int, m__law_cup [.scr xs] M = .ok (.ref M.length) (M ++ [.lst [.int a, .int b]]) := by
  obtain ⟨v, r, hv⟩ : ∃ (v : Int) (r : List D), dI xs ++ [D.int 0] = .int v :: r := by
    cases xs with
    | nil => exact ⟨0, [], rfl⟩
    | cons x r => exact ⟨x, dI r ++ [.int 0], rfl⟩
  have ea : ∀ N, addD (.frl (dI xs)) (.frl [.int 0]) N = .ok (.frl (.int v :: r)) N := fun N => by
    rw [add_frl (by rw [dI_len]; simp; omega), hv]
  generalize hw : (if v < 0 then -v else v) = w
  have em : ∀ N, mulD (.int w) (.int 283) N = .ok (.int (w * 283)) N := fun N => mul_any (.inr (small_of (by omega)))
  by_cases hg : (10 : Int) ^ 18 ≤ w
  · simp at hg
    exact ⟨w / 73, (w * 283 + 3907) % 2077503167 + 167, by simp [m__law_cup, list_scr, size1, size2, ea, ix_frl0, abs_int, hw, pow18, hg, em, int_int, mod_int, fdiv_int]⟩
  · simp at hg
    have hg2 : ¬ (1000000000000000000 : Int) ≤ w := by omega
    exact ⟨0, (w * 283 + 3907) % 2077503167 + 167, by simp [m__law_cup, list_scr, size1, size2, ea, ix_frl0, abs_int, hw, pow18, hg2, em, int_int, mod_int]⟩
theorem plain (xs : List Int) (hl : xs.length ≤ 63) : ∃ M, m_law [.scr xs] [] = .ok (.bl true) M := by
  obtain ⟨M1, e1⟩ := isT_ok written
  obtain ⟨a, b, e2⟩ := cup_ok (M := M1) hl
  have hc : Cup M1.length (M1 ++ [.lst [.int a, .int b]]) := ⟨a, b, get_last'⟩
  have key : W (m_law [.scr xs] []) fun d _ => d = .bl true := by
    unfold m_law
    refine W_fn rfl ?_
    have h0 : startD 3 [.scr xs] = [some (.scr xs), none, none] := rfl
    rw [h0]
    refine W_seq ⟨.nx [some (.scr xs), none, none], M1, by simp [e1], ?_⟩
    show W (seqS _ _ [some (.scr xs), none, none] M1) _
    refine W_seq ⟨.nx [some (.scr xs), some (.ref M1.length), none], M1 ++ [.lst [.int a, .int b]], by simp [e2], ?_⟩
    show W (seqS _ _ [some (.scr xs), some (.ref M1.length), none] (M1 ++ [.lst [.int a, .int b]])) _
    generalize M1 ++ [MO.lst [.int a, .int b]] = M2 at hc
    refine W_seq (W_for ?_)
    have es : rng1I (cE (.int 4)) [some (.scr xs), some (.ref M1.length), none] M2 = .ok (.one (.fix (rangeL 0 4))) M2 := rng1_ok (n := 4) rfl (by omega)
    rw [es, W_ok]
    refine ⟨4, fun i => (rangeL 0 4).getD i .non, fun i ρ M' => Cup M1.length M' ∧ ∃ x2, ρ = [some (.scr xs), some (.ref M1.length), x2], rangeL_len, ⟨hc, none, rfl⟩, fun i ρ M' hi _ => ?_, fun i ρ M' hi ⟨f, x2, hρ⟩ => ?_, fun ρ M' ⟨f, x2, hρ⟩ => ?_⟩
    · have := get_fix (ds := rangeL 0 4) (i := i) (M := M') (by rw [rangeL_len]; exact hi)
      rw [rangeL_len] at this
      exact this
    · subst hρ
      refine ⟨[some (.scr xs), some (.ref M1.length), some ((rangeL 0 4).getD i .non)], rfl, ?_⟩
      generalize some ((rangeL 0 4).getD i .non) = x2
      obtain ⟨d, N1, e3, hd, f1⟩ := some_ok (xs := [.int 1, .int 3, .int 8, .int 60]) f (by simp) (by simp)
      obtain ⟨day, rfl, d1, d2⟩ : ∃ day : Nat, d = .int day ∧ 1 ≤ day ∧ day ≤ 60 := by
        simp at hd
        rcases hd with rfl | rfl | rfl | rfl
        · exact ⟨1, rfl, by omega, by omega⟩
        · exact ⟨3, rfl, by omega, by omega⟩
        · exact ⟨8, rfl, by omega, by omega⟩
        · exact ⟨60, rfl, by omega, by omega⟩
      obtain ⟨_, N2, e4, rfl, f2⟩ := right_ok f1.cup d1 d2
      have s4 : (4 : Nat) ≤ PySem.sizeLine := size_small (by omega)
      exact ⟨.nx [some (.scr xs), some (.ref M1.length), x2], N2, by simp [e3, e4, s4], f2.cup, _, rfl⟩
    · refine W_ret ?_
      rw [z_c, W_ok]
  obtain ⟨d, M, e, rfl⟩ := key
  exact ⟨M, e⟩
end K56

set_option Elab.async false
set_option linter.all false
set_option maxRecDepth 100000
set_option maxHeartbeats 4000000
namespace K56
open PySem PySem.Spec PyProof.Rows L2 Mini
theorem law_at {w : World} {mg : Str → Option Value} {fa : Addr} {h : Heap} {K : PySem.W.Frag} (X : K.In h) (G : h.Ns mainGlobals mg) (hf : mg "law" = some (.ref fa)) (c : He.SaysX hfa hfn [] htf exK w h K) :
    LamX.LawAtS PySem.Challenge.rw_callskept_k56_shifts_needs_and_prices w K (L2.CX PySem.Challenge.rw_callskept_k56_shifts_needs_and_prices.prog w) 12 63 "script" mg fa h := by
  have Tp := top_of X G c
  have e := hf.symm.trans Tp.g_law
  cases e
  obtain ⟨fd, F⟩ := Tp.F_law
  have hin : ((LamD, none) : He.Defn) ∈ htf := List.mem_singleton.mpr rfl
  refine ⟨fd, [He.cT K (LamD, none)], spM K mg (TL K) 1 m_law, fun p hp => ?_, fun p hp => ?_, fun p hp => ?_, fun s u => ?_, fun H a ns hl hb hT hS => ?_, fun base KX G' TB => ?_⟩
  · rw [List.mem_singleton.mp hp]; exact c.empty _ hin
  · rw [List.mem_singleton.mp hp]; exact c.out _ hin
  · rw [List.mem_singleton.mp hp]; exact PySem.W.codeHd_of_K X (c.hd _ hin)
  · exact FunD.bindsA (ps := ["script"]) F (fun _ _ _ _ _ _ us hl => match us, hl with | [_], _ => rfl) s [u] rfl
  · exact law_sp (fun p hp => by rw [List.mem_singleton.mp hp]; exact hT _ (List.mem_singleton.mpr rfl)) hS (plain ns hl)
  · exact (ok_law Tp (TB _ (List.mem_singleton.mpr rfl)) F).ok
end K56
open PySem PySem.W PySem.Calls PyProof.Rows
theorem PySem.Challenge.cw_callskept_k56_shifts_needs_and_prices_holds : PySem.Challenge.rw_callskept_k56_shifts_needs_and_prices.Holds := by
  w_on; o_law
  refine HandSHeadRun.head_any (r := OpenLaw.row PySem.Challenge.rw_callskept_k56_shifts_needs_and_prices) (q := view (OpenLaw.row PySem.Challenge.rw_callskept_k56_shifts_needs_and_prices).prog [53]) (H := K56.hk) (ob := K56.hob) (M := 6000) (loose := K56.hnames) (d := HandSHeadRun.topDef (OpenLaw.row PySem.Challenge.rw_callskept_k56_shifts_needs_and_prices).prog 53) (kwd := []) K56.hob_eq
    (by kernel_rfl) (fun s => by kernel_rfl) K56.hrun (by kernel_rfl) (by kernel_rfl) (by kernel_rfl) (by rfl) (by first | assumption | decide +kernel) (by decide +kernel) ⟨rfl, rfl, rfl, rfl, rfl, by decide +kernel⟩ ?hw ?hc
  case hw => w_witness2
  case hc =>
    refine LamX.walk_ofTsE (l := PySem.Challenge.rw_callskept_k56_shifts_needs_and_prices) (n := 63) (k := 12) (x := "script") (CX := fun w => L2.CX PySem.Challenge.rw_callskept_k56_shifts_needs_and_prices.prog w) rfl (by decide) (by kernel_rfl) ⟨rfl, by decide, by decide⟩ ?F (fun w H s e s' z => ?_)
    case F =>
      intro w mg fa h Y G hmg0
      obtain ⟨K, KX, c⟩ := Y
      have hmg : mg ("law" : PySem.Str) = some (.ref fa) := by
        have e : (HandSHeadRun.topDef (OpenLaw.row PySem.Challenge.rw_callskept_k56_shifts_needs_and_prices).prog 53).name = ("law" : PySem.Str) := by kernel_rfl
        rw [← e]
        exact hmg0
      exact ⟨K, KX, K56.law_at KX G hmg c⟩
    · obtain ⟨_, _, _, _, _, _, _, _, _, _, _, _, z⟩ := z
      exact z.elim
