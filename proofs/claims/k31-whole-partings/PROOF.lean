import PyProof.Rows.All
import HandS.ForMost
import HandS.Nested
import HandS.Strs
import HandS.SetBool
import HandS.SortInts
import HandS.DictComp
import HandS.TupAny
import HandS.Style
import HandS.Conv
import HandS.IsInst
import HandS.Property
import KE.DataMinMax
import HandS.SortKw
import HandS.Exc
import HandS.ExcOwn
import HandS.WordsExc
import HandS.TryOnly
import HandS.ExcValue
import KE.KLam
import KE.SortKeyHeap
import HandS.TupSets
import KE.KeyNested
import KE.KDictKeyed
import KE.KDictDisplayH
import HandS.Dict
import PySem.Challenge.RW_meantmerge_k31_whole_partings_exactly
import HandS.NoneIn
import HandS.EndTab
import KE.KNestM
section
set_option Elab.async false
set_option linter.all false
set_option maxRecDepth 100000
set_option maxHeartbeats 4000000
/-! D-layer 1: Python data as trees, what represents them in a heap, growth of heaps, environments of data. -/
namespace DL
open PySem PySem.Spec PyProof.Rows L2 NdefX

/-- data as a tree -/
inductive D where
  | non | bl (b : Bool) | int (i : Int) | str (x : PySem.Str)
  | lst (xs : List D) | tup (xs : List D) | ptup (xs : List D)
  | ins (C : Addr) (ns : List PySem.Str) (xs : List D)
  | dic (ks : List Key) (xs : List D)
  | iset (ns : List Int)
  | scr (ns : List Int)
  | fn (f : Addr) (F : NF)
  | adr (a : Addr)

mutual
/-- the value v stands for the data d in the ground G -/
inductive Rep (K : PySem.W.Frag) (G : Hp) : V → D → Prop
  | non : Rep K G .non .non
  | bl (b : Bool) : Rep K G (.bl b) (.bl b)
  | int (i : Int) : Rep K G (.int i) (.int i)
  | str (x : PySem.Str) : Rep K G (.str x) (.str x)
  | lst {a : Addr} {xs : List V} {ds : List D} : G a = some (.lst xs) → RepAll K G xs ds → Rep K G (.ref a) (.lst ds)
  | tup {a : Addr} {xs : List V} {ds : List D} : G a = some (.tup xs) → RepAll K G xs ds → Rep K G (.ref a) (.tup ds)
  | ptup {a : Addr} {o : Obj} {xs : List V} {ds : List D} : o.dict = none → G a = some (.frz o (.tup xs)) → RepAll K G xs ds → Rep K G (.ref a) (.ptup ds)
  | ins {a C dx : Addr} {fs : List (PySem.Str × V)} {ns : List PySem.Str} {xs : List V} {ds : List D} : G a = some (.ins C dx fs) → fs.map (·.1) = ns → fs.map (·.2) = xs → RepAll K G xs ds → Rep K G (.ref a) (.ins C ns ds)
  | dic {a : Addr} {kvs : List (Key × V)} {ks : List Key} {xs : List V} {ds : List D} : G a = some (.dK kvs) → kvs.map (·.1) = ks → kvs.map (·.2) = xs → RepAll K G xs ds → Rep K G (.ref a) (.dic ks ds)
  | iset {a : Addr} {S : Int → Bool} {ns : List Int} : G a = some (.set S ns.length) → (∀ i, S i = decide (i ∈ ns)) → ns.Nodup → Rep K G (.ref a) (.iset ns)
  | scr {a : Addr} {ns : List Int} : SqL K G a (ns.map V.int) → Rep K G (.ref a) (.scr ns)
  | fn {f : Addr} {F : NF} : G f = some (FnO f F) → G F.c = some (LamX.CodeO F.c F.qual) → Rep K G (.ref f) (.fn f F)
  | adr (a : Addr) : Rep K G (.ref a) (.adr a)
inductive RepAll (K : PySem.W.Frag) (G : Hp) : List V → List D → Prop
  | nil : RepAll K G [] []
  | cons {v : V} {vs : List V} {d : D} {ds : List D} : Rep K G v d → RepAll K G vs ds → RepAll K G (v :: vs) (d :: ds)
end

section
variable {K : PySem.W.Frag} {G G' : Hp}
mutual
theorem Rep.mono (e : Same G G') : ∀ (v : V) (d : D), Rep K G v d → Rep K G' v d
  | _, _, .non => .non
  | _, _, .bl b => .bl b
  | _, _, .int i => .int i
  | _, _, .str x => .str x
  | _, _, .lst h r => .lst (e _ _ h) (RepAll.mono e _ _ r)
  | _, _, .tup h r => .tup (e _ _ h) (RepAll.mono e _ _ r)
  | _, _, .ptup n h r => .ptup n (e _ _ h) (RepAll.mono e _ _ r)
  | _, _, .ins h n x r => .ins (e _ _ h) n x (RepAll.mono e _ _ r)
  | _, _, .dic h n x r => .dic (e _ _ h) n x (RepAll.mono e _ _ r)
  | _, _, .iset h s n => .iset (e _ _ h) s n
  | _, _, .scr h => .scr (e.seq h)
  | _, _, .fn h h2 => .fn (e _ _ h) (e _ _ h2)
  | _, _, .adr a => .adr a
theorem RepAll.mono (e : Same G G') : ∀ (vs : List V) (ds : List D), RepAll K G vs ds → RepAll K G' vs ds
  | _, _, .nil => .nil
  | _, _, .cons h t => .cons (Rep.mono e _ _ h) (RepAll.mono e _ _ t)
end
theorem Rep.up {v : V} {d : D} (h : Rep K G v d) (e : Same G G') : Rep K G' v d := Rep.mono e _ _ h
theorem RepAll.up {vs : List V} {ds : List D} (h : RepAll K G vs ds) (e : Same G G') : RepAll K G' vs ds := RepAll.mono e _ _ h

theorem RepAll.length : ∀ {vs : List V} {ds : List D}, RepAll K G vs ds → vs.length = ds.length
  | _, _, .nil => rfl
  | _, _, .cons _ t => by rw [List.length_cons, List.length_cons, t.length]
theorem RepAll.get : ∀ {vs : List V} {ds : List D} {i : Nat} {d : D}, RepAll K G vs ds → ds[i]? = some d → ∃ v, vs[i]? = some v ∧ Rep K G v d
  | _, _, _, _, .nil, e => by simp at e
  | _, _, 0, _, .cons h _, e => by
    simp at e; subst e; exact ⟨_, rfl, h⟩
  | _, _, i + 1, d, .cons _ t, e => by
    obtain ⟨v, h1, h2⟩ := t.get (i := i) (d := d) (by simpa using e)
    exact ⟨v, by simpa using h1, h2⟩
theorem RepAll.getV : ∀ {vs : List V} {ds : List D} {i : Nat} {v : V}, RepAll K G vs ds → vs[i]? = some v → ∃ d, ds[i]? = some d ∧ Rep K G v d
  | _, _, _, _, .nil, e => by simp at e
  | _, _, 0, _, .cons h _, e => by
    simp at e; subst e; exact ⟨_, rfl, h⟩
  | _, _, i + 1, d, .cons _ t, e => by
    obtain ⟨v, h1, h2⟩ := t.getV (i := i) (v := d) (by simpa using e)
    exact ⟨v, by simpa using h1, h2⟩
theorem RepAll.append : ∀ {vs ws : List V} {ds es : List D}, RepAll K G vs ds → RepAll K G ws es → RepAll K G (vs ++ ws) (ds ++ es)
  | _, _, _, _, .nil, s => s
  | _, _, _, _, .cons h t, s => .cons h (t.append s)
theorem RepAll.take : ∀ {vs : List V} {ds : List D} (n : Nat), RepAll K G vs ds → RepAll K G (vs.take n) (ds.take n)
  | _, _, 0, _ => .nil
  | _, _, _ + 1, .nil => .nil
  | _, _, n + 1, .cons h t => .cons h (RepAll.take n t)
theorem RepAll.drop : ∀ {vs : List V} {ds : List D} (n : Nat), RepAll K G vs ds → RepAll K G (vs.drop n) (ds.drop n)
  | _, _, 0, r => r
  | _, _, _ + 1, .nil => .nil
  | _, _, n + 1, .cons _ t => RepAll.drop n t
theorem RepAll.set {x : V} {d : D} (r : Rep K G x d) : ∀ {vs : List V} {ds : List D} (i : Nat), RepAll K G vs ds → RepAll K G (vs.set i x) (ds.set i d)
  | _, _, _, .nil => .nil
  | _, _, 0, .cons _ t => .cons r t
  | _, _, i + 1, .cons q t => .cons q (RepAll.set r i t)
theorem RepAll.reverse {vs : List V} {ds : List D} (h : RepAll K G vs ds) : RepAll K G vs.reverse ds.reverse := by
  induction vs generalizing ds with
  | nil => cases h; exact .nil
  | cons v vs ih =>
    cases h with
    | cons h t =>
      rw [List.reverse_cons, List.reverse_cons]
      exact (ih t).append (.cons h .nil)
theorem RepAll.one {v : V} {d : D} (h : Rep K G v d) : RepAll K G [v] [d] := .cons h .nil
theorem RepAll.ints : ∀ ns : List Int, RepAll K G (ns.map V.int) (ns.map D.int)
  | [] => .nil
  | n :: ns => .cons (.int n) (RepAll.ints ns)
/-- data of ints is represented by those ints -/
theorem RepAll.intsV : ∀ {vs : List V} {ns : List Int}, RepAll K G vs (ns.map D.int) → vs = ns.map V.int
  | _, [], h => by cases h; rfl
  | _, n :: ns, h => by
    cases h with
    | cons h t => cases h; rw [RepAll.intsV t]; rfl
theorem RepAll.strsV : ∀ {vs : List V} {ns : List PySem.Str}, RepAll K G vs (ns.map D.str) → vs = ns.map V.str
  | _, [], h => by cases h; rfl
  | _, n :: ns, h => by
    cases h with
    | cons h t => cases h; rw [RepAll.strsV t]; rfl
end

/-! ### growth -/
/-- from the ground G in the heap H to G' in H': all that was tracked stands but the tables, which grow; what is new in the ground is new in the heap -/
structure Grow (T : List NTab) (G H G' H' : Hp) : Prop where
  le : Same G G'
  sub : Same G' H'
  nt : ∀ a ps, G' a ≠ some (.tbl ps)
  keep : LamX.ExtN H H'
  tabs : TabsN T H'
  nn : ∀ a, H' a = none → H a = none
  new : ∀ a o, G' a = some o → G a = some o ∨ H a = none ∨ ∃ c q, o = LamX.CodeO c q
/-- a ground within a heap -/
structure Base (T : List NTab) (G H : Hp) : Prop where
  sub : Same G H
  nt : ∀ a ps, G a ≠ some (.tbl ps)
  tabs : TabsN T H

section
variable {T : List NTab} {G H G' H' G1 H1 G2 H2 : Hp}
theorem Grow.base (g : Grow T G H G' H') : Base T G' H' := ⟨g.sub, g.nt, g.tabs⟩
theorem Base.refl (b : Base T G H) : Grow T G H G H := ⟨Same.refl _, b.sub, b.nt, LamX.ExtN.refl _, b.tabs, fun _ h => h, fun _ _ h => .inl h⟩
theorem Grow.refl' (g : Grow T G H G' H') : Grow T G' H' G' H' := g.base.refl
theorem Grow.trans (a : Grow T G H G1 H1) (b : Grow T G1 H1 G2 H2) : Grow T G H G2 H2 :=
  ⟨a.le.trans b.le, b.sub, b.nt, a.keep.trans b.keep, b.tabs, fun x h => a.nn x (b.nn x h), fun x o h => (b.new x o h).elim (a.new x o) fun n => n.elim (fun n => .inr (.inl (a.nn x n))) fun n => .inr (.inr n)⟩
/-- an object in the ground stays through a growth of the heap -/
theorem Base.keep (b : Base T G H) (e : LamX.ExtN H H1) : Same G H1 := fun a o h => e a o (b.sub a o h) fun ps z => b.nt a ps (z ▸ h)
theorem upd_keep {H : Hp} {p : Addr} {o : HO} (n : H p = none) : Same H (upd H p o) := fun b u e => by rw [upd_ne (ne_of_none e n)]; exact e
theorem upd_nn {H : Hp} {p : Addr} {o : HO} : ∀ a, upd H p o a = none → H a = none := fun a h => upd_none h
/-- a new object is laid in the heap and in the ground -/
theorem Base.lay (b : Base T G H) {p : Addr} {o : HO} (n : H p = none) (ho : ∀ ps, o ≠ .tbl ps) : Grow T G H (upd G p o) (upd H p o) where
  le := fun a u e => by rw [upd_ne (ne_of_none (b.sub a u e) n)]; exact e
  sub := fun a u e => by
    by_cases h : a = p
    · subst h; rw [upd_same] at e ⊢; exact e
    · rw [upd_ne h] at e ⊢; exact b.sub a u e
  nt := fun a ps e => by
    by_cases h : a = p
    · subst h; rw [upd_same] at e; exact ho ps (Option.some.inj e)
    · rw [upd_ne h] at e; exact b.nt a ps e
  keep := LamX.ExtN.of (upd_keep n)
  tabs := b.tabs.ext (upd_keep n)
  nn := upd_nn
  new := fun a u e => by
    by_cases h : a = p
    · subst h; exact .inr (.inl n)
    · rw [upd_ne h] at e; exact .inl e
/-- a new object is laid in the heap alone (one's own) -/
theorem Base.own (b : Base T G H) {p : Addr} {o : HO} (n : H p = none) : Grow T G H G (upd H p o) where
  le := Same.refl _
  sub := b.sub.trans (upd_keep n)
  nt := b.nt
  keep := LamX.ExtN.of (upd_keep n)
  tabs := b.tabs.ext (upd_keep n)
  nn := upd_nn
  new := fun _ _ e => .inl e
/-- the heap grows in any way that keeps all that is tracked -/
theorem Base.same (b : Base T G H) (e : Same H H') (n : ∀ a, H' a = none → H a = none) : Grow T G H G H' :=
  ⟨Same.refl _, b.sub.trans e, b.nt, LamX.ExtN.of e, b.tabs.ext e, n, fun _ _ h => .inl h⟩
end

theorem lst_nt (vs : List V) (ps : Array Value) : HO.lst vs ≠ .tbl ps := fun z => nomatch z
theorem lst_nc (vs : List V) (c : Addr) (q : PySem.Str) : HO.lst vs ≠ LamX.CodeO c q := fun z => by unfold LamX.CodeO at z; cases z
/-- a code object goes into the ground -/
theorem Grow.code {T : List NTab} {G H G' H' : Hp} (g : Grow T G H G' H') {c : Addr} {q : PySem.Str} (h : H' c = some (LamX.CodeO c q)) : Grow T G H (upd G' c (LamX.CodeO c q)) H' where
  le := fun a o e => by
    by_cases z : a = c
    · subst z
      have := g.sub a o (g.le a o e)
      rw [h] at this
      rw [upd_same]
      exact this
    · rw [upd_ne z]; exact g.le a o e
  sub := fun a o e => by
    by_cases z : a = c
    · subst z; rw [upd_same] at e; cases e; exact h
    · rw [upd_ne z] at e; exact g.sub a o e
  nt := fun a ps e => by
    by_cases z : a = c
    · subst z; rw [upd_same] at e; unfold LamX.CodeO at e; cases e
    · rw [upd_ne z] at e; exact g.nt a ps e
  keep := g.keep
  tabs := g.tabs
  nn := g.nn
  new := fun a o e => by
    by_cases z : a = c
    · subst z; rw [upd_same] at e; cases e; exact .inr (.inr ⟨_, _, rfl⟩)
    · rw [upd_ne z] at e; exact g.new a o e

/-! ### one's own objects, environments -/
/-- what is told of an object of one's own: the content u upon the ground G -/
structure OwK where
  φ : Hp → Addr → HO → Prop
  mono : ∀ G G' a u, Same G G' → φ G a u → φ G' a u
  nt : ∀ G a u, φ G a u → ∀ ps, u ≠ .tbl ps
  nc : ∀ G a u, φ G a u → ∀ c q, u ≠ LamX.CodeO c q
/-- a list of one's own -/
def lstK (K : PySem.W.Frag) (ds : List D) : OwK where
  φ := fun G _ u => ∃ vs, u = .lst vs ∧ RepAll K G vs ds
  mono := fun G G' _ u e ⟨vs, h, r⟩ => ⟨vs, h, r.up e⟩
  nt := fun G _ u ⟨vs, h, _⟩ ps z => by rw [h] at z; cases z
  nc := fun G _ u ⟨vs, h, _⟩ c q z => by rw [h] at z; unfold LamX.CodeO at z; cases z

inductive Sl where
  | un | da (d : D) | ow (k : OwK)

/-- a slot holds what is said of it -/
def SlOk (K : PySem.W.Frag) (H0 G : Hp) (σ : L2.St) (H : Hp) (i : Nat) : Sl → Prop
  | .un => True
  | .da d => ∃ v, σ[i]? = some (some v) ∧ Rep K G v d
  | .ow k => ∃ a u, σ[i]? = some (some (.ref a)) ∧ H a = some u ∧ k.φ G a u ∧ G a = none ∧ H0 a = none

/-- the environment ρ, from the entry's ground and heap G0, H0 -/
structure En (K : PySem.W.Frag) (T : List NTab) (G0 H0 G : Hp) (ρ : List Sl) (σ : L2.St) (H : Hp) : Prop where
  grow : Grow T G0 H0 G H
  len : σ.length = ρ.length
  sl : ∀ (i : Nat) (s : Sl), ρ[i]? = some s → SlOk K H0 G σ H i s
  apart : ∀ (i j : Nat) (k k' : OwK) (a : Addr), i ≠ j → ρ[i]? = some (.ow k) → ρ[j]? = some (.ow k') → σ[i]? = some (some (.ref a)) → σ[j]? ≠ some (some (.ref a))

section
variable {K : PySem.W.Frag} {T : List NTab} {G0 H0 G H G' H' : Hp} {ρ ρ' : List Sl} {σ : L2.St}
theorem En.base (e : En K T G0 H0 G ρ σ H) : Base T G H := e.grow.base
theorem En.up (e : En K T G0 H0 G ρ σ H) (g : Grow T G H G' H') : En K T G0 H0 G' ρ σ H' where
  grow := e.grow.trans g
  len := e.len
  sl := fun i s h => by
    have q := e.sl i s h
    cases s with
    | un => trivial
    | da d => obtain ⟨v, h1, h2⟩ := q; exact ⟨v, h1, h2.up g.le⟩
    | ow k =>
      obtain ⟨a, u, h1, h2, h3, h4, h5⟩ := q
      refine ⟨a, u, h1, g.keep a u h2 (fun ps => k.nt G a u h3 ps), k.mono _ _ _ _ g.le h3, ?_, h5⟩
      cases z : G' a with
      | none => rfl
      | some o =>
        rcases g.new a o z with y | y | ⟨c, q, y⟩
        · rw [h4] at y; cases y
        · rw [h2] at y; cases y
        · have w1 := g.sub a o z
          have w2 := g.keep a u h2 (fun ps => k.nt G a u h3 ps)
          rw [w1] at w2
          exact absurd ((Option.some.inj w2).symm.trans y) (k.nc G a u h3 c q)
  apart := e.apart
theorem En.da (e : En K T G0 H0 G ρ σ H) {i : Nat} {d : D} (h : ρ[i]? = some (.da d)) : ∃ v, σ[i]? = some (some v) ∧ Rep K G v d := e.sl i _ h
theorem En.ow (e : En K T G0 H0 G ρ σ H) {i : Nat} {k : OwK} (h : ρ[i]? = some (.ow k)) : ∃ a u, σ[i]? = some (some (.ref a)) ∧ H a = some u ∧ k.φ G a u ∧ G a = none ∧ H0 a = none := e.sl i _ h
theorem get_set {α : Type} {l : List α} {i j : Nat} {x y : α} (h : (l.set i x)[j]? = some y) : (j = i ∧ y = x ∧ i < l.length) ∨ (j ≠ i ∧ l[j]? = some y) := by
  by_cases e : j = i
  · subst e
    have hj : j < (l.set j x).length := (List.getElem?_eq_some_iff.mp h).1
    rw [List.length_set] at hj
    rw [List.getElem?_set_self hj] at h
    exact .inl ⟨rfl, (Option.some.inj h).symm, hj⟩
  · rw [List.getElem?_set_ne (Ne.symm e)] at h
    exact .inr ⟨e, h⟩
/-- a name gets data -/
theorem En.setD (e : En K T G0 H0 G ρ σ H) {i : Nat} {v : V} {d : D} (r : Rep K G v d) : En K T G0 H0 G (ρ.set i (.da d)) (σ.set i (some v)) H where
  grow := e.grow
  len := by rw [List.length_set, List.length_set]; exact e.len
  sl := fun j s h => by
    rcases get_set h with ⟨rfl, rfl, hl⟩ | ⟨hn, h⟩
    · exact ⟨v, by rw [List.getElem?_set_self (by rw [e.len]; exact hl)], r⟩
    · have q := e.sl j s h
      cases s with
      | un => trivial
      | da d => obtain ⟨v, h1, h2⟩ := q; exact ⟨v, by rw [List.getElem?_set_ne (Ne.symm hn)]; exact h1, h2⟩
      | ow k => obtain ⟨a, u, h1, h2⟩ := q; exact ⟨a, u, by rw [List.getElem?_set_ne (Ne.symm hn)]; exact h1, h2⟩
  apart := fun j l k k' a hne h1 h2 h3 => by
    rcases get_set h1 with ⟨_, z, _⟩ | ⟨hn1, h1⟩
    · cases z
    rcases get_set h2 with ⟨_, z, _⟩ | ⟨hn2, h2⟩
    · cases z
    rw [List.getElem?_set_ne (Ne.symm hn1)] at h3
    rw [List.getElem?_set_ne (Ne.symm hn2)]
    exact e.apart j l k k' a hne h1 h2 h3
/-- a name gets a new object of one's own, just laid -/
theorem En.setO (e : En K T G0 H0 G ρ σ H) {i : Nat} {p : Addr} {k : OwK} {u : HO} (n : H p = none) (hk : k.φ G p u) : En K T G0 H0 G (ρ.set i (.ow k)) (σ.set i (some (.ref p))) (upd H p u) := by
  have e1 := e.up (e.base.own (o := u) n)
  have gp : G p = none := by
    cases z : G p with
    | none => rfl
    | some o => have := e.base.sub p o z; rw [n] at this; cases this
  have hp : H0 p = none := e.grow.nn p n
  refine ⟨e1.grow, by rw [List.length_set, List.length_set]; exact e.len, fun j s h => ?_, fun j l q q' a hne h1 h2 h3 => ?_⟩
  · rcases get_set h with ⟨rfl, rfl, hl⟩ | ⟨hn, h⟩
    · exact ⟨p, u, by rw [List.getElem?_set_self (by rw [e.len]; exact hl)], upd_same, hk, gp, hp⟩
    · have q := e1.sl j s h
      cases s with
      | un => trivial
      | da d => obtain ⟨v, h1, h2⟩ := q; exact ⟨v, by rw [List.getElem?_set_ne (Ne.symm hn)]; exact h1, h2⟩
      | ow k => obtain ⟨a, u, h1, h2⟩ := q; exact ⟨a, u, by rw [List.getElem?_set_ne (Ne.symm hn)]; exact h1, h2⟩
  · -- an elder own object is not p
    have old : ∀ {m : Nat} {q : OwK}, ρ[m]? = some (.ow q) → σ[m]? ≠ some (some (.ref p)) := fun {m q} hm z => by
      obtain ⟨b, v, h1, h2, _⟩ := e.ow hm
      rw [z] at h1; cases h1
      rw [n] at h2; cases h2
    rcases get_set h1 with ⟨rfl, _, hl⟩ | ⟨hn1, w1⟩
    · rw [List.getElem?_set_self (by rw [e.len]; exact hl)] at h3
      cases h3
      rcases get_set h2 with ⟨z, _, _⟩ | ⟨hn2, w2⟩
      · exact absurd z.symm hne
      · rw [List.getElem?_set_ne (Ne.symm hn2)]
        exact old w2
    · rw [List.getElem?_set_ne (Ne.symm hn1)] at h3
      rcases get_set h2 with ⟨rfl, _, hl⟩ | ⟨hn2, w2⟩
      · rw [List.getElem?_set_self (by rw [e.len]; exact hl)]
        intro z
        cases z
        exact old w1 h3
      · rw [List.getElem?_set_ne (Ne.symm hn2)]
        exact e.apart j l q q' a hne w1 w2 h3
/-- one's own object is written -/
theorem En.mut (e : En K T G0 H0 G ρ σ H) {i : Nat} {a : Addr} {k k' : OwK} {u' : HO} (hi : ρ[i]? = some (.ow k)) (ha : σ[i]? = some (some (.ref a))) (hk : k'.φ G a u') : En K T G0 H0 G (ρ.set i (.ow k')) σ (upd H a u') := by
  obtain ⟨b, u, h1, h2, h3, h4, h5⟩ := e.ow hi
  rw [ha] at h1; cases h1
  have hne : ∀ {c : Addr} {o : HO}, G c = some o → c ≠ a := fun {c o} h z => by rw [z, h4] at h; cases h
  have hl : i < ρ.length := (List.getElem?_eq_some_iff.mp hi).1
  refine ⟨⟨e.grow.le, fun c o h => ?_, e.grow.nt, fun c o h n => ?_, fun p hp => ?_, fun c h => ?_, e.grow.new⟩, by rw [List.length_set]; exact e.len, fun j s h => ?_, fun j l q q' c hne h1 h2 h3 => ?_⟩
  · rw [upd_ne (hne h)]; exact e.grow.sub c o h
  · rw [upd_ne (fun z => by rw [z, h5] at h; cases h)]; exact e.grow.keep c o h n
  · obtain ⟨ps, t1, t2, t3⟩ := e.grow.tabs p hp
    refine ⟨ps, by rw [upd_ne (fun z => by rw [z, h2] at t1; exact k.nt G a u h3 ps (Option.some.inj t1))]; exact t1, t2, fun pos cv hc => ?_⟩
    obtain ⟨c, e1, e2⟩ := t3 pos cv hc
    exact ⟨c, e1, by rw [upd_ne (fun z => by rw [z, h2] at e2; exact k.nc G a u h3 _ _ (Option.some.inj e2))]; exact e2⟩
  · by_cases z : c = a
    · rw [z]; exact h5
    · rw [upd_ne z] at h; exact e.grow.nn c h
  · rcases get_set h with ⟨rfl, rfl, hl⟩ | ⟨hn, h⟩
    · exact ⟨a, u', ha, upd_same, hk, h4, h5⟩
    · have q := e.sl j s h
      cases s with
      | un => trivial
      | da d => exact q
      | ow q0 =>
        obtain ⟨c, w, w1, w2, w3⟩ := q
        refine ⟨c, w, w1, ?_, w3⟩
        rw [upd_ne (fun z => ?_)]
        · exact w2
        · rw [z] at w1
          exact e.apart i j k q0 a (Ne.symm hn) hi h ha w1
  · have at_ : ∀ {m : Nat} {q : OwK}, (ρ.set i (.ow k'))[m]? = some (.ow q) → ∃ q', ρ[m]? = some (.ow q') := fun {m q} z => by
      rcases get_set z with ⟨rfl, _, _⟩ | ⟨_, z⟩
      · exact ⟨k, hi⟩
      · exact ⟨q, z⟩
    obtain ⟨r1, y1⟩ := at_ h1
    obtain ⟨r2, y2⟩ := at_ h2
    exact e.apart j l r1 r2 c hne y1 y2 h3
/-- one's own object is not changed any more: it goes into the ground -/
theorem En.freeze (e : En K T G0 H0 G ρ σ H) {i : Nat} {ds : List D} (hi : ρ[i]? = some (.ow (lstK K ds))) : ∃ G', Same G G' ∧ En K T G0 H0 G' (ρ.set i (.da (.lst ds))) σ H := by
  obtain ⟨a, u, h1, h2, h3, h4, h5⟩ := e.ow hi
  obtain ⟨vs, rfl, r⟩ := id h3
  have le : Same G (upd G a (.lst vs)) := upd_keep h4
  refine ⟨upd G a (.lst vs), le, ⟨⟨e.grow.le.trans le, fun c o h => ?_, fun c ps h => ?_, e.grow.keep, e.grow.tabs, e.grow.nn, fun c o h => ?_⟩, by rw [List.length_set]; exact e.len, fun j s h => ?_, fun j l q q' c hne y1 y2 y3 => ?_⟩⟩
  · by_cases z : c = a
    · subst z; rw [upd_same] at h; cases h; exact h2
    · rw [upd_ne z] at h; exact e.grow.sub c o h
  · by_cases z : c = a
    · subst z; rw [upd_same] at h; cases h
    · rw [upd_ne z] at h; exact e.grow.nt c ps h
  · by_cases z : c = a
    · subst z; exact .inr (.inl h5)
    · rw [upd_ne z] at h; exact e.grow.new c o h
  · rcases get_set h with ⟨rfl, rfl, hl⟩ | ⟨hn, h⟩
    · exact ⟨.ref a, h1, .lst upd_same (r.up le)⟩
    · have q := e.sl j s h
      cases s with
      | un => trivial
      | da d => obtain ⟨v, w1, w2⟩ := q; exact ⟨v, w1, w2.up le⟩
      | ow q0 =>
        obtain ⟨c, w, w1, w2, w3, w4, w5⟩ := q
        refine ⟨c, w, w1, w2, q0.mono _ _ _ _ le w3, ?_, w5⟩
        rw [upd_ne (fun z => ?_)]
        · exact w4
        · rw [z] at w1
          exact e.apart i j _ q0 a (Ne.symm hn) hi h h1 w1
  · rcases get_set y1 with ⟨_, z, _⟩ | ⟨_, y1⟩
    · cases z
    rcases get_set y2 with ⟨_, z, _⟩ | ⟨_, y2⟩
    · cases z
    exact e.apart j l q q' c hne y1 y2 y3

/-- less is said of the slots -/
inductive Wk : List Sl → List Sl → Prop
  | nil : Wk [] []
  | un {s : Sl} {r r' : List Sl} : Wk r r' → Wk (s :: r) (.un :: r')
  | same {s : Sl} {r r' : List Sl} : Wk r r' → Wk (s :: r) (s :: r')
theorem Wk.refl : ∀ ρ : List Sl, Wk ρ ρ
  | [] => .nil
  | _ :: r => .same (Wk.refl r)
theorem Wk.at_ : ∀ {ρ ρ' : List Sl} {i : Nat} {s : Sl}, Wk ρ ρ' → ρ'[i]? = some s → s = .un ∨ ρ[i]? = some s
  | _, _, _, _, .nil, h => by simp at h
  | _, _, 0, _, .un _, h => by simp at h; exact .inl h.symm
  | _, _, 0, _, .same _, h => by simp at h ⊢; exact .inr h
  | _, _, i + 1, s, .un w, h => by simpa using Wk.at_ (i := i) (s := s) w (by simpa using h)
  | _, _, i + 1, s, .same w, h => by simpa using Wk.at_ (i := i) (s := s) w (by simpa using h)
theorem Wk.len : ∀ {ρ ρ' : List Sl}, Wk ρ ρ' → ρ'.length = ρ.length
  | _, _, .nil => rfl
  | _, _, .un w => by rw [List.length_cons, List.length_cons, w.len]
  | _, _, .same w => by rw [List.length_cons, List.length_cons, w.len]
theorem En.weak (e : En K T G0 H0 G ρ σ H) (w : Wk ρ ρ') : En K T G0 H0 G ρ' σ H where
  grow := e.grow
  len := e.len.trans w.len.symm
  sl := fun i s h => by
    rcases w.at_ h with rfl | h
    · trivial
    · exact e.sl i s h
  apart := fun i j k k' a hne h1 h2 h3 => by
    rcases w.at_ h1 with z | h1
    · cases z
    rcases w.at_ h2 with z | h2
    · cases z
    exact e.apart i j k k' a hne h1 h2 h3
end
end DL
end
section
set_option Elab.async false
set_option linter.all false
set_option maxRecDepth 100000
set_option maxHeartbeats 4000000
/-! D-layer 2: judgements of expressions. -/
namespace DL
open PySem PySem.Spec PyProof.Rows L2 NdefX
variable {X : Cx}

theorem pe_mono {e : Expr} {t t' : TE} (h : PE X e t) (k : ∀ σ H Q, t' σ H Q → t σ H Q) : PE X e t' := ⟨fun pins s σ H Q I q => h.run pins s σ H Q I (k σ H Q q)⟩
theorem pt_mono {e : Expr} {t t' : TT} (h : PT X e t) (k : ∀ σ H Q, t' σ H Q → t σ H Q) : PT X e t' := ⟨fun pins s σ H Q I q => h.run pins s σ H Q I (k σ H Q q)⟩
theorem pa_mono {e : List Expr} {t t' : TA} (h : PA X e t) (k : ∀ σ H Q, t' σ H Q → t σ H Q) : PA X e t' := ⟨fun pos pins s σ H Q I q => h.run pos pins s σ H Q I (k σ H Q q)⟩
theorem ps_mono {e : Stmt} {t t' : TS} (h : PS X e t) (k : ∀ D σ H, t' D σ H → t D σ H) : PS X e t' := ⟨fun pins s σ H D I q => h.run pins s σ H D I (k D σ H q)⟩
theorem pss_mono {e : List Stmt} {t t' : TS} (h : PSs X e t) (k : ∀ D σ H, t' D σ H → t D σ H) : PSs X e t' := ⟨fun pins s σ H D I q => h.run pins s σ H D I (k D σ H q)⟩
theorem pi_mono {g e : Expr} {t t' : TI} (h : PI X g e t) (k : ∀ σ H R, t' σ H R → t σ H R) : PI X g e t' := ⟨fun pins s σ H Q I q => h.run pins s σ H Q I (k σ H Q q)⟩

/-- the tables, the entry's ground and heap -/
structure Bs where
  T : List NTab
  G0 : Hp
  H0 : Hp
abbrev Bs.En (B : Bs) (K : PySem.W.Frag) (G : Hp) (ρ : List Sl) (σ : L2.St) (H : Hp) : Prop := DL.En K B.T B.G0 B.H0 G ρ σ H

/-- what can be read: represented, or a list of one's own as it stands -/
def Rp (K : PySem.W.Frag) (G H : Hp) (v : V) (d : D) : Prop := Rep K G v d ∨ ∃ a xs ds, v = .ref a ∧ d = .lst ds ∧ H a = some (.lst xs) ∧ RepAll K G xs ds
theorem Rp.up {K : PySem.W.Frag} {T : List NTab} {G H G' H' : Hp} {v : V} {d : D} (h : Rp K G H v d) (g : Grow T G H G' H') : Rp K G' H' v d := by
  rcases h with h | ⟨a, xs, ds, rfl, rfl, h1, h2⟩
  · exact .inl (h.up g.le)
  · exact .inr ⟨a, xs, ds, rfl, rfl, g.keep a _ h1 (fun ps z => nomatch z), h2.up g.le⟩
theorem Rp.lst {K : PySem.W.Frag} {T : List NTab} {G H : Hp} {v : V} {ds : List D} (h : Rp K G H v (.lst ds)) (b : Base T G H) : ∃ a xs, v = .ref a ∧ H a = some (.lst xs) ∧ RepAll K G xs ds := by
  rcases h with h | ⟨a, xs, es, rfl, e, h1, h2⟩
  · cases h with
    | lst h r => exact ⟨_, _, rfl, b.sub _ _ h, r⟩
  · cases e
    exact ⟨a, xs, rfl, h1, h2⟩
theorem Rp.tup {K : PySem.W.Frag} {T : List NTab} {G H : Hp} {v : V} {ds : List D} (h : Rp K G H v (.tup ds)) (b : Base T G H) : ∃ a xs, v = .ref a ∧ H a = some (.tup xs) ∧ RepAll K G xs ds := by
  rcases h with h | ⟨a, xs, es, rfl, e, h1, h2⟩
  · cases h with
    | tup h r => exact ⟨_, _, rfl, b.sub _ _ h, r⟩
  · cases e
theorem Rep.int_inv {K : PySem.W.Frag} {G : Hp} {v : V} {i : Int} (h : Rep K G v (.int i)) : v = .int i := by cases h; rfl
theorem Rep.str_inv {K : PySem.W.Frag} {G : Hp} {v : V} {i : PySem.Str} (h : Rep K G v (.str i)) : v = .str i := by cases h; rfl
theorem Rep.bl_inv {K : PySem.W.Frag} {G : Hp} {v : V} {i : Bool} (h : Rep K G v (.bl i)) : v = .bl i := by cases h; rfl
theorem Rep.non_inv {K : PySem.W.Frag} {G : Hp} {v : V} (h : Rep K G v .non) : v = .non := by cases h; rfl

/-! ### readings -/
/-- an expression gives d -/
def tD (K : PySem.W.Frag) (B : Bs) (ρ : List Sl) (d : D) : TE := fun σ H Q => ∃ G, B.En K G ρ σ H ∧ ∀ v G' H', Grow B.T G H G' H' → Rep K G' v d → Q v H'
/-- .. to be read -/
def tR (K : PySem.W.Frag) (B : Bs) (ρ : List Sl) (d : D) : TE := fun σ H Q => ∃ G, B.En K G ρ σ H ∧ ∀ v G' H', Grow B.T G H G' H' → Rp K G' H' v d → Q v H'
/-- a test's outcome -/
def tT (K : PySem.W.Frag) (B : Bs) (ρ : List Sl) (k : Bool) : TT := fun σ H Q => ∃ G, B.En K G ρ σ H ∧ ∀ G' H', Grow B.T G H G' H' → Q k H'
/-- arguments -/
def tDs (K : PySem.W.Frag) (B : Bs) (ρ : List Sl) (ds : List D) : TA := fun σ H Q => ∃ G, B.En K G ρ σ H ∧ ∀ vs G' H', Grow B.T G H G' H' → RepAll K G' vs ds → Q vs H'
/-- one argument, to be read -/
def tR1 (K : PySem.W.Frag) (B : Bs) (ρ : List Sl) (d : D) : TA := fun σ H Q => ∃ G, B.En K G ρ σ H ∧ ∀ v G' H', Grow B.T G H G' H' → Rp K G' H' v d → Q [v] H'
/-- an optional part -/
def tOI (K : PySem.W.Frag) (B : Bs) (ρ : List Sl) (o : Option Int) : TO := fun σ H Q => ∃ G, B.En K G ρ σ H ∧ ∀ G' H', Grow B.T G H G' H' → Q o H'

section
variable {B : Bs} {ρ : List Sl} {a b e : Expr} {es : List Expr} {pos : Pos} {d : D} {ds : List D} {i j : Int}
theorem PE_r (h : PE X e (tD X.K B ρ d)) : PE X e (tR X.K B ρ d) := pe_mono h fun σ H Q ⟨G, en, q⟩ => ⟨G, en, fun v G' H' g r => q v G' H' g (.inl r)⟩
theorem PE_eq {d' : D} (h : PE X e (tD X.K B ρ d)) (k : d = d') : PE X e (tD X.K B ρ d') := k ▸ h
theorem PE_req {d' : D} (h : PE X e (tR X.K B ρ d)) (k : d = d') : PE X e (tR X.K B ρ d') := k ▸ h
theorem PT_eq {k k' : Bool} (h : PT X e (tT X.K B ρ k)) (q : k = k') : PT X e (tT X.K B ρ k') := q ▸ h

theorem je_var (i : Nat) {x : PySem.Str} (h : ρ[i]? = some (.da d)) (hN : X.N[i]? = some x := by rfl)
    (hv : Vis X.env.scope x := by first | exact Or.inl rfl | exact Or.inr (Or.inl rfl) | exact Or.inr (Or.inr rfl)) (hd : (x == ("__debug__" : PySem.Str)) = false := by decide) (hcd : (x == ("__classdict__" : PySem.Str)) = false := by decide) :
    PE X (.Name x pos) (tD X.K B ρ d) := pe_mono (pe_var hN hv hd hcd) fun σ H Q ⟨G, en, q⟩ => by
  obtain ⟨v, h1, r⟩ := en.da h
  exact ⟨v, h1, q v G H en.base.refl r⟩
theorem jr_own (i : Nat) {x : PySem.Str} (h : ρ[i]? = some (.ow (lstK X.K ds))) (hN : X.N[i]? = some x := by rfl)
    (hv : Vis X.env.scope x := by first | exact Or.inl rfl | exact Or.inr (Or.inl rfl) | exact Or.inr (Or.inr rfl)) (hd : (x == ("__debug__" : PySem.Str)) = false := by decide) (hcd : (x == ("__classdict__" : PySem.Str)) = false := by decide) :
    PE X (.Name x pos) (tR X.K B ρ (.lst ds)) := pe_mono (pe_var hN hv hd hcd) fun σ H Q ⟨G, en, q⟩ => by
  obtain ⟨p, u, h1, h2, ⟨vs, rfl, r⟩, _⟩ := en.ow h
  exact ⟨.ref p, h1, q _ G H en.base.refl (.inr ⟨p, vs, ds, rfl, rfl, h2, r⟩)⟩
theorem je_c {v : V} (h : PE X e (tC v)) (r : ∀ G, Rep X.K G v d) : PE X e (tD X.K B ρ d) := pe_mono h fun σ H Q ⟨G, en, q⟩ => q v G H en.base.refl (r G)
theorem je_int {i : Int} {j : Nat} : PE X (.Constant (.int i) j pos) (tD X.K B ρ (.int i)) := je_c pe_int fun _ => .int i
theorem je_bl {i : Bool} {j : Nat} : PE X (.Constant (.bool i) j pos) (tD X.K B ρ (.bl i)) := je_c pe_bl fun _ => .bl i
theorem je_non {j : Nat} : PE X (.Constant .none j pos) (tD X.K B ρ .non) := je_c pe_non fun _ => .non
theorem je_str {i : PySem.Str} {j : Nat} : PE X (.Constant (.str i) j pos) (tD X.K B ρ (.str i)) := je_c pe_str fun _ => .str i
theorem je_globI {x : PySem.Str} {u : Value} {i : Int} (hg : Gl X x) (hm : X.mg x = some u) (r : RelV (.int i) u) (hd : (x == ("__debug__" : PySem.Str)) = false := by decide) : PE X (.Name x pos) (tD X.K B ρ (.int i)) := je_c (pe_glob hg hm r hd) fun _ => .int i

/-! ### operators -/
/-- two operands by their values -/
theorem je_op {op : Operator} {r : R2} {da db : D} (ho : OpR X (binaryOp op) r) (ha : PE X a (tR X.K B ρ da)) (hb : PE X b (tR X.K B ρ db))
    (hr : ∀ G H x y Q, Base B.T G H → Rp X.K G H x da → Rp X.K G H y db → (∀ v G' H', Grow B.T G H G' H' → Rep X.K G' v d → Q v H') → r x y H Q) : PE X (.BinOp a op b pos) (tD X.K B ρ d) :=
  pe_mono (pe_op ho ha hb) fun σ H Q ⟨G, en, q⟩ => ⟨G, en, fun x G1 H1 g1 rx => ⟨G1, en.up g1, fun y G2 H2 g2 ry => hr G2 H2 x y Q g2.base (rx.up g2) ry fun v G3 H3 g3 rv => q v G3 H3 ((g1.trans g2).trans g3) rv⟩⟩
theorem je_opI0 {op : Operator} {g : Int → Int → Int} (ho : OpR X (binaryOp op) (rI0 fun i j => .int (g i j))) (ha : PE X a (tD X.K B ρ (.int i))) (hb : PE X b (tD X.K B ρ (.int j))) : PE X (.BinOp a op b pos) (tD X.K B ρ (.int (g i j))) :=
  pe_mono (pe_op ho ha hb) fun σ H Q ⟨G, en, q⟩ => ⟨G, en, fun x G1 H1 g1 rx => ⟨G1, en.up g1, fun y G2 H2 g2 ry => ⟨i, j, rx.int_inv, ry.int_inv, q _ G2 H2 (g1.trans g2) (.int _)⟩⟩⟩
theorem je_opI {op : Operator} {C : Int → Int → Prop} {g : Int → Int → Int} (ho : OpR X (binaryOp op) (rI C fun i j => .int (g i j))) (hc : C i j) (ha : PE X a (tD X.K B ρ (.int i))) (hb : PE X b (tD X.K B ρ (.int j))) : PE X (.BinOp a op b pos) (tD X.K B ρ (.int (g i j))) :=
  pe_mono (pe_op ho ha hb) fun σ H Q ⟨G, en, q⟩ => ⟨G, en, fun x G1 H1 g1 rx => ⟨G1, en.up g1, fun y G2 H2 g2 ry => ⟨i, j, rx.int_inv, ry.int_inv, hc, q _ G2 H2 (g1.trans g2) (.int _)⟩⟩⟩
theorem je_add (ha : PE X a (tD X.K B ρ (.int i))) (hb : PE X b (tD X.K B ρ (.int j))) : PE X (.BinOp a .Add b pos) (tD X.K B ρ (.int (i + j))) := je_opI0 op_add ha hb
theorem je_sub (ha : PE X a (tD X.K B ρ (.int i))) (hb : PE X b (tD X.K B ρ (.int j))) : PE X (.BinOp a .Sub b pos) (tD X.K B ρ (.int (i - j))) := je_opI0 op_sub ha hb
theorem je_mul (hc : CMul i j) (ha : PE X a (tD X.K B ρ (.int i))) (hb : PE X b (tD X.K B ρ (.int j))) : PE X (.BinOp a .Mult b pos) (tD X.K B ρ (.int (i * j))) := je_opI op_mul hc ha hb
theorem je_fdiv (hc : CDiv i j) (ha : PE X a (tD X.K B ρ (.int i))) (hb : PE X b (tD X.K B ρ (.int j))) : PE X (.BinOp a .FloorDiv b pos) (tD X.K B ρ (.int (i / j))) := je_opI op_fdiv hc ha hb
theorem je_mod (hc : 0 < j) (ha : PE X a (tD X.K B ρ (.int i))) (hb : PE X b (tD X.K B ρ (.int j))) : PE X (.BinOp a .Mod b pos) (tD X.K B ρ (.int (i % j))) := je_opI op_mod hc ha hb
theorem je_pow (hc : CPow i j) (ha : PE X a (tD X.K B ρ (.int i))) (hb : PE X b (tD X.K B ρ (.int j))) : PE X (.BinOp a .Pow b pos) (tD X.K B ρ (.int (i ^ j.toNat))) := je_opI op_pow hc ha hb
theorem je_neg (ha : PE X a (tD X.K B ρ (.int i))) : PE X (.UnaryOp .USub a pos) (tD X.K B ρ (.int (-i))) :=
  pe_mono (pe_un un_neg ha) fun σ H Q ⟨G, en, q⟩ => ⟨G, en, fun x G1 H1 g1 rx => ⟨i, rx.int_inv, q _ G1 H1 g1 (.int _)⟩⟩
theorem je_cat {x y : PySem.Str} (hz : x.length + y.length ≤ sizeLine) (ha : PE X a (tD X.K B ρ (.str x))) (hb : PE X b (tD X.K B ρ (.str y))) : PE X (.BinOp a .Add b pos) (tD X.K B ρ (.str (x ++ y))) :=
  pe_mono (pe_op op_add_str ha hb) fun σ H Q ⟨G, en, q⟩ => ⟨G, en, fun v G1 H1 g1 rx => ⟨G1, en.up g1, fun w G2 H2 g2 ry => ⟨x, y, rx.str_inv, ry.str_inv, hz, q _ G2 H2 (g1.trans g2) (.str _)⟩⟩⟩
/-- list + list -/
theorem je_catL {xs ys : List D} (hz : xs.length + ys.length ≤ sizeLine) (ha : PE X a (tR X.K B ρ (.lst xs))) (hb : PE X b (tR X.K B ρ (.lst ys))) : PE X (.BinOp a .Add b pos) (tD X.K B ρ (.lst (xs ++ ys))) :=
  je_op op_cat ha hb fun G H x y Q bs rx ry q => by
    obtain ⟨p, vs, rfl, hp, r1⟩ := rx.lst bs
    obtain ⟨p2, ws, rfl, hp2, r2⟩ := ry.lst bs
    refine ⟨p, p2, vs, ws, rfl, rfl, hp, hp2, by rw [r1.length, r2.length]; exact hz, fun l hl => ?_⟩
    have g := bs.lay (o := .lst (vs ++ ws)) hl (fun ps z => nomatch z)
    exact q _ _ _ g (.lst upd_same ((r1.append r2).up g.le))

/-! ### comparisons -/
theorem je_cmp {op : CmpOp} {r : R2} {da db : D} (ho : OpR X (compareOp op) r) (hm : behindInMarks op b = false) (ha : PE X a (tR X.K B ρ da)) (hb : PE X b (tR X.K B ρ db))
    (hr : ∀ G H x y Q, Base B.T G H → Rp X.K G H x da → Rp X.K G H y db → (∀ v G' H', Grow B.T G H G' H' → Rep X.K G' v d → Q v H') → r x y H Q) : PE X (.Compare a [op] [b] pos) (tD X.K B ρ d) :=
  pe_mono (pe_cmpR ho ha hb hm) fun σ H Q ⟨G, en, q⟩ => ⟨G, en, fun x G1 H1 g1 rx => ⟨G1, en.up g1, fun y G2 H2 g2 ry => hr G2 H2 x y Q g2.base (rx.up g2) ry fun v G3 H3 g3 rv => q v G3 H3 ((g1.trans g2).trans g3) rv⟩⟩
theorem jt_cmp {op : CmpOp} {r : R2} {da db : D} {k : Bool} (ho : OpR X (compareOp op) r) (hm : behindInMarks op b = false) (ha : PE X a (tR X.K B ρ da)) (hb : PE X b (tR X.K B ρ db))
    (hr : ∀ G H x y Q, Base B.T G H → Rp X.K G H x da → Rp X.K G H y db → (∀ v G' H', Grow B.T G H G' H' → Rep X.K G' v (.bl k) → Q v H') → r x y H Q) : PT X (.Compare a [op] [b] pos) (tT X.K B ρ k) :=
  pt_mono (pt_cmpR ho ha hb hm) fun σ H Q ⟨G, en, q⟩ => ⟨G, en, fun x G1 H1 g1 rx => ⟨G1, en.up g1, fun y G2 H2 g2 ry => hr G2 H2 x y _ g2.base (rx.up g2) ry fun v G3 H3 g3 rv => ⟨k, rv.bl_inv, q G3 H3 ((g1.trans g2).trans g3)⟩⟩⟩
theorem rI0_ok {K : PySem.W.Frag} {T : List NTab} {G H : Hp} {x y : V} {Q : VK} {g : Int → Int → Bool} (bs : Base T G H) (rx : Rp K G H x (.int i)) (ry : Rp K G H y (.int j)) (q : ∀ v G' H', Grow T G H G' H' → Rep K G' v (.bl (g i j)) → Q v H') : rI0 (fun i j => .bl (g i j)) x y H Q := by
  rcases rx with rx | ⟨_, _, _, _, z, _⟩
  · rcases ry with ry | ⟨_, _, _, _, z, _⟩
    · exact ⟨i, j, rx.int_inv, ry.int_inv, q _ G H bs.refl (.bl _)⟩
    · cases z
  · cases z
theorem jt_lt (ha : PE X a (tD X.K B ρ (.int i))) (hb : PE X b (tD X.K B ρ (.int j))) : PT X (.Compare a [.Lt] [b] pos) (tT X.K B ρ (decide (i < j))) := jt_cmp op_lt (nomark _) (PE_r ha) (PE_r hb) fun G H x y Q bs rx ry q => rI0_ok bs rx ry q
theorem jt_le (ha : PE X a (tD X.K B ρ (.int i))) (hb : PE X b (tD X.K B ρ (.int j))) : PT X (.Compare a [.LtE] [b] pos) (tT X.K B ρ (decide (i ≤ j))) := jt_cmp op_le (nomark _) (PE_r ha) (PE_r hb) fun G H x y Q bs rx ry q => rI0_ok bs rx ry q
theorem jt_gt (ha : PE X a (tD X.K B ρ (.int i))) (hb : PE X b (tD X.K B ρ (.int j))) : PT X (.Compare a [.Gt] [b] pos) (tT X.K B ρ (decide (j < i))) := jt_cmp op_gt (nomark _) (PE_r ha) (PE_r hb) fun G H x y Q bs rx ry q => rI0_ok (g := fun i j => decide (j < i)) bs rx ry q
theorem jt_ge (ha : PE X a (tD X.K B ρ (.int i))) (hb : PE X b (tD X.K B ρ (.int j))) : PT X (.Compare a [.GtE] [b] pos) (tT X.K B ρ (decide (j ≤ i))) := jt_cmp op_ge (nomark _) (PE_r ha) (PE_r hb) fun G H x y Q bs rx ry q => rI0_ok (g := fun i j => decide (j ≤ i)) bs rx ry q
theorem je_le (ha : PE X a (tD X.K B ρ (.int i))) (hb : PE X b (tD X.K B ρ (.int j))) : PE X (.Compare a [.LtE] [b] pos) (tD X.K B ρ (.bl (decide (i ≤ j)))) := je_cmp op_le (nomark _) (PE_r ha) (PE_r hb) fun G H x y Q bs rx ry q => rI0_ok bs rx ry q
theorem Rp.scal {K : PySem.W.Frag} {G H : Hp} {v : V} {d : D} (h : Rp K G H v d) (hd : ∀ ds, d ≠ .lst ds) : Rep K G v d := by
  rcases h with h | ⟨_, _, ds, _, z, _⟩
  · exact h
  · exact absurd z (hd ds)
theorem dec_intI {i j : Int} : decide (V.int i = V.int j) = decide (i = j) := by
  by_cases h : i = j
  · subst h; simp
  · rw [decide_eq_false h, decide_eq_false fun z => h (V.int.inj z)]
theorem dec_strS {i j : PySem.Str} : decide (V.str i = V.str j) = decide (i = j) := by
  by_cases h : i = j
  · subst h; simp
  · rw [decide_eq_false h, decide_eq_false fun z => h (V.str.inj z)]
theorem jt_eqI (ha : PE X a (tD X.K B ρ (.int i))) (hb : PE X b (tD X.K B ρ (.int j))) : PT X (.Compare a [.Eq] [b] pos) (tT X.K B ρ (decide (i = j))) := jt_cmp op_eq (nomark _) (PE_r ha) (PE_r hb) fun G H x y Q bs rx ry q => by
  have e1 := (rx.scal (fun _ z => nomatch z)).int_inv
  have e2 := (ry.scal (fun _ z => nomatch z)).int_inv
  subst e1 e2
  exact ⟨rfl, q _ G H bs.refl (by rw [dec_intI]; exact .bl _)⟩
theorem jt_eqS {i j : PySem.Str} (ha : PE X a (tD X.K B ρ (.str i))) (hb : PE X b (tD X.K B ρ (.str j))) : PT X (.Compare a [.Eq] [b] pos) (tT X.K B ρ (decide (i = j))) := jt_cmp op_eq (nomark _) (PE_r ha) (PE_r hb) fun G H x y Q bs rx ry q => by
  have e1 := (rx.scal (fun _ z => nomatch z)).str_inv
  have e2 := (ry.scal (fun _ z => nomatch z)).str_inv
  subst e1 e2
  exact ⟨rfl, q _ G H bs.refl (by rw [dec_strS]; exact .bl _)⟩
def D.isNon : D → Bool
  | .non => true
  | _ => false
theorem Rp.isNon {K : PySem.W.Frag} {G H : Hp} {v : V} {d : D} (h : Rp K G H v d) : decide (v = .non) = d.isNon := by
  rcases h with h | ⟨_, _, ds, rfl, rfl, _⟩
  · cases h <;> first | rfl | exact decide_eq_false (fun z => nomatch z)
  · exact decide_eq_false (fun z => nomatch z)
theorem jt_isN {j : Nat} {p2 : Pos} (ha : PE X a (tR X.K B ρ d)) : PT X (.Compare a [.Is] [.Constant .none j p2] pos) (tT X.K B ρ d.isNon) := jt_cmp op_isN (nomark _) ha (PE_r je_non) fun G H x y Q bs rx ry q =>
  ⟨(ry.scal (fun _ z => nomatch z)).non_inv, q _ G H bs.refl (by rw [rx.isNon]; exact .bl _)⟩
theorem je_isN {j : Nat} {p2 : Pos} (ha : PE X a (tR X.K B ρ d)) : PE X (.Compare a [.Is] [.Constant .none j p2] pos) (tD X.K B ρ (.bl d.isNon)) := je_cmp op_isN (nomark _) ha (PE_r je_non) fun G H x y Q bs rx ry q =>
  ⟨(ry.scal (fun _ z => nomatch z)).non_inv, q _ G H bs.refl (by rw [rx.isNon]; exact .bl _)⟩

/-! ### tests -/
theorem jt_val {k : Bool} (h : PE X e (tD X.K B ρ (.bl k))) (he : ∀ whole, isTrue e X.env whole = (do let v ← whole; standAt e.pos; holding [v] (truthy v)) := by intro _; rfl) : PT X e (tT X.K B ρ k) :=
  pt_mono (pt_val h he) fun σ H Q ⟨G, en, q⟩ => ⟨G, en, fun v G1 H1 g1 r => ⟨k, r.bl_inv, q G1 H1 g1⟩⟩
theorem jt_not {k : Bool} (h : PT X a (tT X.K B ρ k)) : PT X (.UnaryOp .Not a pos) (tT X.K B ρ (!k)) :=
  pt_mono (pt_not h) fun σ H Q ⟨G, en, q⟩ => ⟨G, en, fun G1 H1 g1 => q G1 H1 g1⟩
theorem jw_or1 {k : Bool} (h : PT X a (tT X.K B ρ k)) : PW X (.BoolOp .Or [a] pos) (tT X.K B ρ k) := pw_or1 h
theorem jw_and1 {k : Bool} (h : PT X a (tT X.K B ρ k)) : PW X (.BoolOp .And [a] pos) (tT X.K B ρ k) := pw_and1 h
theorem pw_mono {e : Expr} {t t' : TT} (h : PW X e t) (k : ∀ σ H Q, t' σ H Q → t σ H Q) : PW X e t' := ⟨fun wh pins s σ H Q I q => h.run wh pins s σ H Q I (k σ H Q q)⟩
theorem pw_none {e : Expr} : PW X e (fun _ _ _ => False) := ⟨fun _ _ _ _ _ _ _ q => q.elim⟩
theorem pt_none {e : Expr} : PT X e (fun _ _ _ => False) := ⟨fun _ _ _ _ _ _ q => q.elim⟩
theorem pe_none {e : Expr} : PE X e (fun _ _ _ => False) := ⟨fun _ _ _ _ _ _ q => q.elim⟩
/-- a or rest: rest is asked only where a is not so -/
theorem jw_or {rest : List Expr} {k k' : Bool} (h : PT X a (tT X.K B ρ k)) (h2 : k = false → PW X (.BoolOp .Or (b :: rest) pos) (tT X.K B ρ k')) : PW X (.BoolOp .Or (a :: b :: rest) pos) (tT X.K B ρ (k || k')) := by
  cases k with
  | true => exact pw_mono (pw_or h pw_none) fun σ H Q ⟨G, en, q⟩ => ⟨G, en, fun G1 H1 g1 => by
      show (if true = true then Q true H1 else _)
      rw [if_pos rfl]; exact q G1 H1 g1⟩
  | false => exact pw_mono (pw_or h (h2 rfl)) fun σ H Q ⟨G, en, q⟩ => ⟨G, en, fun G1 H1 g1 => by
      show (if false = true then Q true H1 else _)
      rw [if_neg Bool.false_ne_true]; exact ⟨G1, en.up g1, fun G2 H2 g2 => q G2 H2 (g1.trans g2)⟩⟩
theorem jw_and {rest : List Expr} {k k' : Bool} (h : PT X a (tT X.K B ρ k)) (h2 : k = true → PW X (.BoolOp .And (b :: rest) pos) (tT X.K B ρ k')) : PW X (.BoolOp .And (a :: b :: rest) pos) (tT X.K B ρ (k && k')) := by
  cases k with
  | false => exact pw_mono (pw_and h pw_none) fun σ H Q ⟨G, en, q⟩ => ⟨G, en, fun G1 H1 g1 => by
      show (if false = true then _ else Q false H1)
      rw [if_neg Bool.false_ne_true]; exact q G1 H1 g1⟩
  | true => exact pw_mono (pw_and h (h2 rfl)) fun σ H Q ⟨G, en, q⟩ => ⟨G, en, fun G1 H1 g1 => by
      show (if true = true then _ else _)
      rw [if_pos rfl]; exact ⟨G1, en.up g1, fun G2 H2 g2 => q G2 H2 (g1.trans g2)⟩⟩

/-! ### subscripts, slices, lengths -/
theorem je_ix {r : R2} {da db : D} (hr0 : IxR X r) (hs : PlainIx b) (ha : PE X a (tR X.K B ρ da)) (hb : PE X b (tR X.K B ρ db))
    (hr : ∀ G H x y Q, Base B.T G H → Rp X.K G H x da → Rp X.K G H y db → (∀ v G' H', Grow B.T G H G' H' → Rep X.K G' v d → Q v H') → r x y H Q) : PE X (.Subscript a b pos) (tD X.K B ρ d) :=
  pe_mono (pe_ix hr0 ha hb hs) fun σ H Q ⟨G, en, q⟩ => ⟨G, en, fun x G1 H1 g1 rx => ⟨G1, en.up g1, fun y G2 H2 g2 ry => hr G2 H2 x y Q g2.base (rx.up g2) ry fun v G3 H3 g3 rv => q v G3 H3 ((g1.trans g2).trans g3) rv⟩⟩
theorem RepAll.atI {K : PySem.W.Frag} {G : Hp} {vs : List V} {ds : List D} (r : RepAll K G vs ds) (h : L2.atI ds i = some d) : ∃ v, L2.atI vs i = some v ∧ Rep K G v d := by
  unfold L2.atI at h ⊢
  rw [r.length]
  cases e : ixN ds.length i with
  | none => rw [e] at h; cases h
  | some k =>
    rw [e] at h
    exact r.get h
theorem je_ixL {xs : List D} (ha : PE X a (tR X.K B ρ (.lst xs))) (hb : PE X b (tD X.K B ρ (.int i))) (h : L2.atI xs i = some d) (hs : PlainIx b := by exact fun _ _ => rfl) : PE X (.Subscript a b pos) (tD X.K B ρ d) :=
  je_ix ix_list hs ha (PE_r hb) fun G H x y Q bs rx ry q => by
    obtain ⟨p, vs, rfl, hp, r1⟩ := rx.lst bs
    have e := (ry.scal (fun _ z => nomatch z)).int_inv
    obtain ⟨v, h1, h2⟩ := r1.atI h
    exact ⟨p, vs, i, v, rfl, e, SqL.of hp, h1, q v G H bs.refl h2⟩
theorem je_ixT {xs : List D} (ha : PE X a (tD X.K B ρ (.tup xs))) (hb : PE X b (tD X.K B ρ (.int i))) (h : L2.atI xs i = some d) (hs : PlainIx b := by exact fun _ _ => rfl) : PE X (.Subscript a b pos) (tD X.K B ρ d) :=
  je_ix ix_tup hs (PE_r ha) (PE_r hb) fun G H x y Q bs rx ry q => by
    obtain ⟨p, vs, rfl, hp, r1⟩ := rx.tup bs
    have e := (ry.scal (fun _ z => nomatch z)).int_inv
    obtain ⟨v, h1, h2⟩ := r1.atI h
    exact ⟨p, vs, i, v, rfl, e, SqT.of hp, h1, q v G H bs.refl h2⟩
theorem je_ixS {z : PySem.Str} {c : Nat} (ha : PE X a (tD X.K B ρ (.str z))) (hb : PE X b (tD X.K B ρ (.int i))) (hz : z.length ≤ sizeLine) (h : L2.atI z.cps.toList i = some c) (hs : PlainIx b := by exact fun _ _ => rfl) : PE X (.Subscript a b pos) (tD X.K B ρ (.str ⟨#[c]⟩)) :=
  je_ix ix_str hs (PE_r ha) (PE_r hb) fun G H x y Q bs rx ry q => by
    have e := (ry.scal (fun _ z => nomatch z)).int_inv
    have e2 := (rx.scal (fun _ z => nomatch z)).str_inv
    exact ⟨z, i, c, e2, e, hz, h, q _ G H bs.refl (.str _)⟩
theorem jo_none : PO X none (tOI X.K B ρ none) := ⟨fun pins s σ H Q I ⟨G, en, q⟩ => po_none.run pins s σ H Q I (q G H en.base.refl)⟩
theorem jo_some (h : PE X e (tD X.K B ρ (.int i))) : PO X (some e) (tOI X.K B ρ (some i)) := ⟨fun pins s σ H Q I ⟨G, en, q⟩ => (po_some h).run pins s σ H Q I ⟨G, en, fun v G1 H1 g1 r => ⟨i, r.int_inv, q G1 H1 g1⟩⟩⟩
/-- what a slice takes -/
def cutD {α : Type} (xs : List α) (lo hi : Option Int) : List α := (xs.drop (HT.sIx xs.length 0 lo)).take (HT.sIx xs.length xs.length hi - HT.sIx xs.length 0 lo)
theorem RepAll.cut {K : PySem.W.Frag} {G : Hp} {vs : List V} {ds : List D} (r : RepAll K G vs ds) (lo hi : Option Int) : RepAll K G (cutV vs lo hi) (cutD ds lo hi) := by
  unfold cutV cutD
  rw [r.length]
  exact (r.drop _).take _
theorem je_slL {xs : List D} {lo hi : Option Expr} {l u : Option Int} {p2 : Pos} (ha : PE X a (tR X.K B ρ (.lst xs))) (hl : PO X lo (tOI X.K B ρ l)) (hu : PO X hi (tOI X.K B ρ u)) : PE X (.Subscript a (.Slice lo hi none p2) pos) (tD X.K B ρ (.lst (cutD xs l u))) :=
  pe_mono (pe_slice sl_list ha hl hu) fun σ H Q ⟨G, en, q⟩ => ⟨G, en, fun x G1 H1 g1 rx => ⟨G1, en.up g1, fun G2 H2 g2 => ⟨G2, en.up (g1.trans g2), fun G3 H3 g3 => by
    obtain ⟨p, vs, rfl, hp, r⟩ := (rx.up (g2.trans g3)).lst g3.base
    refine ⟨p, vs, rfl, SqL.of hp, fun np hl => ?_⟩
    have g := g3.base.lay (o := .lst (cutV vs l u)) hl (fun ps z => nomatch z)
    exact q _ _ _ (((g1.trans g2).trans g3).trans g) (.lst upd_same ((r.cut _ _).up g.le))⟩⟩⟩
theorem ja_nil : PA X [] (tDs X.K B ρ []) := pa_mono pa_nil fun σ H Q ⟨G, en, q⟩ => q [] G H en.base.refl .nil
theorem ja_cons (h : PE X e (tD X.K B ρ d)) (hr : PA X es (tDs X.K B ρ ds)) (hs : starEach (e :: es) X.env = (false, eval e X.env) :: starEach es X.env := by rfl) : PA X (e :: es) (tDs X.K B ρ (d :: ds)) :=
  pa_mono (pa_cons h hr hs) fun σ H Q ⟨G, en, q⟩ => ⟨G, en, fun v G1 H1 g1 r => ⟨G1, en.up g1, fun vs G2 H2 g2 rs => q _ G2 H2 (g1.trans g2) (.cons (r.up g2.le) rs)⟩⟩
theorem ja_one (h : PE X e (tD X.K B ρ d)) (hs : starEach [e] X.env = (false, eval e X.env) :: starEach [] X.env := by rfl) : PA X [e] (tDs X.K B ρ [d]) := ja_cons h ja_nil hs
theorem ja_r1 (h : PE X e (tR X.K B ρ d)) (hs : starEach [e] X.env = (false, eval e X.env) :: starEach [] X.env := by rfl) : PA X [e] (tR1 X.K B ρ d) :=
  pa_mono (pa_cons h pa_nil hs) fun σ H Q ⟨G, en, q⟩ => ⟨G, en, fun v G1 H1 g1 r => q v G1 H1 g1 r⟩
/-- a built-in called -/
theorem je_callB {id : String} {r : List V → Hp → VK → Prop} {x : PySem.Str} {p : Pos} (hc : CallR X (.builtin id) r) (hg : Gl X x) (hm : X.mg x = none) (hv : bootBuiltins x = some (.builtin id)) (ha : PA X (e :: es) (tDs X.K B ρ ds))
    (hr : ∀ G H vs Q, Base B.T G H → RepAll X.K G vs ds → (∀ v G' H', Grow B.T G H G' H' → Rep X.K G' v d → Q v H') → r vs H Q)
    (hn : x ≠ "__name__" := by decide) (hdb : (x == ("__debug__" : PySem.Str)) = false := by decide) (hs : starEach (e :: es) X.env = (false, eval e X.env) :: starEach es X.env := by rfl) (hpl : (backTo pos (starEach es X.env)).any (·.1) = false := by rfl) :
    PE X (.Call (.Name x p) (e :: es) [] pos) (tD X.K B ρ d) :=
  pe_mono (pe_callB hc hg hm hv ha hn hdb hs hpl) fun σ H Q ⟨G, en, q⟩ => ⟨G, en, fun vs G1 H1 g1 rs => hr G1 H1 vs Q g1.base rs fun v G2 H2 g2 rv => q v G2 H2 (g1.trans g2) rv⟩
theorem je_callTy {id : String} {r : List V → Hp → VK → Prop} {x : PySem.Str} {p : Pos} (hc : CallR X (.type id) r) (hg : Gl X x) (hm : X.mg x = none) (hv : bootBuiltins x = some (.type id)) (ha : PA X (e :: es) (tDs X.K B ρ ds))
    (hr : ∀ G H vs Q, Base B.T G H → RepAll X.K G vs ds → (∀ v G' H', Grow B.T G H G' H' → Rep X.K G' v d → Q v H') → r vs H Q)
    (hn : x ≠ "__name__" := by decide) (hdb : (x == ("__debug__" : PySem.Str)) = false := by decide) (hs : starEach (e :: es) X.env = (false, eval e X.env) :: starEach es X.env := by rfl) (hpl : (backTo pos (starEach es X.env)).any (·.1) = false := by rfl) :
    PE X (.Call (.Name x p) (e :: es) [] pos) (tD X.K B ρ d) :=
  pe_mono (pe_callTy hc hg hm hv ha hn hdb hs hpl) fun σ H Q ⟨G, en, q⟩ => ⟨G, en, fun vs G1 H1 g1 rs => hr G1 H1 vs Q g1.base rs fun v G2 H2 g2 rv => q v G2 H2 (g1.trans g2) rv⟩
theorem je_callBr {id : String} {r : List V → Hp → VK → Prop} {x : PySem.Str} {p : Pos} {da : D} (hc : CallR X (.builtin id) r) (hg : Gl X x) (hm : X.mg x = none) (hv : bootBuiltins x = some (.builtin id)) (ha : PE X e (tR X.K B ρ da))
    (hr : ∀ G H v Q, Base B.T G H → Rp X.K G H v da → (∀ v G' H', Grow B.T G H G' H' → Rep X.K G' v d → Q v H') → r [v] H Q)
    (hn : x ≠ "__name__" := by decide) (hdb : (x == ("__debug__" : PySem.Str)) = false := by decide) (hs : starEach [e] X.env = (false, eval e X.env) :: starEach [] X.env := by rfl) (hpl : (backTo pos (starEach [] X.env)).any (·.1) = false := by rfl) :
    PE X (.Call (.Name x p) [e] [] pos) (tD X.K B ρ d) :=
  pe_mono (pe_callB hc hg hm hv (ja_r1 ha hs) hn hdb hs hpl) fun σ H Q ⟨G, en, q⟩ => ⟨G, en, fun vs G1 H1 g1 rs => hr G1 H1 vs Q g1.base rs fun v G2 H2 g2 rv => q v G2 H2 (g1.trans g2) rv⟩
theorem je_callTyr {id : String} {r : List V → Hp → VK → Prop} {x : PySem.Str} {p : Pos} {da : D} (hc : CallR X (.type id) r) (hg : Gl X x) (hm : X.mg x = none) (hv : bootBuiltins x = some (.type id)) (ha : PE X e (tR X.K B ρ da))
    (hr : ∀ G H v Q, Base B.T G H → Rp X.K G H v da → (∀ v G' H', Grow B.T G H G' H' → Rep X.K G' v d → Q v H') → r [v] H Q)
    (hn : x ≠ "__name__" := by decide) (hdb : (x == ("__debug__" : PySem.Str)) = false := by decide) (hs : starEach [e] X.env = (false, eval e X.env) :: starEach [] X.env := by rfl) (hpl : (backTo pos (starEach [] X.env)).any (·.1) = false := by rfl) :
    PE X (.Call (.Name x p) [e] [] pos) (tD X.K B ρ d) :=
  pe_mono (pe_callTy hc hg hm hv (ja_r1 ha hs) hn hdb hs hpl) fun σ H Q ⟨G, en, q⟩ => ⟨G, en, fun vs G1 H1 g1 rs => hr G1 H1 vs Q g1.base rs fun v G2 H2 g2 rv => q v G2 H2 (g1.trans g2) rv⟩
/-- len of a list, of a tuple, of a text -/
theorem je_lenL {xs : List D} {p : Pos} (hg : Gl X "len") (hm : X.mg "len" = none) (ha : PE X e (tR X.K B ρ (.lst xs))) (hs : starEach [e] X.env = (false, eval e X.env) :: starEach [] X.env := by rfl) : PE X (.Call (.Name "len" p) [e] [] pos) (tD X.K B ρ (.int xs.length)) :=
  je_callBr call_len_seq hg hm PySem.boot_len ha (fun G H v Q bs r q => by
    obtain ⟨p, vs, rfl, hp, r1⟩ := r.lst bs
    exact ⟨p, vs, rfl, .inl (SqL.of hp), q _ G H bs.refl (by rw [r1.length]; exact .int _)⟩) (by decide) (by decide) hs rfl
theorem je_lenT {xs : List D} {p : Pos} (hg : Gl X "len") (hm : X.mg "len" = none) (ha : PE X e (tR X.K B ρ (.tup xs))) (hs : starEach [e] X.env = (false, eval e X.env) :: starEach [] X.env := by rfl) : PE X (.Call (.Name "len" p) [e] [] pos) (tD X.K B ρ (.int xs.length)) :=
  je_callBr call_len_seq hg hm PySem.boot_len ha (fun G H v Q bs r q => by
    obtain ⟨p, vs, rfl, hp, r1⟩ := r.tup bs
    exact ⟨p, vs, rfl, .inr (SqT.of hp), q _ G H bs.refl (by rw [r1.length]; exact .int _)⟩) (by decide) (by decide) hs rfl
theorem je_lenS {z : PySem.Str} {p : Pos} (hz : z.length ≤ sizeLine) (hg : Gl X "len") (hm : X.mg "len" = none) (ha : PE X e (tD X.K B ρ (.str z))) (hs : starEach [e] X.env = (false, eval e X.env) :: starEach [] X.env := by rfl) : PE X (.Call (.Name "len" p) [e] [] pos) (tD X.K B ρ (.int z.length)) :=
  je_callBr call_len_str hg hm PySem.boot_len (PE_r ha) (fun G H v Q bs r q => ⟨z, by rw [(r.scal (fun _ z => nomatch z)).str_inv], hz, q _ G H bs.refl (.int _)⟩) (by decide) (by decide) hs rfl
theorem je_int1 {p : Pos} (hg : Gl X "int") (hm : X.mg "int" = none) (ha : PE X e (tD X.K B ρ (.int i))) (hs : starEach [e] X.env = (false, eval e X.env) :: starEach [] X.env := by rfl) : PE X (.Call (.Name "int" p) [e] [] pos) (tD X.K B ρ (.int i)) :=
  je_callTyr call_int1 hg hm boot_int (PE_r ha) (fun G H v Q bs r q => .inl ⟨i, by rw [(r.scal (fun _ z => nomatch z)).int_inv], q _ G H bs.refl (.int _)⟩) (by decide) (by decide) hs rfl
/-- list(..), tuple(..) of a list, of a tuple -/
theorem je_listL {xs : List D} {p : Pos} (hg : Gl X "list") (hm : X.mg "list" = none) (ha : PE X e (tR X.K B ρ (.lst xs))) (hs : starEach [e] X.env = (false, eval e X.env) :: starEach [] X.env := by rfl) : PE X (.Call (.Name "list" p) [e] [] pos) (tD X.K B ρ (.lst xs)) :=
  je_callTyr call_list_of hg hm boot_list ha (fun G H v Q bs r q => by
    obtain ⟨p, vs, rfl, hp, r1⟩ := r.lst bs
    refine ⟨p, vs, rfl, .inl (SqL.of hp), fun l hl => ?_⟩
    have g := bs.lay (o := .lst vs) hl (fun ps z => nomatch z)
    exact q _ _ _ g (.lst upd_same (r1.up g.le))) (by decide) (by decide) hs rfl
theorem je_listT {xs : List D} {p : Pos} (hg : Gl X "list") (hm : X.mg "list" = none) (ha : PE X e (tR X.K B ρ (.tup xs))) (hs : starEach [e] X.env = (false, eval e X.env) :: starEach [] X.env := by rfl) : PE X (.Call (.Name "list" p) [e] [] pos) (tD X.K B ρ (.lst xs)) :=
  je_callTyr call_list_of hg hm boot_list ha (fun G H v Q bs r q => by
    obtain ⟨p, vs, rfl, hp, r1⟩ := r.tup bs
    refine ⟨p, vs, rfl, .inr (SqT.of hp), fun l hl => ?_⟩
    have g := bs.lay (o := .lst vs) hl (fun ps z => nomatch z)
    exact q _ _ _ g (.lst upd_same (r1.up g.le))) (by decide) (by decide) hs rfl
theorem je_tupL {xs : List D} {p : Pos} (hg : Gl X "tuple") (hm : X.mg "tuple" = none) (ha : PE X e (tR X.K B ρ (.lst xs))) (hs : starEach [e] X.env = (false, eval e X.env) :: starEach [] X.env := by rfl) : PE X (.Call (.Name "tuple" p) [e] [] pos) (tD X.K B ρ (.tup xs)) :=
  je_callTyr call_tuple_of hg hm boot_tuple ha (fun G H v Q bs r q => by
    obtain ⟨p, vs, rfl, hp, r1⟩ := r.lst bs
    refine ⟨p, vs, rfl, .inl ⟨SqL.of hp, fun l hl => ?_⟩⟩
    have g := bs.lay (o := .tup vs) hl (fun ps z => nomatch z)
    exact q _ _ _ g (.tup upd_same (r1.up g.le))) (by decide) (by decide) hs rfl
theorem je_tupT {xs : List D} {p : Pos} (hg : Gl X "tuple") (hm : X.mg "tuple" = none) (ha : PE X e (tD X.K B ρ (.tup xs))) (hs : starEach [e] X.env = (false, eval e X.env) :: starEach [] X.env := by rfl) : PE X (.Call (.Name "tuple" p) [e] [] pos) (tD X.K B ρ (.tup xs)) :=
  je_callTyr call_tuple_of hg hm boot_tuple (PE_r ha) (fun G H v Q bs r q => by
    have r0 := r.scal (fun _ z => nomatch z)
    obtain ⟨p, vs, rfl, hp, r1⟩ := r.tup bs
    exact ⟨p, vs, rfl, .inr ⟨SqT.of hp, q _ _ _ bs.refl r0⟩⟩) (by decide) (by decide) hs rfl
/-- displays -/
theorem je_tup {x1 : Nat} (hz : ds.length ≤ sizeLine) (h : PA X es (tDs X.K B ρ ds)) : PE X (.Tuple es x1 pos) (tD X.K B ρ (.tup ds)) :=
  pe_mono (pe_tup h) fun σ H Q ⟨G, en, q⟩ => ⟨G, en, fun vs G1 H1 g1 rs => ⟨by rw [rs.length]; exact hz, fun p hp => by
    have g := g1.base.lay (o := .tup vs) hp (fun ps z => nomatch z)
    exact q _ _ _ (g1.trans g) (.tup upd_same (rs.up g.le))⟩⟩
theorem je_lst (hz : ds.length ≤ sizeLine) (h : PA X es (tDs X.K B ρ ds)) : PE X (.List es pos) (tD X.K B ρ (.lst ds)) :=
  pe_mono (pe_lst h) fun σ H Q ⟨G, en, q⟩ => ⟨G, en, fun vs G1 H1 g1 rs => ⟨by rw [rs.length]; exact hz, fun p hp => by
    have g := g1.base.lay (o := .lst vs) hp (fun ps z => nomatch z)
    exact q _ _ _ (g1.trans g) (.lst upd_same (rs.up g.le))⟩⟩
end
end DL
end
section
set_option Elab.async false
set_option linter.all false
set_option maxRecDepth 100000
set_option maxHeartbeats 4000000
/-! D-layer 3: judgements of statements, targets, what is walked, loops, comprehensions, defs. -/
namespace DL
open PySem PySem.Spec PyProof.Rows L2 NdefX
variable {X : Cx}

/-- how a statement ends -/
inductive Out where
  | nx (ρ : List Sl) | rt (d : D) | ex (C : Addr)
def Out.exits : Out → Bool
  | .nx _ => false
  | _ => true
def OutOk (K : PySem.W.Frag) (B : Bs) (E : XK) (G : Hp) (D : Ends) : Out → Prop
  | .nx ρ' => ∀ σ' G' H', Same G G' → B.En K G' ρ' σ' H' → D.nx σ' H'
  | .rt d => ∀ v G' H', Same G G' → Grow B.T B.G0 B.H0 G' H' → Rep K G' v d → D.rt v H'
  | .ex C => ∀ G' H', Same G G' → Grow B.T B.G0 B.H0 G' H' → E (.ref C) none H'
theorem OutOk.up {K : PySem.W.Frag} {B : Bs} {E : XK} {G G1 : Hp} {D : Ends} {o : Out} (h : OutOk K B E G D o) (e : Same G G1) : OutOk K B E G1 D o := by
  cases o with
  | nx ρ' => exact fun σ' G' H' s => h σ' G' H' (e.trans s)
  | rt d => exact fun v G' H' s => h v G' H' (e.trans s)
  | ex C => exact fun G' H' s => h G' H' (e.trans s)
/-- a statement moves the environment ρ to the end o -/
def tS (K : PySem.W.Frag) (B : Bs) (E : XK) (ρ : List Sl) (o : Out) : TS := fun D σ H => ∃ G, B.En K G ρ σ H ∧ OutOk K B E G D o

section
variable {B : Bs} {E : XK} {ρ ρ1 ρ2 : List Sl} {o o1 : Out} {st : Stmt} {rest body : List Stmt} {e : Expr} {pos : Pos} {d : D} {ds : List D}
theorem jss_nil : PSs X [] (tS X.K B E ρ (.nx ρ)) := pss_mono pss_nil fun D σ H ⟨G, en, q⟩ => q σ G H (Same.refl _) en
/-- the end of a first statement, then the rest -/
theorem OutOk.seq {K : PySem.W.Frag} {G : Hp} {D : Ends} {u : TS} (q : OutOk K B E G D o) (h : ∀ σ' G' H', Same G G' → B.En K G' ρ1 σ' H' → (∀ D' : Ends, True → True)) : True := trivial
theorem jss_cons (h1 : PS X st (tS X.K B E ρ (.nx ρ1))) (h2 : PSs X rest (tS X.K B E ρ1 o)) : PSs X (st :: rest) (tS X.K B E ρ o) :=
  pss_mono (pss_cons h1 h2) fun D σ H ⟨G, en, q⟩ => ⟨G, en, fun σ' G' H' s en' => ⟨G', en', q.up s⟩⟩
theorem OutOk.rep {K : PySem.W.Frag} {G : Hp} {D : Ends} {u : L2.St → Hp → Prop} (q : OutOk K B E G D o) (ho : o.exits = true) : OutOk K B E G { D with nx := u } o := by
  cases o with
  | nx _ => cases ho
  | rt d => exact q
  | ex C => exact q
/-- a first statement that leaves -/
theorem jss_out (ho : o.exits = true) (h1 : PS X st (tS X.K B E ρ o)) : PSs X (st :: rest) (tS X.K B E ρ o) :=
  pss_mono (pss_cons h1 pss_never) fun D σ H ⟨G, en, q⟩ => ⟨G, en, q.rep ho⟩
theorem jss_one (h1 : PS X st (tS X.K B E ρ o)) : PSs X [st] (tS X.K B E ρ o) := pss_mono (pss_one h1) fun D σ H h => h
theorem js_weak (w : Wk ρ1 ρ2) (h : PS X st (tS X.K B E ρ (.nx ρ1))) : PS X st (tS X.K B E ρ (.nx ρ2)) :=
  ps_mono h fun D σ H ⟨G, en, q⟩ => ⟨G, en, fun σ' G' H' s en' => q σ' G' H' s (en'.weak w)⟩
theorem jss_weak (w : Wk ρ1 ρ2) (h : PSs X rest (tS X.K B E ρ (.nx ρ1))) : PSs X rest (tS X.K B E ρ (.nx ρ2)) :=
  pss_mono h fun D σ H ⟨G, en, q⟩ => ⟨G, en, fun σ' G' H' s en' => q σ' G' H' s (en'.weak w)⟩
/-- less is known at the start -/
theorem jss_less (w : Wk ρ ρ1) (h : PSs X rest (tS X.K B E ρ1 o)) : PSs X rest (tS X.K B E ρ o) := pss_mono h fun D σ H ⟨G, en, q⟩ => ⟨G, en.weak w, q⟩
/-- a list of one's own goes into the ground -/
theorem jss_freeze (i : Nat) (hi : ρ[i]? = some (.ow (lstK X.K ds))) (h : PSs X rest (tS X.K B E (ρ.set i (.da (.lst ds))) o)) : PSs X rest (tS X.K B E ρ o) :=
  pss_mono h fun D σ H ⟨G, en, q⟩ => by
    obtain ⟨G', le, en'⟩ := en.freeze hi
    exact ⟨G', en', q.up le⟩
theorem js_ret (h : PE X e (tD X.K B ρ d)) : PS X (.Return (some e) pos) (tS X.K B E ρ (.rt d)) :=
  ps_mono (ps_ret h) fun D σ H ⟨G, en, q⟩ => ⟨G, en, fun v G' H' g r => q v G' H' g.le (en.grow.trans g) r⟩
theorem js_expr (h : PE X e (tD X.K B ρ d)) (hs : swapsWith e none pos.line X.env = pure false := by rfl) : PS X (.Expr e pos) (tS X.K B E ρ (.nx ρ)) :=
  ps_mono (ps_expr h hs) fun D σ H ⟨G, en, q⟩ => ⟨G, en, fun v G' H' g r => q σ G' H' g.le (en.up g)⟩
theorem js_pass : PS X (.Pass pos) (tS X.K B E ρ (.nx ρ)) := ps_mono ps_pass fun D σ H ⟨G, en, q⟩ => q σ G H (Same.refl _) en
/-- x = e -/
theorem js_set (i : Nat) {x : PySem.Str} {p : Pos} (h : PE X e (tD X.K B ρ d)) (hN : X.N.Nodup) (hi : X.N[i]? = some x := by rfl) (hx : Loc X.env.scope x := by first | exact Or.inl rfl | exact Or.inr rfl)
    (hs : swapsWith e (some (.Name x p)) pos.line X.env = pure false := by rfl) (hf : X.fn x = true ∨ X.env.scope.names.lookup x = some .local := by first | exact .inl rfl | exact .inr rfl) :
    PS X (.Assign [.Name x p] e pos) (tS X.K B E ρ (.nx (ρ.set i (.da d)))) :=
  ps_mono (ps_set hN hi hx h hs hf) fun D σ H ⟨G, en, q⟩ => ⟨G, en, fun v G' H' g r => q _ G' H' g.le ((en.up g).setD r)⟩
/-- x = [..], a list of one's own -/
theorem js_setL (i : Nat) {x : PySem.Str} {p p2 : Pos} {es : List Expr} (hz : ds.length ≤ sizeLine) (h : PA X es (tDs X.K B ρ ds)) (hN : X.N.Nodup) (hi : X.N[i]? = some x := by rfl) (hx : Loc X.env.scope x := by first | exact Or.inl rfl | exact Or.inr rfl)
    (hs : swapsWith (.List es p2) (some (.Name x p)) pos.line X.env = pure false := by rfl) (hf : X.fn x = true ∨ X.env.scope.names.lookup x = some .local := by first | exact .inl rfl | exact .inr rfl) :
    PS X (.Assign [.Name x p] (.List es p2) pos) (tS X.K B E ρ (.nx (ρ.set i (.ow (lstK X.K ds))))) :=
  ps_mono (ps_set hN hi hx (pe_lst h) hs hf) fun D σ H ⟨G, en, q⟩ => ⟨G, en, fun vs G1 H1 g1 rs => ⟨by rw [rs.length]; exact hz, fun p hp => q _ G1 _ g1.le ((en.up g1).setO hp ⟨vs, rfl, rs⟩)⟩⟩
/-- x = list(y), a list of one's own -/
theorem js_setLL (i : Nat) {x : PySem.Str} {p p1 p2 : Pos} (hg : Gl X "list") (hm : X.mg "list" = none) (h : PE X e (tR X.K B ρ (.lst ds))) (hN : X.N.Nodup) (hi : X.N[i]? = some x := by rfl) (hx : Loc X.env.scope x := by first | exact Or.inl rfl | exact Or.inr rfl)
    (hs : swapsWith (.Call (.Name "list" p1) [e] [] p2) (some (.Name x p)) pos.line X.env = pure false := by rfl) (hf : X.fn x = true ∨ X.env.scope.names.lookup x = some .local := by first | exact .inl rfl | exact .inr rfl)
    (hst : starEach [e] X.env = (false, eval e X.env) :: starEach [] X.env := by rfl) :
    PS X (.Assign [.Name x p] (.Call (.Name "list" p1) [e] [] p2) pos) (tS X.K B E ρ (.nx (ρ.set i (.ow (lstK X.K ds))))) :=
  ps_mono (ps_set hN hi hx (pe_callTy call_list_of hg hm boot_list (ja_r1 h hst) (by decide) (by decide) hst rfl) hs hf) fun D σ H ⟨G, en, q⟩ => ⟨G, en, fun v G1 H1 g1 r => by
    obtain ⟨a, vs, rfl, hp, r1⟩ := r.lst g1.base
    exact ⟨a, vs, rfl, .inl (SqL.of hp), fun l hl => q _ G1 _ g1.le ((en.up g1).setO hl ⟨vs, rfl, r1⟩)⟩⟩
theorem js_setLT (i : Nat) {x : PySem.Str} {p p1 p2 : Pos} (hg : Gl X "list") (hm : X.mg "list" = none) (h : PE X e (tD X.K B ρ (.tup ds))) (hN : X.N.Nodup) (hi : X.N[i]? = some x := by rfl) (hx : Loc X.env.scope x := by first | exact Or.inl rfl | exact Or.inr rfl)
    (hs : swapsWith (.Call (.Name "list" p1) [e] [] p2) (some (.Name x p)) pos.line X.env = pure false := by rfl) (hf : X.fn x = true ∨ X.env.scope.names.lookup x = some .local := by first | exact .inl rfl | exact .inr rfl)
    (hst : starEach [e] X.env = (false, eval e X.env) :: starEach [] X.env := by rfl) :
    PS X (.Assign [.Name x p] (.Call (.Name "list" p1) [e] [] p2) pos) (tS X.K B E ρ (.nx (ρ.set i (.ow (lstK X.K ds))))) :=
  ps_mono (ps_set hN hi hx (pe_callTy call_list_of hg hm boot_list (ja_r1 (PE_r h) hst) (by decide) (by decide) hst rfl) hs hf) fun D σ H ⟨G, en, q⟩ => ⟨G, en, fun v G1 H1 g1 r => by
    obtain ⟨a, vs, rfl, hp, r1⟩ := r.tup g1.base
    exact ⟨a, vs, rfl, .inr (SqT.of hp), fun l hl => q _ G1 _ g1.le ((en.up g1).setO hl ⟨vs, rfl, r1⟩)⟩⟩
/-- x += e, ints -/
theorem js_aug (i : Nat) {x : PySem.Str} {p : Pos} {a b : Int} (hx0 : ρ[i]? = some (.da (.int a))) (h : PE X e (tD X.K B ρ (.int b))) (hN : X.N.Nodup) (hi : X.N[i]? = some x := by rfl) (hx : Loc X.env.scope x := by first | exact Or.inl rfl | exact Or.inr rfl)
    (hf : X.fn x = true ∨ X.env.scope.names.lookup x = some .local := by first | exact .inl rfl | exact .inr rfl) :
    PS X (.AugAssign (.Name x p) .Add e pos) (tS X.K B E ρ (.nx (ρ.set i (.da (.int (a + b)))))) :=
  ps_mono (ps_aug hN hi hx h ip_add hf) fun D σ H ⟨G, en, q⟩ => by
    obtain ⟨v, h1, r⟩ := en.da hx0
    exact ⟨v, h1, G, en, fun w G1 H1 g1 rw' => ⟨a, b, r.int_inv, rw'.int_inv, q _ G1 H1 g1.le ((en.up g1).setD (.int _))⟩⟩
/-- xs.append(e) -/
theorem js_app (i : Nat) {x : PySem.Str} {p p1 p2 : Pos} (hx0 : ρ[i]? = some (.ow (lstK X.K ds))) (hz : ds.length < sizeLine) (h : PE X e (tD X.K B ρ d)) (hN : X.N[i]? = some x := by rfl)
    (hv : Vis X.env.scope x := by first | exact Or.inl rfl | exact Or.inr (Or.inl rfl) | exact Or.inr (Or.inr rfl)) (hd : (x == ("__debug__" : PySem.Str)) = false := by decide) (hcd : (x == ("__classdict__" : PySem.Str)) = false := by decide)
    (hst : starEach [e] X.env = (false, eval e X.env) :: starEach [] X.env := by rfl)
    (hpe : ∀ {te : TE}, PE X e te → PE X (.Call (.Attribute (.Name x p) "append" p1) [e] [] p2) (tBM X.K "list" rAppend (tVar i) (tCons te tNil)) := by
      intro te h; exact pe_bm PySem.F.plainAttrs_list PySem.F.slot_list_append PySem.F.type_list_append mt_append (pv _) (pa_cons h pa_nil))
    (hs : swapsWith (.Call (.Attribute (.Name x p) "append" p1) [e] [] p2) none pos.line X.env = pure false := by rfl) :
    PS X (.Expr (.Call (.Attribute (.Name x p) "append" p1) [e] [] p2) pos) (tS X.K B E ρ (.nx (ρ.set i (.ow (lstK X.K (ds ++ [d])))))) :=
  ps_mono (ps_expr (hpe h) hs) fun D σ H ⟨G, en, q⟩ => by
    obtain ⟨a, u, h1, h2, ⟨vs, rfl, r⟩, _⟩ := en.ow hx0
    refine ⟨.ref a, h1, .inl ⟨rfl, _, SqL.of h2⟩, G, en, fun w G1 H1 g1 rw' => ?_⟩
    have en1 := en.up g1
    have h3 : H1 a = some (.lst vs) := g1.keep a _ h2 (fun ps z => nomatch z)
    refine ⟨a, vs, w, rfl, rfl, h3, by rw [r.length]; exact hz, ?_⟩
    exact q σ G1 _ g1.le (en1.mut hx0 h1 ⟨vs ++ [w], rfl, (r.up g1.le).append (.one rw')⟩)
/-- xs[j] = e -/
theorem js_setIx (i : Nat) {x : PySem.Str} {p p1 : Pos} {ix : Expr} {j : Int} {k : Nat} (hx0 : ρ[i]? = some (.ow (lstK X.K ds))) (hk : ixN ds.length j = some k) (h : PE X e (tD X.K B ρ d)) (hj : PE X ix (tD X.K B ρ (.int j))) (hN : X.N[i]? = some x := by rfl)
    (hv : Vis X.env.scope x := by first | exact Or.inl rfl | exact Or.inr (Or.inl rfl) | exact Or.inr (Or.inr rfl)) (hd : (x == ("__debug__" : PySem.Str)) = false := by decide) (hcd : (x == ("__classdict__" : PySem.Str)) = false := by decide)
    (hs : ∀ {te tj : TE}, PE X e te → PE X ix tj → PS X (.Assign [.Subscript (.Name x p) ix p1] e pos) (tAsg te (gSub (tVar i) tj rSetL)) := by intro te tj h1 h2; exact ps_asg h1 (pg_sub (pv _) h2 set_list)) :
    PS X (.Assign [.Subscript (.Name x p) ix p1] e pos) (tS X.K B E ρ (.nx (ρ.set i (.ow (lstK X.K (ds.set k d)))))) :=
  ps_mono (hs h hj) fun D σ H ⟨G, en, q⟩ => ⟨G, en, fun w G1 H1 g1 rw' => by
    have en1 := en.up g1
    obtain ⟨a, u, h1, h2, ⟨vs, rfl, r⟩, _⟩ := en1.ow hx0
    refine ⟨.ref a, h1, G1, en1, fun z G2 H2 g2 rz => ?_⟩
    have h3 : H2 a = some (.lst vs) := g2.keep a _ h2 (fun ps z => nomatch z)
    refine ⟨a, vs, j, k, rfl, rz.int_inv, h3, by rw [r.length]; exact hk, ?_⟩
    exact q σ G2 _ (g1.le.trans g2.le) ((en1.up g2).mut hx0 h1 ⟨vs.set k w, rfl, (r.up g2.le).set (rw'.up g2.le) k⟩)⟩

/-! ### if -/
theorem js_if {c : Expr} {a b : List Stmt} {k : Bool} (hc : PT X c (tT X.K B ρ k)) (ha : k = true → PSs X a (tS X.K B E ρ o)) (hb : k = false → PSs X b (tS X.K B E ρ o)) : PS X (.If c a b pos) (tS X.K B E ρ o) := by
  cases k with
  | true => exact ps_mono (ps_if hc (ha rfl) pss_never) fun D σ H ⟨G, en, q⟩ => ⟨G, en, fun G1 H1 g1 => by
      show (if true = true then _ else _)
      rw [if_pos rfl]; exact ⟨G1, en.up g1, q.up g1.le⟩⟩
  | false => exact ps_mono (ps_if hc pss_never (hb rfl)) fun D σ H ⟨G, en, q⟩ => ⟨G, en, fun G1 H1 g1 => by
      show (if false = true then _ else _)
      rw [if_neg Bool.false_ne_true]; exact ⟨G1, en.up g1, q.up g1.le⟩⟩
/-- if c: .. leaves; rest -/
theorem jss_ifr {c : Expr} {a : List Stmt} {k : Bool} (ho : o.exits = true) (hc : PT X c (tT X.K B ρ k)) (ha : k = true → PSs X a (tS X.K B E ρ o)) (hr : k = false → PSs X rest (tS X.K B E ρ o)) : PSs X (.If c a [] pos :: rest) (tS X.K B E ρ o) := by
  cases k with
  | true => exact jss_out ho (js_if hc ha fun z => nomatch z)
  | false => exact jss_cons (js_if hc (fun z => nomatch z) fun _ => jss_nil) (hr rfl)
/-- .. whether it leaves being told with it -/
theorem jss_ifq {c : Expr} {a : List Stmt} {k : Bool} (hc : PT X c (tT X.K B ρ k)) (ha : k = true → PSs X a (tS X.K B E ρ o) ∧ o.exits = true) (hr : k = false → PSs X rest (tS X.K B E ρ o)) : PSs X (.If c a [] pos :: rest) (tS X.K B E ρ o) := by
  cases k with
  | true => exact jss_out (ha rfl).2 (js_if hc (fun _ => (ha rfl).1) fun z => nomatch z)
  | false => exact jss_cons (js_if hc (fun z => nomatch z) fun _ => jss_nil) (hr rfl)
/-- if c: a else: b, then the rest -/
theorem jss_ifj {c : Expr} {a b : List Stmt} {k : Bool} (hc : PT X c (tT X.K B ρ k)) (ha : k = true → PSs X a (tS X.K B E ρ (.nx ρ1))) (hb : k = false → PSs X b (tS X.K B E ρ (.nx ρ1))) (hr : PSs X rest (tS X.K B E ρ1 o)) : PSs X (.If c a b pos :: rest) (tS X.K B E ρ o) :=
  jss_cons (js_if hc ha hb) hr

/-! ### families: a piece of text whose reading is chosen when it is come to -/
theorem pss_fam {ι : Type} {t : ι → TS} (h : ∀ z, PSs X body (t z)) : PSs X body (fun D σ H => ∃ z, t z D σ H) := ⟨fun pins s σ H D I ⟨z, q⟩ => (h z).run pins s σ H D I q⟩
theorem pe_fam {ι : Type} {t : ι → TE} (h : ∀ z, PE X e (t z)) : PE X e (fun σ H Q => ∃ z, t z σ H Q) := ⟨fun pins s σ H Q I ⟨z, q⟩ => (h z).run pins s σ H Q I q⟩
theorem pt_fam {ι : Type} {t : ι → TT} (h : ∀ z, PT X e (t z)) : PT X e (fun σ H Q => ∃ z, t z σ H Q) := ⟨fun pins s σ H Q I ⟨z, q⟩ => (h z).run pins s σ H Q I q⟩

end
/-! ### targets -/
/-- the target's reading g puts data into the environment; it stores at is alone -/
def GOk (K : PySem.W.Frag) (g : TG) (is : List Nat) (put : List Sl → D → List Sl) (ok : D → Prop) : Prop :=
  ∀ (B : Bs) (ρ : List Sl) (σ : L2.St) (G H : Hp) (v : V) (d : D) (Q : L2.St → Hp → Prop), B.En K G ρ σ H → Rep K G v d → ok d →
    (∀ σ' : L2.St, (∀ H' : Hp, B.En K G ρ σ H' → B.En K G (put ρ d) σ' H') → σ'.length = σ.length → (∀ j : Nat, j ∉ is → σ'[j]? = σ[j]?) → Q σ' H) → g v σ H Q
theorem GOk.go {K : PySem.W.Frag} {g : TG} {is : List Nat} {put : List Sl → D → List Sl} {ok : D → Prop} (k : GOk K g is put ok) (B : Bs) (ρ : List Sl) (σ : L2.St) (G H : Hp) (v : V) (d : D) (Q : L2.St → Hp → Prop) (en : B.En K G ρ σ H) (r : Rep K G v d) (o : ok d)
    (h : ∀ σ' : L2.St, B.En K G (put ρ d) σ' H → σ'.length = σ.length → (∀ j : Nat, j ∉ is → σ'[j]? = σ[j]?) → Q σ' H) : g v σ H Q := k B ρ σ G H v d Q en r o fun σ' e => h σ' (e H en)
def put1 (i : Nat) : List Sl → D → List Sl := fun ρ d => ρ.set i (.da d)
def putAll : List Nat → List Sl → List D → List Sl
  | i :: is, ρ, d :: ds => putAll is (ρ.set i (.da d)) ds
  | _, ρ, _ => ρ
def putN (is : List Nat) : List Sl → D → List Sl := fun ρ d => match d with
  | .tup ds => putAll is ρ ds
  | _ => ρ
def gNs : List Nat → TGs
  | [] => gNil
  | i :: is => gCons (gName i) (gNs is)
def isTup (n : Nat) (d : D) : Prop := ∃ ds, d = .tup ds ∧ ds.length = n
theorem gok_name {K : PySem.W.Frag} (i : Nat) : GOk K (gName i) [i] (put1 i) (fun _ => True) := fun B ρ σ G H v d Q en r _ q =>
  q _ (fun H' en' => en'.setD r) (List.length_set ..) fun j hj => by rw [List.getElem?_set_ne (fun z => hj (by simp [z]))]
theorem gok_all {K : PySem.W.Frag} {B : Bs} {G H : Hp} {Q : L2.St → Hp → Prop} : ∀ (is : List Nat) (ρ : List Sl) (σ : L2.St) (vs : List V) (ds : List D), RepAll K G vs ds → ds.length = is.length →
    (∀ σ' : L2.St, (∀ H' : Hp, B.En K G ρ σ H' → B.En K G (putAll is ρ ds) σ' H') → σ'.length = σ.length → (∀ j : Nat, j ∉ is → σ'[j]? = σ[j]?) → Q σ' H) → gNs is vs σ H Q
  | [], ρ, σ, vs, ds, r, hl, q => by
    cases ds with
    | nil => cases r; exact ⟨rfl, q σ (fun _ en => en) rfl fun _ _ => rfl⟩
    | cons _ _ => cases hl
  | i :: is, ρ, σ, vs, ds, r, hl, q => by
    cases ds with
    | nil => cases hl
    | cons d ds =>
      cases r with
      | cons h t =>
        refine ⟨_, _, rfl, gok_all is (ρ.set i (.da d)) _ _ ds t (Nat.succ.inj hl) fun σ' en' hl' hj => q σ' (fun H' en => en' H' (en.setD h)) (hl'.trans (List.length_set ..)) fun j hn => ?_⟩
        rw [hj j (fun z => hn (List.mem_cons_of_mem _ z)), List.getElem?_set_ne (fun z => hn (by simp [z]))]
theorem gok_tup {K : PySem.W.Frag} (is : List Nat) : GOk K (gTup K is.length (gNs is)) is (putN is) (isTup is.length) := fun B ρ σ G H v d Q en r ⟨ds, e, hl⟩ q => by
  subst e
  cases r with
  | @tup a xs _ h rs => exact ⟨a, xs, rfl, SqT.of (en.base.sub _ _ h), by rw [rs.length]; exact hl, gok_all is ρ σ xs ds rs hl q⟩
section
variable {B : Bs} {E : XK} {ρ ρ1 ρ2 : List Sl} {o o1 : Out} {st : Stmt} {rest body : List Stmt} {e : Expr} {pos : Pos} {d : D} {ds : List D}
/-- target = e -/
theorem js_asg {tg : Expr} {g : TG} {is : List Nat} {put : List Sl → D → List Sl} {ok : D → Prop} (gok : GOk X.K g is put ok) (hok : ok d) (h : PE X e (tD X.K B ρ d)) (hg : PG X tg g) (hs : swapsWithSole [tg] e pos.line X.env = pure false := by rfl)
    (hw : swappedStores [tg] e X.env = pure none := by rfl) (h1 : (assignEach [tg] X.env).map (·.2) = [assign tg X.env] := by rfl) : PS X (.Assign [tg] e pos) (tS X.K B E ρ (.nx (put ρ d))) :=
  ps_mono (ps_asg h hg hs hw h1) fun D σ H ⟨G, en, q⟩ => ⟨G, en, fun v G1 H1 g1 r => gok.go B ρ σ G1 H1 v d _ (en.up g1) r hok fun σ' en' _ _ => q σ' G1 H1 g1.le en'⟩

/-! ### what is walked -/
/-- the items that a walk gives, whatever grows meanwhile -/
structure Wlk (K : PySem.W.Frag) (T : List NTab) (G : Hp) (J : It) (items : List D) : Prop where
  go : ∀ (i : Nat) (d : D) (G1 H1 : Hp), items[i]? = some d → Same G G1 → Base T G1 H1 → J.go i H1 ∧ ∀ x H2, J.yld i H1 x H2 → ∃ G2, Grow T G1 H1 G2 H2 ∧ Rep K G2 x d
  stop : ∀ (i : Nat) (G1 H1 : Hp), items.length ≤ i → Same G G1 → Base T G1 H1 → J.stop i H1
def tI (K : PySem.W.Frag) (B : Bs) (ρ : List Sl) (items : List D) : TI := fun σ H R => ∃ G, B.En K G ρ σ H ∧ ∀ J G' H', Grow B.T G H G' H' → Wlk K B.T G' J items → R J H'
theorem ji_list {tg : Expr} {items : List D} (h : PE X e (tD X.K B ρ (.lst items))) : PI X tg e (tI X.K B ρ items) :=
  pi_mono (pi_list h) fun σ H R ⟨G, en, q⟩ => ⟨G, en, fun v G1 H1 g1 r => by
    cases r with
    | @lst a xs _ h rs =>
      refine ⟨a, rfl, ⟨xs, SqL.of (g1.sub _ _ h)⟩, q _ G1 H1 g1 ⟨fun i d G2 H2 hi s b => ?_, fun i G2 H2 hi s b => ⟨xs, SqL.of (b.sub _ _ (s _ _ h)), by rw [rs.length]; exact hi⟩⟩⟩
      obtain ⟨x, hx, rx⟩ := rs.get hi
      have hH : H2 a = some (.lst xs) := b.sub _ _ (s _ _ h)
      refine ⟨⟨xs, x, SqL.of hH, hx⟩, fun y H3 ⟨e1, e2⟩ => ?_⟩
      subst e1
      have ey := e2 xs (SqL.of hH)
      rw [hx] at ey; cases ey
      exact ⟨G2, b.refl, rx.up s⟩⟩
theorem ji_tup {tg : Expr} {items : List D} (h : PE X e (tD X.K B ρ (.tup items))) : PI X tg e (tI X.K B ρ items) :=
  pi_mono (pi_tup h) fun σ H R ⟨G, en, q⟩ => ⟨G, en, fun v G1 H1 g1 r => by
    cases r with
    | @tup a xs _ h rs =>
      refine ⟨a, rfl, ⟨xs, SqT.of (g1.sub _ _ h)⟩, q _ G1 H1 g1 ⟨fun i d G2 H2 hi s b => ?_, fun i G2 H2 hi s b => ⟨xs, SqT.of (b.sub _ _ (s _ _ h)), by rw [rs.length]; exact hi⟩⟩⟩
      obtain ⟨x, hx, rx⟩ := rs.get hi
      have hH : H2 a = some (.tup xs) := b.sub _ _ (s _ _ h)
      refine ⟨⟨xs, x, SqT.of hH, hx⟩, fun y H3 ⟨e1, e2⟩ => ?_⟩
      subst e1
      have ey := e2 xs (SqT.of hH)
      rw [hx] at ey; cases ey
      exact ⟨G2, b.refl, rx.up s⟩⟩
/-- 0, 1, .. n - 1 as data -/
def rngD (n : Nat) : List D := (List.range n).map fun i : Nat => D.int (i : Int)
theorem rngD_get {n i : Nat} {d : D} (h : (rngD n)[i]? = some d) : i < n ∧ d = .int (i : Int) := by
  unfold rngD at h
  rw [List.getElem?_map] at h
  by_cases hi : i < n
  · rw [List.getElem?_range hi] at h
    exact ⟨hi, (Option.some.inj h).symm⟩
  · rw [List.getElem?_eq_none (by rw [List.length_range]; omega)] at h
    cases h
theorem rngD_len (n : Nat) : (rngD n).length = n := by unfold rngD; rw [List.length_map, List.length_range]
theorem ji_range {tg : Expr} {a : Expr} {n : Nat} {p : Pos} (hz : (n : Int) < 2 ^ 62) (hg : Gl X "range") (hm : X.mg "range" = none) (h : PE X a (tD X.K B ρ (.int (n : Int)))) (hs : starEach [a] X.env = (false, eval a X.env) :: starEach [] X.env := by rfl) (hs2 : starEach [a] X.env = [(false, eval a X.env)] := by rfl) :
    PI X tg (.Call (.Name "range" p) [a] [] pos) (tI X.K B ρ (rngD n)) :=
  pi_mono (pi_range1 hg hm (ja_one h hs) hs2) fun σ H R ⟨G, en, q⟩ => ⟨G, en, fun vs G1 H1 g1 rs => by
    cases rs with
    | cons r t =>
      cases t
      cases r
      refine ⟨(n : Int), rfl, by omega, hz, ?_⟩
      rw [Int.toNat_natCast]
      refine q _ G1 H1 g1 ⟨fun i d G2 H2 hi s b => ?_, fun i G2 H2 hi s b => by rw [rngD_len] at hi; exact hi⟩
      obtain ⟨h1, h2⟩ := rngD_get hi
      refine ⟨h1, fun y H3 ⟨e1, e2⟩ => ?_⟩
      subst e1 e2 h2
      refine ⟨G2, b.refl, ?_⟩
      rw [Int.zero_add]
      exact .int _⟩
/-- enumerate(list): pairs -/
def enumD (items : List D) : List D := items.zipIdx.map fun p => D.tup [.int (p.2 : Int), p.1]
theorem enumD_get {items : List D} {i : Nat} {d : D} (h : (enumD items)[i]? = some d) : ∃ x, items[i]? = some x ∧ d = .tup [.int (i : Int), x] := by
  unfold enumD at h
  rw [List.getElem?_map, List.getElem?_zipIdx] at h
  cases e : items[i]? with
  | none => rw [e] at h; cases h
  | some x =>
    rw [e] at h
    refine ⟨x, rfl, ?_⟩
    have h' := Option.some.inj h
    rw [← h']
    show D.tup [.int ((0 + i : Nat) : Int), x] = _
    rw [Nat.zero_add]
theorem enumD_len (items : List D) : (enumD items).length = items.length := by unfold enumD; rw [List.length_map, List.length_zipIdx]
theorem ji_enum {a : Expr} {items : List D} {p tpos : Pos} {elts : List Expr} {kk : Nat} (hg : Gl X "enumerate") (hm : X.mg "enumerate" = none) (h : PE X a (tD X.K B ρ (.lst items)))
    (hs : starEach [a] X.env = (false, eval a X.env) :: starEach [] X.env := by rfl) (hs2 : starEach [a] X.env = [(false, eval a X.env)] := by rfl) :
    PI X (.Tuple elts kk tpos) (.Call (.Name "enumerate" p) [a] [] pos) (tI X.K B ρ (enumD items)) :=
  pi_mono (pi_enum hg hm (ja_one h hs) hs2) fun σ H R ⟨G, en, q⟩ => ⟨G, en, fun vs G1 H1 g1 rs => by
    cases rs with
    | cons r t =>
      cases t
      cases r with
      | @lst a xs _ h rs =>
        refine ⟨a, xs, rfl, SqL.of (g1.sub _ _ h), q _ G1 H1 g1 ⟨fun i d G2 H2 hi s b => ?_, fun i G2 H2 hi s b => ⟨xs, SqL.of (b.sub _ _ (s _ _ h)), by rw [rs.length]; rw [enumD_len] at hi; exact hi⟩⟩⟩
        obtain ⟨x, hx, rfl⟩ := enumD_get hi
        obtain ⟨v, hv, rv⟩ := rs.get hx
        have hH : H2 a = some (.lst xs) := b.sub _ _ (s _ _ h)
        refine ⟨⟨xs, v, SqL.of hH, hv⟩, fun y H3 ⟨T', w, e1, e2, e3, e4⟩ => ?_⟩
        subst e1 e3
        have ey := e4 xs (SqL.of hH)
        rw [hv] at ey; cases ey
        have g := b.lay (o := .tup [.int (i : Int), v]) e2 (fun ps z => nomatch z)
        exact ⟨_, g, .tup upd_same (.cons (.int _) (.one ((rv.up s).up g.le)))⟩⟩
/-- zip(list, list): pairs -/
def zipD (xs ys : List D) : List D := (xs.zip ys).map fun p => D.tup [p.1, p.2]
theorem zipD_get {xs ys : List D} {i : Nat} {d : D} (h : (zipD xs ys)[i]? = some d) : ∃ x y, xs[i]? = some x ∧ ys[i]? = some y ∧ d = .tup [x, y] := by
  unfold zipD at h
  rw [List.getElem?_map] at h
  cases e : (xs.zip ys)[i]? with
  | none => rw [e] at h; cases h
  | some p =>
    rw [e] at h
    obtain ⟨h1, h2⟩ := List.getElem?_zip_eq_some.mp e
    exact ⟨p.1, p.2, h1, h2, (Option.some.inj h).symm⟩
theorem zipD_len (xs ys : List D) : (zipD xs ys).length = min xs.length ys.length := by unfold zipD; rw [List.length_map, List.length_zip]
theorem ji_zip {a b : Expr} {xs ys : List D} {p tpos : Pos} {elts : List Expr} {kk : Nat} (hg : Gl X "zip") (hm : X.mg "zip" = none) (h1 : PE X a (tD X.K B ρ (.lst xs))) (h2 : PE X b (tD X.K B ρ (.lst ys)))
    (hs : starEach [a, b] X.env = (false, eval a X.env) :: starEach [b] X.env := by rfl) (hs2 : starEach [b] X.env = (false, eval b X.env) :: starEach [] X.env := by rfl) (hpl : (backTo pos (starEach [b] X.env)).any (·.1) = false := by rfl) :
    PI X (.Tuple elts kk tpos) (.Call (.Name "zip" p) [a, b] [] pos) (tI X.K B ρ (zipD xs ys)) :=
  pi_mono (pi_zip hg hm (ja_cons h1 (ja_one h2 hs2) hs) hs hpl) fun σ H R ⟨G, en, q⟩ => ⟨G, en, fun vs G1 H1 g1 rs => by
    cases rs with
    | cons r t =>
      cases t with
      | cons r2 t2 =>
        cases t2
        cases r with
        | @lst pa va _ ha ra =>
          cases r2 with
          | @lst pb vb _ hb rb =>
            refine ⟨pa, pb, va, vb, rfl, SqL.of (g1.sub _ _ ha), SqL.of (g1.sub _ _ hb), q _ G1 H1 g1 ⟨fun i d G2 H2 hi s bs => ?_, fun i G2 H2 hi s bs => ?_⟩⟩
            · obtain ⟨x, y, hx, hy, rfl⟩ := zipD_get hi
              obtain ⟨v, hv, rv⟩ := ra.get hx
              obtain ⟨w, hw, rw'⟩ := rb.get hy
              have hHa : H2 pa = some (.lst va) := bs.sub _ _ (s _ _ ha)
              have hHb : H2 pb = some (.lst vb) := bs.sub _ _ (s _ _ hb)
              refine ⟨⟨va, vb, v, w, SqL.of hHa, SqL.of hHb, hv, hw⟩, fun z H3 ⟨T', x', y', e1, e2, e3, e4, e5⟩ => ?_⟩
              subst e1 e3
              have ex := e4 va (SqL.of hHa)
              have ey := e5 vb (SqL.of hHb)
              rw [hv] at ex; cases ex
              rw [hw] at ey; cases ey
              have g := bs.lay (o := .tup [v, w]) e2 (fun ps z => nomatch z)
              exact ⟨_, g, .tup upd_same (.cons ((rv.up s).up g.le) (.one ((rw'.up s).up g.le)))⟩
            · refine ⟨va, vb, SqL.of (bs.sub _ _ (s _ _ ha)), SqL.of (bs.sub _ _ (s _ _ hb)), ?_⟩
              rw [ra.length, rb.length]
              rw [zipD_len] at hi
              omega⟩

/-! ### for -/
/-- the environment ahead of turn k is ρs k; every turn goes on -/
theorem js_for {tg iter : Expr} {items : List D} {g : TG} {is : List Nat} {put : List Sl → D → List Sl} {ok : D → Prop} (ρs : Nat → List Sl) (hp : PassesOwn (model X.prog X.w) X.A X.env X.xe) (hc : X.calm = true) (hi : PI X tg iter (tI X.K B (ρs 0) items)) (gok : GOk X.K g is put ok)
    (hg : PG X tg g) (hok : ∀ d ∈ items, ok d) (hb : ∀ (k : Nat) (d : D), items[k]? = some d → PSs X body (tS X.K B E (put (ρs k) d) (.nx (ρs (k + 1))))) (hs : ∀ x, foldedSetIterable iter X.env x = pure x := by intro _; rfl) :
    PS X (.For tg iter body [] pos) (tS X.K B E (ρs 0) (.nx (ρs items.length))) := by
  have hf := pss_fam (body := body) (ι := {p : Nat × D // items[p.1]? = some p.2}) (t := fun z => tS X.K B E (put (ρs z.1.1) z.1.2) (.nx (ρs (z.1.1 + 1)))) fun z => hb z.1.1 z.1.2 z.2
  refine ps_mono (ps_for (pos := pos) hp hc hi hg hf hs) fun D σ H ⟨G, en, q⟩ => ⟨G, en, fun J G1 H1 g1 W => ?_⟩
  refine ⟨fun i m σ' H' => m = items.length - i ∧ i ≤ items.length ∧ ∃ G', Same G1 G' ∧ B.En X.K G' (ρs i) σ' H', ⟨_, rfl, Nat.zero_le _, G1, Same.refl _, en.up g1⟩, ?_⟩
  rintro i m σ' H' ⟨rfl, hi', G', s', en'⟩
  by_cases hlt : i < items.length
  · have hd : items[i]? = some items[i] := List.getElem?_eq_getElem hlt
    obtain ⟨hgo, hy⟩ := W.go i _ G' H' hd s' en'.base
    refine .inr ⟨hgo, fun σ2 H2 => ∃ G2, Same G1 G2 ∧ B.En X.K G2 (ρs (i + 1)) σ2 H2, fun σ2 H2 ⟨G2, s2, en2⟩ => ⟨_, by omega, rfl, hlt, G2, s2, en2⟩, fun x H2 y => ?_⟩
    obtain ⟨G2, g2, rx⟩ := hy x H2 y
    refine gok.go B (ρs i) σ' G2 H2 x _ _ (en'.up g2) rx (hok _ (List.getElem_mem hlt)) fun σ3 en3 _ _ => ?_
    exact ⟨⟨(i, items[i]), hd⟩, G2, en3, fun σ4 G4 H4 s4 en4 => ⟨G4, (s'.trans g2.le).trans s4, en4⟩⟩
  · have e : i = items.length := by omega
    subst e
    exact .inl ⟨W.stop _ G' H' (Nat.le_refl _) s' en'.base, q σ' G' H' (g1.le.trans s') en'⟩
/-- turn n leaves -/
theorem js_forx {tg iter : Expr} {items : List D} {g : TG} {is : List Nat} {put : List Sl → D → List Sl} {ok : D → Prop} (ρs : Nat → List Sl) (n : Nat) (hp : PassesOwn (model X.prog X.w) X.A X.env X.xe) (hc : X.calm = true) (hi : PI X tg iter (tI X.K B (ρs 0) items)) (gok : GOk X.K g is put ok)
    (hg : PG X tg g) (hok : ∀ d ∈ items, ok d) (ho : o.exits = true) (hn : n < items.length) (hb : ∀ (k : Nat) (d : D), items[k]? = some d → k < n → PSs X body (tS X.K B E (put (ρs k) d) (.nx (ρs (k + 1))))) (hx : ∀ d : D, items[n]? = some d → PSs X body (tS X.K B E (put (ρs n) d) o))
    (hs : ∀ x, foldedSetIterable iter X.env x = pure x := by intro _; rfl) : PS X (.For tg iter body [] pos) (tS X.K B E (ρs 0) o) := by
  have hf := pss_fam (body := body) (ι := {p : Nat × D // items[p.1]? = some p.2 ∧ p.1 ≤ n}) (t := fun z => tS X.K B E (put (ρs z.1.1) z.1.2) (if z.1.1 < n then .nx (ρs (z.1.1 + 1)) else o)) fun z => by
    by_cases h : z.1.1 < n
    · rw [if_pos h]; exact hb z.1.1 z.1.2 z.2.1 h
    · rw [if_neg h]
      have e : z.1.1 = n := Nat.le_antisymm z.2.2 (Nat.le_of_not_lt h)
      obtain ⟨⟨k, d⟩, hk, hle⟩ := z
      have e' : k = n := e
      subst e'
      exact hx d hk
  refine ps_mono (ps_for (pos := pos) hp hc hi hg hf hs) fun D σ H ⟨G, en, q⟩ => ⟨G, en, fun J G1 H1 g1 W => ?_⟩
  refine ⟨fun i m σ' H' => m = n - i ∧ i ≤ n ∧ ∃ G', Same G1 G' ∧ B.En X.K G' (ρs i) σ' H', ⟨_, rfl, Nat.zero_le _, G1, Same.refl _, en.up g1⟩, ?_⟩
  rintro i m σ' H' ⟨rfl, hi', G', s', en'⟩
  have hlt : i < items.length := Nat.lt_of_le_of_lt hi' hn
  have hd : items[i]? = some items[i] := List.getElem?_eq_getElem hlt
  obtain ⟨hgo, hy⟩ := W.go i _ G' H' hd s' en'.base
  refine .inr ⟨hgo, fun σ2 H2 => i < n ∧ ∃ G2, Same G1 G2 ∧ B.En X.K G2 (ρs (i + 1)) σ2 H2, fun σ2 H2 ⟨hl, G2, s2, en2⟩ => ⟨_, by omega, rfl, hl, G2, s2, en2⟩, fun x H2 y => ?_⟩
  obtain ⟨G2, g2, rx⟩ := hy x H2 y
  refine gok.go B (ρs i) σ' G2 H2 x _ _ (en'.up g2) rx (hok _ (List.getElem_mem hlt)) fun σ3 en3 _ _ => ?_
  refine ⟨⟨(i, items[i]), hd, hi'⟩, G2, en3, ?_⟩
  by_cases h : i < n
  · show OutOk _ _ _ _ _ (if i < n then _ else _)
    rw [if_pos h]
    exact fun σ4 G4 H4 s4 en4 => ⟨h, G4, (s'.trans g2.le).trans s4, en4⟩
  · show OutOk _ _ _ _ _ (if i < n then _ else _)
    rw [if_neg h]
    have q2 := (q.up (g1.le.trans (s'.trans g2.le)))
    cases o with
    | nx _ => cases ho
    | rt d => exact q2
    | ex C => exact q2
/-- while: the environment ahead of turn k is ρs k, n turns -/
theorem js_while {c : Expr} (ρs : Nat → List Sl) (n : Nat) (hp : PassesOwn (model X.prog X.w) X.A X.env X.xe) (hc : ∀ k, k ≤ n → PT X c (tT X.K B (ρs k) (decide (k < n)))) (hb : ∀ k, k < n → PSs X body (tS X.K B E (ρs k) (.nx (ρs (k + 1))))) :
    PS X (.While c body [] pos) (tS X.K B E (ρs 0) (.nx (ρs n))) := by
  have hcf := pt_fam (e := c) (ι := {k : Nat // k ≤ n}) (t := fun z => tT X.K B (ρs z.1) (decide (z.1 < n))) fun z => hc z.1 z.2
  have hf := pss_fam (body := body) (ι := {k : Nat // k < n}) (t := fun z => tS X.K B E (ρs z.1) (.nx (ρs (z.1 + 1)))) fun z => hb z.1 z.2
  refine ps_mono (ps_while (pos := pos) hp hcf hf) fun D σ H ⟨G, en, q⟩ => ?_
  refine ⟨fun m σ' H' => ∃ k, k ≤ n ∧ m = n - k ∧ ∃ G', Same G G' ∧ B.En X.K G' (ρs k) σ' H', ⟨n, 0, Nat.zero_le _, rfl, G, Same.refl _, en⟩, ?_⟩
  rintro m σ' H' ⟨k, hk, rfl, G', s', en'⟩
  refine ⟨⟨k, hk⟩, G', en', fun G1 H1 g1 => ?_⟩
  by_cases h : k < n
  · show (if decide (k < n) = true then _ else _)
    rw [if_pos (decide_eq_true h)]
    exact ⟨fun σ2 H2 => ∃ G2, Same G G2 ∧ B.En X.K G2 (ρs (k + 1)) σ2 H2, fun σ2 H2 ⟨G2, s2, en2⟩ => ⟨_, by omega, k + 1, h, rfl, G2, s2, en2⟩, ⟨k, h⟩, G1, en'.up g1, fun σ4 G4 H4 s4 en4 => ⟨G4, (s'.trans g1.le).trans s4, en4⟩⟩
  · show (if decide (k < n) = true then _ else _)
    rw [if_neg (by simpa using h)]
    have e : k = n := by omega
    subst e
    exact q σ' G1 H1 (s'.trans g1.le) (en'.up g1)
/-- while: turn n leaves -/
theorem js_whilex {c : Expr} (ρs : Nat → List Sl) (n : Nat) (hp : PassesOwn (model X.prog X.w) X.A X.env X.xe) (ho : o.exits = true) (hc : ∀ k, k ≤ n → PT X c (tT X.K B (ρs k) true)) (hb : ∀ k, k < n → PSs X body (tS X.K B E (ρs k) (.nx (ρs (k + 1))))) (hx : PSs X body (tS X.K B E (ρs n) o)) :
    PS X (.While c body [] pos) (tS X.K B E (ρs 0) o) := by
  have hcf := pt_fam (e := c) (ι := {k : Nat // k ≤ n}) (t := fun z => tT X.K B (ρs z.1) true) fun z => hc z.1 z.2
  have hf := pss_fam (body := body) (ι := {k : Nat // k ≤ n}) (t := fun z => tS X.K B E (ρs z.1) (if z.1 < n then .nx (ρs (z.1 + 1)) else o)) fun z => by
    by_cases h : z.1 < n
    · rw [if_pos h]; exact hb z.1 h
    · rw [if_neg h]
      have e : z.1 = n := Nat.le_antisymm z.2 (Nat.le_of_not_lt h)
      rw [e]; exact hx
  refine ps_mono (ps_while (pos := pos) hp hcf hf) fun D σ H ⟨G, en, q⟩ => ?_
  refine ⟨fun m σ' H' => ∃ k, k ≤ n ∧ m = n - k ∧ ∃ G', Same G G' ∧ B.En X.K G' (ρs k) σ' H', ⟨n, 0, Nat.zero_le _, rfl, G, Same.refl _, en⟩, ?_⟩
  rintro m σ' H' ⟨k, hk, rfl, G', s', en'⟩
  refine ⟨⟨k, hk⟩, G', en', fun G1 H1 g1 => ?_⟩
  show (if true = true then _ else _)
  rw [if_pos rfl]
  refine ⟨fun σ2 H2 => k < n ∧ ∃ G2, Same G G2 ∧ B.En X.K G2 (ρs (k + 1)) σ2 H2, fun σ2 H2 ⟨h, G2, s2, en2⟩ => ⟨_, by omega, k + 1, h, rfl, G2, s2, en2⟩, ⟨k, hk⟩, G1, en'.up g1, ?_⟩
  by_cases h : k < n
  · show OutOk _ _ _ _ _ (if k < n then _ else _)
    rw [if_pos h]
    exact fun σ4 G4 H4 s4 en4 => ⟨h, G4, (s'.trans g1.le).trans s4, en4⟩
  · show OutOk _ _ _ _ _ (if k < n then _ else _)
    rw [if_neg h]
    have q2 := (q.up (s'.trans g1.le))
    cases o with
    | nx _ => cases ho
    | rt d => exact q2
    | ex C => exact q2
end

/-! ### defs -/
/-- a def's promise: R tells the answer's data from the arguments' -/
def spD (K : PySem.W.Frag) (T : List NTab) (R : List D → D → Prop) : Sp := fun vs H Q _ => ∃ G ds d, Base T G H ∧ RepAll K G vs ds ∧ R ds d ∧ ∀ v G' H', Grow T G H G' H' → Rep K G' v d → Q v H'
/-- the environment at a def's entry -/
def env0 (n : Nat) (ds : List D) : List Sl := ds.map Sl.da ++ List.replicate (n - ds.length) Sl.un
theorem en_start {K : PySem.W.Frag} {T : List NTab} {G H : Hp} {N : List PySem.Str} {vs : List V} {ds : List D} (b : Base T G H) (r : RepAll K G vs ds) : En K T G H G (env0 N.length ds) (L2.start N vs) H where
  grow := b.refl
  len := by
    unfold env0 L2.start
    rw [List.length_append, List.length_append, List.length_map, List.length_map, List.length_replicate, List.length_replicate, r.length]
  sl := fun i s h => by
    unfold env0 at h
    by_cases hi : i < ds.length
    · rw [List.getElem?_append_left (by rw [List.length_map]; exact hi), List.getElem?_map, List.getElem?_eq_getElem hi] at h
      cases h
      obtain ⟨v, h1, h2⟩ := r.get (List.getElem?_eq_getElem hi)
      refine ⟨v, ?_, h2⟩
      unfold L2.start
      rw [List.getElem?_append_left (by rw [List.length_map, r.length]; exact hi), List.getElem?_map, h1]
      rfl
    · rw [List.getElem?_append_right (by rw [List.length_map]; omega), List.getElem?_replicate] at h
      split at h
      · cases h; trivial
      · cases h
  apart := fun i j k k' a hne h1 h2 h3 => by
    unfold env0 at h1
    by_cases hi : i < ds.length
    · rw [List.getElem?_append_left (by rw [List.length_map]; exact hi), List.getElem?_map, List.getElem?_eq_getElem hi] at h1
      cases h1
    · rw [List.getElem?_append_right (by rw [List.length_map]; omega), List.getElem?_replicate] at h1
      split at h1 <;> cases h1
/-- THE RULE for a def that raises nothing -/
theorem fn_D {P : Program} {w : World} {K : PySem.W.Frag} {mg : PySem.Str → Option Value} {base : Heap} {T : List NTab} {x qual : PySem.Str} {st : Stmt} {f : Addr} {fd : FuncData} {N ps : List PySem.Str} {k : Nat} {R : List D → D → Prop} (F : Fun K x qual st f fd) (S : FnScope N ps (defScope st))
    (len : ∀ ds d, R ds d → ds.length = ps.length)
    (hbody : ∀ (cdv : Value) (A : Around) (outer : List Env) (s : Shared) (H G : Hp) (E : XK) (ds : List D) (d : D), Room k (A.deeper (envOfC qual (defScope st) s.heap.objs.size f cdv)) → R ds d →
      PSs (cxOf CX0 P w K mg base N qual (defScope st) f cdv A outer s H E).nox (defBody st) (tS K ⟨T, G, H⟩ E0 (env0 N.length ds) (.rt d))) : FnOk P w K mg base CX0 (k + 1) f fd ps (spD K T R) := by
  refine F.ok S (fun vs H Q E h => ?_) (fun cdv A outer s H vs Q E hr h => ?_)
  · obtain ⟨G, ds, d, b, r, hR, _⟩ := h
    rw [r.length]
    exact len ds d hR
  · obtain ⟨G, ds, d, b, r, hR, q⟩ := h
    exact ⟨_, hbody cdv A outer s H G E ds d hr hR, G, en_start b r, fun v G' H' _ g rv => q v G' H' g rv⟩
section
variable {B : Bs} {ρ : List Sl} {d : D} {ds : List D}
/-- a def called -/
theorem je_call {k : Nat} {f : Addr} {fd : FuncData} {ps : List PySem.Str} {R : List D → D → Prop} {x : PySem.Str} {p pos : Pos} {e : Expr} {es : List Expr} (F : FnOk X.prog X.w X.K X.mg X.base CX0 k f fd ps (spD X.K B.T R)) (hr : Room k X.A) (hg : Gl X x) (hm : X.mg x = some (.ref f))
    (hk : PySem.W.keepIn X.K (.ref f) = true) (hb : Binds X.K fd ps []) (hR : R ds d) (ha : PA X (e :: es) (tDs X.K B ρ ds)) (hdb : (x == ("__debug__" : PySem.Str)) = false := by decide)
    (he : starEach (e :: es) X.env = (false, eval e X.env) :: starEach es X.env := by rfl) (hpl : (backTo pos (starEach es X.env)).any (·.1) = false := by rfl) : PE X (.Call (.Name x p) (e :: es) [] pos) (tD X.K B ρ d) :=
  pe_mono (pe_call F hr hg hm hk hb .nil pass0 ha hdb he hpl) fun σ H Q ⟨G, en, q⟩ => ⟨G, en, fun vs G1 H1 g1 rs => by
    show spD X.K B.T R (vs ++ []) H1 Q E0
    rw [List.append_nil]
    exact ⟨G1, ds, d, g1.base, rs, hR, fun v G2 H2 g2 rv => q v G2 H2 (g1.trans g2) rv⟩⟩
end
end DL
end
section
set_option Elab.async false
set_option linter.all false
set_option maxRecDepth 100000
set_option maxHeartbeats 4000000
/-! D-layer 4: loops by a step, list comprehensions. -/
namespace DL
open PySem PySem.Spec PyProof.Rows L2 NdefX
variable {X : Cx}

/-- a loop by its step: it goes on with a state, or leaves -/
def runL {S α : Type} (stp : S → α → S ⊕ Out) : S → List α → S ⊕ Out
  | z, [] => .inl z
  | z, x :: xs => match stp z x with
    | .inl z' => runL stp z' xs
    | .inr o => .inr o
theorem runL_cons {S α : Type} (stp : S → α → S ⊕ Out) (z : S) (x : α) (xs : List α) : runL stp z (x :: xs) = match stp z x with
    | .inl z' => runL stp z' xs
    | .inr o => .inr o := rfl
def outOf {S : Type} (ρs : S → List Sl) : S ⊕ Out → Out
  | .inl z => .nx (ρs z)
  | .inr o => o
section
variable {B : Bs} {E : XK} {body : List Stmt} {pos : Pos}
theorem js_forR {S α : Type} {tg iter : Expr} {xs : List α} {em : α → D} {g : TG} {is : List Nat} {put : List Sl → D → List Sl} {ok : D → Prop} (ρs : S → List Sl) (stp : S → α → S ⊕ Out) (I : Nat → S → Prop) (z0 : S) (hp : PassesOwn (model X.prog X.w) X.A X.env X.xe) (hc : X.calm = true)
    (hi : PI X tg iter (tI X.K B (ρs z0) (xs.map em))) (gok : GOk X.K g is put ok) (hg : PG X tg g) (hok : ∀ x ∈ xs, ok (em x)) (h0 : I 0 z0) (hI : ∀ (k : Nat) (z : S) (x : α) (z' : S), xs[k]? = some x → I k z → stp z x = .inl z' → I (k + 1) z') (hx : ∀ z x o, stp z x = .inr o → o.exits = true)
    (hb : ∀ (k : Nat) (z : S) (x : α), xs[k]? = some x → I k z → PSs X body (tS X.K B E (put (ρs z) (em x)) (outOf ρs (stp z x)))) (hs : ∀ x, foldedSetIterable iter X.env x = pure x := by intro _; rfl) :
    PS X (.For tg iter body [] pos) (tS X.K B E (ρs z0) (outOf ρs (runL stp z0 xs))) := by
  have hf := pss_fam (body := body) (ι := {p : Nat × S × α // xs[p.1]? = some p.2.2 ∧ I p.1 p.2.1}) (t := fun z => tS X.K B E (put (ρs z.1.2.1) (em z.1.2.2)) (outOf ρs (stp z.1.2.1 z.1.2.2))) fun z => hb z.1.1 z.1.2.1 z.1.2.2 z.2.1 z.2.2
  refine ps_mono (ps_for (pos := pos) hp hc hi hg hf hs) fun D σ H ⟨G, en, q⟩ => ⟨G, en, fun J G1 H1 g1 W => ?_⟩
  refine ⟨fun i m σ' H' => m = xs.length - i ∧ i ≤ xs.length ∧ ∃ z G', I i z ∧ B.En X.K G' (ρs z) σ' H' ∧ Same G1 G' ∧ runL stp z (xs.drop i) = runL stp z0 xs, ⟨_, rfl, Nat.zero_le _, z0, G1, h0, en.up g1, Same.refl _, rfl⟩, ?_⟩
  rintro i m σ' H' ⟨rfl, hi', z, G', hz, en', s', er⟩
  by_cases hlt : i < xs.length
  · have hxi : xs[i]? = some xs[i] := List.getElem?_eq_getElem hlt
    have hd : (xs.map em)[i]? = some (em xs[i]) := by rw [List.getElem?_map, hxi]; rfl
    obtain ⟨hgo, hy⟩ := W.go i _ G' H' hd s' en'.base
    have ed : xs.drop i = xs[i] :: xs.drop (i + 1) := List.drop_eq_getElem_cons hlt
    rw [ed] at er
    refine .inr ⟨hgo, fun σ2 H2 => ∃ z' G2, I (i + 1) z' ∧ B.En X.K G2 (ρs z') σ2 H2 ∧ Same G1 G2 ∧ runL stp z' (xs.drop (i + 1)) = runL stp z0 xs, fun σ2 H2 ⟨z', G2, a1, a2, a3, a4⟩ => ⟨_, by omega, rfl, hlt, z', G2, a1, a2, a3, a4⟩, fun x H2 y => ?_⟩
    obtain ⟨G2, g2, rx⟩ := hy x H2 y
    refine gok.go B (ρs z) σ' G2 H2 x _ _ (en'.up g2) rx (hok _ (List.getElem_mem hlt)) fun σ3 en3 _ _ => ?_
    refine ⟨⟨(i, z, xs[i]), hxi, hz⟩, G2, en3, ?_⟩
    show OutOk X.K B E G2 _ (outOf ρs (stp z xs[i]))
    cases es : stp z xs[i] with
    | inl z' =>
      have er' : runL stp z' (xs.drop (i + 1)) = runL stp z0 xs := by
        rw [runL_cons, es] at er
        exact er
      exact fun σ4 G4 H4 s4 en4 => ⟨z', G4, hI i z _ z' hxi hz es, en4, (s'.trans g2.le).trans s4, er'⟩
    | inr o =>
      have er' : (.inr o : S ⊕ Out) = runL stp z0 xs := by
        rw [runL_cons, es] at er
        exact er
      rw [← er'] at q
      have ho := hx z _ o es
      have q2 := q.up (g1.le.trans (s'.trans g2.le))
      show OutOk X.K B E G2 _ o
      have q3 : OutOk X.K B E G2 D o := q2
      cases o with
      | nx _ => cases ho
      | rt d => exact q3
      | ex C => exact q3
  · have e : i = xs.length := by omega
    subst e
    rw [List.drop_length] at er
    have er' : (.inl z : S ⊕ Out) = runL stp z0 xs := er
    rw [← er'] at q
    exact .inl ⟨W.stop _ G' H' (by rw [List.length_map]; exact Nat.le_refl _) s' en'.base, q σ' G' H' (g1.le.trans s') en'⟩
/-- a loop that may leave, then the rest -/
theorem jss_loop {S : Type} {st : Stmt} {rest : List Stmt} {ρ : List Sl} {o : Out} {ρs : S → List Sl} {r : S ⊕ Out} (ho : o.exits = true) (h1 : PS X st (tS X.K B E ρ (outOf ρs r))) (hn : ∀ z, r = .inl z → PSs X rest (tS X.K B E (ρs z) o)) (hx : ∀ o', r = .inr o' → o' = o) : PSs X (st :: rest) (tS X.K B E ρ o) := by
  cases r with
  | inl z => exact jss_cons h1 (hn z rfl)
  | inr o' =>
    have e := hx o' rfl
    subst e
    exact jss_out ho h1
theorem foldl_take {S α : Type} {f : S → α → S} {z0 : S} {xs : List α} {k : Nat} {x : α} (h : xs[k]? = some x) : (xs.take (k + 1)).foldl f z0 = f ((xs.take k).foldl f z0) x := by
  rw [List.take_succ, h, List.foldl_append]
  rfl
/-- .. that never leaves -/
theorem js_forF {S α : Type} {tg iter : Expr} {xs : List α} {em : α → D} {g : TG} {is : List Nat} {put : List Sl → D → List Sl} {ok : D → Prop} (ρs : S → List Sl) (f : S → α → S) (I : Nat → S → Prop) (z0 : S) (hp : PassesOwn (model X.prog X.w) X.A X.env X.xe) (hc : X.calm = true)
    (hi : PI X tg iter (tI X.K B (ρs z0) (xs.map em))) (gok : GOk X.K g is put ok) (hg : PG X tg g) (hok : ∀ x ∈ xs, ok (em x)) (h0 : I 0 z0) (hI : ∀ (k : Nat) (z : S) (x : α), xs[k]? = some x → I k z → I (k + 1) (f z x))
    (hb : ∀ (k : Nat) (z : S) (x : α), xs[k]? = some x → I k z → PSs X body (tS X.K B E (put (ρs z) (em x)) (.nx (ρs (f z x))))) (hs : ∀ x, foldedSetIterable iter X.env x = pure x := by intro _; rfl) :
    PS X (.For tg iter body [] pos) (tS X.K B E (ρs z0) (.nx (ρs (xs.foldl f z0)))) := by
  have inv : ∀ k, k ≤ xs.length → I k ((xs.take k).foldl f z0) := by
    intro k
    induction k with
    | zero => intro _; exact h0
    | succ k ih =>
      intro hk
      have hx := List.getElem?_eq_getElem (show k < xs.length from hk)
      rw [foldl_take hx]
      exact hI k _ _ hx (ih (Nat.le_of_lt hk))
  have key := js_for (body := body) (E := E) (pos := pos) (B := B) (X := X) (tg := tg) (iter := iter) (items := xs.map em) (fun k => ρs ((xs.take k).foldl f z0)) hp hc hi gok hg (fun d hd => by
      obtain ⟨x, hx, rfl⟩ := List.mem_map.mp hd
      exact hok x hx) (fun k d hd => by
      rw [List.getElem?_map] at hd
      cases hx : xs[k]? with
      | none => rw [hx] at hd; cases hd
      | some x =>
        rw [hx] at hd
        cases hd
        rw [foldl_take hx]
        exact hb k _ x hx (inv k (Nat.le_of_lt (List.getElem?_eq_some_iff.mp hx).1))) hs
  rw [List.length_map, List.take_length] at key
  exact key
end

/-! ### list comprehensions -/
/-- the slots that a block's names have are forgotten -/
def wipeR (ρ : List Sl) : List Nat → List Sl
  | [] => ρ
  | v :: vs => (wipeR ρ vs).set v .un
theorem wipeR_len (ρ : List Sl) : ∀ vs : List Nat, (wipeR ρ vs).length = ρ.length
  | [] => rfl
  | v :: vs => by unfold wipeR; rw [List.length_set, wipeR_len ρ vs]
theorem En.unset {K : PySem.W.Frag} {T : List NTab} {G0 H0 G H : Hp} {ρ : List Sl} {σ : L2.St} (e : En K T G0 H0 G ρ σ H) (i : Nat) : En K T G0 H0 G (ρ.set i .un) (σ.set i none) H where
  grow := e.grow
  len := by rw [List.length_set, List.length_set]; exact e.len
  sl := fun j s h => by
    rcases get_set h with ⟨rfl, rfl, hl⟩ | ⟨hn, h⟩
    · trivial
    · have q := e.sl j s h
      cases s with
      | un => trivial
      | da d => obtain ⟨v, h1, h2⟩ := q; exact ⟨v, by rw [List.getElem?_set_ne (Ne.symm hn)]; exact h1, h2⟩
      | ow k => obtain ⟨a, u, h1, h2⟩ := q; exact ⟨a, u, by rw [List.getElem?_set_ne (Ne.symm hn)]; exact h1, h2⟩
  apart := fun j l k k' a hne h1 h2 h3 => by
    rcases get_set h1 with ⟨_, z, _⟩ | ⟨hn1, h1⟩
    · cases z
    rcases get_set h2 with ⟨_, z, _⟩ | ⟨hn2, h2⟩
    · cases z
    rw [List.getElem?_set_ne (Ne.symm hn1)] at h3
    rw [List.getElem?_set_ne (Ne.symm hn2)]
    exact e.apart j l k k' a hne h1 h2 h3
theorem En.wiped {K : PySem.W.Frag} {T : List NTab} {G0 H0 G H : Hp} {ρ : List Sl} {σ : L2.St} (e : En K T G0 H0 G ρ σ H) : ∀ vs : List Nat, En K T G0 H0 G (wipeR ρ vs) (wipe σ vs) H
  | [] => e
  | v :: vs => by unfold wipeR wipe; exact (e.wiped vs).unset v
theorem wipe_in {σ : L2.St} {i : Nat} : ∀ {vs : List Nat}, i ∈ vs → i < σ.length → (wipe σ vs)[i]? = some none
  | v :: vs, h, hl => by
    unfold wipe
    by_cases e : v = i
    · subst e; rw [List.getElem?_set_self (by rw [wipe_length]; exact hl)]
    · rw [List.getElem?_set_ne e]
      rcases List.mem_cons.mp h with z | z
      · exact absurd z.symm e
      · exact wipe_in z hl
/-- stores at the block's names alone are forgotten with them -/
theorem wipe_same {σ σ' : L2.St} {vs : List Nat} (hl : σ'.length = σ.length) (h : ∀ j : Nat, j ∉ vs → σ'[j]? = (wipe σ vs)[j]?) : wipe σ' vs = wipe σ vs := by
  apply List.ext_getElem?
  intro j
  by_cases hj : j ∈ vs
  · by_cases hl' : j < σ.length
    · rw [wipe_in hj hl', wipe_in hj (by rw [hl]; exact hl')]
    · rw [List.getElem?_eq_none (by rw [wipe_length]; omega), List.getElem?_eq_none (by rw [wipe_length]; omega)]
  · rw [wipe_out hj, h j hj]
/-- one's own new object is written while all else grows -/
theorem Grow.wr {T : List NTab} {G H G' H' : Hp} {D : Addr} {u u' : HO} (g : Grow T G H G' H') (n : H D = none) (gn : G' D = none) (h : H' D = some u) (ht : ∀ ps, u ≠ .tbl ps) (hcd : ∀ c q, u ≠ LamX.CodeO c q) : Grow T G H G' (upd H' D u') where
  le := g.le
  sub := fun a o e => by rw [upd_ne (fun z => by rw [z, gn] at e; cases e)]; exact g.sub a o e
  nt := g.nt
  keep := fun a o e t => by rw [upd_ne (ne_of_none e n)]; exact g.keep a o e t
  tabs := fun p hp => by
    obtain ⟨ps, t1, t2, t3⟩ := g.tabs p hp
    refine ⟨ps, by rw [upd_ne (fun z => by rw [z, h] at t1; exact ht ps (Option.some.inj t1))]; exact t1, t2, fun pos cv hc => ?_⟩
    obtain ⟨c, e1, e2⟩ := t3 pos cv hc
    exact ⟨c, e1, by rw [upd_ne (fun z => by rw [z, h] at e2; exact hcd _ _ (Option.some.inj e2))]; exact e2⟩
  nn := fun a e => by
    by_cases z : a = D
    · rw [z]; exact n
    · rw [upd_ne z] at e; exact g.nn a e
  new := g.new
/-- .. and goes into the ground at the end -/
theorem Grow.fz {T : List NTab} {G H G' H' : Hp} {D : Addr} {u : HO} (g : Grow T G H G' H') (n : H D = none) (gn : G' D = none) (h : H' D = some u) (ht : ∀ ps, u ≠ .tbl ps) : Grow T G H (upd G' D u) H' where
  le := g.le.trans (upd_keep gn)
  sub := fun a o e => by
    by_cases z : a = D
    · subst z; rw [upd_same] at e; cases e; exact h
    · rw [upd_ne z] at e; exact g.sub a o e
  nt := fun a ps e => by
    by_cases z : a = D
    · subst z; rw [upd_same] at e; exact ht ps (Option.some.inj e)
    · rw [upd_ne z] at e; exact g.nt a ps e
  keep := g.keep
  tabs := g.tabs
  nn := g.nn
  new := fun a o e => by
    by_cases z : a = D
    · subst z; exact .inr (.inl n)
    · rw [upd_ne z] at e; exact g.new a o e
theorem Grow.away {T : List NTab} {G H G' H' : Hp} {D : Addr} {u : HO} (g : Grow T G H G' H') (gn : G D = none) (h : H D = some u) (ht : ∀ ps, u ≠ .tbl ps) (hcd : ∀ c q, u ≠ LamX.CodeO c q) : G' D = none := by
  cases z : G' D with
  | none => rfl
  | some o =>
    rcases g.new D o z with y | y | ⟨c, q, y⟩
    · rw [gn] at y; cases y
    · rw [h] at y; cases y
    · have w1 := g.sub D o z
      have w2 := g.keep D u h ht
      rw [w1] at w2
      exact absurd ((Option.some.inj w2).symm.trans y) (hcd c q)
/-- one's own new object is not looked at -/
def hide (H : Hp) (D : Addr) : Hp := fun a => if a = D then none else H a
theorem hide_at {H : Hp} {D : Addr} : hide H D D = none := if_pos rfl
theorem hide_ne {H : Hp} {D a : Addr} (h : a ≠ D) : hide H D a = H a := if_neg h
theorem Grow.cut {T : List NTab} {G H G' H' : Hp} {D : Addr} {u : HO} (g : Grow T G H G' H') (n : H D = none) (gn : G' D = none) (h : H' D = some u) (ht : ∀ ps, u ≠ .tbl ps) (hcd : ∀ c q, u ≠ LamX.CodeO c q) : Grow T G H G' (hide H' D) where
  le := g.le
  sub := fun a o e => by rw [hide_ne (fun z => by rw [z, gn] at e; cases e)]; exact g.sub a o e
  nt := g.nt
  keep := fun a o e t => by rw [hide_ne (ne_of_none e n)]; exact g.keep a o e t
  tabs := fun p hp => by
    obtain ⟨ps, t1, t2, t3⟩ := g.tabs p hp
    refine ⟨ps, by rw [hide_ne (fun z => by rw [z, h] at t1; exact ht ps (Option.some.inj t1))]; exact t1, t2, fun pos cv hc => ?_⟩
    obtain ⟨c, e1, e2⟩ := t3 pos cv hc
    exact ⟨c, e1, by rw [hide_ne (fun z => by rw [z, h] at e2; exact hcd _ _ (Option.some.inj e2))]; exact e2⟩
  nn := fun a e => by
    by_cases z : a = D
    · rw [z]; exact n
    · rw [hide_ne z] at e; exact g.nn a e
  new := g.new
theorem Grow.hid {T : List NTab} {G H G' H' : Hp} {D : Addr} (g : Grow T G H G' H') : Grow T G (hide H D) G' H' where
  le := g.le
  sub := g.sub
  nt := g.nt
  keep := fun a o e t => by
    by_cases z : a = D
    · rw [z, hide_at] at e; cases e
    · rw [hide_ne z] at e; exact g.keep a o e t
  tabs := g.tabs
  nn := fun a e => by
    by_cases z : a = D
    · rw [z]; exact hide_at
    · rw [hide_ne z]; exact g.nn a e
  new := fun a o e => by
    rcases g.new a o e with h | h | h
    · exact .inl h
    · refine .inr (.inl ?_)
      by_cases z : a = D
      · rw [z]; exact hide_at
      · rw [hide_ne z]; exact h
    · exact .inr (.inr h)

section
variable {B : Bs} {ρ : List Sl} {elt tg iter : Expr} {ifs : List Expr} {scope : Scope} {own : List (PySem.Str × Nat)} {pos : Pos} {g : TG} {is : List Nat} {put : List Sl → D → List Sl} {ok : D → Prop}
theorem pts_none {X : Cx} {ifs : List Expr} : PTs X ifs (fun _ _ _ => False) := ⟨fun _ _ _ _ _ _ q => q.elim⟩
theorem pts_fam {X : Cx} {ifs : List Expr} {ι : Type} {t : ι → TT} (h : ∀ z, PTs X ifs (t z)) : PTs X ifs (fun σ H Q => ∃ z, t z σ H Q) := ⟨fun pins s σ H Q I ⟨z, q⟩ => (h z).run pins s σ H Q I q⟩
theorem pts_mono {X : Cx} {ifs : List Expr} {t t' : TT} (h : PTs X ifs t) (k : ∀ σ H Q, t' σ H Q → t σ H Q) : PTs X ifs t' := ⟨fun pins s σ H Q I q => h.run pins s σ H Q I (k σ H Q q)⟩
theorem jts_nil {X : Cx} {B : Bs} {ρ : List Sl} : PTs X [] (tT X.K B ρ true) := pts_mono pts_nil fun σ H Q ⟨G, en, q⟩ => q G H en.base.refl
theorem jts_one {X : Cx} {B : Bs} {ρ : List Sl} {c : Expr} {k : Bool} (h : PT X c (tT X.K B ρ k)) : PTs X [c] (tT X.K B ρ k) := pts_one h
/-- a block's context -/
abbrev Blk (X : Cx) (scope : Scope) (φ : Cx → Prop) : Prop := ∀ (s : Shared) (H : Hp) (C : Addr) (cl : List (PySem.Str × Addr)) (fp : List Addr), φ (X.blk s H scope (compEnvC scope cl C X.env) fp)
theorem map_at {α β : Type} {xs : List α} {em : α → β} {i : Nat} (h : i < xs.length) : (xs.map em)[i]? = some (em xs[i]) := by
  rw [List.getElem?_map, List.getElem?_eq_getElem h]
  rfl
theorem filter_take {α : Type} {xs : List α} {c : α → Bool} {i : Nat} (h : i < xs.length) : (xs.take (i + 1)).filter c = (xs.take i).filter c ++ (if c xs[i] = true then [xs[i]] else []) := by
  rw [List.take_succ, List.getElem?_eq_getElem h, List.filter_append]
  congr 1
  by_cases hcc : c xs[i] = true
  · rw [if_pos hcc]; simp [hcc]
  · rw [if_neg hcc]; simp [hcc]
/-- the reading of a list comprehension -/
theorem lc_read {K : PySem.W.Frag} {α : Type} {xs : List α} {em : α → D} {c : α → Bool} {f : α → D} {vs : List Nat} {σ : L2.St} {H : Hp} {Q : VK} (gok : GOk K g is put ok) (his : ∀ i ∈ is, i ∈ vs) (hok : ∀ x ∈ xs, ok (em x)) (hz : xs.length ≤ sizeLine) (h : tD K B ρ (.lst ((xs.filter c).map f)) σ H Q) :
    tLc (tI K B ρ (xs.map em)) g (fun σ H Q => ∃ z : {p : Nat × α // xs[p.1]? = some p.2}, tT K B (put (wipeR ρ vs) (em z.1.2)) (c z.1.2) σ H Q) (fun σ H Q => ∃ z : {p : Nat × α // xs[p.1]? = some p.2 ∧ c p.2 = true}, tD K B (put (wipeR ρ vs) (em z.1.2)) (f z.1.2) σ H Q) vs σ H Q := by
  obtain ⟨G, en, q⟩ := h
  refine ⟨G, en, fun J G1 H1 g1 W D nD => ?_⟩
  have en1 := en.up g1
  refine ⟨fun i m H' => m = xs.length - i ∧ i ≤ xs.length ∧ ∃ G' acc, Grow B.T G1 H1 G' H' ∧ G' D = none ∧ H' D = some (.lst acc) ∧ RepAll K G' acc (((xs.take i).filter c).map f), ⟨_, rfl, Nat.zero_le _, G1, [], g1.base.own nD, ?_, upd_same, .nil⟩, ?_⟩
  · cases z : G1 D with
    | none => rfl
    | some o => have := g1.sub D o z; rw [nD] at this; cases this
  rintro i m H' ⟨rfl, hi, G', acc, gg, gn, hD, ra⟩
  have hlen : acc.length ≤ i := by
    rw [ra.length, List.length_map]
    refine Nat.le_trans (List.length_filter_le _ _) ?_
    rw [List.length_take]
    exact Nat.min_le_left _ _
  by_cases hlt : i < xs.length
  · have hd : xs[i]? = some xs[i] := List.getElem?_eq_getElem hlt
    obtain ⟨hgo, hy⟩ := W.go i _ G' H' (map_at hlt) gg.le gg.base
    have et := filter_take (c := c) hlt
    refine .inr ⟨hgo, fun H2 => ∃ G2 acc2, Grow B.T G1 H1 G2 H2 ∧ G2 D = none ∧ H2 D = some (.lst acc2) ∧ RepAll K G2 acc2 (((xs.take (i + 1)).filter c).map f), fun H2 ⟨G2, acc2, a1, a2, a3, a4⟩ => ⟨_, by omega, rfl, hlt, G2, acc2, a1, a2, a3, a4⟩, fun x H2 y => ?_⟩
    obtain ⟨G2, g2, rx⟩ := hy x H2 y
    have gg2 := gg.trans g2
    have gn2 := g2.away gn hD (lst_nt _) (lst_nc _)
    have hD2 : H2 D = some (.lst acc) := g2.keep D _ hD (fun ps z => nomatch z)
    refine gok.go B (wipeR ρ vs) (wipe σ vs) G2 H2 x _ _ ((en1.up gg2).wiped vs) rx (hok _ (List.getElem_mem hlt)) fun σ3 en3 hl3 hj => ⟨wipe_same (hl3.trans (wipe_length σ vs)) fun j hjn => hj j fun z => hjn (his j z), ?_⟩
    refine ⟨⟨(i, xs[i]), hd⟩, G2, en3, fun G3 H3 g3 => ?_⟩
    have gg3 := gg2.trans g3
    have gn3 := g3.away gn2 hD2 (lst_nt _) (lst_nc _)
    have hD3 : H3 D = some (.lst acc) := g3.keep D _ hD2 (fun ps z => nomatch z)
    by_cases hcc : c xs[i] = true
    · show (if c xs[i] = true then _ else _)
      rw [if_pos hcc]
      refine ⟨⟨(i, xs[i]), hd, hcc⟩, G3, en3.up g3, fun v G4 H4 g4 rv => ?_⟩
      have gn4 := g4.away gn3 hD3 (lst_nt _) (lst_nc _)
      have hD4 : H4 D = some (.lst acc) := g4.keep D _ hD3 (fun ps z => nomatch z)
      refine ⟨acc, hD4, by omega, G4, acc ++ [v], (gg3.trans g4).wr nD gn4 hD4 (fun ps z => nomatch z) (fun c q z => by unfold LamX.CodeO at z; cases z), gn4, upd_same, ?_⟩
      rw [et, if_pos hcc, List.map_append]
      exact (ra.up ((g2.trans g3).trans g4).le).append (.one rv)
    · show (if c xs[i] = true then _ else _)
      rw [if_neg hcc]
      refine ⟨G3, acc, gg3, gn3, hD3, ?_⟩
      rw [et, if_neg hcc, List.append_nil]
      exact ra.up (g2.trans g3).le
  · have e : i = xs.length := by omega
    subst e
    rw [List.take_length] at ra
    refine .inl ⟨W.stop _ G' H' (by rw [List.length_map]; exact Nat.le_refl _) gg.le gg.base, ?_⟩
    have gf := gg.fz nD gn hD (fun ps z => nomatch z)
    exact q _ _ _ (g1.trans gf) (.lst upd_same (ra.up (upd_keep gn)))
/-- [elt for tg in iter if ..] -/
theorem je_lc {α : Type} {xs : List α} {em : α → D} (c : α → Bool) (f : α → D) (hc : X.calm = true) (hN : X.N.Nodup) (hi : PI X tg iter (tI X.K B ρ (xs.map em))) (bok : BlkOk X.N X.env.scope scope own) (gok : GOk X.K g is put ok) (his : ∀ i ∈ is, i ∈ own.map (·.2)) (hok : ∀ x ∈ xs, ok (em x)) (hz : xs.length ≤ sizeLine)
    (hg : Blk X scope fun Y => PG Y tg g) (ht : ∀ (k : Nat) (x : α), xs[k]? = some x → Blk X scope fun Y => PTs Y ifs (tT X.K B (put (wipeR ρ (own.map (·.2))) (em x)) (c x)))
    (he : ∀ (k : Nat) (x : α), xs[k]? = some x → c x = true → Blk X scope fun Y => PE Y elt (tD X.K B (put (wipeR ρ (own.map (·.2))) (em x)) (f x))) (hs : ∀ x, foldedSetIterable iter X.env x = pure x := by intro _; rfl) :
    PE X (.ListComp elt [⟨tg, iter, ifs, 0⟩] scope pos) (tD X.K B ρ (.lst ((xs.filter c).map f))) :=
  pe_mono (pe_lc hc hN hi bok hg (fun s H C cl fp => pts_fam fun z => ht z.1.1 z.1.2 z.2 s H C cl fp) (fun s H C cl fp => pe_fam fun z => he z.1.1 z.1.2 z.2.1 z.2.2 s H C cl fp) hs) fun σ H Q h => lc_read gok his hok hz h
/-- .. without tests -/
theorem je_lc0 {α : Type} {xs : List α} {em : α → D} (f : α → D) (hc : X.calm = true) (hN : X.N.Nodup) (hi : PI X tg iter (tI X.K B ρ (xs.map em))) (bok : BlkOk X.N X.env.scope scope own) (gok : GOk X.K g is put ok) (his : ∀ i ∈ is, i ∈ own.map (·.2)) (hok : ∀ x ∈ xs, ok (em x)) (hz : xs.length ≤ sizeLine)
    (hg : Blk X scope fun Y => PG Y tg g) (he : ∀ (k : Nat) (x : α), xs[k]? = some x → Blk X scope fun Y => PE Y elt (tD X.K B (put (wipeR ρ (own.map (·.2))) (em x)) (f x))) (hs : ∀ x, foldedSetIterable iter X.env x = pure x := by intro _; rfl) :
    PE X (.ListComp elt [⟨tg, iter, [], 0⟩] scope pos) (tD X.K B ρ (.lst (xs.map f))) := by
  have h := je_lc (ifs := []) (B := B) (ρ := ρ) (pos := pos) (xs := xs) (em := em) (fun _ => true) f hc hN hi bok gok his hok hz hg (fun k x hx s H C cl fp => jts_nil) (fun k x hx _ => he k x hx) hs
  rw [show xs.filter (fun _ => true) = xs by simp] at h
  exact h
/-- y = [elt for tg in iter if ..] on one line -/
theorem js_setLc {α : Type} {xs : List α} {em : α → D} {E : XK} (i : Nat) {y : PySem.Str} {py spos : Pos} (c : α → Bool) (f : α → D) (hc : X.calm = true) (hN : X.N.Nodup) (hi : PI X tg iter (tI X.K B ρ (xs.map em))) (bok : BlkOk X.N X.env.scope scope own) (gok : GOk X.K g is put ok) (his : ∀ i ∈ is, i ∈ own.map (·.2)) (hok : ∀ x ∈ xs, ok (em x)) (hz : xs.length ≤ sizeLine)
    (hg : Blk X scope fun Y => PG Y tg g) (ht : ∀ (k : Nat) (x : α), xs[k]? = some x → Blk X scope fun Y => PTs Y ifs (tT X.K B (put (wipeR ρ (own.map (·.2))) (em x)) (c x)))
    (he : ∀ (k : Nat) (x : α), xs[k]? = some x → c x = true → Blk X scope fun Y => PE Y elt (tD X.K B (put (wipeR ρ (own.map (·.2))) (em x)) (f x))) (hsw : swapsWith (.ListComp elt [⟨tg, iter, ifs, 0⟩] scope pos) (some (.Name y py)) spos.line X.env = pure true)
    (hyl : X.env.scope.names.lookup y = some .local := by rfl) (hy : X.N[i]? = some y := by rfl) (hs : ∀ x, foldedSetIterable iter X.env x = pure x := by intro _; rfl) :
    PS X (.Assign [.Name y py] (.ListComp elt [⟨tg, iter, ifs, 0⟩] scope pos) spos) (tS X.K B E ρ (.nx (ρ.set i (.da (.lst ((xs.filter c).map f)))))) :=
  ps_mono (ps_setLc hc hN hy hyl hsw hi bok hg (fun s H C cl fp => pts_fam fun z => ht z.1.1 z.1.2 z.2 s H C cl fp) (fun s H C cl fp => pe_fam fun z => he z.1.1 z.1.2 z.2.1 z.2.2 s H C cl fp) hs) fun D σ H ⟨G, en, q⟩ =>
    lc_read gok his hok hz ⟨G, en, fun v G1 H1 g1 r => q _ G1 H1 g1.le ((en.up g1).setD r)⟩
theorem js_setLc0 {α : Type} {xs : List α} {em : α → D} {E : XK} (i : Nat) {y : PySem.Str} {py spos : Pos} (f : α → D) (hc : X.calm = true) (hN : X.N.Nodup) (hi : PI X tg iter (tI X.K B ρ (xs.map em))) (bok : BlkOk X.N X.env.scope scope own) (gok : GOk X.K g is put ok) (his : ∀ i ∈ is, i ∈ own.map (·.2)) (hok : ∀ x ∈ xs, ok (em x)) (hz : xs.length ≤ sizeLine)
    (hg : Blk X scope fun Y => PG Y tg g) (he : ∀ (k : Nat) (x : α), xs[k]? = some x → Blk X scope fun Y => PE Y elt (tD X.K B (put (wipeR ρ (own.map (·.2))) (em x)) (f x))) (hsw : swapsWith (.ListComp elt [⟨tg, iter, [], 0⟩] scope pos) (some (.Name y py)) spos.line X.env = pure true)
    (hyl : X.env.scope.names.lookup y = some .local := by rfl) (hy : X.N[i]? = some y := by rfl) (hs : ∀ x, foldedSetIterable iter X.env x = pure x := by intro _; rfl) :
    PS X (.Assign [.Name y py] (.ListComp elt [⟨tg, iter, [], 0⟩] scope pos) spos) (tS X.K B E ρ (.nx (ρ.set i (.da (.lst (xs.map f)))))) := by
  have h := js_setLc (ifs := []) (B := B) (ρ := ρ) (E := E) (pos := pos) (spos := spos) (py := py) (y := y) (xs := xs) (em := em) i (fun _ => true) f hc hN hi bok gok his hok hz hg (fun k x hx s H C cl fp => jts_nil) (fun k x hx _ => he k x hx) hsw hyl hy hs
  rw [show xs.filter (fun _ => true) = xs by simp] at h
  exact h
end
end DL
end
section
set_option Elab.async false
set_option linter.all false
set_option maxRecDepth 100000
set_option maxHeartbeats 4000000
/-! D-layer 5: what the module's names are, defs as they are called. -/
namespace DL
open PySem PySem.Spec PyProof.Rows L2 NdefX
/-- the built-ins that the text uses are not covered by the module -/
structure Blt (mg : PySem.Str → Option Value) : Prop where
  len : mg "len" = none
  range : mg "range" = none
  list : mg "list" = none
  tuple : mg "tuple" = none
  sorted : mg "sorted" = none
  int : mg "int" = none
  bool : mg "bool" = none
  zip : mg "zip" = none
  enumerate : mg "enumerate" = none
  max : mg "max" = none
  set : mg "set" = none
  isinstance : mg "isinstance" = none
/-- a def of the text, known to the module by its name -/
structure Dfn (K : PySem.W.Frag) (mg : PySem.Str → Option Value) (x : PySem.Str) (st : Stmt) (ps : List PySem.Str) : Prop where
  ex : ∃ (f : Addr) (fd : FuncData), Fun K x x st f fd ∧ mg x = some (.ref f) ∧ Binds K fd ps []
/-- .. with its promise -/
structure Cal (P : Program) (w : World) (K : PySem.W.Frag) (mg : PySem.Str → Option Value) (base : Heap) (T : List NTab) (k : Nat) (x : PySem.Str) (ps : List PySem.Str) (R : List D → D → Prop) : Prop where
  ex : ∃ (f : Addr) (fd : FuncData), FnOk P w K mg base CX0 k f fd ps (spD K T R) ∧ mg x = some (.ref f) ∧ PySem.W.keepIn K (.ref f) = true ∧ Binds K fd ps []
section
variable {P : Program} {w : World} {K : PySem.W.Frag} {mg : PySem.Str → Option Value} {base : Heap} {T : List NTab} {k : Nat} {x : PySem.Str} {ps : List PySem.Str} {R : List D → D → Prop}
/-- THE RULE for a def of the module -/
theorem cal_D {st : Stmt} {N : List PySem.Str} (F : Dfn K mg x st ps) (S : FnScope N ps (defScope st)) (len : ∀ ds d, R ds d → ds.length = ps.length)
    (hbody : ∀ (f : Addr) (cdv : Value) (A : Around) (outer : List Env) (s : Shared) (H G : Hp) (E : XK) (ds : List D) (d : D), Room k (A.deeper (envOfC x (defScope st) s.heap.objs.size f cdv)) → R ds d →
      PSs (cxOf CX0 P w K mg base N x (defScope st) f cdv A outer s H E).nox (defBody st) (tS K ⟨T, G, H⟩ E0 (env0 N.length ds) (.rt d))) : Cal P w K mg base T (k + 1) x ps R := by
  obtain ⟨f, fd, F, hm, hb⟩ := F.ex
  exact ⟨f, fd, fn_D F S len (hbody f), hm, F.kp, hb⟩
theorem Cal.mono {j : Nat} (C : Cal P w K mg base T j x ps R) (h : j ≤ k) : Cal P w K mg base T k x ps R := by
  obtain ⟨f, fd, F, r⟩ := C.ex
  exact ⟨f, fd, F.mono h, r⟩
theorem Cal.imp {R' : List D → D → Prop} (C : Cal P w K mg base T k x ps R) (h : ∀ ds d, R' ds d → R ds d) : Cal P w K mg base T k x ps R' := by
  obtain ⟨f, fd, F, r⟩ := C.ex
  exact ⟨f, fd, F.imp fun vs H Q E ⟨G, ds, d, b, rs, hR, q⟩ => ⟨G, ds, d, b, rs, h ds d hR, q⟩, r⟩
end
variable {X : Cx} {B : Bs} {ρ : List Sl} {d : D} {ds : List D}
/-- a def of the module called -/
theorem je_fn {k j : Nat} {ps : List PySem.Str} {R : List D → D → Prop} {x : PySem.Str} {p pos : Pos} {e : Expr} {es : List Expr} (C : Cal X.prog X.w X.K X.mg X.base B.T j x ps R) (hr : Room k X.A) (hj : j ≤ k) (hg : Gl X x) (hR : R ds d) (ha : PA X (e :: es) (tDs X.K B ρ ds)) (hdb : (x == ("__debug__" : PySem.Str)) = false := by decide)
    (he : starEach (e :: es) X.env = (false, eval e X.env) :: starEach es X.env := by rfl) (hpl : (backTo pos (starEach es X.env)).any (·.1) = false := by rfl) : PE X (.Call (.Name x p) (e :: es) [] pos) (tD X.K B ρ d) := by
  obtain ⟨f, fd, F, hm, hk, hb⟩ := C.ex
  exact je_call F (hr.mono hj) hg hm hk hb hR ha hdb he hpl
end DL
end
section
set_option Elab.async false
set_option linter.all false
set_option maxRecDepth 100000
set_option maxHeartbeats 4000000
/-! D-layer 6: set comprehensions of ints, with one clause and with two. -/
namespace DL
open PySem PySem.Spec PyProof.Rows L2 NdefX
variable {X : Cx}

/-- an int goes into the set at A -/
theorem addI {pins : List (Addr × Obj)} {σ : L2.St} {H : Hp} {s : Shared} {E : Value → Shared → Prop} {A : Addr} {S : Int → Bool} {n : Nat} {y : Int} {u : Value} {Q : Value → Shared → Prop} (I : Inv X pins σ H s) (hA : H A = some (SetO X.w A S n)) (few : n + 1 < scanBound) (ru : RelV (.int y) u)
    (h : ∀ s', Inv X pins σ (upd H A (SetO X.w A (fun j => S j || decide (j = y)) (if S y = true then n else n + 1))) s' → Q .none s') : wpAny (model X.prog X.w) X.A (call (.builtin "set.add") [.ref A, u]) Q E s := by
  obtain ⟨tk, rfl⟩ := ru
  refine setR_add (setO_get I hA) few fun h' sb new => h _ ?_
  have there : ∃ o, h'.get? A = some o := by
    have ⟨o, _, _, _, ho, _⟩ := new
    exact ⟨o, ho⟩
  exact I.write (e := A) (t' := s.toks + 1) (by rw [hA]; trivial) (.inl rfl) (fun b v hb hv => (sb.2 b hb).trans hv) there (setO_new new)

/-! ### the machine's turns of a block with two clauses -/
theorem setTurn_a (elt t0 i0 t1 i1 : Expr) (c0 c1 : List Expr) (sc : Scope) (pos : Pos) (it acc : Value) (env : Env) :
    compTurn (.SetComp elt [⟨t0, i0, c0, 0⟩, ⟨t1, i1, c1, 0⟩] sc pos) 0 it acc env = (do
      standAt i0.pos
      match ← pyNext it with
      | none => pure (.done .next)
      | some v =>
        letOwnedTupleGo t0 it v
        assign t0 env v
        let mut ok := true
        for c in c0 do
          if ok then ok ← isTrue c env (eval c env)
        if ok then
          let x ← eval i1 env
          standAt i1.pos
          let x ← foldedSetIterable i1 env x
          let _ ← runOwn (.compStart (.SetComp elt [⟨t0, i0, c0, 0⟩, ⟨t1, i1, c1, 0⟩] sc pos) 1 (← holding [x] (pyIter x)) acc env) env
        again (.compLoop (.SetComp elt [⟨t0, i0, c0, 0⟩, ⟨t1, i1, c1, 0⟩] sc pos) 0 it acc env)) := by rfl
theorem setTurn_b (elt t0 i0 t1 i1 : Expr) (c0 c1 : List Expr) (sc : Scope) (pos : Pos) (it acc : Value) (env : Env) :
    compTurn (.SetComp elt [⟨t0, i0, c0, 0⟩, ⟨t1, i1, c1, 0⟩] sc pos) 1 it acc env = (do
      standAt i1.pos
      match ← pyNext it with
      | none => pure (.done .next)
      | some v =>
        letOwnedTupleGo t1 it v
        assign t1 env v
        let mut ok := true
        for c in c1 do
          if ok then ok ← isTrue c env (eval c env)
        if ok then
          (do let v ← eval elt env; standAt elt.pos; let _ ← call (.builtin "set.add") [acc, v])
        again (.compLoop (.SetComp elt [⟨t0, i0, c0, 0⟩, ⟨t1, i1, c1, 0⟩] sc pos) 1 it acc env)) := by rfl
section
variable {prog : Program} {w : World} {A : Around} {R : Result → Shared → Prop} {s : Shared} {elt t0 i0 t1 i1 : Expr} {c0 c1 : List Expr} {sc : Scope} {pos : Pos} {it acc : Value} {env : Env}
/-- the tests of a clause -/
abbrev clauseTests (cs : List Expr) (env : Env) : Sem Bool := forIn cs true fun c r => if r = true then do let ok ← isTrue c env (eval c env); pure (ForInStep.yield ok) else pure (ForInStep.yield r)
theorem setLoop_a (hs : ∀ x, foldedSetIterable i1 env x = pure x) (I : Nat → Shared → Prop)
    (turn : ∀ n s, I n s → wpAny (model prog w) A (pyNext it) (fun r sa => match r with
      | none => R (.ok .next) sa
      | some v => wpAny (model prog w) A (letOwnedTupleGo t0 it v) (fun _ sb => wpAny (model prog w) A (assign t0 env v) (fun _ sc' => wpAny (model prog w) A (clauseTests c0 env) (fun ok sd =>
            if ok = true then wpAny (model prog w) A (eval i1 env) (fun x se => wpAny (model prog w) A (pyIter x) (fun it1 sf =>
              codeAny (model prog w) A (.compStart (.SetComp elt [⟨t0, i0, c0, 0⟩, ⟨t1, i1, c1, 0⟩] sc pos) 1 it1 acc env) (fun r s' => match r with
                | .ok _ => ∃ m, m < n ∧ I m s'
                | .error _ => False) sf) (fun _ _ => False) se) (fun _ _ => False) sd
            else ∃ m, m < n ∧ I m sd) (fun _ _ => False) sc') (fun _ _ => False) sb) (fun _ _ => False) sa) (fun _ _ => False) s)
    (n : Nat) (h : I n s) : codeAny (model prog w) A (.compLoop (.SetComp elt [⟨t0, i0, c0, 0⟩, ⟨t1, i1, c1, 0⟩] sc pos) 0 it acc env) R s := by
  refine codeAny_loop rfl I (fun n s hI => ?_) n h
  show wpAny _ A ((compTurn (.SetComp elt [⟨t0, i0, c0, 0⟩, ⟨t1, i1, c1, 0⟩] sc pos) 0 it acc env).onRaise (fun x => do noteFrame x env; theTreesLotGoes x)) _ _ s
  refine wpAny_noted ?_
  rw [setTurn_a]
  have no : ∀ {e : Value} {s' : Shared}, False → notedBy (model prog w) A env (fun e s' => R (.error e) s') e s' := fun z => z.elim
  refine wpAny_bind (wpAny_standAt (wpAny_bind (wpAny_mono (turn n s hI) (fun r sa ha => ?_) fun _ _ z => no z)))
  cases r with
  | none => exact wpAny_pure ha
  | some v =>
    refine wpAny_bind (wpAny_mono ha (fun _ sb hb => ?_) fun _ _ z => no z)
    refine wpAny_bind (wpAny_mono hb (fun _ sc' hc => ?_) fun _ _ z => no z)
    refine wpAny_bind (wpAny_mono hc (fun ok sd hd => ?_) fun _ _ z => no z)
    cases ok with
    | false => exact wpAny_pure ⟨rfl, hd⟩
    | true =>
      have hd : wpAny (model prog w) A (eval i1 env) _ _ sd := hd
      refine wpAny_bind (wpAny_mono hd (fun x se he => ?_) fun _ _ z => no z)
      refine wpAny_bind (wpAny_standAt (wpAny_bind (wpAny_of_eq (hs x) (wpAny_bind (wpAny_holding (wpAny_mono he (fun it1 sf hf => ?_) fun _ _ z => no z))))))
      refine wpAny_bind (wpAny_runOwn ?_)
      rw [Around.mark_none]
      refine codeAny_mono hf fun r s' hr => ?_
      cases r with
      | ok f =>
        first
          | exact wpAny_pure ⟨rfl, hr⟩
          | exact wpAny_bind (wpAny_pure (wpAny_pure ⟨rfl, hr⟩))
      | error e => exact hr.elim
theorem setLoop_b (I : Nat → Shared → Prop)
    (turn : ∀ n s, I n s → wpAny (model prog w) A (pyNext it) (fun r sa => match r with
      | none => R (.ok .next) sa
      | some v => wpAny (model prog w) A (letOwnedTupleGo t1 it v) (fun _ sb => wpAny (model prog w) A (assign t1 env v) (fun _ sc' => wpAny (model prog w) A (clauseTests c1 env) (fun ok sd =>
            if ok = true then wpAny (model prog w) A (eval elt env) (fun x se => wpAny (model prog w) A (call (.builtin "set.add") [acc, x]) (fun _ sf => ∃ m, m < n ∧ I m sf) (fun _ _ => False) se) (fun _ _ => False) sd
            else ∃ m, m < n ∧ I m sd) (fun _ _ => False) sc') (fun _ _ => False) sb) (fun _ _ => False) sa) (fun _ _ => False) s)
    (n : Nat) (h : I n s) : codeAny (model prog w) A (.compLoop (.SetComp elt [⟨t0, i0, c0, 0⟩, ⟨t1, i1, c1, 0⟩] sc pos) 1 it acc env) R s := by
  refine codeAny_loop rfl I (fun n s hI => ?_) n h
  show wpAny _ A ((compTurn (.SetComp elt [⟨t0, i0, c0, 0⟩, ⟨t1, i1, c1, 0⟩] sc pos) 1 it acc env).onRaise (fun x => do noteFrame x env; theTreesLotGoes x)) _ _ s
  refine wpAny_noted ?_
  rw [setTurn_b]
  have no : ∀ {e : Value} {s' : Shared}, False → notedBy (model prog w) A env (fun e s' => R (.error e) s') e s' := fun z => z.elim
  refine wpAny_bind (wpAny_standAt (wpAny_bind (wpAny_mono (turn n s hI) (fun r sa ha => ?_) fun _ _ z => no z)))
  cases r with
  | none => exact wpAny_pure ha
  | some v =>
    refine wpAny_bind (wpAny_mono ha (fun _ sb hb => ?_) fun _ _ z => no z)
    refine wpAny_bind (wpAny_mono hb (fun _ sc' hc => ?_) fun _ _ z => no z)
    refine wpAny_bind (wpAny_mono hc (fun ok sd hd => ?_) fun _ _ z => no z)
    cases ok with
    | false => exact wpAny_pure ⟨rfl, hd⟩
    | true =>
      have hd : wpAny (model prog w) A (eval elt env) _ _ sd := hd
      refine wpAny_bind (wpAny_bind (wpAny_mono hd (fun x se he => ?_) fun _ _ z => no z))
      exact wpAny_bind (wpAny_standAt (wpAny_bind (wpAny_mono he (fun _ sf hf => wpAny_pure (wpAny_pure ⟨rfl, hf⟩)) fun _ _ z => no z)))
theorem setStart_b (h0 : codeAny (model prog w) A (.compLoop (.SetComp elt [⟨t0, i0, c0, 0⟩, ⟨t1, i1, c1, 0⟩] sc pos) 1 it acc env) R s)
    (h : wpAny (model prog w) A (pyIter it) (fun it' s' => codeAny (model prog w) A (.compLoop (.SetComp elt [⟨t0, i0, c0, 0⟩, ⟨t1, i1, c1, 0⟩] sc pos) 1 it' acc env) R s') (notedBy (model prog w) A env fun x s' => R (.error x) s') s) :
    codeAny (model prog w) A (.compStart (.SetComp elt [⟨t0, i0, c0, 0⟩, ⟨t1, i1, c1, 0⟩] sc pos) 1 it acc env) R s := by
  refine codeAny_of_tree ?_
  show wpAny _ _ ((compStart (.SetComp elt [⟨t0, i0, c0, 0⟩, ⟨t1, i1, c1, 0⟩] sc pos) 1 it acc env).onRaise (fun x => do noteFrame x env; standAt theWindowsPlace)) _ _ s
  refine wpAny_notedAt ?_
  unfold compStart
  show wpAny _ _ (ask >>= _) _ _ s
  refine wpAny_bind (wpAny_askSetting (wpAny_ite ?_))
  split
  · first
      | exact wpAny_bind (wpAny_pure (wpAny_pure (And.intro rfl h0)))
      | exact wpAny_pure (And.intro rfl h0)
  · refine wpAny_bind (wpAny_rule ?_)
    show wpAny _ _ (standAt i1.pos >>= _) _ _ s
    exact wpAny_bind (wpAny_standAt (wpAny_bind (wpAny_mono h (fun it' s' h' => wpAny_pure (And.intro rfl h')) fun _ _ x => x)))
end

/-! ### what is asked of a block of one clause -/
/-- {elt for target in iter if ..} of ints, the set at A -/
def tSi (w : World) (wi : TI) (g : TG) (tt : TT) (te : TE) (vs : List Nat) : TE := fun σ H Q => wi σ H fun J Ha => ∀ A, Ha A = none → ∃ W : Nat → Nat → Hp → Prop, (∃ m, W 0 m (upd Ha A (SetO w A (fun _ => false) 0))) ∧ ∀ i m H, W i m H →
  (J.stop i H ∧ Q (.ref A) H) ∨ (J.go i H ∧ ∃ Nx : Hp → Prop, (∀ H', Nx H' → ∃ m', m' < m ∧ W (i + 1) m' H') ∧ ∀ x H', J.yld i H x H' → g x (wipe σ vs) H' fun σ2 H2 => wipe σ2 vs = wipe σ vs ∧ tt σ2 H2 fun b H3 =>
    if b = true then te σ2 H3 fun y H4 => ∃ (c : Int) (S : Int → Bool) (n : Nat), y = .int c ∧ H4 A = some (SetO w A S n) ∧ n + 1 < scanBound ∧ Nx (upd H4 A (SetO w A (fun j => S j || decide (j = c)) (if S c = true then n else n + 1))) else Nx H3)
/-- .. of two clauses -/
def tSi2 (w : World) (wi : TI) (g : TG) (tt : TT) (wi1 : TI) (g1 : TG) (tt1 : TT) (te : TE) (vs vs1 : List Nat) : TE := fun σ H Q => wi σ H fun J Ha => ∀ A, Ha A = none → ∃ W : Nat → Nat → Hp → Prop, (∃ m, W 0 m (upd Ha A (SetO w A (fun _ => false) 0))) ∧ ∀ i m H, W i m H →
  (J.stop i H ∧ Q (.ref A) H) ∨ (J.go i H ∧ ∃ Nx : Hp → Prop, (∀ H', Nx H' → ∃ m', m' < m ∧ W (i + 1) m' H') ∧ ∀ x H', J.yld i H x H' → g x (wipe σ vs) H' fun σ2 H2 => wipe σ2 vs = wipe σ vs ∧ tt σ2 H2 fun b H3 =>
    if b = true then wi1 σ2 H3 fun J1 H4 => ∃ W1 : Nat → Nat → Hp → Prop, (∃ m, W1 0 m H4) ∧ ∀ j k H, W1 j k H →
      (J1.stop j H ∧ Nx H) ∨ (J1.go j H ∧ ∃ Nx1 : Hp → Prop, (∀ H', Nx1 H' → ∃ k', k' < k ∧ W1 (j + 1) k' H') ∧ ∀ x H', J1.yld j H x H' → g1 x (wipe σ2 vs1) H' fun σ3 H5 => wipe σ3 vs1 = wipe σ2 vs1 ∧ tt1 σ3 H5 fun b H6 =>
        if b = true then te σ3 H6 fun y H7 => ∃ (c : Int) (S : Int → Bool) (n : Nat), y = .int c ∧ H7 A = some (SetO w A S n) ∧ n + 1 < scanBound ∧ Nx1 (upd H7 A (SetO w A (fun j => S j || decide (j = c)) (if S c = true then n else n + 1))) else Nx1 H6)
    else Nx H3)

/-- what both blocks have at their start -/
structure SetBlk (X : Cx) (pins : List (Addr × Obj)) (σ : L2.St) (scope : Scope) (own : List (PySem.Str × Nat)) (fp : List Addr) (s3 : Shared) (H3 : Hp) (ce : Env) (s4 : Shared) : Prop where
  outer : Inv X pins σ H3 s3
  inner : Inv (X.blk s3 H3 scope ce fp) [] (wipe σ (own.map (·.2))) H3 s4
  loc : ce.locals = s3.heap.objs.size
  fps : ∀ b ∈ fp, FpOk X pins H3 b
section
variable {pins : List (Addr × Obj)} {σ : L2.St} {scope : Scope} {own : List (PySem.Str × Nat)} {fp : List Addr} {s3 s4 : Shared} {H3 : Hp} {ce : Env}
theorem SetBlk.fpk (Z : SetBlk X pins σ scope own fp s3 H3 ce s4) {pl : List (Addr × Obj)} {σ' : L2.St} {H' : Hp} {s' : Shared} (J : Inv (X.blk s3 H3 scope ce fp) [] σ' H' s') (hn : ∀ b ∈ fp, H' b = none) : ∀ b ∈ fp, FpOk (X.blk s3 H3 scope ce fp) [] H' b := fun b hb =>
  ⟨hn b hb, (J.ok.exf b hb).1, J.ok.exfs b hb, .inl hb, fun x c e => (J.ok.exf b hb).2 x c e, fun p hp => absurd (show p ∈ ([] : List (Addr × Obj)) ++ [] from hp) (by simp)⟩
/-- back in the def's context when the block's walk has ended -/
theorem SetBlk.back (Z : SetBlk X pins σ scope own fp s3 H3 ce s4) {H' : Hp} {s' : Shared} {σ' : L2.St} (J : Inv (X.blk s3 H3 scope ce fp) [] σ' H' s') : Inv X pins σ H' s' ∧ (∃ m, s'.heap.Ns s3.heap.objs.size m) ∧ FpOk X pins H' s3.heap.objs.size := by
  refine ⟨Z.outer.call' (ch := fp) J.os J.base J.hok J.bare fun b hb => ⟨(Z.fps b hb).2.2.2.1, (Z.fps b hb).2.1, (Z.fps b hb).2.2.2.2.1, (Z.fps b hb).2.2.2.2.2⟩, ?_, ?_⟩
  · obtain ⟨m, hn, _⟩ := J.loc
    have hn : s'.heap.Ns ce.locals m := hn
    rw [Z.loc] at hn
    exact ⟨m, hn⟩
  · have z : H' ce.locals = none := J.free
    rw [Z.loc] at z
    exact Z.outer.fpOk (Nat.le_refl _) z
/-- a turn's end: the walk's own objects stand as they were pinned -/
theorem SetBlk.endT (Z : SetBlk X pins σ scope own fp s3 H3 ce s4) {tn : Nat → Heap → Prop} {tg : Expr} {J : It} {it : Addr} (T : Turn X.prog X.w X.K tg J fp it tn) {i : Nat} {s7 s' : Shared} {σ8 : L2.St} {H' : Hp} (st7 : tn (i + 1) s7.heap)
    (I' : Inv (X.blk s3 H3 scope ce fp) ([] ++ pinsAt fp s7.heap) σ8 H' s') (hl : (wipe σ (own.map (·.2))).length = σ8.length) (hk : ∀ (j : Nat) v, (wipe σ (own.map (·.2)))[j]? = some (some v) → σ8[j]? = some (some v)) :
    Inv (X.blk s3 H3 scope ce fp) [] (wipe σ (own.map (·.2))) H' s' ∧ tn (i + 1) s'.heap ∧ ∀ b ∈ fp, H' b = none := by
  have pin' : ∀ b ∈ fp, ∀ o, s7.heap.get? b = some o → s'.heap.get? b = some o ∧ H' b = none := fun b hb o e =>
    let z := I'.pin (b, o) (List.mem_append_right _ (List.mem_append_right _ (mem_pinsAt hb e)))
    ⟨z.1, z.2.1⟩
  refine ⟨(I'.unpinned (pins := [])).weak hl hk, T.keep _ _ _ st7 fun b hb o e => (pin' b hb o e).1, fun b hb => ?_⟩
  obtain ⟨o, e, _⟩ := T.obj _ _ st7 b hb
  exact (pin' b hb o e).2
end
section
variable {pins : List (Addr × Obj)} {s : Shared} {σ : L2.St} {H : Hp} {Q : VK} {elt tg iter tg1 iter1 : Expr} {ifs ifs1 : List Expr} {scope : Scope} {own : List (PySem.Str × Nat)} {vs1 : List Nat} {pos pos' : Pos} {wi wi1 : TI} {g g1 : TG} {tt tt1 : TT} {te : TE} {use : Option (Value → Sem Unit)} {Qf : Value → Shared → Prop}
theorem sc1_core (hc : X.calm = true) (hN : X.N.Nodup) (I : Inv X pins σ H s) (hi : PI X tg iter wi) (bok : BlkOk X.N X.env.scope scope own) (hg : Blk X scope fun Y => PG Y tg g) (ht : Blk X scope fun Y => PTs Y ifs tt) (he : Blk X scope fun Y => PE Y elt te) (hs : ∀ x, foldedSetIterable iter X.env x = pure x)
    (h : tSi X.w wi g tt te (own.map (·.2)) σ H Q) (hend : ∀ D C s' m H', Inv X pins σ H' s' → Q (.ref D) H' → s'.heap.Ns C m → FpOk X pins H' C → compPost (model X.prog X.w) X.A X.xe use Qf (.ref D) C (.ok .next) s') :
    wpAny (model X.prog X.w) X.A (comprehension (.SetComp elt [⟨tg, iter, ifs, 0⟩] scope pos) scope X.env pos' (newSet (.type "set")) false (eval iter X.env) use) Qf X.xe s := by
  have clo : ∀ y ∈ scope.names, y.2 = .free → ∃ c, X.env.cells.lookup y.1 = some c := fun y hy e => (bok.free y hy e).elim (fun k => I.ok.has _ (.inl k)) fun k => I.ok.has _ (.inr k)
  refine wpAny_comprehension_free (use := use) rfl hs (closure_ok clo) bok.kind (fun y hy e => by rw [bok.uniq y hy, e]) (thn (hi.run pins s σ H _ I h) fun xv s1 hx => thn hx fun itv s2 h2 => ?_)
  obtain ⟨it, fp, tn, J, H2, e, I2, T, st2, f2, q⟩ := h2
  subst e
  refine PpSet.newSet_ok (newEnv_comp ?_)
  generalize hD : s2.heap.objs.size = D
  have nD : H2 D = none := I2.hok.fresh (Nat.le_of_eq hD)
  obtain ⟨W, ⟨m0, w0⟩, turn⟩ := q D nD
  generalize hs3 : ({ s2 with heap := s2.heap.push { cls := .type "set", dict := none, data := .set #[] 0 (.fresh 0 0 (!X.w.params.followText "set-order")) } } : Shared) = s3
  have hh3 : s3.heap = s2.heap.push { cls := .type "set", dict := none, data := .set #[] 0 (.fresh 0 0 (!X.w.params.followText "set-order")) } := by rw [← hs3]
  generalize hH3 : upd H2 D (SetO X.w D (fun _ => false) 0) = H3 at w0
  have I3 : Inv X pins σ H3 s3 := by
    rw [← hs3, ← hH3]
    exact I2.laid (t' := s2.toks) (fun b o e => Heap.get?_push_of_some _ e) (Nat.le_of_eq hD) (by rw [← hD]; exact setO_new (setR_fresh X.w))
  have sz : ∀ b ∈ fp, b < s2.heap.objs.size := fun b hb => let ⟨_, e, _⟩ := T.obj _ _ st2 b hb; Heap.lt_size e
  have f3 : ∀ b ∈ fp, FpOk X pins H3 b ∧ b < s3.heap.objs.size := fun b hb => by
    refine ⟨⟨?_, (f2 b hb).2⟩, by rw [hh3, Heap.size_push]; exact Nat.lt_succ_of_lt (sz b hb)⟩
    rw [← hH3, upd_ne (by rw [← hD]; exact Nat.ne_of_lt (sz b hb))]
    exact (f2 b hb).1
  have st3 : tn 0 s3.heap := T.keep _ _ _ st2 fun b _ o e => by rw [hh3]; exact Heap.get?_push_of_some _ e
  have I4 := block_start I3 bok hN f3
  show codeAny _ _ (.compStart (.SetComp elt [⟨tg, iter, ifs, 0⟩] scope pos) 0 (.ref it) (.ref D) (compEnvC scope (cellsFrom (s3.heap.objs.size + 1) scope.names (cloFrom X.env.cells scope.names [])) s3.heap.objs.size X.env)) (compPost (model X.prog X.w) X.A X.xe use Qf (.ref D) s3.heap.objs.size) { s3 with heap := pushCells (s3.heap.push { cls := .type "dict", data := .dict #[] }) scope.names }
  have pg := hg s3 H3 s3.heap.objs.size (cellsFrom (s3.heap.objs.size + 1) scope.names (cloFrom X.env.cells scope.names [])) fp
  have pt := ht s3 H3 s3.heap.objs.size (cellsFrom (s3.heap.objs.size + 1) scope.names (cloFrom X.env.cells scope.names [])) fp
  have pe := he s3 H3 s3.heap.objs.size (cellsFrom (s3.heap.objs.size + 1) scope.names (cloFrom X.env.cells scope.names [])) fp
  generalize hce : compEnvC scope (cellsFrom (s3.heap.objs.size + 1) scope.names (cloFrom X.env.cells scope.names [])) s3.heap.objs.size X.env = ce at I4 pg pt pe ⊢
  generalize hs4 : ({ s3 with heap := pushCells (s3.heap.push { cls := .type "dict", data := .dict #[] }) scope.names } : Shared) = s4 at I4 ⊢
  have st4 : tn 0 s4.heap := T.keep _ _ _ st3 fun b _ o e => by rw [← hs4]; exact pushCells_keeps _ _ _ _ (Heap.get?_push_of_some _ e)
  have Z : SetBlk X pins σ scope own fp s3 H3 ce s4 := ⟨I3, I4, by subst hce; rfl, fun b hb => (f3 b hb).1⟩
  have loop : codeAny (model X.prog X.w) X.A (.compLoop (.SetComp elt [⟨tg, iter, ifs, 0⟩] scope pos) 0 (.ref it) (.ref D) ce) (compPost (model X.prog X.w) X.A X.xe use Qf (.ref D) s3.heap.objs.size) s4 := by
    refine PpSet.compLoopS_any (fun n s' => ∃ i H', Inv (X.blk s3 H3 scope ce fp) [] (wipe σ (own.map (·.2))) H' s' ∧ tn i s'.heap ∧ (∀ b ∈ fp, H' b = none) ∧ W i n H') ?_ m0 ⟨0, H3, I4, st4, fun b hb => (f3 b hb).1.1, w0⟩
    rintro n s5 ⟨i, H5, I5, st5, n5, w5⟩
    rcases turn i n H5 w5 with ⟨stop, qq⟩ | ⟨go, Nx, hNx, step⟩
    · refine thnF (T.done (X.blk s3 H3 scope ce fp) rfl rfl rfl hc i [] s5 _ H5 (fun _ _ => False) I5 (Z.fpk (pl := []) I5 n5) st5 stop) fun r s6 ⟨hr, I6⟩ => ?_
      subst hr
      obtain ⟨I7, ⟨m, hm⟩, hC⟩ := Z.back I6
      exact hend D s3.heap.objs.size s6 m H5 I7 qq hm hC
    · refine thnF (T.item (X.blk s3 H3 scope ce fp) rfl rfl rfl hc i [] s5 _ H5 (fun _ _ => False) I5 (Z.fpk (pl := []) I5 n5) st5 go) fun r s6 ⟨u, hr, h6⟩ => ?_
      subst hr
      refine thnF h6 fun _ s7 ⟨x, H7, I7, r7, y7, st7, n7⟩ => ?_
      have J7 := I7.pinned (Z.fpk (pl := []) I7 n7) (T.obj _ _ st7)
      refine thnF (pg.run _ s7 _ H7 x u _ J7 r7 (step x H7 y7)) fun _ s8 ⟨σ8, H8, I8, hw8, q8⟩ => ?_
      refine thnF (pt.run _ s8 σ8 H8 _ I8 q8) fun b s9 ⟨H9, I9, q9⟩ => ?_
      have fin : ∀ {s' : Shared} {H' : Hp}, Inv (X.blk s3 H3 scope ce fp) ([] ++ pinsAt fp s7.heap) σ8 H' s' → Nx H' → ∃ m, m < n ∧ ∃ i H', Inv (X.blk s3 H3 scope ce fp) [] (wipe σ (own.map (·.2))) H' s' ∧ tn i s'.heap ∧ (∀ b ∈ fp, H' b = none) ∧ W i m H' := fun {s' H'} I' nx => by
        obtain ⟨m', hm, w'⟩ := hNx H' nx
        obtain ⟨z1, z2, z3⟩ := Z.endT T st7 I' (by rw [← hw8, wipe_length]) (fun j v e => by rw [← hw8] at e; exact (wipe_some e).1)
        exact ⟨m', hm, i + 1, H', z1, z2, z3, w'⟩
      cases b with
      | false => exact fin I9 q9
      | true =>
        refine thnF (pe.run _ s9 σ8 H9 _ I9 q9) fun z s10 ⟨yv, H10, I10, r10, c, S0, n0, ey, hD10, few, nx⟩ => ?_
        subst ey
        exact addI (X := X.blk s3 H3 scope ce fp) I10 hD10 few r10 fun s11 I11 => fin I11 nx
  exact PpSet.codeAny_compStart_set loop (T.self X.A 0 _ _ _ st4 loop)
theorem pe_sc1 (hc : X.calm = true) (hN : X.N.Nodup) (hi : PI X tg iter wi) (bok : BlkOk X.N X.env.scope scope own) (hg : Blk X scope fun Y => PG Y tg g) (ht : Blk X scope fun Y => PTs Y ifs tt) (he : Blk X scope fun Y => PE Y elt te) (hs : ∀ x, foldedSetIterable iter X.env x = pure x) :
    PE X (.SetComp elt [⟨tg, iter, ifs, 0⟩] scope pos) (tSi X.w wi g tt te (own.map (·.2))) := by
  refine ⟨fun pins s σ H Q I h => ?_⟩
  rw [PpSet.eval_SetComp]
  refine sc1_core hc hN I hi bok hg ht he hs h fun D C s' m H' I' q hn f => ⟨m, hn, fun h'' sb => ?_⟩
  obtain ⟨f0, f1, f2, f3, f4, f5⟩ := f
  exact ⟨.ref D, H', I'.turned (t' := s'.toks) (fun b o hb e => (sb.2 b hb).trans e) f0 f1 f3 f4 f5, rfl, q⟩
theorem sc2_core (hc : X.calm = true) (hN : X.N.Nodup) (I : Inv X pins σ H s) (hi : PI X tg iter wi) (bok : BlkOk X.N X.env.scope scope own) (hv : ∀ i ∈ vs1, i ∈ own.map (·.2)) (hg : Blk X scope fun Y => PG Y tg g) (ht : Blk X scope fun Y => PTs Y ifs tt) (hi1 : Blk X scope fun Y => PI Y tg1 iter1 wi1)
    (hg1 : Blk X scope fun Y => PG Y tg1 g1) (ht1 : Blk X scope fun Y => PTs Y ifs1 tt1) (he : Blk X scope fun Y => PE Y elt te) (hs : ∀ x, foldedSetIterable iter X.env x = pure x) (hs1 : ∀ env x, foldedSetIterable iter1 env x = pure x)
    (h : tSi2 X.w wi g tt wi1 g1 tt1 te (own.map (·.2)) vs1 σ H Q) (hend : ∀ D C s' m H', Inv X pins σ H' s' → Q (.ref D) H' → s'.heap.Ns C m → FpOk X pins H' C → compPost (model X.prog X.w) X.A X.xe use Qf (.ref D) C (.ok .next) s') :
    wpAny (model X.prog X.w) X.A (comprehension (.SetComp elt [⟨tg, iter, ifs, 0⟩, ⟨tg1, iter1, ifs1, 0⟩] scope pos) scope X.env pos' (newSet (.type "set")) false (eval iter X.env) use) Qf X.xe s := by
  have clo : ∀ y ∈ scope.names, y.2 = .free → ∃ c, X.env.cells.lookup y.1 = some c := fun y hy e => (bok.free y hy e).elim (fun k => I.ok.has _ (.inl k)) fun k => I.ok.has _ (.inr k)
  refine wpAny_comprehension_free (use := use) rfl hs (closure_ok clo) bok.kind (fun y hy e => by rw [bok.uniq y hy, e]) (thn (hi.run pins s σ H _ I h) fun xv s1 hx => thn hx fun itv s2 h2 => ?_)
  obtain ⟨it, fp, tn, J, H2, e, I2, T, st2, f2, q⟩ := h2
  subst e
  refine PpSet.newSet_ok (newEnv_comp ?_)
  generalize hD : s2.heap.objs.size = D
  have nD : H2 D = none := I2.hok.fresh (Nat.le_of_eq hD)
  obtain ⟨W, ⟨m0, w0⟩, turn⟩ := q D nD
  generalize hs3 : ({ s2 with heap := s2.heap.push { cls := .type "set", dict := none, data := .set #[] 0 (.fresh 0 0 (!X.w.params.followText "set-order")) } } : Shared) = s3
  have hh3 : s3.heap = s2.heap.push { cls := .type "set", dict := none, data := .set #[] 0 (.fresh 0 0 (!X.w.params.followText "set-order")) } := by rw [← hs3]
  generalize hH3 : upd H2 D (SetO X.w D (fun _ => false) 0) = H3 at w0
  have I3 : Inv X pins σ H3 s3 := by
    rw [← hs3, ← hH3]
    exact I2.laid (t' := s2.toks) (fun b o e => Heap.get?_push_of_some _ e) (Nat.le_of_eq hD) (by rw [← hD]; exact setO_new (setR_fresh X.w))
  have sz : ∀ b ∈ fp, b < s2.heap.objs.size := fun b hb => let ⟨_, e, _⟩ := T.obj _ _ st2 b hb; Heap.lt_size e
  have f3 : ∀ b ∈ fp, FpOk X pins H3 b ∧ b < s3.heap.objs.size := fun b hb => by
    refine ⟨⟨?_, (f2 b hb).2⟩, by rw [hh3, Heap.size_push]; exact Nat.lt_succ_of_lt (sz b hb)⟩
    rw [← hH3, upd_ne (by rw [← hD]; exact Nat.ne_of_lt (sz b hb))]
    exact (f2 b hb).1
  have st3 : tn 0 s3.heap := T.keep _ _ _ st2 fun b _ o e => by rw [hh3]; exact Heap.get?_push_of_some _ e
  have I4 := block_start I3 bok hN f3
  show codeAny _ _ (.compStart (.SetComp elt [⟨tg, iter, ifs, 0⟩, ⟨tg1, iter1, ifs1, 0⟩] scope pos) 0 (.ref it) (.ref D) (compEnvC scope (cellsFrom (s3.heap.objs.size + 1) scope.names (cloFrom X.env.cells scope.names [])) s3.heap.objs.size X.env)) (compPost (model X.prog X.w) X.A X.xe use Qf (.ref D) s3.heap.objs.size) { s3 with heap := pushCells (s3.heap.push { cls := .type "dict", data := .dict #[] }) scope.names }
  have pg := hg s3 H3 s3.heap.objs.size (cellsFrom (s3.heap.objs.size + 1) scope.names (cloFrom X.env.cells scope.names [])) fp
  have pt := ht s3 H3 s3.heap.objs.size (cellsFrom (s3.heap.objs.size + 1) scope.names (cloFrom X.env.cells scope.names [])) fp
  have pi1 := hi1 s3 H3 s3.heap.objs.size (cellsFrom (s3.heap.objs.size + 1) scope.names (cloFrom X.env.cells scope.names [])) fp
  have pg1 := hg1 s3 H3 s3.heap.objs.size (cellsFrom (s3.heap.objs.size + 1) scope.names (cloFrom X.env.cells scope.names [])) fp
  have pt1 := ht1 s3 H3 s3.heap.objs.size (cellsFrom (s3.heap.objs.size + 1) scope.names (cloFrom X.env.cells scope.names [])) fp
  have pe := he s3 H3 s3.heap.objs.size (cellsFrom (s3.heap.objs.size + 1) scope.names (cloFrom X.env.cells scope.names [])) fp
  generalize hce : compEnvC scope (cellsFrom (s3.heap.objs.size + 1) scope.names (cloFrom X.env.cells scope.names [])) s3.heap.objs.size X.env = ce at I4 pg pt pi1 pg1 pt1 pe ⊢
  generalize hs4 : ({ s3 with heap := pushCells (s3.heap.push { cls := .type "dict", data := .dict #[] }) scope.names } : Shared) = s4 at I4 ⊢
  have st4 : tn 0 s4.heap := T.keep _ _ _ st3 fun b _ o e => by rw [← hs4]; exact pushCells_keeps _ _ _ _ (Heap.get?_push_of_some _ e)
  have Z : SetBlk X pins σ scope own fp s3 H3 ce s4 := ⟨I3, I4, by subst hce; rfl, fun b hb => (f3 b hb).1⟩
  have loop : codeAny (model X.prog X.w) X.A (.compLoop (.SetComp elt [⟨tg, iter, ifs, 0⟩, ⟨tg1, iter1, ifs1, 0⟩] scope pos) 0 (.ref it) (.ref D) ce) (compPost (model X.prog X.w) X.A X.xe use Qf (.ref D) s3.heap.objs.size) s4 := by
    refine setLoop_a (hs1 ce) (fun n s' => ∃ i H', Inv (X.blk s3 H3 scope ce fp) [] (wipe σ (own.map (·.2))) H' s' ∧ tn i s'.heap ∧ (∀ b ∈ fp, H' b = none) ∧ W i n H') ?_ m0 ⟨0, H3, I4, st4, fun b hb => (f3 b hb).1.1, w0⟩
    rintro n s5 ⟨i, H5, I5, st5, n5, w5⟩
    rcases turn i n H5 w5 with ⟨stop, qq⟩ | ⟨go, Nx, hNx, step⟩
    · refine thnF (T.done (X.blk s3 H3 scope ce fp) rfl rfl rfl hc i [] s5 _ H5 (fun _ _ => False) I5 (Z.fpk (pl := []) I5 n5) st5 stop) fun r s6 ⟨hr, I6⟩ => ?_
      subst hr
      obtain ⟨I7, ⟨m, hm⟩, hC⟩ := Z.back I6
      exact hend D s3.heap.objs.size s6 m H5 I7 qq hm hC
    · refine thnF (T.item (X.blk s3 H3 scope ce fp) rfl rfl rfl hc i [] s5 _ H5 (fun _ _ => False) I5 (Z.fpk (pl := []) I5 n5) st5 go) fun r s6 ⟨u, hr, h6⟩ => ?_
      subst hr
      refine thnF h6 fun _ s7 ⟨x, H7, I7, r7, y7, st7, n7⟩ => ?_
      have J7 := I7.pinned (Z.fpk (pl := []) I7 n7) (T.obj _ _ st7)
      refine thnF (pg.run _ s7 _ H7 x u _ J7 r7 (step x H7 y7)) fun _ s8 ⟨σ8, H8, I8, hw8, q8⟩ => ?_
      refine thnF (pt.run _ s8 σ8 H8 _ I8 q8) fun b s9 ⟨H9, I9, q9⟩ => ?_
      have fin : ∀ {σ9 : L2.St} {s' : Shared} {H' : Hp}, Inv (X.blk s3 H3 scope ce fp) ([] ++ pinsAt fp s7.heap) σ9 H' s' → (wipe σ (own.map (·.2))).length = σ9.length → (∀ (j : Nat) v, (wipe σ (own.map (·.2)))[j]? = some (some v) → σ9[j]? = some (some v)) → Nx H' →
          ∃ m, m < n ∧ ∃ i H', Inv (X.blk s3 H3 scope ce fp) [] (wipe σ (own.map (·.2))) H' s' ∧ tn i s'.heap ∧ (∀ b ∈ fp, H' b = none) ∧ W i m H' := fun {σ9 s' H'} I' l1 l2 nx => by
        obtain ⟨m', hm, w'⟩ := hNx H' nx
        obtain ⟨z1, z2, z3⟩ := Z.endT T st7 I' l1 l2
        exact ⟨m', hm, i + 1, H', z1, z2, z3, w'⟩
      have l8 : (wipe σ (own.map (·.2))).length = σ8.length := by rw [← hw8, wipe_length]
      have k8 : ∀ (j : Nat) v, (wipe σ (own.map (·.2)))[j]? = some (some v) → σ8[j]? = some (some v) := fun j v e => by rw [← hw8] at e; exact (wipe_some e).1
      cases b with
      | false => exact fin I9 l8 k8 q9
      | true =>
        refine thnF (pi1.run _ s9 σ8 H9 _ I9 q9) fun xv s10 hx => thnF hx fun itv s11 h11 => ?_
        obtain ⟨it1, fp1, tn1, J1, H11, e1, I11, T1, st11, f11, W1, ⟨m1, w1⟩, turn1⟩ := h11
        subst e1
        have stat1 : ∀ {H' : Hp}, (∀ b ∈ fp1, H' b = none) → ∀ b ∈ fp1, FpOk (X.blk s3 H3 scope ce fp) ([] ++ pinsAt fp s7.heap) H' b := fun hn b hb => ⟨hn b hb, (f11 b hb).2⟩
        have loop1 : codeAny (model X.prog X.w) X.A (.compLoop (.SetComp elt [⟨tg, iter, ifs, 0⟩, ⟨tg1, iter1, ifs1, 0⟩] scope pos) 1 (.ref it1) (.ref D) ce)
            (fun r s' => match r with
              | .ok _ => ∃ m, m < n ∧ ∃ i H', Inv (X.blk s3 H3 scope ce fp) [] (wipe σ (own.map (·.2))) H' s' ∧ tn i s'.heap ∧ (∀ b ∈ fp, H' b = none) ∧ W i m H'
              | .error _ => False) s11 := by
          refine setLoop_b (fun k s' => ∃ j H', Inv (X.blk s3 H3 scope ce fp) ([] ++ pinsAt fp s7.heap) (wipe σ8 vs1) H' s' ∧ tn1 j s'.heap ∧ (∀ b ∈ fp1, H' b = none) ∧ W1 j k H') ?_ m1 ⟨0, H11, I11.weak (wipe_length _ _) (fun j v e => (wipe_some e).1), st11, fun b hb => (f11 b hb).1, w1⟩
          rintro k s12 ⟨j, H12, I12, st12, n12, w12⟩
          rcases turn1 j k H12 w12 with ⟨stop1, nx1⟩ | ⟨go1, Nx1, hNx1, step1⟩
          · refine thnF (T1.done (X.blk s3 H3 scope ce fp) rfl rfl rfl hc j _ s12 (wipe σ8 vs1) H12 (fun _ _ => False) I12 (stat1 n12) st12 stop1) fun r s13 ⟨hr, I13⟩ => ?_
            subst hr
            refine fin I13 (l8.trans (wipe_length σ8 vs1).symm) (fun j v e => ?_) nx1
            rw [← hw8] at e
            obtain ⟨e1, e2⟩ := wipe_some e
            rw [wipe_out fun z => e2 (hv j z)]
            exact e1
          · refine thnF (T1.item (X.blk s3 H3 scope ce fp) rfl rfl rfl hc j _ s12 (wipe σ8 vs1) H12 (fun _ _ => False) I12 (stat1 n12) st12 go1) fun r s13 ⟨u1, hr, h13⟩ => ?_
            subst hr
            refine thnF h13 fun _ s14 ⟨x1, H14, I14, r14, y14, st14, n14⟩ => ?_
            have J14 := I14.pinned (stat1 n14) (T1.obj _ _ st14)
            refine thnF (pg1.run _ s14 (wipe σ8 vs1) H14 x1 u1 _ J14 r14 (step1 x1 H14 y14)) fun _ s15 ⟨σ15, H15, I15, hw15, q15⟩ => ?_
            refine thnF (pt1.run _ s15 σ15 H15 _ I15 q15) fun b1 s16 ⟨H16, I16, q16⟩ => ?_
            have fin1 : ∀ {s' : Shared} {H' : Hp}, Inv (X.blk s3 H3 scope ce fp) (([] ++ pinsAt fp s7.heap) ++ pinsAt fp1 s14.heap) σ15 H' s' → Nx1 H' → ∃ m, m < k ∧ ∃ j H', Inv (X.blk s3 H3 scope ce fp) ([] ++ pinsAt fp s7.heap) (wipe σ8 vs1) H' s' ∧ tn1 j s'.heap ∧ (∀ b ∈ fp1, H' b = none) ∧ W1 j m H' := fun {s' H'} I' nx => by
              obtain ⟨m', hm, w'⟩ := hNx1 H' nx
              have pin' : ∀ b ∈ fp1, ∀ o, s14.heap.get? b = some o → s'.heap.get? b = some o ∧ H' b = none := fun b hb o e =>
                let z := I'.pin (b, o) (List.mem_append_right _ (List.mem_append_right _ (mem_pinsAt hb e)))
                ⟨z.1, z.2.1⟩
              refine ⟨m', hm, j + 1, H', I'.unpinned.weak (by rw [← hw15, wipe_length]) (fun j v e => by rw [← hw15] at e; exact (wipe_some e).1), T1.keep _ _ _ st14 fun b hb o e => (pin' b hb o e).1, fun b hb => ?_, w'⟩
              obtain ⟨o, e, _⟩ := T1.obj _ _ st14 b hb
              exact (pin' b hb o e).2
            cases b1 with
            | false => exact fin1 I16 q16
            | true =>
              refine thnF (pe.run _ s16 σ15 H16 _ I16 q16) fun z s17 ⟨yv, H17, I17, r17, c, S0, n0, ey, hD17, few, nx⟩ => ?_
              subst ey
              exact addI (X := X.blk s3 H3 scope ce fp) I17 hD17 few r17 fun s18 I18 => fin1 I18 nx
        exact setStart_b loop1 (T1.self X.A 0 _ _ _ st11 loop1)
  exact PpSet.codeAny_compStart_set loop (T.self X.A 0 _ _ _ st4 loop)
theorem pe_sc2 (hc : X.calm = true) (hN : X.N.Nodup) (hi : PI X tg iter wi) (bok : BlkOk X.N X.env.scope scope own) (hv : ∀ i ∈ vs1, i ∈ own.map (·.2)) (hg : Blk X scope fun Y => PG Y tg g) (ht : Blk X scope fun Y => PTs Y ifs tt) (hi1 : Blk X scope fun Y => PI Y tg1 iter1 wi1)
    (hg1 : Blk X scope fun Y => PG Y tg1 g1) (ht1 : Blk X scope fun Y => PTs Y ifs1 tt1) (he : Blk X scope fun Y => PE Y elt te) (hs : ∀ x, foldedSetIterable iter X.env x = pure x) (hs1 : ∀ env x, foldedSetIterable iter1 env x = pure x) :
    PE X (.SetComp elt [⟨tg, iter, ifs, 0⟩, ⟨tg1, iter1, ifs1, 0⟩] scope pos) (tSi2 X.w wi g tt wi1 g1 tt1 te (own.map (·.2)) vs1) := by
  refine ⟨fun pins s σ H Q I h => ?_⟩
  rw [PpSet.eval_SetComp]
  refine sc2_core hc hN I hi bok hv hg ht hi1 hg1 ht1 he hs hs1 h fun D C s' m H' I' q hn f => ⟨m, hn, fun h'' sb => ?_⟩
  obtain ⟨f0, f1, f2, f3, f4, f5⟩ := f
  exact ⟨.ref D, H', I'.turned (t' := s'.toks) (fun b o hb e => (sb.2 b hb).trans e) f0 f1 f3 f4 f5, rfl, q⟩
end
end DL
end
section
set_option Elab.async false
set_option linter.all false
set_option maxRecDepth 100000
set_option maxHeartbeats 4000000
/-! D-layer 7: sorted, sets of ints sorted, comprehensions with two clauses. -/
namespace DL
open PySem PySem.Spec PyProof.Rows L2 NdefX
variable {X : Cx}

/-! ### ascending lists without doubles -/
def insU (x : Int) : List Int → List Int
  | [] => [x]
  | y :: ys => if x < y then x :: y :: ys else if x = y then y :: ys else y :: insU x ys
def asc (L : List Int) : List Int := L.foldl (fun a x => insU x a) []
theorem mem_insU {x z : Int} : ∀ {ys : List Int}, z ∈ insU x ys ↔ z = x ∨ z ∈ ys
  | [] => by simp [insU]
  | y :: ys => by
    unfold insU
    split
    · simp
    · split
      · next h => subst h; simp
      · simp [mem_insU (ys := ys), or_left_comm]
theorem pw_insU {x : Int} : ∀ {ys : List Int}, ys.Pairwise (· < ·) → (insU x ys).Pairwise (· < ·)
  | [], _ => by simp [insU]
  | y :: ys, h => by
    unfold insU
    have h1 := fun {z} (hz : z ∈ _) => List.rel_of_pairwise_cons h hz
    have h2 := (List.pairwise_cons.mp h).2
    split
    · next hl =>
      refine List.pairwise_cons.mpr ⟨fun z hz => ?_, h⟩
      rcases List.mem_cons.mp hz with rfl | hz
      · exact hl
      · exact Int.lt_trans hl (h1 hz)
    · split
      · exact h
      · next n1 n2 =>
        refine List.pairwise_cons.mpr ⟨fun z hz => ?_, pw_insU h2⟩
        rcases mem_insU.mp hz with rfl | hz
        · omega
        · exact h1 hz
theorem len_insU {x : Int} : ∀ {ys : List Int}, ys.Pairwise (· < ·) → (insU x ys).length = if x ∈ ys then ys.length else ys.length + 1
  | [], _ => by simp [insU]
  | y :: ys, h => by
    unfold insU
    have h1 := fun {z} (hz : z ∈ _) => List.rel_of_pairwise_cons h hz
    have h2 := (List.pairwise_cons.mp h).2
    split
    · next hl =>
      rw [if_neg]
      · rfl
      · intro hm
        rcases List.mem_cons.mp hm with rfl | hm
        · exact Int.lt_irrefl _ hl
        · exact Int.lt_asymm hl (h1 hm)
    · split
      · next n1 n2 => rw [if_pos (by simp [n2])]
      · next n1 n2 =>
        rw [List.length_cons, len_insU h2]
        by_cases hm : x ∈ ys
        · rw [if_pos hm, if_pos (List.mem_cons_of_mem _ hm)]; rfl
        · rw [if_neg hm, if_neg (by simp [hm, n2])]; rfl
theorem asc_snoc (L : List Int) (x : Int) : asc (L ++ [x]) = insU x (asc L) := by unfold asc; rw [List.foldl_append]; rfl
theorem fold_insU : ∀ (L : List Int) (a : List Int), a.Pairwise (· < ·) → (L.foldl (fun a x => insU x a) a).Pairwise (· < ·) ∧ ∀ z, z ∈ L.foldl (fun a x => insU x a) a ↔ z ∈ L ∨ z ∈ a
  | [], a, h => ⟨h, fun z => by simp⟩
  | x :: L, a, h => by
    obtain ⟨h1, h2⟩ := fold_insU L (insU x a) (pw_insU h)
    refine ⟨h1, fun z => ?_⟩
    rw [List.foldl_cons, h2 z, mem_insU, List.mem_cons]
    constructor
    · rintro (h | rfl | h)
      · exact .inl (.inr h)
      · exact .inl (.inl rfl)
      · exact .inr h
    · rintro ((rfl | h) | h)
      · exact .inr (.inl rfl)
      · exact .inl h
      · exact .inr (.inr h)
theorem asc_pw (L : List Int) : (asc L).Pairwise (· < ·) := (fold_insU L [] .nil).1
theorem mem_asc {L : List Int} {z : Int} : z ∈ asc L ↔ z ∈ L := by have := (fold_insU L [] .nil).2 z; unfold asc; rw [this]; simp
theorem asc_uniq : ∀ {a b : List Int}, a.Pairwise (· < ·) → b.Pairwise (· < ·) → (∀ z, z ∈ a ↔ z ∈ b) → a = b
  | [], [], _, _, _ => rfl
  | [], y :: ys, _, _, h => by have := (h y).mpr (by simp); simp at this
  | x :: xs, [], _, _, h => by have := (h x).mp (by simp); simp at this
  | x :: xs, y :: ys, ha, hb, h => by
    have a1 := fun {z} (hz : z ∈ _) => List.rel_of_pairwise_cons ha hz
    have b1 := fun {z} (hz : z ∈ _) => List.rel_of_pairwise_cons hb hz
    have e : x = y := by
      rcases List.mem_cons.mp ((h x).mp (by simp)) with e | m
      · exact e
      rcases List.mem_cons.mp ((h y).mpr (by simp)) with e | m2
      · exact e.symm
      · exact absurd (b1 m) (Int.lt_asymm (a1 m2))
    subst e
    refine congrArg _ (asc_uniq (List.pairwise_cons.mp ha).2 (List.pairwise_cons.mp hb).2 fun z => ?_)
    constructor
    · intro m
      rcases List.mem_cons.mp ((h z).mp (List.mem_cons_of_mem _ m)) with rfl | m2
      · exact absurd (a1 m) (Int.lt_irrefl _)
      · exact m2
    · intro m
      rcases List.mem_cons.mp ((h z).mpr (List.mem_cons_of_mem _ m)) with rfl | m2
      · exact absurd (b1 m) (Int.lt_irrefl _)
      · exact m2
theorem asc_of {L a : List Int} (h : a.Pairwise (· < ·)) (m : ∀ z, z ∈ a ↔ z ∈ L) : a = asc L := asc_uniq h (asc_pw L) fun z => (m z).trans mem_asc.symm
theorem asc_len_le (L : List Int) : (asc L).length ≤ L.length := by
  have : ∀ (L a : List Int), a.Pairwise (· < ·) → (L.foldl (fun a x => insU x a) a).length ≤ L.length + a.length := by
    intro L
    induction L with
    | nil => intro a _; simp
    | cons x L ih =>
      intro a ha
      have := ih (insU x a) (pw_insU ha)
      have l := len_insU (x := x) ha
      rw [List.foldl_cons, List.length_cons]
      split at l <;> omega
  have := this L [] .nil
  unfold asc
  simpa using this
theorem asc_self {L : List Int} (h : L.Pairwise (· < ·)) : asc L = L := (asc_of h fun _ => Iff.rfl).symm

/-! ### sorted lists of ints, doubles kept -/
def insS (x : Int) : List Int → List Int
  | [] => [x]
  | y :: ys => if x ≤ y then x :: y :: ys else y :: insS x ys
def srt : List Int → List Int
  | [] => []
  | x :: xs => insS x (srt xs)
theorem insS_perm (x : Int) : ∀ ys : List Int, (insS x ys).Perm (x :: ys)
  | [] => .refl _
  | y :: ys => by
    unfold insS
    split
    · exact .refl _
    · exact ((insS_perm x ys).cons y).trans (.swap x y ys)
theorem insS_pw (x : Int) : ∀ {ys : List Int}, ys.Pairwise (· ≤ ·) → (insS x ys).Pairwise (· ≤ ·)
  | [], _ => by simp [insS]
  | y :: ys, h => by
    unfold insS
    have h1 := fun {z} (hz : z ∈ _) => List.rel_of_pairwise_cons h hz
    split
    · next hl =>
      refine List.pairwise_cons.mpr ⟨fun z hz => ?_, h⟩
      rcases List.mem_cons.mp hz with rfl | hz
      · exact hl
      · exact Int.le_trans hl (h1 hz)
    · next hl =>
      refine List.pairwise_cons.mpr ⟨fun z hz => ?_, insS_pw x (List.pairwise_cons.mp h).2⟩
      rcases List.mem_cons.mp ((insS_perm x ys).mem_iff.mp hz) with rfl | hz
      · omega
      · exact h1 hz
theorem srt_perm : ∀ xs : List Int, (srt xs).Perm xs
  | [] => .refl _
  | x :: xs => (insS_perm x _).trans ((srt_perm xs).cons x)
theorem srt_pw : ∀ xs : List Int, (srt xs).Pairwise (· ≤ ·)
  | [] => .nil
  | x :: xs => insS_pw x (srt_pw xs)
theorem srt_uniq : ∀ {a b : List Int}, a.Pairwise (· ≤ ·) → b.Pairwise (· ≤ ·) → a.Perm b → a = b
  | [], b, _, _, p => p.nil_eq
  | x :: xs, b, ha, hb, p => by
    cases b with
    | nil => exact absurd p.symm.nil_eq (by simp)
    | cons y ys =>
      have a1 := fun {z} (hz : z ∈ _) => List.rel_of_pairwise_cons ha hz
      have b1 := fun {z} (hz : z ∈ _) => List.rel_of_pairwise_cons hb hz
      have e : x = y := by
        have m1 : x ∈ y :: ys := p.mem_iff.mp (by simp)
        have m2 : y ∈ x :: xs := p.mem_iff.mpr (by simp)
        rcases List.mem_cons.mp m1 with e | m1
        · exact e
        rcases List.mem_cons.mp m2 with e | m2
        · exact e.symm
        · exact Int.le_antisymm (a1 m2) (b1 m1)
      subst e
      exact congrArg _ (srt_uniq (List.pairwise_cons.mp ha).2 (List.pairwise_cons.mp hb).2 (p.cons_inv))
theorem srt_of {a b : List Int} (p : a.Perm b) (h : a.Pairwise (· ≤ ·)) : a = srt b := srt_uniq h (srt_pw b) (p.trans (srt_perm b).symm)

section
variable {B : Bs} {ρ : List Sl} {e : Expr} {pos : Pos}
/-- sorted(list of ints) -/
theorem je_sortedI {ns : List Int} {p : Pos} (hg : Gl X "sorted") (hm : X.mg "sorted" = none) (ha : PE X e (tR X.K B ρ (.lst (ns.map D.int)))) (hs : starEach [e] X.env = (false, eval e X.env) :: starEach [] X.env := by rfl) : PE X (.Call (.Name "sorted" p) [e] [] pos) (tD X.K B ρ (.lst ((srt ns).map D.int))) :=
  je_callBr cr_sortedI hg hm rfl ha (fun G H v Q bs r q => by
    obtain ⟨p, vs, rfl, hp, r1⟩ := r.lst bs
    refine ⟨p, ns, rfl, by rw [← r1.intsV]; exact SqL.of hp, fun ns' l pm hw hl => ?_⟩
    have en := srt_of pm hw
    subst en
    have g := bs.lay (o := .lst ((srt ns).map V.int)) hl (fun ps z => nomatch z)
    exact q _ _ _ g (.lst upd_same (.ints _))) (by decide) (by decide) hs rfl

/-! ### sets of ints -/
/-- an object of the form ext that tells of an object other than a code object -/
theorem ext_nc {p : Heap → Prop} {a : Addr} (h : ∀ h, p h → ∃ o, h.get? a = some o ∧ ∀ vs, o.data ≠ .fields vs) (c : Addr) (q : PySem.Str) : HO.ext p ≠ LamX.CodeO c q := by
  intro z
  unfold LamX.CodeO at z
  have e := HO.ext.inj z
  let ob : Obj := { cls := .none, data := .fields #[.none, .str q 0] }
  let h0 : Heap := { objs := Array.replicate (Nat.max a c + 1) ob }
  have at_ : ∀ b : Nat, b ≤ Nat.max a c → h0.get? b = some ob := fun b hb => by
    show (match h0.objs[b]? with | some ⟨_, _, .freed, _⟩ => none | o => o) = some ob
    have : h0.objs[b]? = some ob := by
      show (Array.replicate (Nat.max a c + 1) ob)[b]? = some ob
      rw [Array.getElem?_replicate, if_pos (Nat.lt_succ_of_le hb)]
    rw [this]
  have hc : (fun h : Heap => ∃ (oc : Obj) (vs : Array Value) (t : Tok), h.get? c = some oc ∧ oc.data = .fields vs ∧ vs[1]? = some (.str q t)) h0 := ⟨ob, _, 0, at_ c (Nat.le_max_right a c), rfl, rfl⟩
  rw [← e] at hc
  obtain ⟨o, h1, h2⟩ := h h0 hc
  rw [at_ a (Nat.le_max_left a c)] at h1
  cases h1
  exact h2 _ rfl
theorem setO_nc {w : World} {a : Addr} {S : Int → Bool} {n : Nat} (c : Addr) (q : PySem.Str) : SetO w a S n ≠ LamX.CodeO c q := ext_nc (a := a) (fun h ⟨o, es, ep, t, h1, _, h3, _⟩ => ⟨o, h1, fun vs z => by rw [h3] at z; cases z⟩) c q
theorem setO_nt {w : World} {a : Addr} {S : Int → Bool} {n : Nat} (ps : Array Value) : SetO w a S n ≠ .tbl ps := fun z => by unfold SetO at z; cases z
/-- what is told of a set: its members are those of the list -/
def SetIs (w : World) (L : List Int) (u : HO) (a : Addr) : Prop := ∃ S, u = SetO w a S (asc L).length ∧ ∀ i, S i = decide (i ∈ L)
/-- an expression gives a set of the list's ints -/
def tSet (w : World) (K : PySem.W.Frag) (B : Bs) (ρ : List Sl) (L : List Int) : TE := fun σ H Q => ∃ G, B.En K G ρ σ H ∧ ∀ a u G' H', Grow B.T G H G' H' → H' a = some u → SetIs w L u a → Q (.ref a) H'
/-- one more member -/
theorem SetIs.add {w : World} {L : List Int} {a : Addr} {S : Int → Bool} {n : Nat} {c : Int} (h : SetIs w L (SetO w a S n) a) : ∃ S' n', SetO w a S n = SetO w a S' n' ∧ n' = (asc L).length ∧ SetIs w (L ++ [c]) (SetO w a (fun j => S' j || decide (j = c)) (if S' c = true then n' else n' + 1)) a := by
  obtain ⟨S', e, hS⟩ := h
  refine ⟨S', _, e, rfl, fun j => S' j || decide (j = c), ?_, fun i => ?_⟩
  · rw [asc_snoc, len_insU (asc_pw L), hS c]
    by_cases hc : c ∈ L
    · rw [if_pos (decide_eq_true hc), if_pos (mem_asc.mpr hc)]
    · rw [if_neg (by simpa using hc), if_neg (fun z => hc (mem_asc.mp z))]
  · show (S' i || decide (i = c)) = _
    rw [hS i]
    by_cases h1 : i ∈ L <;> by_cases h2 : i = c <;> simp [h1, h2]
theorem je_sortedSet {L : List Int} {p : Pos} (hc : X.calm = true) (hz : (asc L).length < 64) (hg : Gl X "sorted") (hm : X.mg "sorted" = none) (ha : PE X e (tSet X.w X.K B ρ L)) (hs : starEach [e] X.env = (false, eval e X.env) :: starEach [] X.env := by rfl) : PE X (.Call (.Name "sorted" p) [e] [] pos) (tD X.K B ρ (.lst ((asc L).map D.int))) :=
  pe_mono (pe_callB (cr_sortedSet hc) hg hm rfl (pa_cons ha pa_nil hs) (by decide) (by decide) hs rfl) fun σ H Q ⟨G, en, q⟩ => ⟨G, en, fun a u G1 H1 g1 hu ⟨S, e, hS⟩ => by
    subst e
    refine ⟨a, S, _, rfl, hu, hz, fun ns l pw mem len hl => ?_⟩
    have en : ns = asc L := asc_of pw fun z => by rw [mem z, hS z]; simp
    subst en
    have g := g1.base.lay (o := .lst ((asc L).map V.int)) hl (fun ps z => nomatch z)
    exact q _ _ _ (g1.trans g) (.lst upd_same (.ints _))⟩
end

section
variable {B : Bs} {ρ : List Sl} {elt tg iter tg1 iter1 : Expr} {ifs : List Expr} {scope : Scope} {own : List (PySem.Str × Nat)} {vs1 : List Nat} {pos : Pos} {g g1 : TG} {is is1 : List Nat} {put pt1 : List Sl → D → List Sl} {ok ok1 : D → Prop}
theorem Base.none {T : List NTab} {G H : Hp} (b : Base T G H) {a : Addr} (n : H a = none) : G a = none := by
  cases z : G a with
  | none => rfl
  | some o => have := b.sub a o z; rw [n] at this; cases this
/-- the reading of a set comprehension of one clause, without tests -/
theorem sc_read {K : PySem.W.Frag} {w : World} {α : Type} {xs : List α} {em : α → D} {f : α → Int} {vs : List Nat} {σ : L2.St} {H : Hp} {Q : VK} (gok : GOk K g is put ok) (his : ∀ i ∈ is, i ∈ vs) (hok : ∀ x ∈ xs, ok (em x)) (hz : (xs.map f).length < 4000) (h : tSet w K B ρ (xs.map f) σ H Q) :
    tSi w (tI K B ρ (xs.map em)) g (fun _ H Q => Q true H) (fun σ H Q => ∃ z : {p : Nat × α // xs[p.1]? = some p.2}, tD K B (put (wipeR ρ vs) (em z.1.2)) (.int (f z.1.2)) σ H Q) vs σ H Q := by
  obtain ⟨G, en, q⟩ := h
  refine ⟨G, en, fun J G1 H1 g1 W D nD => ?_⟩
  have en1 := en.up g1
  refine ⟨fun i m H' => m = xs.length - i ∧ i ≤ xs.length ∧ ∃ G' u, Grow B.T G1 H1 G' H' ∧ G' D = none ∧ H' D = some u ∧ SetIs w ((xs.take i).map f) u D, ⟨_, rfl, Nat.zero_le _, G1, _, g1.base.own nD, g1.base.none nD, upd_same, _, rfl, fun i => rfl⟩, ?_⟩
  rintro i m H' ⟨rfl, hi, G', u, gg, gn, hD, hu⟩
  obtain ⟨S, eu, hS⟩ := hu
  subst eu
  by_cases hlt : i < xs.length
  · have hd : xs[i]? = some xs[i] := List.getElem?_eq_getElem hlt
    obtain ⟨hgo, hy⟩ := W.go i _ G' H' (map_at hlt) gg.le gg.base
    refine .inr ⟨hgo, fun H2 => ∃ G2 u, Grow B.T G1 H1 G2 H2 ∧ G2 D = none ∧ H2 D = some u ∧ SetIs w ((xs.take (i + 1)).map f) u D, fun H2 ⟨G2, u2, a1, a2, a3, a4⟩ => ⟨_, by omega, rfl, hlt, G2, u2, a1, a2, a3, a4⟩, fun x H2 y => ?_⟩
    obtain ⟨G2, g2, rx⟩ := hy x H2 y
    have gg2 := gg.trans g2
    have gn2 := g2.away gn hD (fun ps => setO_nt ps) (fun c q => setO_nc c q)
    have hD2 := g2.keep D _ hD (fun ps => setO_nt ps)
    refine gok.go B (wipeR ρ vs) (wipe σ vs) G2 H2 x _ _ ((en1.up gg2).wiped vs) rx (hok _ (List.getElem_mem hlt)) fun σ3 en3 hl3 hj => ⟨wipe_same (hl3.trans (wipe_length σ vs)) fun j hjn => hj j fun z => hjn (his j z), ?_⟩
    show (if true = true then _ else _)
    rw [if_pos rfl]
    refine ⟨⟨(i, xs[i]), hd⟩, G2, en3, fun v G4 H4 g4 rv => ?_⟩
    have ev := rv.int_inv
    subst ev
    have gn4 := g4.away gn2 hD2 (fun ps => setO_nt ps) (fun c q => setO_nc c q)
    have hD4 := g4.keep D _ hD2 (fun ps => setO_nt ps)
    have et : (xs.take (i + 1)).map f = (xs.take i).map f ++ [f xs[i]] := by rw [List.take_succ, hd, List.map_append]; rfl
    obtain ⟨S', n', e1, e2, e3⟩ := SetIs.add (c := f xs[i]) (show SetIs w ((xs.take i).map f) _ D from ⟨S, rfl, hS⟩)
    rw [e1] at hD4
    refine ⟨f xs[i], S', n', rfl, hD4, ?_, G4, _, (gg2.trans g4).wr nD gn4 hD4 (fun ps => setO_nt ps) (fun c q => setO_nc c q), gn4, upd_same, by rw [et]; exact e3⟩
    have l1 := asc_len_le ((xs.take i).map f)
    rw [List.length_map, List.length_take] at l1
    rw [List.length_map] at hz
    have : min i xs.length ≤ xs.length := Nat.min_le_right _ _
    rw [e2]
    show _ < (4096 : Nat)
    omega
  · have e : i = xs.length := by omega
    subst e
    rw [List.take_length] at hS hD
    refine .inl ⟨W.stop _ G' H' (by rw [List.length_map]; exact Nat.le_refl _) gg.le gg.base, ?_⟩
    exact q _ _ G' _ (g1.trans gg) hD ⟨S, rfl, hS⟩
/-- {elt for tg in iter} of ints -/
theorem je_sc {α : Type} {xs : List α} {em : α → D} (f : α → Int) (hc : X.calm = true) (hN : X.N.Nodup) (hi : PI X tg iter (tI X.K B ρ (xs.map em))) (bok : BlkOk X.N X.env.scope scope own) (gok : GOk X.K g is put ok) (his : ∀ i ∈ is, i ∈ own.map (·.2)) (hok : ∀ x ∈ xs, ok (em x)) (hz : xs.length < 4000)
    (hg : Blk X scope fun Y => PG Y tg g) (he : ∀ (k : Nat) (x : α), xs[k]? = some x → Blk X scope fun Y => PE Y elt (tD X.K B (put (wipeR ρ (own.map (·.2))) (em x)) (.int (f x)))) (hs : ∀ x, foldedSetIterable iter X.env x = pure x := by intro _; rfl) :
    PE X (.SetComp elt [⟨tg, iter, [], 0⟩] scope pos) (tSet X.w X.K B ρ (xs.map f)) :=
  pe_mono (pe_sc1 hc hN hi bok hg (fun s H C cl fp => pts_nil) (fun s H C cl fp => pe_fam fun z => he z.1.1 z.1.2 z.2 s H C cl fp) hs) fun σ H Q h => sc_read gok his hok (by rw [List.length_map]; exact hz) h
theorem pi_fam {g e : Expr} {ι : Type} {t : ι → TI} (h : ∀ z, PI X g e (t z)) : PI X g e (fun σ H Q => ∃ z, t z σ H Q) := ⟨fun pins s σ H Q I ⟨z, q⟩ => (h z).run pins s σ H Q I q⟩
theorem flat_take {α β : Type} {xs : List α} {F : α → List β} {i : Nat} (h : i < xs.length) : (xs.take (i + 1)).flatMap F = (xs.take i).flatMap F ++ F xs[i] := by
  rw [List.take_succ, List.getElem?_eq_getElem h, List.flatMap_append]
  simp
theorem flat_le {α β : Type} {F : α → List β} : ∀ {xs : List α} {i : Nat} (h : i < xs.length), ((xs.take i).flatMap F).length + (F xs[i]).length ≤ (xs.flatMap F).length
  | x :: xs, 0, _ => by simp
  | x :: xs, i + 1, h => by
    have := flat_le (F := F) (xs := xs) (i := i) (by simpa using h)
    simp only [List.take_succ_cons, List.flatMap_cons, List.length_append, List.getElem_cons_succ]
    omega
/-- .. of two clauses, without tests -/
theorem sc2_read {K : PySem.W.Frag} {w : World} {α β : Type} {xs : List α} {em : α → D} {ys : α → List β} {em1 : β → D} {f : α → β → Int} {vs : List Nat} {σ : L2.St} {H : Hp} {Q : VK} (gok : GOk K g is put ok) (his : ∀ i ∈ is, i ∈ vs) (hok : ∀ x ∈ xs, ok (em x)) (gok1 : GOk K g1 is1 pt1 ok1) (his1 : ∀ i ∈ is1, i ∈ vs1) (hok1 : ∀ x ∈ xs, ∀ y ∈ ys x, ok1 (em1 y))
    (hz : (xs.flatMap fun x => (ys x).map (f x)).length < 4000) (h : tSet w K B ρ (xs.flatMap fun x => (ys x).map (f x)) σ H Q) :
    tSi2 w (tI K B ρ (xs.map em)) g (fun _ H Q => Q true H) (fun σ H R => ∃ z : {p : Nat × α // xs[p.1]? = some p.2}, tI K B (put (wipeR ρ vs) (em z.1.2)) ((ys z.1.2).map em1) σ H R) g1 (fun _ H Q => Q true H)
      (fun σ H Q => ∃ z : {p : (Nat × α) × Nat × β // xs[p.1.1]? = some p.1.2 ∧ (ys p.1.2)[p.2.1]? = some p.2.2}, tD K B (pt1 (wipeR (put (wipeR ρ vs) (em z.1.1.2)) vs1) (em1 z.1.2.2)) (.int (f z.1.1.2 z.1.2.2)) σ H Q) vs vs1 σ H Q := by
  obtain ⟨G, en, q⟩ := h
  refine ⟨G, en, fun J G1 H1 g1' W D nD => ?_⟩
  have en1 := en.up g1'
  refine ⟨fun i m H' => m = xs.length - i ∧ i ≤ xs.length ∧ ∃ G' u, Grow B.T G1 H1 G' H' ∧ G' D = none ∧ H' D = some u ∧ SetIs w ((xs.take i).flatMap fun x => (ys x).map (f x)) u D, ⟨_, rfl, Nat.zero_le _, G1, _, g1'.base.own nD, g1'.base.none nD, upd_same, _, rfl, fun i => rfl⟩, ?_⟩
  rintro i m H' ⟨rfl, hi, G', u, gg, gn, hD, hu⟩
  obtain ⟨S, eu, hS⟩ := hu
  subst eu
  by_cases hlt : i < xs.length
  · have hd : xs[i]? = some xs[i] := List.getElem?_eq_getElem hlt
    obtain ⟨hgo, hy⟩ := W.go i _ G' H' (map_at hlt) gg.le gg.base
    have et := flat_take (F := fun x => (ys x).map (f x)) hlt
    have el := flat_le (F := fun x => (ys x).map (f x)) hlt
    refine .inr ⟨hgo, fun H2 => ∃ G2 u, Grow B.T G1 H1 G2 H2 ∧ G2 D = none ∧ H2 D = some u ∧ SetIs w ((xs.take (i + 1)).flatMap fun x => (ys x).map (f x)) u D, fun H2 ⟨G2, u2, a1, a2, a3, a4⟩ => ⟨_, by omega, rfl, hlt, G2, u2, a1, a2, a3, a4⟩, fun x H2 y => ?_⟩
    obtain ⟨G2, g2, rx⟩ := hy x H2 y
    have gg2 := gg.trans g2
    have gn2 := g2.away gn hD (fun ps => setO_nt ps) (fun c q => setO_nc c q)
    have hD2 := g2.keep D _ hD (fun ps => setO_nt ps)
    refine gok B (wipeR ρ vs) (wipe σ vs) G2 H2 x _ _ ((en1.up gg2).wiped vs) rx (hok _ (List.getElem_mem hlt)) fun σ3 en3 hl3 hj => ⟨wipe_same (hl3.trans (wipe_length σ vs)) fun j hjn => hj j fun z => hjn (his j z), ?_⟩
    have enh := en3 _ ((en1.up (gg2.cut nD gn2 hD2 (fun ps => setO_nt ps) (fun c q => setO_nc c q))).wiped vs)
    show (if true = true then _ else _)
    rw [if_pos rfl]
    refine ⟨⟨(i, xs[i]), hd⟩, G2, en3 _ ((en1.up gg2).wiped vs), fun J1 G3 H3 g3 W1 => ?_⟩
    have gg3 := gg2.trans g3
    have gn3 := g3.away gn2 hD2 (fun ps => setO_nt ps) (fun c q => setO_nc c q)
    have hD3 := g3.keep D _ hD2 (fun ps => setO_nt ps)
    refine ⟨fun j m H' => m = (ys xs[i]).length - j ∧ j ≤ (ys xs[i]).length ∧ ∃ G' u, Grow B.T G1 H1 G' H' ∧ Same G3 G' ∧ Grow B.T G2 (hide H2 D) G' H' ∧ G' D = none ∧ H' D = some u ∧ SetIs w (((xs.take i).flatMap fun x => (ys x).map (f x)) ++ ((ys xs[i]).take j).map (f xs[i])) u D, ⟨_, rfl, Nat.zero_le _, G3, _, gg3, Same.refl _, g3.hid, gn3, hD3, S, ?_, ?_⟩, ?_⟩
    · rw [List.take_zero, List.map_nil, List.append_nil]
    · rw [List.take_zero, List.map_nil, List.append_nil]; exact hS
    rintro j m H' ⟨rfl, hj', G', u, gg', sg', ga', gn', hD', hu'⟩
    obtain ⟨S', eu', hS'⟩ := hu'
    subst eu'
    by_cases hjl : j < (ys xs[i]).length
    · have hdj : (ys xs[i])[j]? = some (ys xs[i])[j] := List.getElem?_eq_getElem hjl
      obtain ⟨hgo1, hy1⟩ := W1.go j _ G' H' (map_at hjl) sg' gg'.base
      refine .inr ⟨hgo1, fun H5 => ∃ G2' u, Grow B.T G1 H1 G2' H5 ∧ Same G3 G2' ∧ Grow B.T G2 (hide H2 D) G2' H5 ∧ G2' D = none ∧ H5 D = some u ∧ SetIs w (((xs.take i).flatMap fun x => (ys x).map (f x)) ++ ((ys xs[i]).take (j + 1)).map (f xs[i])) u D, fun H5 ⟨G2', u2, a1, a2, a3, a4, a5, a6⟩ => ⟨_, by omega, rfl, hjl, G2', u2, a1, a2, a3, a4, a5, a6⟩, fun x H5 y => ?_⟩
      obtain ⟨G5, g5, rx5⟩ := hy1 x H5 y
      have gn5 := g5.away gn' hD' (fun ps => setO_nt ps) (fun c q => setO_nc c q)
      have hD5 := g5.keep D _ hD' (fun ps => setO_nt ps)
      refine gok1 B (wipeR (put (wipeR ρ vs) (em xs[i])) vs1) (wipe σ3 vs1) G5 H5 x _ _ ((enh.up (ga'.trans g5)).wiped vs1) rx5 (hok1 _ (List.getElem_mem hlt) _ (List.getElem_mem hjl)) fun σ6 en6 hl6 hj6 => ⟨wipe_same (hl6.trans (wipe_length σ3 vs1)) fun l hl => hj6 l fun z => hl (his1 l z), ?_⟩
      show (if true = true then _ else _)
      rw [if_pos rfl]
      refine ⟨⟨((i, xs[i]), j, (ys xs[i])[j]), hd, hdj⟩, G5, en6 _ ((enh.up (ga'.trans g5)).wiped vs1), fun v G7 H7 g7 rv => ?_⟩
      have ev := rv.int_inv
      subst ev
      have gn7 := g7.away gn5 hD5 (fun ps => setO_nt ps) (fun c q => setO_nc c q)
      have hD7 := g7.keep D _ hD5 (fun ps => setO_nt ps)
      have ej : ((ys xs[i]).take (j + 1)).map (f xs[i]) = ((ys xs[i]).take j).map (f xs[i]) ++ [f xs[i] (ys xs[i])[j]] := by rw [List.take_succ, hdj, List.map_append]; rfl
      obtain ⟨S7, n7, e1, e2, e3⟩ := SetIs.add (c := f xs[i] (ys xs[i])[j]) (show SetIs w (((xs.take i).flatMap fun x => (ys x).map (f x)) ++ ((ys xs[i]).take j).map (f xs[i])) _ D from ⟨S', rfl, hS'⟩)
      rw [e1] at hD7
      refine ⟨f xs[i] (ys xs[i])[j], S7, n7, rfl, hD7, ?_, G7, _, ((gg'.trans g5).trans g7).wr nD gn7 hD7 (fun ps => setO_nt ps) (fun c q => setO_nc c q), sg'.trans (g5.trans g7).le, ((ga'.trans g5).trans g7).wr hide_at gn7 hD7 (fun ps => setO_nt ps) (fun c q => setO_nc c q), gn7, upd_same, by rw [ej, ← List.append_assoc]; exact e3⟩
      have l1 := asc_len_le (((xs.take i).flatMap fun x => (ys x).map (f x)) ++ ((ys xs[i]).take j).map (f xs[i]))
      rw [List.length_append, List.length_map, List.length_take] at l1
      rw [List.length_map] at el
      have : min j (ys xs[i]).length ≤ (ys xs[i]).length := Nat.min_le_right _ _
      rw [e2]
      show _ < (4096 : Nat)
      omega
    · have e : j = (ys xs[i]).length := by omega
      subst e
      rw [List.take_length] at hS' hD'
      refine .inl ⟨W1.stop _ G' H' (by rw [List.length_map]; exact Nat.le_refl _) sg' gg'.base, G', _, gg', gn', hD', ?_⟩
      rw [et]
      exact ⟨S', rfl, hS'⟩
  · have e : i = xs.length := by omega
    subst e
    rw [List.take_length] at hS hD
    refine .inl ⟨W.stop _ G' H' (by rw [List.length_map]; exact Nat.le_refl _) gg.le gg.base, ?_⟩
    exact q _ _ G' _ (g1'.trans gg) hD ⟨S, rfl, hS⟩
end
end DL
end
section
set_option Elab.async false
set_option linter.all false
set_option maxRecDepth 100000
set_option maxHeartbeats 4000000
/-! D-layer 8: comprehensions with two clauses, dicts. -/
namespace DL
open PySem PySem.Spec PyProof.Rows L2 NdefX
variable {X : Cx}
section
variable {B : Bs} {ρ : List Sl} {elt kx vx tg iter tg1 iter1 : Expr} {ifs : List Expr} {scope : Scope} {own : List (PySem.Str × Nat)} {vs1 : List Nat} {pos : Pos} {g g1 : TG} {is is1 : List Nat} {put pt1 : List Sl → D → List Sl} {ok ok1 : D → Prop}
/-- {elt for tg in iter for tg1 in iter1} of ints -/
theorem je_sc2 {α β : Type} {xs : List α} {em : α → D} (ys : α → List β) (em1 : β → D) (f : α → β → Int) (hc : X.calm = true) (hN : X.N.Nodup) (hi : PI X tg iter (tI X.K B ρ (xs.map em))) (bok : BlkOk X.N X.env.scope scope own) (hv : ∀ i ∈ vs1, i ∈ own.map (·.2)) (gok : GOk X.K g is put ok) (his : ∀ i ∈ is, i ∈ own.map (·.2)) (hok : ∀ x ∈ xs, ok (em x))
    (gok1 : GOk X.K g1 is1 pt1 ok1) (his1 : ∀ i ∈ is1, i ∈ vs1) (hok1 : ∀ x ∈ xs, ∀ y ∈ ys x, ok1 (em1 y)) (hz : (xs.flatMap fun x => (ys x).map (f x)).length < 4000) (hg : Blk X scope fun Y => PG Y tg g) (hg1 : Blk X scope fun Y => PG Y tg1 g1)
    (hi1 : ∀ (k : Nat) (x : α), xs[k]? = some x → Blk X scope fun Y => PI Y tg1 iter1 (tI X.K B (put (wipeR ρ (own.map (·.2))) (em x)) ((ys x).map em1)))
    (he : ∀ (k : Nat) (x : α) (j : Nat) (y : β), xs[k]? = some x → (ys x)[j]? = some y → Blk X scope fun Y => PE Y elt (tD X.K B (pt1 (wipeR (put (wipeR ρ (own.map (·.2))) (em x)) vs1) (em1 y)) (.int (f x y)))) (hs : ∀ x, foldedSetIterable iter X.env x = pure x := by intro _; rfl) (hs1 : ∀ env x, foldedSetIterable iter1 env x = pure x := by intro _ _; rfl) :
    PE X (.SetComp elt [⟨tg, iter, [], 0⟩, ⟨tg1, iter1, [], 0⟩] scope pos) (tSet X.w X.K B ρ (xs.flatMap fun x => (ys x).map (f x))) :=
  pe_mono (pe_sc2 hc hN hi bok hv hg (fun s H C cl fp => pts_nil) (fun s H C cl fp => pi_fam fun z => hi1 z.1.1 z.1.2 z.2 s H C cl fp) hg1 (fun s H C cl fp => pts_nil) (fun s H C cl fp => pe_fam fun z => he z.1.1.1 z.1.1.2 z.1.2.1 z.1.2.2 z.2.1 z.2.2 s H C cl fp) hs hs1) fun σ H Q h => sc2_read gok his hok gok1 his1 hok1 hz h
theorem lc2_read {K : PySem.W.Frag} {α β : Type} {xs : List α} {em : α → D} {ys : α → List β} {em1 : β → D} {f : α → β → D} {vs : List Nat} {σ : L2.St} {H : Hp} {Q : VK} (gok : GOk K g is put ok) (his : ∀ i ∈ is, i ∈ vs) (hok : ∀ x ∈ xs, ok (em x)) (gok1 : GOk K g1 is1 pt1 ok1) (his1 : ∀ i ∈ is1, i ∈ vs1) (hok1 : ∀ x ∈ xs, ∀ y ∈ ys x, ok1 (em1 y))
    (hz : (xs.flatMap fun x => (ys x).map (f x)).length ≤ sizeLine) (h : tD K B ρ (.lst (xs.flatMap fun x => (ys x).map (f x))) σ H Q) :
    tLc2 (tI K B ρ (xs.map em)) g (fun _ H Q => Q true H) (fun σ H R => ∃ z : {p : Nat × α // xs[p.1]? = some p.2}, tI K B (put (wipeR ρ vs) (em z.1.2)) ((ys z.1.2).map em1) σ H R) g1 (fun _ H Q => Q true H)
      (fun σ H Q => ∃ z : {p : (Nat × α) × Nat × β // xs[p.1.1]? = some p.1.2 ∧ (ys p.1.2)[p.2.1]? = some p.2.2}, tD K B (pt1 (wipeR (put (wipeR ρ vs) (em z.1.1.2)) vs1) (em1 z.1.2.2)) (f z.1.1.2 z.1.2.2) σ H Q) vs vs1 σ H Q := by
  obtain ⟨G, en, q⟩ := h
  refine ⟨G, en, fun J G1 H1 g1' W D nD => ?_⟩
  have en1 := en.up g1'
  refine ⟨fun i m H' => m = xs.length - i ∧ i ≤ xs.length ∧ ∃ G' acc, Grow B.T G1 H1 G' H' ∧ G' D = none ∧ H' D = some (.lst acc) ∧ RepAll K G' acc ((xs.take i).flatMap fun x => (ys x).map (f x)), ⟨_, rfl, Nat.zero_le _, G1, _, g1'.base.own nD, g1'.base.none nD, upd_same, .nil⟩, ?_⟩
  rintro i m H' ⟨rfl, hi, G', acc, gg, gn, hD, ra⟩
  by_cases hlt : i < xs.length
  · have hd : xs[i]? = some xs[i] := List.getElem?_eq_getElem hlt
    obtain ⟨hgo, hy⟩ := W.go i _ G' H' (map_at hlt) gg.le gg.base
    have et := flat_take (F := fun x => (ys x).map (f x)) hlt
    have el := flat_le (F := fun x => (ys x).map (f x)) hlt
    refine .inr ⟨hgo, fun H2 => ∃ G2 acc, Grow B.T G1 H1 G2 H2 ∧ G2 D = none ∧ H2 D = some (.lst acc) ∧ RepAll K G2 acc ((xs.take (i + 1)).flatMap fun x => (ys x).map (f x)), fun H2 ⟨G2, u2, a1, a2, a3, a4⟩ => ⟨_, by omega, rfl, hlt, G2, u2, a1, a2, a3, a4⟩, fun x H2 y => ?_⟩
    obtain ⟨G2, g2, rx⟩ := hy x H2 y
    have gg2 := gg.trans g2
    have gn2 := g2.away gn hD (lst_nt _) (lst_nc _)
    have hD2 := g2.keep D _ hD (lst_nt _)
    refine gok B (wipeR ρ vs) (wipe σ vs) G2 H2 x _ _ ((en1.up gg2).wiped vs) rx (hok _ (List.getElem_mem hlt)) fun σ3 en3 hl3 hj => ⟨wipe_same (hl3.trans (wipe_length σ vs)) fun j hjn => hj j fun z => hjn (his j z), ?_⟩
    have enh := en3 _ ((en1.up (gg2.cut nD gn2 hD2 (lst_nt _) (lst_nc _))).wiped vs)
    show (if true = true then _ else _)
    rw [if_pos rfl]
    refine ⟨⟨(i, xs[i]), hd⟩, G2, en3 _ ((en1.up gg2).wiped vs), fun J1 G3 H3 g3 W1 => ?_⟩
    have gg3 := gg2.trans g3
    have gn3 := g3.away gn2 hD2 (lst_nt _) (lst_nc _)
    have hD3 := g3.keep D _ hD2 (lst_nt _)
    refine ⟨fun j m H' => m = (ys xs[i]).length - j ∧ j ≤ (ys xs[i]).length ∧ ∃ G' acc, Grow B.T G1 H1 G' H' ∧ Same G3 G' ∧ Grow B.T G2 (hide H2 D) G' H' ∧ G' D = none ∧ H' D = some (.lst acc) ∧ RepAll K G' acc (((xs.take i).flatMap fun x => (ys x).map (f x)) ++ ((ys xs[i]).take j).map (f xs[i])), ⟨_, rfl, Nat.zero_le _, G3, _, gg3, Same.refl _, g3.hid, gn3, hD3, ?_⟩, ?_⟩
    · rw [List.take_zero, List.map_nil, List.append_nil]
      exact ra.up (g2.trans g3).le
    rintro j m H' ⟨rfl, hj', G', acc, gg', sg', ga', gn', hD', ra'⟩
    by_cases hjl : j < (ys xs[i]).length
    · have hdj : (ys xs[i])[j]? = some (ys xs[i])[j] := List.getElem?_eq_getElem hjl
      obtain ⟨hgo1, hy1⟩ := W1.go j _ G' H' (map_at hjl) sg' gg'.base
      refine .inr ⟨hgo1, fun H5 => ∃ G2' acc, Grow B.T G1 H1 G2' H5 ∧ Same G3 G2' ∧ Grow B.T G2 (hide H2 D) G2' H5 ∧ G2' D = none ∧ H5 D = some (.lst acc) ∧ RepAll K G2' acc (((xs.take i).flatMap fun x => (ys x).map (f x)) ++ ((ys xs[i]).take (j + 1)).map (f xs[i])), fun H5 ⟨G2', u2, a1, a2, a3, a4, a5, a6⟩ => ⟨_, by omega, rfl, hjl, G2', u2, a1, a2, a3, a4, a5, a6⟩, fun x H5 y => ?_⟩
      obtain ⟨G5, g5, rx5⟩ := hy1 x H5 y
      have gn5 := g5.away gn' hD' (lst_nt _) (lst_nc _)
      have hD5 := g5.keep D _ hD' (lst_nt _)
      refine gok1 B (wipeR (put (wipeR ρ vs) (em xs[i])) vs1) (wipe σ3 vs1) G5 H5 x _ _ ((enh.up (ga'.trans g5)).wiped vs1) rx5 (hok1 _ (List.getElem_mem hlt) _ (List.getElem_mem hjl)) fun σ6 en6 hl6 hj6 => ⟨wipe_same (hl6.trans (wipe_length σ3 vs1)) fun l hl => hj6 l fun z => hl (his1 l z), ?_⟩
      show (if true = true then _ else _)
      rw [if_pos rfl]
      refine ⟨⟨((i, xs[i]), j, (ys xs[i])[j]), hd, hdj⟩, G5, en6 _ ((enh.up (ga'.trans g5)).wiped vs1), fun v G7 H7 g7 rv => ?_⟩
      have gn7 := g7.away gn5 hD5 (lst_nt _) (lst_nc _)
      have hD7 := g7.keep D _ hD5 (lst_nt _)
      have ej : ((ys xs[i]).take (j + 1)).map (f xs[i]) = ((ys xs[i]).take j).map (f xs[i]) ++ [f xs[i] (ys xs[i])[j]] := by rw [List.take_succ, hdj, List.map_append]; rfl
      refine ⟨acc, hD7, ?_, G7, _, ((gg'.trans g5).trans g7).wr nD gn7 hD7 (lst_nt _) (lst_nc _), sg'.trans (g5.trans g7).le, ((ga'.trans g5).trans g7).wr hide_at gn7 hD7 (lst_nt _) (lst_nc _), gn7, upd_same, by rw [ej, ← List.append_assoc]; exact (ra'.up (g5.trans g7).le).append (.one rv)⟩
      rw [ra'.length, List.length_append, List.length_map, List.length_take]
      rw [List.length_map] at el
      have : min j (ys xs[i]).length ≤ (ys xs[i]).length := Nat.min_le_right _ _
      omega
    · have e : j = (ys xs[i]).length := by omega
      subst e
      rw [List.take_length] at ra'
      refine .inl ⟨W1.stop _ G' H' (by rw [List.length_map]; exact Nat.le_refl _) sg' gg'.base, G', _, gg', gn', hD', ?_⟩
      rw [et]
      exact ra'
  · have e : i = xs.length := by omega
    subst e
    rw [List.take_length] at ra
    refine .inl ⟨W.stop _ G' H' (by rw [List.length_map]; exact Nat.le_refl _) gg.le gg.base, ?_⟩
    have gf := gg.fz nD gn hD (lst_nt _)
    exact q _ _ _ (g1'.trans gf) (.lst upd_same (ra.up (upd_keep gn)))
/-- [elt for tg in iter for tg1 in iter1] -/
theorem je_lc2 {α β : Type} {xs : List α} {em : α → D} (ys : α → List β) (em1 : β → D) (f : α → β → D) (hc : X.calm = true) (hN : X.N.Nodup) (hi : PI X tg iter (tI X.K B ρ (xs.map em))) (bok : BlkOk X.N X.env.scope scope own) (hv : ∀ i ∈ vs1, i ∈ own.map (·.2)) (gok : GOk X.K g is put ok) (his : ∀ i ∈ is, i ∈ own.map (·.2)) (hok : ∀ x ∈ xs, ok (em x))
    (gok1 : GOk X.K g1 is1 pt1 ok1) (his1 : ∀ i ∈ is1, i ∈ vs1) (hok1 : ∀ x ∈ xs, ∀ y ∈ ys x, ok1 (em1 y)) (hz : (xs.flatMap fun x => (ys x).map (f x)).length ≤ sizeLine) (hg : Blk X scope fun Y => PG Y tg g) (hg1 : Blk X scope fun Y => PG Y tg1 g1)
    (hi1 : ∀ (k : Nat) (x : α), xs[k]? = some x → Blk X scope fun Y => PI Y tg1 iter1 (tI X.K B (put (wipeR ρ (own.map (·.2))) (em x)) ((ys x).map em1)))
    (he : ∀ (k : Nat) (x : α) (j : Nat) (y : β), xs[k]? = some x → (ys x)[j]? = some y → Blk X scope fun Y => PE Y elt (tD X.K B (pt1 (wipeR (put (wipeR ρ (own.map (·.2))) (em x)) vs1) (em1 y)) (f x y))) (hs : ∀ x, foldedSetIterable iter X.env x = pure x := by intro _; rfl) (hs1 : ∀ env x, foldedSetIterable iter1 env x = pure x := by intro _ _; rfl) :
    PE X (.ListComp elt [⟨tg, iter, [], 0⟩, ⟨tg1, iter1, [], 0⟩] scope pos) (tD X.K B ρ (.lst (xs.flatMap fun x => (ys x).map (f x)))) :=
  pe_mono (pe_lc2 hc hN hi bok hv hg (fun s H C cl fp => pts_nil) (fun s H C cl fp => pi_fam fun z => hi1 z.1.1 z.1.2 z.2 s H C cl fp) hg1 (fun s H C cl fp => pts_nil) (fun s H C cl fp => pe_fam fun z => he z.1.1.1 z.1.1.2 z.1.2.1 z.1.2.2 z.2.1 z.2.2 s H C cl fp) hs hs1) fun σ H Q h => lc2_read gok his hok gok1 his1 hok1 hz h
theorem js_setLc2 {E : XK} {α β : Type} {xs : List α} {em : α → D} (i : Nat) {y : PySem.Str} {py spos : Pos} (ys : α → List β) (em1 : β → D) (f : α → β → D) (hc : X.calm = true) (hN : X.N.Nodup) (hi : PI X tg iter (tI X.K B ρ (xs.map em))) (bok : BlkOk X.N X.env.scope scope own) (hv : ∀ i ∈ vs1, i ∈ own.map (·.2)) (gok : GOk X.K g is put ok) (his : ∀ i ∈ is, i ∈ own.map (·.2)) (hok : ∀ x ∈ xs, ok (em x))
    (gok1 : GOk X.K g1 is1 pt1 ok1) (his1 : ∀ i ∈ is1, i ∈ vs1) (hok1 : ∀ x ∈ xs, ∀ y ∈ ys x, ok1 (em1 y)) (hz : (xs.flatMap fun x => (ys x).map (f x)).length ≤ sizeLine) (hg : Blk X scope fun Y => PG Y tg g) (hg1 : Blk X scope fun Y => PG Y tg1 g1)
    (hi1 : ∀ (k : Nat) (x : α), xs[k]? = some x → Blk X scope fun Y => PI Y tg1 iter1 (tI X.K B (put (wipeR ρ (own.map (·.2))) (em x)) ((ys x).map em1)))
    (he : ∀ (k : Nat) (x : α) (j : Nat) (y : β), xs[k]? = some x → (ys x)[j]? = some y → Blk X scope fun Y => PE Y elt (tD X.K B (pt1 (wipeR (put (wipeR ρ (own.map (·.2))) (em x)) vs1) (em1 y)) (f x y))) (hsw : swapsWith (.ListComp elt [⟨tg, iter, [], 0⟩, ⟨tg1, iter1, [], 0⟩] scope pos) (some (.Name y py)) spos.line X.env = pure true)
    (hyl : X.env.scope.names.lookup y = some .local := by rfl) (hy : X.N[i]? = some y := by rfl) (hs : ∀ x, foldedSetIterable iter X.env x = pure x := by intro _; rfl) (hs1 : ∀ env x, foldedSetIterable iter1 env x = pure x := by intro _ _; rfl) :
    PS X (.Assign [.Name y py] (.ListComp elt [⟨tg, iter, [], 0⟩, ⟨tg1, iter1, [], 0⟩] scope pos) spos) (tS X.K B E ρ (.nx (ρ.set i (.da (.lst (xs.flatMap fun x => (ys x).map (f x))))))) :=
  ps_mono (ps_setLc2 hc hN hy hyl hsw hi bok hv hg (fun s H C cl fp => pts_nil) (fun s H C cl fp => pi_fam fun z => hi1 z.1.1 z.1.2 z.2 s H C cl fp) hg1 (fun s H C cl fp => pts_nil) (fun s H C cl fp => pe_fam fun z => he z.1.1.1 z.1.1.2 z.1.2.1 z.1.2.2 z.2.1 z.2.2 s H C cl fp) hs hs1) fun D σ H ⟨G, en, q⟩ =>
    lc2_read gok his hok gok1 his1 hok1 hz ⟨G, en, fun v G1 H1 g1 r => q _ G1 H1 g1.le ((en.up g1).setD r)⟩

/-! ### dicts by ints -/
/-- the pairs of a dict, as data -/
def dget (m : List (Key × D)) (k : Key) : Option D := (m.find? fun kv => decide (kv.1 = k)).map (·.2)
def dput (m : List (Key × D)) (k : Key) (d : D) : List (Key × D) := if (m.any fun kv => decide (kv.1 = k)) = true then m.map (fun kv => if kv.1 = k then (kv.1, d) else kv) else m ++ [(k, d)]
/-- pairs represented -/
inductive RepD (K : PySem.W.Frag) (G : Hp) : List (Key × V) → List (Key × D) → Prop
  | nil : RepD K G [] []
  | cons {k : Key} {v : V} {d : D} {r : List (Key × V)} {m : List (Key × D)} : Rep K G v d → RepD K G r m → RepD K G ((k, v) :: r) ((k, d) :: m)
/-- a dict of these pairs -/
def D.dk (m : List (Key × D)) : D := .dic (m.map (·.1)) (m.map (·.2))
theorem RepD.up {K : PySem.W.Frag} {G G' : Hp} (e : Same G G') : ∀ {r : List (Key × V)} {m : List (Key × D)}, RepD K G r m → RepD K G' r m
  | _, _, .nil => .nil
  | _, _, .cons h t => .cons (h.up e) (t.up e)
theorem RepD.to {K : PySem.W.Frag} {G : Hp} : ∀ {r : List (Key × V)} {m : List (Key × D)}, RepD K G r m → r.map (·.1) = m.map (·.1) ∧ RepAll K G (r.map (·.2)) (m.map (·.2))
  | _, _, .nil => ⟨rfl, .nil⟩
  | _, _, .cons h t => ⟨congrArg _ t.to.1, .cons h t.to.2⟩
theorem RepD.of {K : PySem.W.Frag} {G : Hp} : ∀ {r : List (Key × V)} {m : List (Key × D)}, r.map (·.1) = m.map (·.1) → RepAll K G (r.map (·.2)) (m.map (·.2)) → RepD K G r m
  | [], [], _, _ => .nil
  | [], _ :: _, e, _ => by cases e
  | _ :: _, [], e, _ => by cases e
  | (k, v) :: r, (k', d) :: m, e, h => by
    simp only [List.map_cons, List.cons.injEq] at e
    obtain ⟨e1, e2⟩ := e
    subst e1
    cases h with
    | cons h t => exact .cons h (RepD.of e2 t)
theorem RepD.rep {K : PySem.W.Frag} {G : Hp} {a : Addr} {r : List (Key × V)} {m : List (Key × D)} (h : RepD K G r m) (e : G a = some (.dK r)) : Rep K G (.ref a) (.dk m) := .dic e h.to.1 rfl h.to.2
theorem Rep.dk_inv {K : PySem.W.Frag} {G : Hp} {v : V} {m : List (Key × D)} (h : Rep K G v (.dk m)) : ∃ a r, v = .ref a ∧ G a = some (.dK r) ∧ RepD K G r m := by
  unfold D.dk at h
  cases h with
  | dic h1 h2 h3 h4 =>
    subst h3
    exact ⟨_, _, rfl, h1, .of h2 h4⟩
theorem RepD.get {K : PySem.W.Frag} {G : Hp} {k : Key} : ∀ {r : List (Key × V)} {m : List (Key × D)}, RepD K G r m → (dget m k = none ∧ valV r k = none) ∨ ∃ d v, dget m k = some d ∧ valV r k = some v ∧ Rep K G v d
  | _, _, .nil => .inl ⟨rfl, rfl⟩
  | _, _, .cons (k := k') (v := v) (d := d) (r := r) (m := m) h t => by
    by_cases e : k' = k
    · refine .inr ⟨d, v, ?_, ?_, h⟩
      · unfold dget; rw [List.find?_cons, decide_eq_true e]; rfl
      · exact valV_pos e
    · have e1 : dget ((k', d) :: m) k = dget m k := by unfold dget; rw [List.find?_cons, decide_eq_false e]
      have e2 : valV ((k', v) :: r) k = valV r k := valV_neg e
      rw [e1, e2]
      exact t.get
theorem RepD.any {K : PySem.W.Frag} {G : Hp} {k : Key} : ∀ {r : List (Key × V)} {m : List (Key × D)}, RepD K G r m → (r.any fun kv => decide (kv.1 = k)) = m.any fun kv => decide (kv.1 = k)
  | _, _, .nil => rfl
  | _, _, .cons _ t => by rw [List.any_cons, List.any_cons, t.any]
theorem RepD.map {K : PySem.W.Frag} {G : Hp} {k : Key} {v : V} {d : D} (h : Rep K G v d) : ∀ {r : List (Key × V)} {m : List (Key × D)}, RepD K G r m → RepD K G (r.map fun kv => if kv.1 = k then (kv.1, v) else kv) (m.map fun kv => if kv.1 = k then (kv.1, d) else kv)
  | _, _, .nil => .nil
  | _, _, .cons (k := k') h' t => by
    rw [List.map_cons, List.map_cons]
    by_cases e : k' = k
    · rw [if_pos e, if_pos e]; exact .cons h (t.map h)
    · rw [if_neg e, if_neg e]; exact .cons h' (t.map h)
theorem RepD.snoc {K : PySem.W.Frag} {G : Hp} {k : Key} {v : V} {d : D} (h : Rep K G v d) : ∀ {r : List (Key × V)} {m : List (Key × D)}, RepD K G r m → RepD K G (r ++ [(k, v)]) (m ++ [(k, d)])
  | _, _, .nil => .cons h .nil
  | _, _, .cons h' t => .cons h' (t.snoc h)
theorem RepD.putD {K : PySem.W.Frag} {G : Hp} {k : Key} {v : V} {d : D} {r : List (Key × V)} {m : List (Key × D)} (h : Rep K G v d) (t : RepD K G r m) : RepD K G (putK r k v) (dput m k d) := by
  unfold putK dput
  rw [t.any]
  split
  · exact t.map h
  · exact t.snoc h
theorem RepD.length {K : PySem.W.Frag} {G : Hp} : ∀ {r : List (Key × V)} {m : List (Key × D)}, RepD K G r m → r.length = m.length
  | _, _, .nil => rfl
  | _, _, .cons _ t => congrArg Nat.succ t.length
theorem dput_len (m : List (Key × D)) (k : Key) (d : D) : (dput m k d).length ≤ m.length + 1 := by
  unfold dput
  split
  · rw [List.length_map]; omega
  · rw [List.length_append]; exact Nat.le_refl _
/-- the pairs that a comprehension lays, one by one -/
def dmap {α : Type} (f : α → Key) (h : α → D) (xs : List α) : List (Key × D) := xs.foldl (fun m x => dput m (f x) (h x)) []
theorem dmap_snoc {α : Type} {f : α → Key} {h : α → D} {xs : List α} {x : α} : dmap f h (xs ++ [x]) = dput (dmap f h xs) (f x) (h x) := by unfold dmap; rw [List.foldl_append]; rfl
theorem dmap_len {α : Type} {f : α → Key} {h : α → D} (xs : List α) : (dmap f h xs).length ≤ xs.length := by
  have : ∀ (xs : List α) (m : List (Key × D)), (xs.foldl (fun m x => dput m (f x) (h x)) m).length ≤ m.length + xs.length := by
    intro xs
    induction xs with
    | nil => intro m; simp
    | cons x xs ih =>
      intro m
      have := ih (dput m (f x) (h x))
      have l := dput_len m (f x) (h x)
      rw [List.foldl_cons, List.length_cons]
      omega
  have := this xs []
  unfold dmap
  simpa using this
theorem dget_dput {m : List (Key × D)} {k k' : Key} {d : D} : dget (dput m k d) k' = if k = k' then some d else dget m k' := by
  unfold dput
  have fm : ∀ (m : List (Key × D)), dget (m.map fun kv => if kv.1 = k then (kv.1, d) else kv) k' = if k = k' then (if (m.any fun kv => decide (kv.1 = k)) = true then some d else none) else dget m k' := by
    intro m
    induction m with
    | nil => simp [dget]
    | cons p m ih =>
      obtain ⟨q, e⟩ := p
      unfold dget at ih ⊢
      rw [List.map_cons, List.find?_cons]
      by_cases h1 : q = k
      · subst h1
        by_cases h2 : q = k'
        · subst h2; simp
        · simp only [if_pos, decide_eq_false h2, List.find?_cons]
          rw [ih, if_neg h2, if_neg h2]
      · by_cases h2 : q = k'
        · subst h2
          simp [h1, Ne.symm h1]
        · simp only [if_neg h1, decide_eq_false h2, List.find?_cons, List.any_cons, decide_eq_false h1, Bool.false_or]
          exact ih
  split
  · next h =>
    rw [fm m, h]
    simp
  · next h =>
    unfold dget
    rw [List.find?_append]
    by_cases hk : k = k'
    · subst hk
      have : (m.find? fun kv => decide (kv.1 = k)) = none := by
        rw [List.find?_eq_none]
        intro x hx he
        exact h (List.any_eq_true.mpr ⟨x, hx, he⟩)
      rw [this, if_pos rfl]
      simp
    · rw [if_neg hk]
      cases (m.find? fun kv => decide (kv.1 = k')) <;> simp [hk]
/-- values that the keys tell -/
theorem dget_fold {α : Type} {f : α → Key} {h : α → D} (F : Key → D) (k : Key) : ∀ (ys : List α) (m : List (Key × D)), (∀ x ∈ ys, h x = F (f x)) →
    (k ∈ ys.map f → dget (ys.foldl (fun m x => dput m (f x) (h x)) m) k = some (F k)) ∧ (k ∉ ys.map f → dget (ys.foldl (fun m x => dput m (f x) (h x)) m) k = dget m k)
  | [], m, _ => ⟨fun z => by simp at z, fun _ => rfl⟩
  | y :: ys, m, hy => by
    obtain ⟨h1, h2⟩ := dget_fold F k ys (dput m (f y) (h y)) fun x hx => hy x (List.mem_cons_of_mem _ hx)
    have e := dget_dput (m := m) (k := f y) (k' := k) (d := h y)
    have hm := Classical.em (k ∈ ys.map f)
    refine ⟨fun z => ?_, fun z => ?_⟩
    · rcases hm with hm | hm
      · exact h1 hm
      · rw [List.foldl_cons, h2 hm, e]
        rcases List.mem_cons.mp z with q | q
        · rw [if_pos q.symm, hy y (by simp), q]
        · exact absurd q hm
    · have n1 : k ∉ ys.map f := fun q => z (List.mem_cons_of_mem _ q)
      rw [List.foldl_cons, h2 n1, e, if_neg]
      intro q
      exact z (by rw [List.map_cons, q]; exact List.mem_cons_self ..)
theorem dget_dmap {α : Type} {f : α → Key} {h : α → D} (F : Key → D) {xs : List α} (hF : ∀ x ∈ xs, h x = F (f x)) {k : Key} (hk : k ∈ xs.map f) : dget (dmap f h xs) k = some (F k) := (dget_fold F k xs [] hF).1 hk
theorem dget_dmap0 {α : Type} {f : α → Key} {h : α → D} (F : Key → D) {xs : List α} (hF : ∀ x ∈ xs, h x = F (f x)) {k : Key} (hk : k ∉ xs.map f) : dget (dmap f h xs) k = none := (dget_fold F k xs [] hF).2 hk
theorem dK_nt (kvs : List (Key × V)) (ps : Array Value) : HO.dK kvs ≠ .tbl ps := fun z => nomatch z
theorem dK_nc (kvs : List (Key × V)) (c : Addr) (q : PySem.Str) : HO.dK kvs ≠ LamX.CodeO c q := fun z => by unfold LamX.CodeO at z; cases z
/-- the reading of a dict comprehension -/
theorem dc_read {K : PySem.W.Frag} {α : Type} {xs : List α} {em : α → D} {f : α → Int} {h : α → D} {vs : List Nat} {σ : L2.St} {H : Hp} {Q : VK} (gok : GOk K g is put ok) (his : ∀ i ∈ is, i ∈ vs) (hok : ∀ x ∈ xs, ok (em x)) (hz : xs.length ≤ sizeLine) (hq : tD K B ρ (.dk (dmap (fun x => (Sum.inl (f x) : Key)) h xs)) σ H Q) :
    tDc (tI K B ρ (xs.map em)) g (fun _ H Q => Q true H) (fun σ H Q => ∃ z : {p : Nat × α // xs[p.1]? = some p.2}, tD K B (put (wipeR ρ vs) (em z.1.2)) (.int (f z.1.2)) σ H fun v H' => Q v H' ∧ True) (fun σ H Q => ∃ z : {p : Nat × α // xs[p.1]? = some p.2}, tD K B (put (wipeR ρ vs) (em z.1.2)) (h z.1.2) σ H Q) vs σ H Q := by
  obtain ⟨G, en, q⟩ := hq
  refine ⟨G, en, fun J G1 H1 g1 W D nD => ?_⟩
  have en1 := en.up g1
  refine ⟨fun i m H' => m = xs.length - i ∧ i ≤ xs.length ∧ ∃ G' r, Grow B.T G1 H1 G' H' ∧ G' D = none ∧ H' D = some (.dK r) ∧ RepD K G' r (dmap (fun x => (Sum.inl (f x) : Key)) h (xs.take i)), ⟨_, rfl, Nat.zero_le _, G1, _, g1.base.own nD, g1.base.none nD, upd_same, .nil⟩, ?_⟩
  rintro i m H' ⟨rfl, hi, G', r, gg, gn, hD, rd⟩
  by_cases hlt : i < xs.length
  · have hd : xs[i]? = some xs[i] := List.getElem?_eq_getElem hlt
    obtain ⟨hgo, hy⟩ := W.go i _ G' H' (map_at hlt) gg.le gg.base
    refine .inr ⟨hgo, fun H2 => ∃ G2 r, Grow B.T G1 H1 G2 H2 ∧ G2 D = none ∧ H2 D = some (.dK r) ∧ RepD K G2 r (dmap (fun x => (Sum.inl (f x) : Key)) h (xs.take (i + 1))), fun H2 ⟨G2, u2, a1, a2, a3, a4⟩ => ⟨_, by omega, rfl, hlt, G2, u2, a1, a2, a3, a4⟩, fun x H2 y => ?_⟩
    obtain ⟨G2, g2, rx⟩ := hy x H2 y
    have gg2 := gg.trans g2
    have gn2 := g2.away gn hD (dK_nt _) (dK_nc _)
    have hD2 := g2.keep D _ hD (dK_nt _)
    refine gok.go B (wipeR ρ vs) (wipe σ vs) G2 H2 x _ _ ((en1.up gg2).wiped vs) rx (hok _ (List.getElem_mem hlt)) fun σ3 en3 hl3 hj => ⟨wipe_same (hl3.trans (wipe_length σ vs)) fun j hjn => hj j fun z => hjn (his j z), ?_⟩
    show (if true = true then _ else _)
    rw [if_pos rfl]
    refine ⟨⟨(i, xs[i]), hd⟩, G2, en3, fun v G4 H4 g4 rv => ⟨?_, trivial⟩⟩
    have ev := rv.int_inv
    subst ev
    refine ⟨⟨(i, xs[i]), hd⟩, G4, en3.up g4, fun v G5 H5 g5 rv => ?_⟩
    have gn5 := (g4.trans g5).away gn2 hD2 (dK_nt _) (dK_nc _)
    have hD5 := (g4.trans g5).keep D _ hD2 (dK_nt _)
    have et : dmap (fun x => (Sum.inl (f x) : Key)) h (xs.take (i + 1)) = dput (dmap (fun x => (Sum.inl (f x) : Key)) h (xs.take i)) (Sum.inl (f xs[i])) (h xs[i]) := by rw [List.take_succ, hd, ← dmap_snoc]; rfl
    refine ⟨r, Sum.inl (f xs[i]), rfl, hD5, ?_, G5, _, ((gg2.trans g4).trans g5).wr nD gn5 hD5 (dK_nt _) (dK_nc _), gn5, upd_same, by rw [et]; exact (rd.up (g2.trans (g4.trans g5)).le).putD rv⟩
    have l1 := dmap_len (f := fun x => (Sum.inl (f x) : Key)) (h := h) (xs.take i)
    rw [List.length_take] at l1
    rw [rd.length]
    have : min i xs.length ≤ i := Nat.min_le_left _ _
    omega
  · have e : i = xs.length := by omega
    subst e
    rw [List.take_length] at rd
    refine .inl ⟨W.stop _ G' H' (by rw [List.length_map]; exact Nat.le_refl _) gg.le gg.base, ?_⟩
    have gf := gg.fz nD gn hD (dK_nt _)
    exact q _ _ _ (g1.trans gf) ((rd.up (upd_keep gn)).rep upd_same)
theorem je_dc {α : Type} {xs : List α} {em : α → D} (f : α → Int) (h : α → D) (hc : X.calm = true) (hN : X.N.Nodup) (hi : PI X tg iter (tI X.K B ρ (xs.map em))) (bok : BlkOk X.N X.env.scope scope own) (gok : GOk X.K g is put ok) (his : ∀ i ∈ is, i ∈ own.map (·.2)) (hok : ∀ x ∈ xs, ok (em x)) (hz : xs.length ≤ sizeLine)
    (hg : Blk X scope fun Y => PG Y tg g) (hk : ∀ (k : Nat) (x : α), xs[k]? = some x → Blk X scope fun Y => PE Y kx (tD X.K B (put (wipeR ρ (own.map (·.2))) (em x)) (.int (f x))))
    (he : ∀ (k : Nat) (x : α), xs[k]? = some x → Blk X scope fun Y => PE Y vx (tD X.K B (put (wipeR ρ (own.map (·.2))) (em x)) (h x))) (hs : ∀ x, foldedSetIterable iter X.env x = pure x := by intro _; rfl) :
    PE X (.DictComp kx vx [⟨tg, iter, [], 0⟩] scope pos) (tD X.K B ρ (.dk (dmap (fun x => (Sum.inl (f x) : Key)) h xs))) :=
  pe_mono (pe_dc hc hN hi bok hg (fun s H C cl fp => pts_nil) (fun s H C cl fp => pe_fam fun z => pe_mono (hk z.1.1 z.1.2 z.2 s H C cl fp) fun σ H Q ⟨G, en, q⟩ => ⟨G, en, fun v G' H' g r => (q v G' H' g r).1⟩) (fun s H C cl fp => pe_fam fun z => he z.1.1 z.1.2 z.2 s H C cl fp) hs) fun σ H Q hq => dc_read gok his hok hz hq
end

section
variable {B : Bs} {ρ : List Sl} {o i e f : Expr} {pos apos : Pos} {m : List (Key × D)} {d : D} {k : Int}
/-- m[i] -/
theorem je_dget (hu : X.A.units + 1 < cLine) (ho : PE X o (tD X.K B ρ (.dk m))) (hi : PE X i (tD X.K B ρ (.int k))) (h : dget m (Sum.inl k) = some d) (hs : NoSl i := by exact fun _ _ => rfl) : PE X (.Subscript o i pos) (tD X.K B ρ d) :=
  pe_mono (pe_dget hu ho hi hs) fun σ H Q ⟨G, en, q⟩ => ⟨G, en, fun x G1 H1 g1 rx => ⟨G1, en.up g1, fun y G2 H2 g2 ry => by
    obtain ⟨a, r, rfl, ha, rd⟩ := (rx.up g2.le).dk_inv
    have ey := ry.int_inv
    subst ey
    rcases rd.get (k := Sum.inl k) with ⟨e, _⟩ | ⟨d', v, e1, e2, rv⟩
    · rw [h] at e; cases e
    · rw [h] at e1; cases e1
      exact ⟨a, v, rfl, e2 ▸ DGet.k (k := Sum.inl k) (g2.sub _ _ ha), q v G2 H2 (g1.trans g2) rv⟩⟩⟩
/-- m.get(e, f) -/
theorem je_dget2 (hu : X.A.units + 1 < cLine) (ho : PE X o (tD X.K B ρ (.dk m))) (he : PE X e (tD X.K B ρ (.int k))) (hf : PE X f (tD X.K B ρ d)) (mm : M2 X o "get" apos e f pos) : PE X (.Call (.Attribute o "get" apos) [e, f] [] pos) (tD X.K B ρ ((dget m (Sum.inl k)).getD d)) :=
  pe_mono (pe_dget2 hu ho he hf mm) fun σ H Q ⟨G, en, q⟩ => ⟨G, en, fun x G1 H1 g1 rx => by
    obtain ⟨a, r, rfl, ha, rd⟩ := rx.dk_inv
    refine ⟨a, rfl, ?_, G1, en.up g1, fun y G2 H2 g2 ry => ⟨G2, (en.up g1).up g2, fun z G3 H3 g3 rz => ?_⟩⟩
    · exact .inl ⟨r, .inl (g1.sub _ _ ha)⟩
    have ey := ry.int_inv
    subst ey
    have ha3 : G3 a = some (.dK r) := (g2.trans g3).le _ _ ha
    rcases (rd.up (g2.trans g3).le).get (k := Sum.inl k) with ⟨e1, e2⟩ | ⟨d', v, e1, e2, rv⟩
    · refine ⟨_, DGet.k (k := Sum.inl k) (g3.sub _ _ ha3), ?_⟩
      rw [e2]
      refine q z G3 H3 ((g1.trans g2).trans g3) ?_
      rw [e1]
      exact rz
    · refine ⟨_, DGet.k (k := Sum.inl k) (g3.sub _ _ ha3), ?_⟩
      rw [e2]
      refine q v G3 H3 ((g1.trans g2).trans g3) ?_
      rw [e1]
      exact rv⟩
end
end DL
end
section
set_option Elab.async false
set_option linter.all false
set_option maxRecDepth 100000
set_option maxHeartbeats 4000000
/-! D-layer 9: members, comparisons of data, slices, attributes, isinstance, index. -/
namespace DL
open PySem PySem.Spec PyProof.Rows L2 NdefX
variable {X : Cx}
section
variable {B : Bs} {ρ : List Sl} {a b c e : Expr} {es : List Expr} {pos : Pos} {d da db : D} {ds xs : List D} {i j : Int}
/-! ### members -/
theorem inV_ints {i : Int} {ns : List Int} : inV (.int i) (ns.map V.int) = decide (i ∈ ns) := by
  unfold inV
  induction ns with
  | nil => simp
  | cons n ns ih =>
    rw [List.map_cons, List.any_cons, ih]
    by_cases h : i = n
    · subst h; simp [eqV]
    · have : eqV (.int n) (.int i) = false := by simp [eqV, Ne.symm h]
      rw [this]
      simp [h]
theorem inV_strs {i : PySem.Str} {ns : List PySem.Str} : inV (.str i) (ns.map V.str) = decide (i ∈ ns) := by
  unfold inV
  induction ns with
  | nil => simp
  | cons n ns ih =>
    rw [List.map_cons, List.any_cons, ih]
    by_cases h : i = n
    · subst h; simp [eqV]
    · have : eqV (.str n) (.str i) = false := by simp [eqV, Ne.symm h]
      rw [this]
      simp [h]
theorem flat_ints' (ns : List Int) : (ns.map V.int).all flatV = true := by rw [List.all_map]; exact List.all_eq_true.mpr fun _ _ => rfl
theorem rin_int {K : PySem.W.Frag} {T : List NTab} {G H : Hp} {x y : V} {Q : VK} {ns : List Int} {neg : Bool} (bs : Base T G H) (rx : Rp K G H x (.int i)) (ry : Rp K G H y (.lst (ns.map D.int)) ∨ Rp K G H y (.tup (ns.map D.int)))
    (q : ∀ v G' H', Grow T G H G' H' → Rep K G' v (.bl (if neg then !decide (i ∈ ns) else decide (i ∈ ns))) → Q v H') : rIn K neg x y H Q := by
  have ex := (rx.scal (fun _ z => nomatch z)).int_inv
  subst ex
  rcases ry with ry | ry
  · obtain ⟨p, vs, rfl, hp, r⟩ := ry.lst bs
    have e := r.intsV
    subst e
    exact ⟨p, _, rfl, .inl (SqL.of hp), rfl, flat_ints' ns, q _ G H bs.refl (by rw [inV_ints]; exact .bl _)⟩
  · obtain ⟨p, vs, rfl, hp, r⟩ := ry.tup bs
    have e := r.intsV
    subst e
    exact ⟨p, _, rfl, .inr (SqT.of hp), rfl, flat_ints' ns, q _ G H bs.refl (by rw [inV_ints]; exact .bl _)⟩
theorem jt_inL {ns : List Int} (ha : PE X a (tD X.K B ρ (.int i))) (hb : PE X b (tR X.K B ρ (.lst (ns.map D.int)))) (hm : behindInMarks .In b = false := by rfl) : PT X (.Compare a [.In] [b] pos) (tT X.K B ρ (decide (i ∈ ns))) :=
  jt_cmp op_in_seq hm (PE_r ha) hb fun G H x y Q bs rx ry q => rin_int (neg := false) bs rx (.inl ry) q
theorem jt_inT {ns : List Int} (ha : PE X a (tD X.K B ρ (.int i))) (hb : PE X b (tD X.K B ρ (.tup (ns.map D.int)))) (hm : behindInMarks .In b = false := by rfl) : PT X (.Compare a [.In] [b] pos) (tT X.K B ρ (decide (i ∈ ns))) :=
  jt_cmp op_in_seq hm (PE_r ha) (PE_r hb) fun G H x y Q bs rx ry q => rin_int (neg := false) bs rx (.inr ry) q
theorem jt_ninL {ns : List Int} (ha : PE X a (tD X.K B ρ (.int i))) (hb : PE X b (tR X.K B ρ (.lst (ns.map D.int)))) (hm : behindInMarks .NotIn b = false := by rfl) : PT X (.Compare a [.NotIn] [b] pos) (tT X.K B ρ (!decide (i ∈ ns))) :=
  jt_cmp op_notIn_seq hm (PE_r ha) hb fun G H x y Q bs rx ry q => rin_int (neg := true) bs rx (.inl ry) q
theorem jt_inLS {i : PySem.Str} {ns : List PySem.Str} (ha : PE X a (tD X.K B ρ (.str i))) (hb : PE X b (tR X.K B ρ (.lst (ns.map D.str)))) (hm : behindInMarks .In b = false := by rfl) : PT X (.Compare a [.In] [b] pos) (tT X.K B ρ (decide (i ∈ ns))) :=
  jt_cmp op_in_seq hm (PE_r ha) hb fun G H x y Q bs rx ry q => by
    have ex := (rx.scal (fun _ z => nomatch z)).str_inv
    subst ex
    obtain ⟨p, vs, rfl, hp, r⟩ := ry.lst bs
    have e := r.strsV
    subst e
    exact ⟨p, _, rfl, .inl (SqL.of hp), rfl, flat_strs ns, q _ G H bs.refl (by rw [inV_strs]; exact .bl _)⟩

/-! ### == of data -/
mutual
def D.py : D → PyData
  | .non => .none
  | .bl b => .bool b
  | .int i => .int i
  | .str x => .str x
  | .lst xs => .list (pyAll xs)
  | .tup xs => .tuple (pyAll xs)
  | .ptup xs => .tuple (pyAll xs)
  | .ins _ _ _ => .none
  | .dic _ _ => .none
  | .iset _ => .none
  | .scr _ => .none
  | .fn _ _ => .none
  | .adr _ => .none
def pyAll : List D → List PyData
  | [] => []
  | d :: ds => d.py :: pyAll ds
end
mutual
/-- data that == is told of: the plain ones, of depth at most n -/
def D.pl : Nat → D → Bool
  | _, .non => true
  | _, .bl _ => true
  | _, .int _ => true
  | _, .str x => PyData.strOk x
  | n + 1, .lst xs => plAll n xs
  | n + 1, .tup xs => plAll n xs
  | n + 1, .ptup xs => plAll n xs
  | _, _ => false
def plAll : Nat → List D → Bool
  | _, [] => true
  | n, d :: ds => D.pl n d && plAll n ds
end
mutual
theorem pl_dp {K : PySem.W.Frag} {T : List NTab} {G H : Hp} (bs : Base T G H) : ∀ (n : Nat) (v : V) (d : D), Rep K G v d → d.pl n = true → Dp K H v d.py
  | _, _, _, .non, _ => .non
  | _, _, _, .bl b, _ => .bl b
  | _, _, _, .int i, _ => .int i
  | _, _, _, .str x, _ => .str x
  | n + 1, _, _, .lst e r, h => by
    unfold D.py
    exact .lst (SqL.of (bs.sub _ _ e)) (pl_dpAll bs n _ _ r (by unfold D.pl at h; exact h))
  | n + 1, _, _, .tup e r, h => by
    unfold D.py
    exact .tup (SqT.of (bs.sub _ _ e)) (pl_dpAll bs n _ _ r (by unfold D.pl at h; exact h))
  | n + 1, _, _, .ptup hn e r, h => by
    unfold D.py
    exact .tup (.inl (.inr ⟨_, bs.sub _ _ e⟩)) (pl_dpAll bs n _ _ r (by unfold D.pl at h; exact h))
  | 0, _, _, .ptup _ _ _, h => by unfold D.pl at h; cases h
  | 0, _, _, .lst _ _, h => by unfold D.pl at h; cases h
  | 0, _, _, .tup _ _, h => by unfold D.pl at h; cases h
  | n, _, _, .ins _ _ _ _, h => by unfold D.pl at h; cases h
  | n, _, _, .dic _ _ _ _, h => by unfold D.pl at h; cases h
  | n, _, _, .iset _ _ _, h => by unfold D.pl at h; cases h
  | n, _, _, .scr _, h => by unfold D.pl at h; cases h
  | n, _, _, .fn _ _, h => by unfold D.pl at h; cases h
  | n, _, _, .adr _, h => by unfold D.pl at h; cases h
theorem pl_dpAll {K : PySem.W.Frag} {T : List NTab} {G H : Hp} (bs : Base T G H) : ∀ (n : Nat) (vs : List V) (ds : List D), RepAll K G vs ds → plAll n ds = true → DpAll K H vs (pyAll ds)
  | _, _, _, .nil, _ => by unfold pyAll; exact .nil
  | n, _, _, .cons r t, h => by
    unfold plAll at h
    unfold pyAll
    exact .cons (pl_dp bs n _ _ r (Bool.and_eq_true_iff.mp h).1) (pl_dpAll bs n _ _ t (Bool.and_eq_true_iff.mp h).2)
end
mutual
theorem pl_can : ∀ (n : Nat) (d : D), d.pl n = true → d.py.canLay0 = true ∧ d.py.depth ≤ n
  | _, .non, _ => ⟨rfl, Nat.zero_le _⟩
  | _, .bl _, _ => ⟨rfl, Nat.zero_le _⟩
  | _, .int _, _ => ⟨rfl, Nat.zero_le _⟩
  | n, .str x, h => by unfold D.pl at h; exact ⟨h, Nat.zero_le _⟩
  | n + 1, .lst xs, h => by
    unfold D.pl at h
    unfold D.py
    obtain ⟨h1, h2⟩ := pl_canAll n xs h
    exact ⟨h1, Nat.succ_le_succ h2⟩
  | n + 1, .tup xs, h => by
    unfold D.pl at h
    unfold D.py
    obtain ⟨h1, h2⟩ := pl_canAll n xs h
    exact ⟨h1, Nat.succ_le_succ h2⟩
  | n + 1, .ptup xs, h => by
    unfold D.pl at h
    unfold D.py
    obtain ⟨h1, h2⟩ := pl_canAll n xs h
    exact ⟨h1, Nat.succ_le_succ h2⟩
  | 0, .ptup _, h => by unfold D.pl at h; cases h
  | 0, .lst _, h => by unfold D.pl at h; cases h
  | 0, .tup _, h => by unfold D.pl at h; cases h
  | n, .ins _ _ _, h => by unfold D.pl at h; cases h
  | n, .dic _ _, h => by unfold D.pl at h; cases h
  | n, .iset _, h => by unfold D.pl at h; cases h
  | n, .scr _, h => by unfold D.pl at h; cases h
  | n, .fn _ _, h => by unfold D.pl at h; cases h
  | n, .adr _, h => by unfold D.pl at h; cases h
theorem pl_canAll : ∀ (n : Nat) (ds : List D), plAll n ds = true → PyData.canLayAll0 (pyAll ds) = true ∧ PyData.depthAll (pyAll ds) ≤ n
  | _, [], _ => ⟨rfl, Nat.zero_le _⟩
  | n, d :: ds, h => by
    unfold plAll at h
    unfold pyAll
    obtain ⟨h1, h2⟩ := pl_can n d (Bool.and_eq_true_iff.mp h).1
    obtain ⟨h3, h4⟩ := pl_canAll n ds (Bool.and_eq_true_iff.mp h).2
    exact ⟨Bool.and_eq_true_iff.mpr ⟨h1, h3⟩, Nat.max_le.mpr ⟨h2, h4⟩⟩
end
/-- the answer of == -/
def D.eqb (a b : D) : Bool := PyData.eqv a.py b.py
theorem D.eqb_refl {d : D} {n : Nat} (h : d.pl n = true) : d.eqb d = true := PySem.SeqAt.eqv_refl _ (pl_can n d h).1
theorem pl_shaped {d : D} {n : Nat} (h : d.pl n = true) (hn : n ≤ 64) : SeqAt.shaped d.py = true := by
  obtain ⟨h1, h2⟩ := pl_can n d h
  exact Bool.and_eq_true_iff.mpr ⟨h1, decide_eq_true (Nat.le_trans h2 hn)⟩
/-- what is read as data -/
theorem Rp.dp {K : PySem.W.Frag} {T : List NTab} {G H : Hp} {v : V} {d : D} {n : Nat} (bs : Base T G H) (hp : d.pl n = true) (r : Rp K G H v d) : Dp K H v d.py := by
  rcases r with r | ⟨a, xs, ds, rfl, rfl, h1, h2⟩
  · exact pl_dp bs n _ _ r hp
  · cases n with
    | zero => unfold D.pl at hp; cases hp
    | succ n =>
      unfold D.py
      exact .lst (SqL.of h1) (pl_dpAll bs n _ _ h2 (by unfold D.pl at hp; exact hp))
theorem jt_eqD {n : Nat} (hu : X.A.units + 64 < cLine) (ha : PE X a (tR X.K B ρ da)) (hb : PE X b (tR X.K B ρ db)) (pa : da.pl n = true) (pb : db.pl n = true) (hn : n ≤ 64 := by decide) : PT X (.Compare a [.Eq] [b] pos) (tT X.K B ρ (da.eqb db)) :=
  jt_cmp (op_eqD hu) (nomark _) ha hb fun G H x y Q bs rx ry q => ⟨_, _, rx.dp bs pa, ry.dp bs pb, pl_shaped pa hn, pl_shaped pb hn, q _ G H bs.refl (.bl _)⟩
theorem jt_neD {n : Nat} (hu : X.A.units + 64 < cLine) (ha : PE X a (tR X.K B ρ da)) (hb : PE X b (tR X.K B ρ db)) (pa : da.pl n = true) (pb : db.pl n = true) (hn : n ≤ 64 := by decide) : PT X (.Compare a [.NotEq] [b] pos) (tT X.K B ρ (!da.eqb db)) :=
  jt_cmp (op_neD hu) (nomark _) ha hb fun G H x y Q bs rx ry q => ⟨_, _, rx.dp bs pa, ry.dp bs pb, pl_shaped pa hn, pl_shaped pb hn, q _ G H bs.refl (.bl _)⟩
theorem je_eqD {n : Nat} (hu : X.A.units + 64 < cLine) (ha : PE X a (tR X.K B ρ da)) (hb : PE X b (tR X.K B ρ db)) (pa : da.pl n = true) (pb : db.pl n = true) (hn : n ≤ 64 := by decide) : PE X (.Compare a [.Eq] [b] pos) (tD X.K B ρ (.bl (da.eqb db))) :=
  je_cmp (op_eqD hu) (nomark _) ha hb fun G H x y Q bs rx ry q => ⟨_, _, rx.dp bs pa, ry.dp bs pb, pl_shaped pa hn, pl_shaped pb hn, q _ G H bs.refl (.bl _)⟩
theorem je_neD {n : Nat} (hu : X.A.units + 64 < cLine) (ha : PE X a (tR X.K B ρ da)) (hb : PE X b (tR X.K B ρ db)) (pa : da.pl n = true) (pb : db.pl n = true) (hn : n ≤ 64 := by decide) : PE X (.Compare a [.NotEq] [b] pos) (tD X.K B ρ (.bl (!da.eqb db))) :=
  je_cmp (op_neD hu) (nomark _) ha hb fun G H x y Q bs rx ry q => ⟨_, _, rx.dp bs pa, ry.dp bs pb, pl_shaped pa hn, pl_shaped pb hn, q _ G H bs.refl (.bl _)⟩

/-! ### tuples: sums, slices -/
theorem je_catT {xs ys : List D} (hz : xs.length + ys.length ≤ sizeLine) (ha : PE X a (tD X.K B ρ (.tup xs))) (hb : PE X b (tD X.K B ρ (.tup ys))) : PE X (.BinOp a .Add b pos) (tD X.K B ρ (.tup (xs ++ ys))) :=
  je_op op_catA (PE_r ha) (PE_r hb) fun G H x y Q bs rx ry q => by
    have rx0 := rx.scal (fun _ z => nomatch z)
    have ry0 := ry.scal (fun _ z => nomatch z)
    obtain ⟨p, vs, rfl, hp, r1⟩ := rx.tup bs
    obtain ⟨p2, ws, rfl, hp2, r2⟩ := ry.tup bs
    refine ⟨p, p2, vs, ws, rfl, rfl, SqT.of hp, SqT.of hp2, by rw [r1.length, r2.length]; exact hz, fun e => ?_, fun _ e => ?_, fun _ _ l hl => ?_⟩
    · subst e; cases r1; exact q _ G H bs.refl ry0
    · subst e; cases r2; rw [List.append_nil] at q; exact q _ G H bs.refl rx0
    · have g := bs.lay (o := .tup (vs ++ ws)) hl (fun ps z => nomatch z)
      exact q _ _ _ g (.tup upd_same ((r1.append r2).up g.le))
theorem cut_whole {α : Type} {xs : List α} {lo hi : Option Int} (h : HT.sIx xs.length 0 lo = 0 ∧ HT.sIx xs.length xs.length hi = xs.length) : cutD xs lo hi = xs := by
  unfold cutD
  rw [h.1, h.2, List.drop_zero, Nat.sub_zero, List.take_length]
theorem je_slT {xs : List D} {lo hi : Option Expr} {l u : Option Int} {p2 : Pos} (ha : PE X a (tD X.K B ρ (.tup xs))) (hl : PO X lo (tOI X.K B ρ l)) (hu : PO X hi (tOI X.K B ρ u)) : PE X (.Subscript a (.Slice lo hi none p2) pos) (tD X.K B ρ (.tup (cutD xs l u))) :=
  pe_mono (pe_slice sl_tupA ha hl hu) fun σ H Q ⟨G, en, q⟩ => ⟨G, en, fun x G1 H1 g1 rx => ⟨G1, en.up g1, fun G2 H2 g2 => ⟨G2, en.up (g1.trans g2), fun G3 H3 g3 => by
    have rx0 := rx.up (g2.trans g3).le
    obtain ⟨p, vs, rfl, hp, r⟩ := (show Rp X.K G3 H3 x _ from .inl rx0).tup g3.base
    refine ⟨p, vs, rfl, SqT.of hp, fun hw => ?_, fun _ np hl => ?_⟩
    · rw [r.length] at hw
      rw [cut_whole hw] at q
      exact q _ _ _ ((g1.trans g2).trans g3) rx0
    · have g := g3.base.lay (o := .tup (cutV vs l u)) hl (fun ps z => nomatch z)
      exact q _ _ _ (((g1.trans g2).trans g3).trans g) (.tup upd_same ((r.cut _ _).up g.le))⟩⟩⟩
theorem je_revL {k : Nat} {p1 p2 p3 : Pos} (ha : PE X a (tR X.K B ρ (.lst xs))) : PE X (.Subscript a (.Slice none none (some (.UnaryOp .USub (.Constant (.int 1) k p1) p2)) p3) pos) (tD X.K B ρ (.lst xs.reverse)) :=
  pe_mono (pe_revL ha) fun σ H Q ⟨G, en, q⟩ => ⟨G, en, fun x G1 H1 g1 rx => by
    obtain ⟨p, vs, rfl, hp, r⟩ := rx.lst g1.base
    refine ⟨p, vs, rfl, SqL.of hp, fun l hl => ?_⟩
    have g := g1.base.lay (o := .lst vs.reverse) hl (fun ps z => nomatch z)
    exact q _ _ _ (g1.trans g) (.lst upd_same (r.reverse.up g.le))⟩
theorem je_listRg {n : Nat} {p p2 pos2 : Pos} (hz : n ≤ 2 ^ 24) (hc : X.calm = true) (hg : Gl X "list") (hm : X.mg "list" = none) (hg2 : Gl X "range") (hm2 : X.mg "range" = none) (ha : PE X a (tD X.K B ρ (.int (n : Int))))
    (hs : starEach [a] X.env = (false, eval a X.env) :: starEach [] X.env := by rfl) (hs2 : starEach [.Call (.Name "range" p2) [a] [] pos2] X.env = (false, eval (.Call (.Name "range" p2) [a] [] pos2) X.env) :: starEach [] X.env := by rfl) :
    PE X (.Call (.Name "list" p) [.Call (.Name "range" p2) [a] [] pos2] [] pos) (tD X.K B ρ (.lst (rngD n))) :=
  pe_mono (pe_listRg hc hg hm (prg_1 hg2 hm2 ha hs) hs2) fun σ H Q ⟨G, en, q⟩ => ⟨G, en, fun x G1 H1 g1 rx => by
    have ex := rx.int_inv
    subst ex
    refine ⟨(n : Int), rfl, RgOk.of_le (by omega) (by omega) (by omega) (by omega), fun l hl => ?_⟩
    have g := g1.base.lay (o := .lst (rgV 0 n)) hl (fun ps z => nomatch z)
    refine q _ _ _ (g1.trans g) (.lst upd_same ?_)
    unfold rgV rngD
    have : ((n : Int) - 0).toNat = n := by omega
    rw [this]
    have gen : ∀ l : List Nat, RepAll X.K (upd G1 ‹Addr› (HO.lst (rgV 0 n))) (l.map fun i : Nat => V.int (0 + (i : Int))) (l.map fun i : Nat => D.int (i : Int)) := by
      intro l
      induction l with
      | nil => exact .nil
      | cons x l ih => rw [List.map_cons, List.map_cons, Int.zero_add]; exact .cons (.int _) ih
    exact gen _⟩

/-! ### truth of lists, chains -/
theorem jt_truthL (ha : PE X a (tR X.K B ρ (.lst xs))) (he : ∀ whole, isTrue a X.env whole = (do let v ← whole; standAt a.pos; holding [v] (truthy v)) := by intro _; rfl) : PT X a (tT X.K B ρ (!xs.isEmpty)) :=
  pt_mono (pt_truth ha he) fun σ H Q ⟨G, en, q⟩ => ⟨G, en, fun x G1 H1 g1 rx => by
    obtain ⟨p, vs, rfl, hp, r⟩ := rx.lst g1.base
    refine ⟨!xs.isEmpty, .inl ⟨vs, SqL.of hp, ?_⟩, q G1 H1 g1⟩
    cases r <;> rfl⟩
theorem jt_chain0 (ha : PE X a (tD X.K B ρ (.int i))) (hb : PE X b (tD X.K B ρ (.int j))) {k : Int} (hc : PE X c (tD X.K B ρ (.int k))) (hm : lastMarks [.LtE, .Lt] [b, c] = false := by with_unfolding_all rfl) : PT X (.Compare a [.LtE, .Lt] [b, c] pos) (tT X.K B ρ (decide (i ≤ j) && decide (j < k))) :=
  pt_mono (pt_chain op_le op_lt ha hb hc hm) fun σ H Q ⟨G, en, q⟩ => ⟨G, en, fun x G1 H1 g1 rx => ⟨G1, en.up g1, fun y G2 H2 g2 ry => by
    have ex := rx.int_inv
    have ey := ry.int_inv
    subst ex ey
    refine ⟨i, j, rfl, rfl, decide (i ≤ j), rfl, ?_⟩
    by_cases h : i ≤ j
    · rw [decide_eq_true h]
      exact ⟨G2, en.up (g1.trans g2), fun z G3 H3 g3 rz => by
        have ez := rz.int_inv
        subst ez
        refine ⟨j, k, rfl, rfl, _, rfl, ?_⟩
        have := q G3 H3 ((g1.trans g2).trans g3)
        rw [decide_eq_true h, Bool.true_and] at this
        exact this⟩
    · rw [decide_eq_false h]
      have := q G2 H2 (g1.trans g2)
      rw [decide_eq_false h, Bool.false_and] at this
      exact ⟨_, rfl, this⟩⟩⟩
end

/-! ### own classes -/
structure OwnC (K : PySem.W.Frag) (C : Addr) : Prop where
  cls : Cls K C
  cat : PySem.W.findIn K (.ref C) "__class__" = some (some (.builtin "object.__class__"))
  cgt : PySem.W.specialIn K (.builtin "object.__class__") "__get__" = some (some (.builtin "getset_descriptor.__get__"))
  ctk : PySem.W.takesIn K (.builtin "object.__class__") = some true
  cob : PySem.W.mroIn K C (.type "object") = some true
section
variable {B : Bs} {ρ : List Sl} {a b c e : Expr} {es : List Expr} {pos apos : Pos} {d da db : D} {ds xs : List D} {i j : Int}
theorem RepAll.lookup {K : PySem.W.Frag} {G : Hp} {f : PySem.Str} : ∀ {fs : List (PySem.Str × V)} {ns : List PySem.Str} {xs : List V} {ds : List D} {d : D}, fs.map (·.1) = ns → fs.map (·.2) = xs → RepAll K G xs ds → (ns.zip ds).lookup f = some d → ∃ v, fs.lookup f = some v ∧ Rep K G v d
  | [], _, _, _, _, rfl, rfl, r, h => by cases h
  | (k, v) :: fs, _, _, _, d, rfl, rfl, r, h => by
    cases r with
    | cons r t =>
      simp only [List.map_cons, List.zip_cons_cons, List.lookup_cons] at h ⊢
      by_cases e : f == k
      · rw [e] at h ⊢
        cases h
        exact ⟨v, rfl, r⟩
      · rw [Bool.eq_false_iff.mpr e] at h ⊢
        exact RepAll.lookup rfl rfl t h
theorem je_fld {C : Addr} {f : PySem.Str} {ns : List PySem.Str} (c : Cls X.K C) (n : NoAttr X.K C f) (he : PE X e (tD X.K B ρ (.ins C ns ds))) (h : (ns.zip ds).lookup f = some d) (hb : attributeBase e f X.env (eval e X.env) = eval e X.env := by rfl) : PE X (.Attribute e f pos) (tD X.K B ρ d) :=
  pe_mono (pe_fld he hb) fun σ H Q ⟨G, en, q⟩ => ⟨G, en, fun x G1 H1 g1 rx => by
    cases rx with
    | ins h1 h2 h3 h4 =>
      obtain ⟨v, h5, h6⟩ := RepAll.lookup h2 h3 h4 h
      exact ⟨_, C, _, _, v, rfl, g1.sub _ _ h1, c, n, h5, q v G1 H1 g1 h6⟩⟩
/-- the class that type(x) answers -/
def D.ty : D → Value
  | .non => .type "NoneType"
  | .bl _ => .type "bool"
  | .int _ => .type "int"
  | .str _ => .type "str"
  | .lst _ => .type "list"
  | .tup _ => .type "tuple"
  | .ptup _ => .type "tuple"
  | .ins C _ _ => .ref C
  | .dic _ _ => .type "dict"
  | _ => .none
def D.tyOk (K : PySem.W.Frag) : D → Prop
  | .ins C _ _ => OwnC K C
  | .iset _ => False
  | .scr _ => False
  | .fn _ _ => False
  | .adr _ => False
  | _ => True
theorem Rep.tyX {K : PySem.W.Frag} {T : List NTab} {G H : Hp} {v : V} {d : D} (bs : Base T G H) (r : Rep K G v d) (h : d.tyOk K) : TyX K H v d.ty := by
  cases r with
  | non => exact .base .non
  | bl b => exact .base (.bl b)
  | int b => exact .base (.int b)
  | str b => exact .base (.str b)
  | lst e _ => exact .base (.lst (bs.sub _ _ e))
  | tup e _ => exact .base (.tup (bs.sub _ _ e))
  | ptup _ e _ => exact .fTuple (bs.sub _ _ e)
  | ins e _ _ _ => exact .base (.ins (bs.sub _ _ e) h.cls h.cat h.cgt h.ctk h.cob)
  | dic e _ _ _ => exact .base (.dK (bs.sub _ _ e))
  | iset _ _ _ => exact h.elim
  | scr _ => exact h.elim
  | fn _ _ => exact h.elim
  | adr _ => exact h.elim
/-- isinstance(x, y), y a class by its name -/
theorem je_isi {k : Bool} {cv : V} {u : Value} {p : Pos} (hg : Gl X "isinstance") (hm : X.mg "isinstance" = none) (ha : PE X a (tD X.K B ρ d)) (hb : PE X b (tC cv)) (hcv : ClsV cv u) (ht : d.tyOk X.K) (hk : PySem.W.kitOne X.K d.ty u = some k)
    (hs : starEach [a, b] X.env = (false, eval a X.env) :: starEach [b] X.env := by rfl) (hs2 : starEach [b] X.env = (false, eval b X.env) :: starEach [] X.env := by rfl) (hpl : (backTo pos (starEach [b] X.env)).any (·.1) = false := by rfl) : PE X (.Call (.Name "isinstance" p) [a, b] [] pos) (tD X.K B ρ (.bl k)) :=
  pe_mono (pe_callB call_isi hg hm rfl (pa_cons ha (pa_cons hb pa_nil hs2) hs) (by decide) (by decide) hs hpl) fun σ H Q ⟨G, en, q⟩ => ⟨G, en, fun x G1 H1 g1 rx =>
    ⟨x, cv, _, u, k, rfl, hcv, rx.tyX g1.base ht, hk, q _ G1 H1 g1 (.bl k)⟩⟩
theorem pe_tyT {p : Pos} {x : PySem.Str} {n : String} (hg : Gl X x) (hm : X.mg x = none) (hv : bootBuiltins x = some (.type n)) (hn : x ≠ "__name__" := by decide) (hd : (x == ("__debug__" : PySem.Str)) = false := by decide) : PE X (.Name x p) (tC (.ty n)) := pe_bltn hg hm hv rfl hn hd
theorem pe_cls {p : Pos} {x : PySem.Str} {C : Addr} (hg : Gl X x) (hm : X.mg x = some (.ref C)) (hd : (x == ("__debug__" : PySem.Str)) = false := by decide) : PE X (.Name x p) (tC (.ref C)) := pe_glob hg hm rfl hd

/-! ### index -/
theorem je_indexI {ns : List Int} {k : Nat} (hx : PE X a (tR X.K B ρ (.lst (ns.map D.int)))) (he : PE X e (tD X.K B ρ (.int i))) (h : ns[k]? = some i) (hno : ∀ m, m < k → ns[m]? ≠ some i) (hst : starEach [e] X.env = (false, eval e X.env) :: starEach [] X.env := by rfl)
    (hpe : ∀ {to te : TE}, PE X a to → PE X e te → PE X (.Call (.Attribute a "index" apos) [e] [] pos) (tBM X.K "list" (rIndex X.K) to (tCons te tNil)) := by
      intro to te h1 h; exact pe_bm PySem.F.plainAttrs_list PySem.F.slot_list_index PySem.F.type_list_index mt_index h1 (pa_cons h pa_nil)) :
    PE X (.Call (.Attribute a "index" apos) [e] [] pos) (tD X.K B ρ (.int (k : Int))) :=
  pe_mono (hpe hx he) fun σ H Q ⟨G, en, q⟩ => ⟨G, en, fun x G1 H1 g1 rx => by
    obtain ⟨p, vs, rfl, hp, r⟩ := rx.lst g1.base
    have ev := r.intsV
    subst ev
    refine ⟨.inl ⟨rfl, _, SqL.of hp⟩, G1, en.up g1, fun y G2 H2 g2 ry => ?_⟩
    have ey := ry.int_inv
    subst ey
    have hp2 := g2.keep _ _ hp (fun ps z => nomatch z)
    refine ⟨p, ns.map V.int, .int i, k, .int i, rfl, rfl, SqL.of hp2, rfl, flat_ints' ns, by rw [List.getElem?_map, h]; rfl, by simp [eqV], fun m z hm hz => ?_, q _ G2 H2 (g1.trans g2) (.int _)⟩
    rw [List.getElem?_map] at hz
    cases hn : ns[m]? with
    | none => rw [hn] at hz; cases hz
    | some n =>
      rw [hn] at hz
      cases hz
      have : n ≠ i := fun z => hno m hm (z ▸ hn)
      simp [eqV, this]⟩
theorem Rep.ptup_inv {K : PySem.W.Frag} {T : List NTab} {G H : Hp} {v : V} {ds : List D} (bs : Base T G H) (r : Rep K G v (.ptup ds)) : ∃ a o xs, v = .ref a ∧ o.dict = none ∧ H a = some (.frz o (.tup xs)) ∧ G a = some (.frz o (.tup xs)) ∧ RepAll K G xs ds := by
  cases r with
  | ptup n e r => exact ⟨_, _, _, rfl, n, bs.sub _ _ e, e, r⟩
theorem je_indexS {ns : List PySem.Str} {z : PySem.Str} {k : Nat} (hx : PE X a (tD X.K B ρ (.ptup (ns.map D.str)))) (he : PE X e (tD X.K B ρ (.str z))) (h : ns[k]? = some z) (hno : ∀ m, m < k → ns[m]? ≠ some z)
    (hbase : attributeBase a "index" X.env (eval a X.env) = eval a X.env := by rfl)
    (hfew : ((backTo pos (starEach [e] X.env)).all (fun x => !x.1) && (backToKw pos (keywordEach [] X.env)).all (fun x => x.1.isSome)
      && decide ([e].length + ([] : List Keyword).length + (if ([] : List Keyword).isEmpty then 0 else 1) < 30)) = true := by rfl)
    (hline : (apos.endLine == pos.line) = true := by rfl) (hs : starEach [e] X.env = (false, eval e X.env) :: starEach [] X.env := by rfl) : PE X (.Call (.Attribute a "index" apos) [e] [] pos) (tD X.K B ρ (.int (k : Int))) := by
  refine ⟨fun pins s σ H Q I hq => ?_⟩
  obtain ⟨G, en, q⟩ := hq
  refine wpAny_Call_method_late hbase hfew hline rfl (thn (hx.run pins s σ H (fun v H1 => ∃ G1, Grow B.T G H G1 H1 ∧ Rep X.K G1 v (.ptup (ns.map D.str))) I ⟨G, en, fun v G1 H1 g1 r => ⟨G1, g1, r⟩⟩) fun v s1 ⟨x, H1, I1, r1, G1, g1, rx⟩ => ?_)
  obtain ⟨p, o, xs, rfl, hn, hH, hG, r⟩ := rx.ptup_inv g1.base
  have ev := r.strsV
  subst ev
  obtain rfl : v = Value.ref p := r1
  obtain ⟨its, rv, pl, hz⟩ := I1.tuple (show SqT X.K H1 p (ns.map V.str) from .inl (.inr ⟨o, hH⟩))
  obtain ⟨e1, _⟩ := (show ObjOk X.prog X.w H1 s1.heap p (.frz o (.tup (ns.map V.str))) from I1.hok p _ hH)
  refine ⟨"tuple", "tuple.index", PySem.F.plainAttrs_tuple, PySem.F.slot_tuple_index, PySem.F.type_tuple_index, pl.typeIs, fun b hb => ?_, ?_⟩
  · cases hb; exact ⟨o, e1, hn⟩
  have hA := (ja_one he hs).run pos pins s1 σ H1 (fun us H2 => us = [.str z] ∧ SqT X.K H2 p (ns.map V.str) ∧ Q (.int (k : Int)) H2) I1 ⟨G1, en.up g1, fun vs G2 H2 g2 rs => by
    cases rs with
    | cons ry t =>
      cases t
      have ey := ry.str_inv
      subst ey
      exact ⟨rfl, .inl (.inr ⟨o, g2.keep _ _ hH (fun ps z => nomatch z)⟩), q _ G2 H2 (g1.trans g2) (.int _)⟩⟩
  rw [hs] at hA ⊢
  refine Calls.callWith_builtin rfl (Calls.evalArgs_plain ?_)
  refine thn hA fun us s2 ⟨vs, H2, I2, r2, e2, h2, q2⟩ => ?_
  subst e2
  exact mt_tup_index pins s2 σ H2 (.ref p) _ _ us Q I2 rfl r2 ⟨p, ns, z, k, rfl, rfl, h2, h, hno, q2⟩
/-- tuple(list), the tuple known to be plain -/
theorem call_tuple_plain : CallR X (.type "tuple") (fun xs H Q => ∃ p ys, xs = [.ref p] ∧ SqL X.K H p ys ∧ ∀ l o, o.dict = none → H l = none → Q (.ref l) (upd H l (.frz o (.tup ys)))) := by
  intro pins s σ H xs us Q I r h
  obtain ⟨p, ys, rfl, hq, q⟩ := h
  obtain ⟨u, rfl, rx⟩ := vals1 r
  cases rx
  obtain ⟨its, r', pl, hz⟩ := I.list hq
  have hlen := r'.length
  refine call_tuple_list pl.isList (fun h' kp => ?_) (by simp only [List.size_toArray] <;> omega)
  have I1 : Inv X pins σ H { s with heap := h' } := I.kept (t' := s.toks) kp
  have I2 : Inv X pins σ (upd H h'.objs.size (.frz { cls := .type "tuple", data := .seq its.toArray } (.tup ys))) { s with heap := h'.push { cls := .type "tuple", data := .seq its.toArray } } :=
    I1.laid (t' := s.toks) (fun b o e => Heap.get?_push_of_some _ e) (Nat.le_refl _) (show ObjOk X.prog X.w _ _ _ (.frz _ (.tup ys)) from ⟨Heap.get?_push_size _ rfl, hz, its, r', IsTup.new _ _⟩)
  exact ⟨.ref h'.objs.size, _, I2, rfl, q _ _ rfl (I1.hok.fresh (Nat.le_refl _))⟩
theorem je_tupP {xs : List D} {p : Pos} (hg : Gl X "tuple") (hm : X.mg "tuple" = none) (ha : PE X e (tR X.K B ρ (.lst xs))) (hs : starEach [e] X.env = (false, eval e X.env) :: starEach [] X.env := by rfl) : PE X (.Call (.Name "tuple" p) [e] [] pos) (tD X.K B ρ (.ptup xs)) :=
  je_callTyr call_tuple_plain hg hm boot_tuple ha (fun G H v Q bs r q => by
    obtain ⟨p, vs, rfl, hp, r1⟩ := r.lst bs
    refine ⟨p, vs, rfl, SqL.of hp, fun l o hn hl => ?_⟩
    have g := bs.lay (o := .frz o (.tup vs)) hl (fun ps z => nomatch z)
    exact q _ _ _ g (.ptup hn upd_same (r1.up g.le))) (by decide) (by decide) hs rfl
theorem je_lenP {xs : List D} {p : Pos} (hg : Gl X "len") (hm : X.mg "len" = none) (ha : PE X e (tD X.K B ρ (.ptup xs))) (hs : starEach [e] X.env = (false, eval e X.env) :: starEach [] X.env := by rfl) : PE X (.Call (.Name "len" p) [e] [] pos) (tD X.K B ρ (.int xs.length)) :=
  je_callBr call_len_seq hg hm PySem.boot_len (PE_r ha) (fun G H v Q bs r q => by
    obtain ⟨p, o, vs, rfl, _, hp, _, r1⟩ := (r.scal (fun _ z => nomatch z)).ptup_inv bs
    exact ⟨p, vs, rfl, .inr (.inl (.inr ⟨o, hp⟩)), q _ G H bs.refl (by rw [r1.length]; exact .int _)⟩) (by decide) (by decide) hs rfl
theorem ji_ptup {tg : Expr} {items : List D} (h : PE X e (tD X.K B ρ (.ptup items))) : PI X tg e (tI X.K B ρ items) :=
  pi_mono (pi_tup h) fun σ H R ⟨G, en, q⟩ => ⟨G, en, fun v G1 H1 g1 r => by
    cases r with
    | @ptup a o xs _ hn h rs =>
      have at_ : ∀ {G2 H2 : Hp}, Same G1 G2 → Base B.T G2 H2 → SqT X.K H2 a xs := fun s b => .inl (.inr ⟨o, b.sub _ _ (s _ _ h)⟩)
      refine ⟨a, rfl, ⟨xs, at_ (Same.refl _) g1.base⟩, q _ G1 H1 g1 ⟨fun i d G2 H2 hi s b => ?_, fun i G2 H2 hi s b => ⟨xs, at_ s b, by rw [rs.length]; exact hi⟩⟩⟩
      obtain ⟨x, hx, rx⟩ := rs.get hi
      refine ⟨⟨xs, x, at_ s b, hx⟩, fun y H3 ⟨e1, e2⟩ => ?_⟩
      subst e1
      have ey := e2 xs (at_ s b)
      rw [hx] at ey; cases ey
      exact ⟨G2, b.refl, rx.up s⟩⟩
/-- displays of a few items -/
theorem je_tp {x1 : Nat} (h : PA X es (tDs X.K B ρ ds)) (hz : Nat.ble ds.length sizeLine = true := by rfl) : PE X (.Tuple es x1 pos) (tD X.K B ρ (.tup ds)) := je_tup (Nat.le_of_ble_eq_true hz) h
theorem je_ls (h : PA X es (tDs X.K B ρ ds)) (hz : Nat.ble ds.length sizeLine = true := by rfl) : PE X (.List es pos) (tD X.K B ρ (.lst ds)) := je_lst (Nat.le_of_ble_eq_true hz) h
end
end DL
end
section
set_option Elab.async false
set_option linter.all false
set_option maxRecDepth 100000
set_option maxHeartbeats 4000000
/-! D-layer 10: name = {k: v for ..} on one line. -/
namespace DL
open PySem PySem.Spec PyProof.Rows L2 NdefX
variable {X : Cx}
theorem swD_true {kx vx : Expr} {gs : List Comprehension} {scope : Scope} {pos py : Pos} {y : PySem.Str} {l : Nat} {env : Env} (hk : env.scope.kind = .function) (hy : env.scope.names.lookup y = some .local) (hl : (py.line == pos.line) = true)
    (ha : (scope.names.any fun (n, k) => n == y && (k == .local || k == .cell)) = false) : swapsWith (.DictComp kx vx gs scope pos) (some (.Name y py)) l env = pure true := by
  have ky : env.kindOf y = some .local := hy
  have hb : env.blockKind = .function := by unfold Env.blockKind; rw [hk]; rfl
  unfold swapsWith
  simp only [hb, ky, ha, Expr.pos, hl]
  rfl
theorem ps_setDc {i : Nat} {y : PySem.Str} {py : Pos} {kx vx tg iter : Expr} {ifs : List Expr} {scope : Scope} {own : List (PySem.Str × Nat)} {pos spos : Pos} {wi : TI} {g : TG} {tt : TT} {tk tv : TE} (hc : X.calm = true) (hN : X.N.Nodup) (hy : X.N[i]? = some y) (hyl : X.env.scope.names.lookup y = some .local)
    (hsw : swapsWith (.DictComp kx vx [⟨tg, iter, ifs, 0⟩] scope pos) (some (.Name y py)) spos.line X.env = pure true) (hi : PI X tg iter wi) (ok : BlkOk X.N X.env.scope scope own)
    (hg : Blk X scope fun Y => PG Y tg g) (ht : Blk X scope fun Y => PTs Y ifs tt) (hk : Blk X scope fun Y => PE Y kx tk) (he : Blk X scope fun Y => PE Y vx tv) (hs : ∀ x, foldedSetIterable iter X.env x = pure x := by intro _; rfl) :
    PS X (.Assign [.Name y py] (.DictComp kx vx [⟨tg, iter, ifs, 0⟩] scope pos) spos) (tAsg (tDc wi g tt tk tv (own.map (·.2))) (gName i)) := by
  refine ⟨fun pins s σ H D I h => ?_⟩
  rw [exec_Assign_Name_used _ _ _ _ hsw]
  refine wpAny_bind (wpAny_standAt (wpAny_bind ?_))
  show wpAny _ X.A (do let _ ← comprehension (.DictComp kx vx [⟨tg, iter, ifs, 0⟩] scope pos) scope X.env (firstIterPos [⟨tg, iter, ifs, 0⟩] pos) newDict false (eval iter X.env) (some (assign (.Name y py) X.env))) _ _ s
  have h : tDc wi g tt tk tv (own.map (·.2)) σ H (fun x H1 => gName i x σ H1 D.nx) := h
  refine wpAny_bind (thn (dc_core (Qf := fun _ s' => SP X pins D .next s') hc hN I hi ok hg ht hk he hs h fun L C s' m H' I' q hn f => ?_) fun _ s' hq => wpAny_pure (wpAny_pure hq))
  show wpAny _ _ (assign (.Name y py) X.env (.ref L)) _ _ _
  refine wpAny_assign_Name (store_ok2 (v := V.ref L) I' hN hy (.inl hyl) rfl (fun s2 I2 ⟨a, sb, ha⟩ => ?_) (.inr hyl))
  obtain ⟨f0, f1, f2, f3, f4, f5⟩ := f
  have haC : C ≠ a := by
    rcases ha with z | z
    · rw [z]; exact f1
    · exact fun e => f4 y a z e.symm
  refine ⟨m, hn.sameBut sb haC, fun h3 sb3 => ?_⟩
  exact ⟨_, H', I2.turned (t' := s2.toks) (fun b o hb e => (sb3.2 b hb).trans e) f0 f1 f3 f4 f5, q⟩
variable {B : Bs} {E : XK} {ρ : List Sl} {kx vx tg iter : Expr} {scope : Scope} {own : List (PySem.Str × Nat)} {pos : Pos} {g : TG} {is : List Nat} {put : List Sl → D → List Sl} {ok : D → Prop}
theorem js_setDc {α : Type} {xs : List α} {em : α → D} (i : Nat) {y : PySem.Str} {py spos : Pos} (f : α → Int) (h : α → D) (hc : X.calm = true) (hN : X.N.Nodup) (hi : PI X tg iter (tI X.K B ρ (xs.map em))) (bok : BlkOk X.N X.env.scope scope own) (gok : GOk X.K g is put ok) (his : ∀ i ∈ is, i ∈ own.map (·.2)) (hok : ∀ x ∈ xs, ok (em x)) (hz : xs.length ≤ sizeLine)
    (hg : Blk X scope fun Y => PG Y tg g) (hk : ∀ (k : Nat) (x : α), xs[k]? = some x → Blk X scope fun Y => PE Y kx (tD X.K B (put (wipeR ρ (own.map (·.2))) (em x)) (.int (f x))))
    (he : ∀ (k : Nat) (x : α), xs[k]? = some x → Blk X scope fun Y => PE Y vx (tD X.K B (put (wipeR ρ (own.map (·.2))) (em x)) (h x))) (hsw : swapsWith (.DictComp kx vx [⟨tg, iter, [], 0⟩] scope pos) (some (.Name y py)) spos.line X.env = pure true)
    (hyl : X.env.scope.names.lookup y = some .local := by rfl) (hy : X.N[i]? = some y := by rfl) (hs : ∀ x, foldedSetIterable iter X.env x = pure x := by intro _; rfl) :
    PS X (.Assign [.Name y py] (.DictComp kx vx [⟨tg, iter, [], 0⟩] scope pos) spos) (tS X.K B E ρ (.nx (ρ.set i (.da (.dk (dmap (fun x => (Sum.inl (f x) : Key)) h xs)))))) :=
  ps_mono (ps_setDc hc hN hy hyl hsw hi bok hg (fun s H C cl fp => pts_nil) (fun s H C cl fp => pe_fam fun z => pe_mono (hk z.1.1 z.1.2 z.2 s H C cl fp) fun σ H Q ⟨G, en, q⟩ => ⟨G, en, fun v G' H' g r => (q v G' H' g r).1⟩) (fun s H C cl fp => pe_fam fun z => he z.1.1 z.1.2 z.2 s H C cl fp) hs) fun D σ H ⟨G, en, q⟩ =>
    dc_read gok his hok hz ⟨G, en, fun v G1 H1 g1 r => q _ G1 H1 g1.le ((en.up g1).setD r)⟩
end DL
end
section
set_option Elab.async false
set_option linter.all false
set_option maxRecDepth 100000
set_option maxHeartbeats 4000000
/-! D-layer 11: max(ints, default=d). -/
namespace DL
open PySem PySem.Spec PyProof.Rows L2 NdefX
variable {X : Cx}
def mxd (d : Int) : List Int → Int
  | [] => d
  | n :: ns => ns.foldl max n
theorem reads_ints {h : Heap} : ∀ (ns : List Int) (us : List Value), Vals (ns.map V.int) us → ∃ as, ReadsAll h us (ns.map PyData.int) as
  | [], _, r => by cases r; exact ⟨_, .nil⟩
  | n :: ns, _, r => by
    cases r with
    | cons r t =>
      obtain ⟨k, rfl⟩ := r
      obtain ⟨as, q⟩ := reads_ints ns _ t
      exact ⟨_, .cons (.int n k) q⟩
theorem depth_ints : ∀ ns : List Int, PyData.depthAll (ns.map PyData.int) = 0
  | [] => rfl
  | n :: ns => by
    have := depth_ints ns
    show max (PyData.depth (.int n)) (PyData.depthAll (ns.map PyData.int)) = 0
    rw [this]; rfl
theorem alike_ints (ns : List Int) : PySem.W.AlikeAll (ns.map PyData.int) := ⟨fun x hx y hy => by
  obtain ⟨a, _, rfl⟩ := List.mem_map.mp hx
  obtain ⟨b, _, rfl⟩ := List.mem_map.mp hy
  rfl, fun x hx => by
  obtain ⟨a, _, rfl⟩ := List.mem_map.mp hx
  exact fun z => nomatch z⟩
theorem cr_maxDef (hc : X.calm = true) (hu : X.A.units + 64 < cLine) : CallRK X (.builtin "max") [PySem.Str.ofString "default"] (fun vs zs H Q => ∃ a ns d, vs = [.ref a] ∧ zs = [.int d] ∧ SqL X.K H a (ns.map V.int) ∧ Q (.int (mxd d ns)) H) := by
  intro pins s σ H vs zs us ws Q I r rz h
  obtain ⟨a, ns, d, rfl, rfl, hs, q⟩ := h
  obtain rfl := Vals.ref1 r
  obtain ⟨w1, rfl, t1, rfl⟩ := vals1 rz
  obtain ⟨its, rv, hl, _⟩ := I.list hs
  obtain ⟨as, hr⟩ := reads_ints (h := s.heap) ns its rv
  refine PySem.W.max_list_default (I.ok.hd hc) hl.isList (vs := its.toArray) (by simpa using hr) (alike_ints ns) (by rw [depth_ints]; omega) (fun e h' tk hk => ?_) (fun y ys i v h' tk bs e hv rd hk => ?_)
  · have e' : ns = [] := by simpa using e
    subst e'
    exact ⟨.int d, H, I.kept hk, ⟨_, rfl⟩, q⟩
  · cases ns with
    | nil => cases e
    | cons n ns =>
      cases e
      rw [PySem.W.maxD_ints] at rd
      cases rd with
      | int _ t => exact ⟨.int _, H, I.kept hk, ⟨_, rfl⟩, q⟩
variable {B : Bs} {ρ : List Sl} {e kv : Expr} {pos : Pos}
theorem je_maxDef {ns : List Int} {d : Int} {p kp : Pos} (hc : X.calm = true) (hu : X.A.units + 64 < cLine) (hg : Gl X "max") (hm : X.mg "max" = none) (ha : PE X e (tR X.K B ρ (.lst (ns.map D.int)))) (hk : PE X kv (tD X.K B ρ (.int d)))
    (hs : starEach [e] X.env = (false, eval e X.env) :: starEach [] X.env := by rfl) (he : backTo pos (starEach [e] X.env) = (false, eval e X.env) :: backTo pos (starEach [] X.env) := by rfl) (hpl : (backTo pos (starEach [e] X.env)).any (·.1) = false := by rfl)
    (hall : (backToKw pos (keywordEach [⟨some "default", kv, kp⟩] X.env)).all (·.1.isSome) = true := by rfl) (hnone : (backToKw pos (keywordEach [⟨some "default", kv, kp⟩] X.env)).any (·.1.isNone) = false := by rfl) (hks : (backToKw pos (keywordEach [⟨some "default", kv, kp⟩] X.env)).filterMap (·.1) = [PySem.Str.ofString "default"] := by rfl) :
    PE X (.Call (.Name "max" p) [e] [⟨some "default", kv, kp⟩] pos) (tD X.K B ρ (.int (mxd d ns))) :=
  pe_mono (pe_callBK (cr_maxDef hc hu) hg hm rfl (ja_r1 ha hs) (pk_cons hk pk_nil) (by decide) (by decide) he hpl hall hnone hks) fun σ H Q ⟨G, en, q⟩ => ⟨G, en, fun v G1 H1 g1 r => ⟨G1, en.up g1, fun v2 G2 H2 g2 r2 => by
    obtain ⟨a, vs, rfl, hp, ra⟩ := (r.up g2).lst g2.base
    have e1 := ra.intsV
    subst e1
    have e2 := r2.int_inv
    subst e2
    exact ⟨a, ns, d, rfl, rfl, SqL.of hp, q _ G2 H2 (g1.trans g2) (.int _)⟩⟩⟩
end DL
end
section
set_option Elab.async false
set_option linter.all false
set_option maxRecDepth 100000
set_option maxHeartbeats 4000000
/-! D-layer 12: defs that fall off their end, methods, properties. -/
namespace DL
open PySem PySem.Spec PyProof.Rows L2 NdefX
section
variable {X : Cx} {B : Bs} {E : XK} {ρ ρ1 : List Sl} {o : Out} {rest : List Stmt} {pos : Pos}
/-- if c: .., c not so -/
theorem jss_ifn {c : Expr} {a : List Stmt} {k : Bool} (hc : PT X c (tT X.K B ρ k)) (hk : k = false) (hr : PSs X rest (tS X.K B E ρ o)) : PSs X (.If c a [] pos :: rest) (tS X.K B E ρ o) := by
  subst hk
  exact jss_cons (js_if hc (fun z => nomatch z) fun _ => jss_nil) hr
/-- if c: .. else: .., the rest of both alike -/
theorem jss_ife {c : Expr} {a b : List Stmt} {k : Bool} (hc : PT X c (tT X.K B ρ k)) (ha : k = true → PSs X a (tS X.K B E ρ (.nx ρ1))) (hb : k = false → PSs X b (tS X.K B E ρ (.nx ρ1))) (hr : PSs X rest (tS X.K B E ρ1 o)) : PSs X (.If c a b pos :: rest) (tS X.K B E ρ o) := jss_cons (js_if hc ha hb) hr
end
section
variable {P : Program} {w : World} {K : PySem.W.Frag} {mg : PySem.Str → Option Value} {base : Heap} {T : List NTab} {k : Nat} {x qual m : PySem.Str} {ps : List PySem.Str} {R : List D → D → Prop} {C : Addr}
/-- a def that may fall off its end: it gives none then -/
theorem fn_Dn {st : Stmt} {f : Addr} {fd : FuncData} {N : List PySem.Str} (F : Fun K x qual st f fd) (S : FnScope N ps (defScope st)) (len : ∀ ds d, R ds d → ds.length = ps.length)
    (hbody : ∀ (cdv : Value) (A : Around) (outer : List Env) (s : Shared) (H G : Hp) (E : XK) (ds : List D) (d : D), Room k (A.deeper (envOfC qual (defScope st) s.heap.objs.size f cdv)) → R ds d →
      d = .non ∧ ∃ ρ, PSs (cxOf CX0 P w K mg base N qual (defScope st) f cdv A outer s H E).nox (defBody st) (tS K ⟨T, G, H⟩ E0 (env0 N.length ds) (.nx ρ))) : FnOk P w K mg base CX0 (k + 1) f fd ps (spD K T R) := by
  refine F.ok S (fun vs H Q E h => ?_) (fun cdv A outer s H vs Q E hr h => ?_)
  · obtain ⟨G, ds, d, b, r, hR, _⟩ := h
    rw [r.length]
    exact len ds d hR
  · obtain ⟨G, ds, d, b, r, hR, q⟩ := h
    obtain ⟨e, ρ, hb⟩ := hbody cdv A outer s H G E ds d hr hR
    subst e
    exact ⟨_, hb, G, en_start b r, fun σ' G' H' _ en => q .non G' H' en.grow .non⟩
theorem cal_Dn {st : Stmt} {N : List PySem.Str} (F : Dfn K mg x st ps) (S : FnScope N ps (defScope st)) (len : ∀ ds d, R ds d → ds.length = ps.length)
    (hbody : ∀ (f : Addr) (cdv : Value) (A : Around) (outer : List Env) (s : Shared) (H G : Hp) (E : XK) (ds : List D) (d : D), Room k (A.deeper (envOfC x (defScope st) s.heap.objs.size f cdv)) → R ds d →
      d = .non ∧ ∃ ρ, PSs (cxOf CX0 P w K mg base N x (defScope st) f cdv A outer s H E).nox (defBody st) (tS K ⟨T, G, H⟩ E0 (env0 N.length ds) (.nx ρ))) : Cal P w K mg base T (k + 1) x ps R := by
  obtain ⟨f, fd, F, hm, hb⟩ := F.ex
  exact ⟨f, fd, fn_Dn F S len (hbody f), hm, F.kp, hb⟩

/-! ### methods -/
/-- a method of the class at C, by its statement -/
structure Mth (K : PySem.W.Frag) (C : Addr) (m qual : PySem.Str) (st : Stmt) (ps : List PySem.Str) : Prop where
  ex : ∃ (f : Addr) (fd : FuncData), Fun K m qual st f fd ∧ Meth K C m f ∧ Binds K fd ps []
/-- .. with its promise -/
structure MCal (P : Program) (w : World) (K : PySem.W.Frag) (mg : PySem.Str → Option Value) (base : Heap) (T : List NTab) (k : Nat) (C : Addr) (m : PySem.Str) (ps : List PySem.Str) (R : List D → D → Prop) : Prop where
  ex : ∃ (f : Addr) (fd : FuncData), FnOk P w K mg base CX0 k f fd ps (spD K T R) ∧ Meth K C m f ∧ Binds K fd ps []
theorem mcal_D {st : Stmt} {N : List PySem.Str} (F : Mth K C m qual st ps) (S : FnScope N ps (defScope st)) (len : ∀ ds d, R ds d → ds.length = ps.length)
    (hbody : ∀ (f : Addr) (cdv : Value) (A : Around) (outer : List Env) (s : Shared) (H G : Hp) (E : XK) (ds : List D) (d : D), Room k (A.deeper (envOfC qual (defScope st) s.heap.objs.size f cdv)) → R ds d →
      PSs (cxOf CX0 P w K mg base N qual (defScope st) f cdv A outer s H E).nox (defBody st) (tS K ⟨T, G, H⟩ E0 (env0 N.length ds) (.rt d))) : MCal P w K mg base T (k + 1) C m ps R := by
  obtain ⟨f, fd, F, hm, hb⟩ := F.ex
  exact ⟨f, fd, fn_D F S len (hbody f), hm, hb⟩
/-- a property of the class at C -/
structure Prt (K : PySem.W.Frag) (C : Addr) (m qual : PySem.Str) (st : Stmt) : Prop where
  ex : ∃ (p g : Addr) (fd : FuncData), Fun K m qual st g fd ∧ PropOf K C m p g ∧ Binds K fd ["self"] []
structure PCal (P : Program) (w : World) (K : PySem.W.Frag) (mg : PySem.Str → Option Value) (base : Heap) (T : List NTab) (k : Nat) (C : Addr) (m : PySem.Str) (R : List D → D → Prop) : Prop where
  ex : ∃ (p g : Addr) (fd : FuncData), FnOk P w K mg base CX0 k g fd ["self"] (spD K T R) ∧ PropOf K C m p g ∧ Binds K fd ["self"] []
theorem pcal_D {st : Stmt} {N : List PySem.Str} (F : Prt K C m qual st) (S : FnScope N ["self"] (defScope st)) (len : ∀ ds d, R ds d → ds.length = 1)
    (hbody : ∀ (f : Addr) (cdv : Value) (A : Around) (outer : List Env) (s : Shared) (H G : Hp) (E : XK) (ds : List D) (d : D), Room k (A.deeper (envOfC qual (defScope st) s.heap.objs.size f cdv)) → R ds d →
      PSs (cxOf CX0 P w K mg base N qual (defScope st) f cdv A outer s H E).nox (defBody st) (tS K ⟨T, G, H⟩ E0 (env0 N.length ds) (.rt d))) : PCal P w K mg base T (k + 1) C m R := by
  obtain ⟨p, g, fd, F, hm, hb⟩ := F.ex
  exact ⟨p, g, fd, fn_D F S len (hbody g), hm, hb⟩
end
section
variable {X : Cx} {B : Bs} {ρ : List Sl} {d : D} {ds xs : List D} {o e : Expr} {es : List Expr} {pos apos : Pos} {C : Addr} {ns : List PySem.Str} {m : PySem.Str}
theorem lookup_none {m : PySem.Str} : ∀ {fs : List (PySem.Str × V)} {ns : List PySem.Str}, fs.map (·.1) = ns → ns.any (m == ·) = false → fs.lookup m = none
  | [], _, rfl, _ => rfl
  | (k, v) :: fs, _, rfl, h => by
    simp only [List.map_cons, List.any_cons, Bool.or_eq_false_iff] at h
    rw [List.lookup_cons, h.1]
    exact lookup_none rfl h.2
/-- o.m(e, ..) -/
theorem je_meth {pl : Sem Bool} {k j : Nat} {ps : List PySem.Str} {R : List D → D → Prop} (c : Cls X.K C) (F : MCal X.prog X.w X.K X.mg X.base B.T j C m ps R) (hr : Room k X.A) (hj : j ≤ k) (hm : ns.any (m == ·) = false) (hR : R (.ins C ns xs :: ds) d) (ho : PE X o (tD X.K B ρ (.ins C ns xs))) (ha : PA X (e :: es) (tDs X.K B ρ ds))
    (hst : starEach (e :: es) X.env = (false, eval e X.env) :: starEach es X.env := by rfl) (hpl : (backTo pos (starEach es X.env)).any (·.1) = false := by rfl)
    (ht : eval (.Call (.Attribute o m apos) (e :: es) [] pos) X.env = (do
      let ov ← eval o X.env
      standAt apos.atName
      let (f, first) ← holding [ov] (getMethod ov m pl)
      callWith pos f first (backTo pos (starEach (e :: es) X.env)) (backToKw pos (keywordEach [] X.env))) := by rfl) : PE X (.Call (.Attribute o m apos) (e :: es) [] pos) (tD X.K B ρ d) := by
  obtain ⟨f, fd, F, hme, hb⟩ := F.ex
  exact pe_mono (pe_meth ho c hme F (hr.mono hj) hb .nil pass0 ha hst hpl ht) fun σ H Q ⟨G, en, q⟩ => ⟨G, en, fun x G1 H1 g1 rx => by
    have rx0 := rx
    cases rx with
    | ins h1 h2 h3 h4 =>
      refine ⟨_, _, _, rfl, g1.sub _ _ h1, lookup_none h2 hm, G1, en.up g1, fun vs G2 H2 g2 rs => ?_⟩
      show spD X.K B.T R (_ :: (vs ++ [])) H2 Q E0
      rw [List.append_nil]
      exact ⟨G2, _, d, g2.base, .cons (rx0.up g2.le) rs, hR, fun v G3 H3 g3 rv => q v G3 H3 ((g1.trans g2).trans g3) rv⟩⟩
/-- e.m, a property -/
theorem je_prop {k j : Nat} {R : List D → D → Prop} (c : Cls X.K C) (F : PCal X.prog X.w X.K X.mg X.base B.T j C m R) (hr : Room (k + 1) X.A) (hj : j ≤ k) (hR : R [.ins C ns xs] d) (ho : PE X o (tD X.K B ρ (.ins C ns xs))) (hab : attributeBase o m X.env (eval o X.env) = eval o X.env := by rfl) : PE X (.Attribute o m pos) (tD X.K B ρ d) := by
  obtain ⟨p, g, fd, F, hp, hb⟩ := F.ex
  exact pe_mono (pe_prop ho c hp F (hr.mono (Nat.succ_le_succ hj)) hb .nil pass0 hab) fun σ H Q ⟨G, en, q⟩ => ⟨G, en, fun x G1 H1 g1 rx => by
    have rx0 := rx
    cases rx with
    | ins h1 h2 h3 h4 =>
      refine ⟨_, _, _, rfl, g1.sub _ _ h1, ?_⟩
      exact ⟨G1, _, d, g1.base, .one rx0, hR, fun v G3 H3 g3 rv => q v G3 H3 (g1.trans g3) rv⟩⟩
end
end DL
end
section
set_option Elab.async false
set_option linter.all false
set_option maxRecDepth 100000
set_option maxHeartbeats 4000000
/-! D-layer 13: nested defs handed over and called, defs that raise. -/
namespace DL
open PySem PySem.Spec PyProof.Rows L2 NdefX
/-! ### nested defs -/
def spN (K : PySem.W.Frag) (T : List NTab) (R : List D → List D → D → Prop) : List (Option V) → Sp := fun ws vs H Q _ => ∃ G wv cs ds d, Base T G H ∧ ws = wv.map some ∧ RepAll K G wv cs ∧ RepAll K G vs ds ∧ R cs ds d ∧ ∀ v G' H', Grow T G H G' H' → Rep K G' v d → Q v H'
def envN (n : Nat) (ds cs : List D) : List Sl := ds.map Sl.da ++ (cs.map Sl.da ++ List.replicate (n - ds.length - cs.length) Sl.un)
theorem envN_da {n : Nat} {ds cs : List D} {i : Nat} {s : Sl} (h : (envN n ds cs)[i]? = some s) : (∃ d, s = .da d ∧ (ds ++ cs)[i]? = some d) ∨ s = .un := by
  unfold envN at h
  rw [← List.append_assoc, ← List.map_append] at h
  by_cases hi : i < (ds ++ cs).length
  · rw [List.getElem?_append_left (by rw [List.length_map]; exact hi), List.getElem?_map, List.getElem?_eq_getElem hi] at h
    cases h
    exact .inl ⟨_, rfl, List.getElem?_eq_getElem hi⟩
  · rw [List.getElem?_append_right (by rw [List.length_map]; omega), List.getElem?_replicate] at h
    split at h
    · cases h; exact .inr rfl
    · cases h
theorem enN_start {K : PySem.W.Frag} {T : List NTab} {G H : Hp} {N : List PySem.Str} {vs wv : List V} {ds cs : List D} (b : Base T G H) (r : RepAll K G vs ds) (rc : RepAll K G wv cs) : En K T G H G (envN N.length ds cs) (startF N vs (wv.map some)) H where
  grow := b.refl
  len := by
    unfold envN startF
    simp only [List.length_append, List.length_map, List.length_replicate, r.length, rc.length]
  sl := fun i s h => by
    rcases envN_da h with ⟨d, rfl, hd⟩ | rfl
    · obtain ⟨v, h1, h2⟩ := (r.append rc).get hd
      refine ⟨v, ?_, h2⟩
      unfold startF
      have hi := (List.getElem?_eq_some_iff.mp h1).1
      rw [← List.append_assoc, ← List.map_append, List.getElem?_append_left (by rw [List.length_map]; exact hi), List.getElem?_map, h1]
      rfl
    · trivial
  apart := fun i j k k' a hne h1 h2 h3 => by
    rcases envN_da h1 with ⟨d, z, _⟩ | z <;> cases z
/-- THE RULE for a nested def -/
theorem nok_D {P : Program} {w : World} {K : PySem.W.Frag} {mg : PySem.Str → Option Value} {base : Heap} {T : List NTab} {N ps fr : List PySem.Str} {F : NF} {f : Addr} {k : Nat} {R : List D → List D → D → Prop} (S : NScope N ps fr F.scope)
    (hb : ∀ (doc pm ctv : Value) (us : List Value), us.length = ps.length → bindArgs (F.fd doc pm ctv) ⟨us, []⟩ = pure (ps.zip us)) (len : ∀ cs ds d, R cs ds d → ds.length = ps.length)
    (hbody : ∀ (A : Around) (outer : List Env) (s : Shared) (H G : Hp) (E : XK) (cs ds : List D) (d : D), Room k (A.deeper (envF F f s.heap.objs.size)) → R cs ds d →
      PSs (ncx CX0 P w K mg base N F f A outer s H E).nox F.body (tS K ⟨T, G, H⟩ E0 (envN N.length ds cs) (.rt d))) : NOk P w K mg base CX0 (k + 1) f F ps fr (spN K T R) := by
  refine nok_of S hb (fun ws vs H Q E h => ?_) (fun A outer s H vs ws Q E hr _ _ _ h => ?_)
  · obtain ⟨G, wv, cs, ds, d, b, _, _, r, hR, _⟩ := h
    rw [r.length]
    exact len cs ds d hR
  · obtain ⟨G, wv, cs, ds, d, b, ew, rc, r, hR, q⟩ := h
    subst ew
    exact ⟨_, (hbody A outer s H G E cs ds d hr hR).nox, G, enN_start b r rc, fun v G' H' _ g rv => q v G' H' g rv⟩
/-- a function handed over: what it answers, wherever it is called from the callee whose frames, state, heap and ground at the entry are told -/
structure MarkOk (P : Program) (w : World) (K : PySem.W.Frag) (mg : PySem.Str → Option Value) (base : Heap) (T : List NTab) (k : Nat) (outer : List Env) (s : Shared) (H G : Hp) (f : Addr) (F : NF) (R : D → D → Prop) : Prop where
  ex : ∃ (x : PySem.Str) (fr : List PySem.Str) (ws : List V) (cs : List D) (Rn : List D → List D → D → Prop), NOk P w K mg base CX0 k f F [x] fr (spN K T Rn) ∧ CellsAt F.cl fr (ws.map some) s.heap H ∧ RepAll K G ws cs ∧ ∀ d r, R d r → Rn cs [d] r
  nf : ∀ y c, F.cl.lookup y = some c → c ∉ frs outer
section
variable {X : Cx} {B : Bs} {E : XK} {ρ : List Sl} {d r : D} {ds : List D} {e : Expr} {es : List Expr} {pos p : Pos} {x : PySem.Str}
/-- the function is called -/
theorem je_clo (i : Nat) {k j : Nat} {f : Addr} {F : NF} {R : D → D → Prop} (M : MarkOk X.prog X.w X.K X.mg X.base B.T j X.outer X.s_0 X.H_0 B.G0 f F R) (hr : Room k X.A) (hj : j ≤ k) (hx0 : ρ[i]? = some (.da (.fn f F))) (hR : R d r) (h : PE X e (tD X.K B ρ d)) (hex : X.ex = [] := by rfl) (hN : X.N[i]? = some x := by rfl)
    (hv : Vis X.env.scope x := by first | exact Or.inl rfl | exact Or.inr (Or.inl rfl) | exact Or.inr (Or.inr rfl)) (hd : (x == ("__debug__" : PySem.Str)) = false := by decide) (hcd : (x == ("__classdict__" : PySem.Str)) = false := by decide)
    (he : starEach [e] X.env = (false, eval e X.env) :: starEach [] X.env := by rfl) (hpl : (backTo pos (starEach [] X.env)).any (·.1) = false := by rfl) : PE X (.Call (.Name x p) [e] [] pos) (tD X.K B ρ r) := by
  refine ⟨fun pins s σ H Q I ⟨G, en, q⟩ => ?_⟩
  refine wpAny_Call_Name_kw (thn ((je_var (pos := p) i hx0 hN hv hd hcd).run pins s σ H (fun v H1 => ∃ G1, Grow B.T G H G1 H1 ∧ Rep X.K G1 v (.fn f F)) I ⟨G, en, fun v G1 H1 g1 rv => ⟨G1, g1, rv⟩⟩) fun u s1 ⟨v, H1, I1, r1, G1, g1, rv⟩ => ?_)
  cases rv with
  | fn hf hc =>
    obtain rfl : u = Value.ref f := r1
    refine PySem.W.callWith_F (first := []) (fnAt_of I1 (g1.sub _ _ hf)) (thn ((ja_one h he).run pos pins s1 σ H1 (fun vs H2 => ∃ G2, Grow B.T G1 H1 G2 H2 ∧ RepAll X.K G2 vs [d]) I1 ⟨G1, en.up g1, fun vs G2 H2 g2 rs => ⟨G2, g2, rs⟩⟩) fun us s2 ⟨vs, H2, I2, rv2, G2, g2, rs⟩ => ⟨fnAt_of I2 (g2.sub _ _ (g2.le _ _ hf)), ?_⟩) he hpl
    obtain ⟨y, fr, ws, cs, Rn, nok, C, rc, hRn⟩ := M.ex
    have C2 := C.later (fun y c hy => M.nf y c hy) (fun y c hy => by rw [hex]; simp) I2
    have g02 := (en.grow.trans g1).trans g2
    show wpAny _ _ (call (.ref f) us) _ _ _
    refine wpAny_call (codeAny_mono (nok.run X.A X.stack s2 H2 us vs _ Q E0 (hr.mono hj) I2.env0 (g2.sub _ _ (g2.le _ _ hf)) (g2.sub _ _ (g2.le _ _ hc)) C2 rv2 ⟨G2, ws, cs, [d], r, g2.base, rfl, rc.up g02.le, rs, hRn d r hR, fun v G3 H3 g3 rr => q v G3 H3 ((g1.trans g2).trans g3) rr⟩) fun rr s' hq => ?_)
    cases rr with
    | error e => exact hq.elim
    | ok fl =>
      cases fl with
      | ret u => exact I2.after hq
      | next => exact False.elim hq
      | brk => exact False.elim hq
      | cont => exact False.elim hq
end

/-! ### defs whose promise knows the state at the call -/
abbrev SpS := List Env → Shared → List V → Hp → VK → XK → Prop
structure FnS (P : Program) (w : World) (K : PySem.W.Frag) (mg : PySem.Str → Option Value) (base : Heap) (CX : CXT) (k : Nat) (f : Addr) (fd : FuncData) (ps : List PySem.Str) (sp : SpS) : Prop where
  len : ∀ outer s vs H Q E, sp outer s vs H Q E → vs.length = ps.length
  run : ∀ (A : Around) (outer : List Env) (s : Shared) (H : Hp) (args : Args) (us : List Value) (vs : List V) (Q : VK) (E : XK), Room k A → Env0 P w K mg base A outer s H → BindsTo s fd args (ps.zip us) → Vals vs us → sp outer s vs H Q E →
    codeAny (model P w) A (.call (.ref f) args) (CR CX outer P w H s Q E) s
theorem fnS_of {CX : CXT} {P : Program} {w : World} {K : PySem.W.Frag} {mg : PySem.Str → Option Value} {base : Heap} {k : Nat} {x qual : PySem.Str} {st : Stmt} {f : Addr} {fd : FuncData} {N ps : List PySem.Str} {sp : SpS} (F : Fun K x qual st f fd) (S : FnScope N ps (defScope st))
    (len : ∀ outer s vs H Q E, sp outer s vs H Q E → vs.length = ps.length)
    (hbody : ∀ (cdv : Value) (A : Around) (outer : List Env) (s : Shared) (H : Hp) (vs : List V) (Q : VK) (E : XK), Room k (A.deeper (envOfC qual (defScope st) s.heap.objs.size f cdv)) → sp outer s vs H Q E →
      ∃ t, PSs (cxOf CX P w K mg base N qual (defScope st) f cdv A outer s H E) (defBody st) t ∧ t { nx := fun _ H' => Q .non H', rt := Q } (start N vs) H) : FnS P w K mg base CX (k + 1) f fd ps sp := by
  obtain ⟨oc, od, kV, doc, pm, an, cdv, ct, osl, rfl, lk, hcd⟩ := F.ex
  refine ⟨len, fun A outer s H args us vs Q E hr e0 hb r hsp => ?_⟩
  have hl := len _ _ _ _ _ _ hsp
  have KX : K.In s.heap := e0.mod.kin.keeps fun b o e => (e0.bs b o e).1
  have lim : s.heap.NoLimit := e0.mod.nolimit.keeps fun b o e => (e0.bs b o e).1
  refine codeAny_call_function hr.depth (KX _ _ lk) rfl S.co S.gen rfl (PySem.W.codeRec_of KX hcd) (hb _ _ _ _ ?_)
  refine wpAny_newFunctionEnv_cells S.kind (fun ⟨n, v⟩ hy => (S.par n (List.of_mem_zip hy).1).imp id fun q => ⟨q, PySem.W.cellsFrom_some _ _ _ (.inl q)⟩) fun env he s1 y => ?_
  subst he
  refine ⟨lim.keeps y.toInCall.keep, codeAny_func ?_⟩
  obtain ⟨t, ht, hq⟩ := hbody cdv A outer s H vs Q E (hr.deeper _) hsp
  have I : Inv (cxOf CX P w K mg base N qual (defScope st) f cdv A outer s H E) [] (start N vs) H s1 := inv_start S hr.hd e0 hl r y
  refine wpAny_mono (ht.run [] s1 (start N vs) H _ I hq) (fun fl s' hs => ?_) fun e s' hs => hs
  cases fl with
  | ret u =>
    obtain ⟨v, σ', H', J, rv, q⟩ := hs
    exact ⟨v, H', J.os, J.bare, J.base, J.hok, rv, q⟩
  | next =>
    obtain ⟨σ', H', J, q⟩ := hs
    exact ⟨.non, H', J.os, J.bare, J.base, J.hok, rfl, q⟩
  | brk => obtain ⟨_, _, _, q⟩ := hs; exact False.elim q
  | cont => obtain ⟨_, _, _, q⟩ := hs; exact False.elim q
section
variable {X : Cx} {CX : CXT} {k : Nat} {f : Addr} {fd : FuncData} {ps : List PySem.Str} {sp : SpS} {E : XK} {x : PySem.Str} {p pos : Pos} {e : Expr} {es : List Expr} {t : TA}
theorem pe_callS (F : FnS X.prog X.w X.K X.mg X.base CX k f fd ps sp) (hr : Room k X.A) (hg : Gl X x) (hm : X.mg x = some (.ref f)) (hk : PySem.W.keepIn X.K (.ref f) = true) (hb : Binds X.K fd ps []) (hx : Passes CX X E)
    (ha : PA X (e :: es) t) (hdb : (x == ("__debug__" : PySem.Str)) = false := by decide) (he : starEach (e :: es) X.env = (false, eval e X.env) :: starEach es X.env := by rfl) (hpl : (backTo pos (starEach es X.env)).any (·.1) = false := by rfl) :
    PE X (.Call (.Name x p) (e :: es) [] pos) (fun σ H Q => t σ H fun vs H1 => ∀ (pins : List (Addr × Obj)) (s1 : Shared), Inv X pins σ H1 s1 → sp X.stack s1 vs H1 Q E) := by
  refine ⟨fun pins s σ H Q I h => ?_⟩
  refine wpAny_Call_Name_kw (ld_glob I hg hm ?_ hdb)
  refine PySem.W.callWith_K (h₀ := X.base) I.ok.mod.kin hk (thn (ha.run pos pins s σ H _ I h) fun us s1 ⟨vs, H1, I1, r, q⟩ => ⟨I1.kIn, ?_⟩) he hpl
  have q := q pins s1 I1
  have hl : us.length = ps.length := by rw [← r.length]; exact F.len _ _ _ _ _ _ q
  refine wpAny_call (codeAny_mono (F.run X.A X.stack s1 H1 ⟨us, []⟩ us vs Q E hr I1.env0 (by have := hb s1 us I1.kIn (by rw [List.append_nil]; exact hl); rw [List.append_nil] at this; exact this) r q) fun r s' hq => ?_)
  cases r with
  | error e => exact hx pins σ H1 s1 e s' I1 hq
  | ok fl =>
    cases fl with
    | ret u => exact I1.after hq
    | next => exact False.elim hq
    | brk => exact False.elim hq
    | cont => exact False.elim hq
end

/-! ### defs that raise -/
/-- an answer or an exception's class -/
abbrev Ans := D ⊕ Addr
def Ans.out : Ans → Out
  | .inl d => .rt d
  | .inr C => .ex C
def endsA (K : PySem.W.Frag) (T : List NTab) (G H : Hp) (Q : VK) (E : XK) : Ans → Prop
  | .inl d => ∀ v G' H', Grow T G H G' H' → Rep K G' v d → Q v H'
  | .inr C => ∀ G' H', Grow T G H G' H' → E (.ref C) none H'
def spX (K : PySem.W.Frag) (T : List NTab) (R : List D → Ans → Prop) : Sp := fun vs H Q E => ∃ G ds o, Base T G H ∧ RepAll K G vs ds ∧ R ds o ∧ endsA K T G H Q E o
theorem ends_out {K : PySem.W.Frag} {T : List NTab} {G H : Hp} {Q : VK} {E : XK} {o : Ans} {u : L2.St → Hp → Prop} (h : endsA K T G H Q E o) : OutOk K ⟨T, G, H⟩ E G { nx := u, rt := Q } o.out := by
  cases o with
  | inl d => exact fun v G' H' _ g r => h v G' H' g r
  | inr C => exact fun G' H' _ g => h G' H' g
theorem takesX {P : Program} {w : World} {K : PySem.W.Frag} {mg : PySem.Str → Option Value} {base : Heap} {N : List PySem.Str} {qual : PySem.Str} {scope : Scope} {f : Addr} {cdv : Value} {A : Around} {outer : List Env} {s : Shared} {H : Hp} {E : XK} :
    Takes (cxOf (L2.CX P w) P w K mg base N qual scope f cdv A outer s H E) (fun cls d _ H => E cls d H) := takes_of rfl rfl rfl rfl
theorem passesX {P : Program} {w : World} {K : PySem.W.Frag} {mg : PySem.Str → Option Value} {base : Heap} {N : List PySem.Str} {qual : PySem.Str} {scope : Scope} {f : Addr} {cdv : Value} {A : Around} {outer : List Env} {s : Shared} {H : Hp} {E : XK} :
    Passes (L2.CX P w) (cxOf (L2.CX P w) P w K mg base N qual scope f cdv A outer s H E) E := passes_call takesX fun _ _ _ _ h => h
theorem ownX {P : Program} {w : World} {K : PySem.W.Frag} {mg : PySem.Str → Option Value} {base : Heap} {N : List PySem.Str} {qual : PySem.Str} {scope : Scope} {f : Addr} {cdv : Value} {A : Around} {outer : List Env} {s : Shared} {H : Hp} {E : XK} :
    PassesOwn (model (cxOf (L2.CX P w) P w K mg base N qual scope f cdv A outer s H E).prog (cxOf (L2.CX P w) P w K mg base N qual scope f cdv A outer s H E).w) (cxOf (L2.CX P w) P w K mg base N qual scope f cdv A outer s H E).A (cxOf (L2.CX P w) P w K mg base N qual scope f cdv A outer s H E).env (cxOf (L2.CX P w) P w K mg base N qual scope f cdv A outer s H E).xe := passes_of rfl
/-- a def that may raise -/
structure CalX (P : Program) (w : World) (K : PySem.W.Frag) (mg : PySem.Str → Option Value) (base : Heap) (T : List NTab) (k : Nat) (x : PySem.Str) (ps : List PySem.Str) (R : List D → Ans → Prop) : Prop where
  ex : ∃ (f : Addr) (fd : FuncData), FnOk P w K mg base (L2.CX P w) k f fd ps (spX K T R) ∧ mg x = some (.ref f) ∧ PySem.W.keepIn K (.ref f) = true ∧ Binds K fd ps []
theorem cal_X {P : Program} {w : World} {K : PySem.W.Frag} {mg : PySem.Str → Option Value} {base : Heap} {T : List NTab} {k : Nat} {x : PySem.Str} {ps : List PySem.Str} {R : List D → Ans → Prop} {st : Stmt} {N : List PySem.Str} (F : Dfn K mg x st ps) (S : FnScope N ps (defScope st)) (len : ∀ ds d, R ds d → ds.length = ps.length)
    (hbody : ∀ (f : Addr) (cdv : Value) (A : Around) (outer : List Env) (s : Shared) (H G : Hp) (E : XK) (ds : List D) (o : Ans), Room k (A.deeper (envOfC x (defScope st) s.heap.objs.size f cdv)) → R ds o →
      PSs (cxOf (L2.CX P w) P w K mg base N x (defScope st) f cdv A outer s H E) (defBody st) (tS K ⟨T, G, H⟩ E (env0 N.length ds) o.out)) : CalX P w K mg base T (k + 1) x ps R := by
  obtain ⟨f, fd, F, hm, hb⟩ := F.ex
  refine ⟨f, fd, F.okX S (fun vs H Q E h => ?_) (fun cdv A outer s H vs Q E hr h => ?_), hm, F.kp, hb⟩
  · obtain ⟨G, ds, d, b, r, hR, _⟩ := h
    rw [r.length]
    exact len ds d hR
  · obtain ⟨G, ds, o, b, r, hR, q⟩ := h
    exact ⟨_, hbody f cdv A outer s H G E ds o hr hR, G, en_start b r, ends_out q⟩
/-- an expression that ends with the exception -/
def tX (K : PySem.W.Frag) (B : Bs) (ρ : List Sl) (E : XK) (C : Addr) : TE := fun σ H _ => ∃ G, B.En K G ρ σ H ∧ ∀ G' H', Same G G' → Grow B.T B.G0 B.H0 G' H' → E (.ref C) none H'
section
variable {X : Cx} {B : Bs} {E : XK} {ρ : List Sl} {C : Addr} {e b : Expr} {es : List Expr} {pos p : Pos} {x : PySem.Str} {ds : List D} {d : D}
theorem js_retX (h : PE X e (tX X.K B ρ E C)) : PS X (.Return (some e) pos) (tS X.K B E ρ (.ex C)) := ps_mono (ps_ret h) fun D σ H ⟨G, en, q⟩ => ⟨G, en, q⟩
theorem je_ixX (hs : PlainIx b) (ha : PE X e (tX X.K B ρ E C)) : PE X (.Subscript e b pos) (tX X.K B ρ E C) := pe_mono (pe_ix ix_list ha pe_none hs) fun σ H Q h => h
/-- raise X('..') -/
theorem js_raise {m : PySem.Str} {j : Nat} {p2 cpos : Pos} {bmB : List Value} {Bn newId initId : String} (hc : X.calm = true) (tk : Takes X (fun cls d _ H => E cls d H)) (F : ExcBaseFacts Bn newId initId bmB) (q : PySem.W.excIn X.K C bmB newId = true) (gC : X.mg x = some (.ref C)) (kC : PySem.W.keepIn X.K (.ref C) = true) (r : Raises X (.ref C)) (hg : Gl X x)
    (hdb : (x == ("__debug__" : PySem.Str)) = false := by decide) : PS X (.Raise (some (.Call (.Name x p) [.Constant (.str m) j p2] [] cpos)) none pos) (tS X.K B E ρ (.ex C)) :=
  ps_mono (ps_raise hc tk (pmk_own F q gC kC r hg hdb)) fun D σ H ⟨G, en, q⟩ => q G H (Same.refl _) en.grow
/-- a def that may raise, called: it answers -/
theorem je_fnX {k j : Nat} {ps : List PySem.Str} {R : List D → Ans → Prop} (F : CalX X.prog X.w X.K X.mg X.base B.T j x ps R) (hr : Room k X.A) (hj : j ≤ k) (hg : Gl X x) (hR : R ds (.inl d)) (ha : PA X (e :: es) (tDs X.K B ρ ds)) (hdb : (x == ("__debug__" : PySem.Str)) = false := by decide)
    (he : starEach (e :: es) X.env = (false, eval e X.env) :: starEach es X.env := by rfl) (hpl : (backTo pos (starEach es X.env)).any (·.1) = false := by rfl) : PE X (.Call (.Name x p) (e :: es) [] pos) (tD X.K B ρ d) := by
  obtain ⟨f, fd, F, hm, hk, hb⟩ := F.ex
  exact pe_mono (pe_call F (hr.mono hj) hg hm hk hb .nil passL ha hdb he hpl) fun σ H Q ⟨G, en, q⟩ => ⟨G, en, fun vs G1 H1 g1 rs => by
    show spX X.K B.T R (vs ++ []) H1 Q E0
    rw [List.append_nil]
    exact ⟨G1, ds, .inl d, g1.base, rs, hR, fun v G2 H2 g2 rv => q v G2 H2 (g1.trans g2) rv⟩⟩
/-- .. it raises -/
theorem je_fnXX {k j : Nat} {ps : List PySem.Str} {R : List D → Ans → Prop} {E' : XK} (F : CalX X.prog X.w X.K X.mg X.base B.T j x ps R) (hr : Room k X.A) (hj : j ≤ k) (hg : Gl X x) (hp : Passes (L2.CX X.prog X.w) X E') (hR : R ds (.inr C)) (ha : PA X (e :: es) (tDs X.K B ρ ds)) (hdb : (x == ("__debug__" : PySem.Str)) = false := by decide)
    (he : starEach (e :: es) X.env = (false, eval e X.env) :: starEach es X.env := by rfl) (hpl : (backTo pos (starEach es X.env)).any (·.1) = false := by rfl) : PE X (.Call (.Name x p) (e :: es) [] pos) (tX X.K B ρ E' C) := by
  obtain ⟨f, fd, F, hm, hk, hb⟩ := F.ex
  exact pe_mono (pe_call F (hr.mono hj) hg hm hk hb .nil hp ha hdb he hpl) fun σ H Q ⟨G, en, q⟩ => ⟨G, en, fun vs G1 H1 g1 rs => by
    show spX X.K B.T R (vs ++ []) H1 Q E'
    rw [List.append_nil]
    exact ⟨G1, ds, .inr C, g1.base, rs, hR, fun G2 H2 g2 => q G2 H2 (g1.trans g2).le (en.grow.trans (g1.trans g2))⟩⟩
end
end DL
end
section
set_option Elab.async false
set_option linter.all false
set_option maxRecDepth 100000
set_option maxHeartbeats 4000000
/-! D-layer 14: def statements within a def; defs whose code object is told. -/
namespace DL
open PySem PySem.Spec PyProof.Rows L2 NdefX
theorem fnO_nc {f : Addr} {F : NF} (c : Addr) (q : PySem.Str) : FnO f F ≠ LamX.CodeO c q := ext_nc (a := f) (fun h ⟨od, sl, doc, pm, ctv, e⟩ => ⟨_, e, fun vs z => nomatch z⟩) c q
section
variable {X : Cx} {B : Bs} {E : XK} {ρ : List Sl} {o : Out} {rest : List Stmt}
/-- def x(..): .. within a def, then the rest -/
theorem jss_ndef (i : Nat) {st : Stmt} {nm : Nat → Nat → PySem.Str} {c Pt : Addr} {name : PySem.Str} {pos : Pos} (hst : st = .FunctionDef name (C8.fnArgs st) (C8.fnBody st) [] none [] (C8.fnScope st) none name pos) (TB : LamX.TabB X.base X.mg c Pt) (hcode : X.env.code = .ref c) (hm : (Pt, nm) ∈ B.T) (hn : nm pos.line pos.col = X.env.qual ++ name)
    (hu : ∀ p ∈ B.T, p.1 = Pt → p.2 = nm) (hfree : ∀ y ∈ (C8.fnScope st).names, y.2 = .free → X.env.scope.names.lookup y.1 = some .cell ∨ X.env.scope.names.lookup y.1 = some .free) (hd0 : (C8.fnArgs st).defaults = []) (hk0 : (C8.fnArgs st).kw_defaults = []) (ha : annTrees (C8.fnArgs st) none X.env = [])
    (hN : X.N.Nodup) (hi : X.N[i]? = some name) (hx : Loc X.env.scope name) (hf : X.fn name = true ∨ X.env.scope.names.lookup name = some .local)
    (hr : ∀ f c' : Addr, PSs X rest (tS X.K B E (ρ.set i (.da (.fn f (NF.of st name (X.env.qual ++ name) (cloFrom X.env.cells (C8.fnScope st).names []) c')))) o)) : PSs X (st :: rest) (tS X.K B E ρ o) :=
  pss_mono (pss_cons (ps_ndefMS (T := B.T) hst TB hcode hm hn hu hfree hd0 hk0 ha hN hi hx hf) (pss_fam (ι := Addr × Addr) fun z => hr z.1 z.2)) fun D σ H ⟨G, en, q⟩ => ⟨en.grow.tabs, fun f c' H1 eN nn T1 f0 f1 c1 => by
    have g0 : Grow B.T G H G H1 := ⟨Same.refl _, en.base.keep eN, en.grow.nt, eN, T1, nn, fun _ _ h => .inl h⟩
    have g1 := g0.code c1
    have hfc : f ≠ c' := fun z => by
      subst z
      rw [f1] at c1
      exact fnO_nc _ _ (Option.some.inj c1)
    have gf : (upd G c' (LamX.CodeO c' (X.env.qual ++ name))) f = none := by rw [upd_ne hfc]; exact en.base.none f0
    have g2 := g1.fz f0 gf f1 (fun ps => fnO_ne ps)
    exact ⟨(f, c'), _, (en.up g2).setD (.fn upd_same (by show upd _ f _ c' = _; rw [upd_ne (Ne.symm hfc)]; exact upd_same)), q.up g2.le⟩⟩
end
/-- a def whose code object is told -/
structure DfnC (K : PySem.W.Frag) (mg : PySem.Str → Option Value) (x : PySem.Str) (st : Stmt) (ps : List PySem.Str) (c : Addr) : Prop where
  ex : ∃ (f : Addr) (oc : Value) (od : Option Addr) (kV doc pm : Value) (an : Option Addr) (ct : Value) (osl : Array (Option Value)),
    K.lookup f = some ⟨oc, od, .func (PySem.W.fnOf x x (defArgs st) (defBody st) (defScope st) .none kV doc pm an (.ref c) ct), osl⟩ ∧ PySem.W.codeIn K (.ref c) x = true ∧ PySem.W.keepIn K (.ref f) = true ∧ mg x = some (.ref f) ∧ Binds K (PySem.W.fnOf x x (defArgs st) (defBody st) (defScope st) .none kV doc pm an (.ref c) ct) ps []
theorem cal_XC {P : Program} {w : World} {K : PySem.W.Frag} {mg : PySem.Str → Option Value} {base : Heap} {T : List NTab} {k : Nat} {x : PySem.Str} {ps : List PySem.Str} {R : List D → Ans → Prop} {st : Stmt} {N : List PySem.Str} {c : Addr} (F : DfnC K mg x st ps c) (S : FnScope N ps (defScope st)) (len : ∀ ds d, R ds d → ds.length = ps.length)
    (hbody : ∀ (f : Addr) (A : Around) (outer : List Env) (s : Shared) (H G : Hp) (E : XK) (ds : List D) (o : Ans), Room k (A.deeper (envOfC x (defScope st) s.heap.objs.size f (.ref c))) → R ds o →
      PSs (cxOf (L2.CX P w) P w K mg base N x (defScope st) f (.ref c) A outer s H E) (defBody st) (tS K ⟨T, G, H⟩ E (env0 N.length ds) o.out)) : CalX P w K mg base T (k + 1) x ps R := by
  obtain ⟨f, oc, od, kV, doc, pm, an, ct, osl, lk, hcd, kp, hm, hb⟩ := F.ex
  refine ⟨f, _, fn_of lk hcd S (fun vs H Q E h => ?_) (fun A outer s H vs Q E hr h => ?_), hm, kp, hb⟩
  · obtain ⟨G, ds, d, b, r, hR, _⟩ := h
    rw [r.length]
    exact len ds d hR
  · obtain ⟨G, ds, o, b, r, hR, q⟩ := h
    exact ⟨_, hbody f A outer s H G E ds o hr hR, G, en_start b r, ends_out q⟩
/-- the captured cells aren't the running frames' locals -/
theorem cells_nf {X : Cx} {pins : List (Addr × Obj)} {σ : L2.St} {H : Hp} {s : Shared} (I : Inv X pins σ H s) (hst : X.stack = X.env :: X.outer) (hfr : X.env.frame = some X.env.locals) (hfn : ∀ x, X.fn x = true) {cl : List (PySem.Str × Addr)} {fr : List PySem.Str} {js : List Nat} (cp : Caps X cl fr js) : ∀ y c, cl.lookup y = some c → c ∉ frs X.stack := by
  intro y c e hm
  have e1 := cp.sub y c e
  rw [hst] at hm
  unfold frs at hm
  rw [List.filterMap_cons, hfr] at hm
  rcases List.mem_cons.mp hm with z | z
  · obtain ⟨v, o, ho, hd⟩ := I.cell y c e1
    obtain ⟨m, ⟨o', es, ep, ho', hd', _⟩, _⟩ := I.loc
    rw [z, ho'] at ho
    cases ho
    rw [hd'] at hd
    cases hd
  · obtain ⟨_, o, ho, _⟩ := I.ok.funs.mem (b := c) z
    exact absurd (Nat.lt_of_lt_of_le (Heap.lt_size ho) (I.ok.cab y c (hfn y) e1)) (Nat.lt_irrefl _)
/-- what the captured names hold -/
theorem slots_of {K : PySem.W.Frag} {T : List NTab} {G0 H0 G H : Hp} {ρ : List Sl} {σ : L2.St} (en : En K T G0 H0 G ρ σ H) : ∀ {js : List Nat} {cs : List D}, js.map (fun j => ρ[j]?) = cs.map (fun d => some (Sl.da d)) → ∃ ws : List V, js.map (slotAt σ) = ws.map some ∧ RepAll K G ws cs
  | [], [], _ => ⟨[], rfl, .nil⟩
  | [], _ :: _, h => by simp at h
  | _ :: _, [], h => by simp at h
  | j :: js, d :: cs, h => by
    simp only [List.map_cons, List.cons.injEq] at h
    obtain ⟨v, h1, r⟩ := en.da h.1
    obtain ⟨ws, e, rs⟩ := slots_of en (js := js) (cs := cs) h.2
    exact ⟨v :: ws, by rw [List.map_cons, List.map_cons, e, slotAt_of h1], .cons r rs⟩
end DL
end
section
set_option Elab.async false
set_option linter.all false
set_option maxRecDepth 100000
set_option maxHeartbeats 4000000
/-! D-layer 15: sorted(xs, key=lambda x: x[:m]). -/
namespace DL
open PySem PySem.Spec PyProof.Rows L2 NdefX
section
variable {P : Program} {w : World} {A : Around} {s : Shared} {f a c' : Addr} {its : List Value} {x qual : PySem.Str} {params : Arguments} {scope : Scope} {pm ctv : Value} {m : Int} {j : Nat} {p0 p1 p2 p3 : Pos} {E : Value → Shared → Prop}
/-- a lambda x: x[:m] -/
abbrev cutE (x : PySem.Str) (m : Int) (j : Nat) (p0 p1 p2 p3 : Pos) : Expr := .Subscript (.Name x p0) (.Slice none (some (.Constant (.int m) j p1)) none p2) p3
theorem lam_cut (hf : s.heap.get? f = some (PySem.W.kla_obj "<lambda>" qual params (cutE x m j p0 p1 p2 p3) scope [] pm c' ctv)) (hb : bindArgs (PySem.W.kla_fn "<lambda>" qual params (cutE x m j p0 p1 p2 p3) scope [] pm (.ref c') ctv) ⟨[.ref a], []⟩ = pure [(x, .ref a)])
    (hd : A.depth < recursionLimit) (lim : s.heap.NoLimit) (hcd : s.heap.CodeRec (.ref c') qual) (hco : scope.isCoroutine = false) (hgen : scope.isGenerator = false) (hk : scope.kind = .function) (hcell : ∀ y ∈ scope.names, y.2 ≠ .cell) (hx : scope.names.lookup x = some .local)
    (hxd : (x == ("__debug__" : PySem.Str)) = false) (ht : IsTup s.heap a its.toArray) (hm0 : 0 ≤ m) (hml : m < its.length) (hz : its.length ≤ sizeLine) :
    wpAny (model P w) A (call (.ref f) [.ref a]) (fun u s' => ∃ h' tk q, s' = { s with heap := h', toks := tk } ∧ (∀ b o, s.heap.get? b = some o → h'.get? b = some o) ∧ u = .ref q ∧ IsTup h' q (its.take m.toNat).toArray) E s := by
  refine wpAny_call (PySem.W.kla_callFunE hd hf rfl hco hgen rfl hcd ?_)
  rw [hb]
  refine wpAny_pure (wpAny_newFunctionEnv hcell (fun y hy => ?_) (fun h₁ hns hsb => ⟨lim.fresh _ hsb, ?_⟩) hk)
  · rw [List.mem_singleton] at hy; subst hy; exact hx
  have kp : ∀ b o, s.heap.get? b = some o → h₁.get? b = some o := fun b o e => hsb.extBut b o (Nat.ne_of_lt (Heap.lt_size e)) (Heap.get?_push_of_some _ e)
  have hm : (fun y => ([(x, Value.ref a)] : List (PySem.Str × Value)).reverse.lookup y) x = some (.ref a) := by simp [List.lookup]
  have e1 : (its.take m.toNat) = (its.drop 0).take (m.toNat - 0) := by simp
  refine PySem.W.kla_codeExpr (Subscript_ (wpAny_Name (wpAny_loadName_local hk hx hns hm ?_) hxd))
  refine wpAny_Slice (evalPart_none_step (evalPart_some_step (wpAny_Constant_int (evalPart_none_step ?_))))
  have ht1 : IsTup (h₁.push { cls := .type "slice", data := .fields #[.none, .int m (s.toks + 1), .none] }) a its.toArray := by
    obtain ⟨o, e1, e2, e3⟩ := ht
    exact ⟨o, Heap.get?_push_of_some _ (kp _ _ e1), e2, e3⟩
  have e0 : HT.sIx its.toArray.size 0 none = 0 := rfl
  have e2 : HT.sIx its.toArray.size its.toArray.size (some m) = m.toNat := by
    rw [List.size_toArray]
    unfold HT.sIx
    show (if m < 0 then _ else _) = _
    rw [if_neg (by omega), Nat.min_eq_left (by omega)]
  refine tail_any (ops := [.ref h₁.objs.size, .ref a]) ht1.typeIs PyProof.Rows.slot_tuple_getitem.lookup ?_ (by with_unfolding_all rfl)
  refine HT.getItem_tuple_cut ht1 (Heap.IsSliceOf.new ..) .none (.int m _) (by rw [e0, e2, List.size_toArray]; omega) ?_ (by rw [List.size_toArray]; exact hz)
  rw [e0, e2]
  refine ⟨_, _, _, rfl, fun b o e => Heap.get?_push_of_some _ (Heap.get?_push_of_some _ (kp _ _ e)), rfl, ?_⟩
  rw [List.drop_zero, Nat.sub_zero]
  exact IsTup.new _ _
end

section
variable {X : Cx} {pins : List (Addr × Obj)} {σ : L2.St} {H : Hp} {s : Shared}
/-- a lambda is made: its code object is new, or found in the table -/
theorem lam_makeN {T : List NTab} {nm : Nat → Nat → PySem.Str} {c P : Addr} {params : Arguments} {body : Expr} {scope : Scope} {pos : Pos} {E : Value → Shared → Prop} {Q : Value → Shared → Prop} (I : Inv X pins σ H s) (TB : LamX.TabB X.base X.mg c P) (hcode : X.env.code = .ref c)
    (hm : (P, nm) ∈ T) (hn : nm pos.line pos.col = X.env.qual ++ "<lambda>") (hu : ∀ p ∈ T, p.1 = P → p.2 = nm) (hT : TabsN T H) (hdef : defaultsOf params X.env = ([], [])) (hfree : ∀ y ∈ scope.names, y.2 = .free → ∃ c, X.env.cells.lookup y.1 = some c)
    (h : ∀ (f c' : Addr) (pm ctv : Value) (H1 : Hp) (s' : Shared), Inv X pins σ H1 s' → LamX.ExtN H H1 → (∀ b, H1 b = Option.none → H b = Option.none) → TabsN T H1 →
      s'.heap.get? f = some (PySem.W.kla_obj "<lambda>" (X.env.qual ++ "<lambda>") params body scope (cloFrom X.env.cells scope.names []) pm c' ctv) → H1 c' = some (LamX.CodeO c' (X.env.qual ++ "<lambda>")) → Q (.ref f) s') :
    wpAny (model X.prog X.w) X.A (eval (.Lambda params body scope pos) X.env) Q E s := by
  obtain ⟨ps, hP, ht, ha⟩ := (show TabN H P nm from hT _ hm)
  refine PySem.W.kla_eval hdef ?_
  have bP : s.heap.BuiltinsAt X.mg P := TB.bm.keeps I.bk
  have hP' : s.heap.get? P = some { cls := .none, data := .fields ps } := I.hok P _ hP
  cases hc : codeAmong pos ps.toList with
  | none =>
    refine PySem.W.kla_makeFunction (mg := X.mg) (c := c) (P := P) (ps := ps) (closure_ok hfree) I.ok.glob (I.mod.glob.keeps I.bk) hcode (TB.code.keeps I.bk) hP' ht hc TB.gP bP fun c' ctv h' tk hx hge hlt hrec htb => ?_
    obtain ⟨c2, oc, vs, t, e2, hoc, hd, hv⟩ := hrec
    cases e2
    have nC : H c' = none := I.hok.fresh hge
    have I1 := LamX.inv_table (t' := tk) (more := #[rawInt pos.line, rawInt pos.col, .ref c']) (h' := h'.push (PySem.W.kla_obj "<lambda>" (X.env.qual ++ "<lambda>") params body scope (cloFrom X.env.cells scope.names []) ((X.mg "__name__").getD .none) c' ctv)) I hP
      (fun b o hb e => Heap.get?_push_of_some _ (hx b o hb e)) (Heap.get?_push_of_some _ htb) hge ⟨oc, vs, t, Heap.get?_push_of_some _ hoc, hd, hv⟩
    have hE : LamX.ExtN H (upd (upd H P (.tbl (ps ++ #[rawInt pos.line, rawInt pos.col, .ref c']))) c' (LamX.CodeO c' (X.env.qual ++ "<lambda>"))) := fun b o e n => by
      rw [upd_ne (ne_of_none e nC), upd_ne (fun z => n ps (Option.some.inj (e.symm.trans (by rw [z]; exact hP))))]
      exact e
    have eL : (ps ++ #[rawInt pos.line, rawInt pos.col, .ref c']).toList = ps.toList ++ [rawInt pos.line, rawInt pos.col, .ref c'] := by simp
    refine h h'.objs.size c' ((X.mg "__name__").getD .none) ctv _ _ I1 hE (fun b e => upd_none (upd_none e)) (fun p hp => ?_) (Heap.get?_push_size _ rfl) upd_same
    by_cases hb : p.1 = P
    · rw [hu p hp hb, hb]
      refine ⟨_, by rw [upd_ne (ne_of_none hP nC), upd_same], by rw [eL]; exact PySem.TriplesOk_snoc _ _ _ _ ht, fun p' cv hcv => ?_⟩
      rw [eL] at hcv
      rcases among_app2 _ ht hcv with z | ⟨z, z1, z2⟩
      · obtain ⟨c0, e1, e2⟩ := ha p' cv z
        exact ⟨c0, e1, hE _ _ e2 LamX.codeO_ne⟩
      · refine ⟨c', z, ?_⟩
        rw [← z1, ← z2, hn]
        exact upd_same
    · obtain ⟨ps', a1, a2, a3⟩ := hT p hp
      refine ⟨ps', by rw [upd_ne (ne_of_none a1 nC), upd_ne hb]; exact a1, a2, fun p' cv hcv => ?_⟩
      obtain ⟨c0, e1, e2⟩ := a3 p' cv hcv
      exact ⟨c0, e1, hE _ _ e2 LamX.codeO_ne⟩
  | some cv =>
    obtain ⟨c', e, hco⟩ := ha pos cv hc
    subst e
    rw [hn] at hco
    refine PySem.W.kla_makeFunctionHit (mg := X.mg) (c := c) (P := P) (ps := ps) (closure_ok hfree) I.ok.glob (I.mod.glob.keeps I.bk) hcode (TB.code.keeps I.bk) hP' ht hc bP fun ctv h' tk hx hsz => ?_
    have I1 : Inv X pins σ H { s with heap := h'.push (PySem.W.kla_obj "<lambda>" (X.env.qual ++ "<lambda>") params body scope (cloFrom X.env.cells scope.names []) ((X.mg "__name__").getD .none) c' ctv), toks := tk } := I.kept fun b o e => Heap.get?_push_of_some _ (hx b o e)
    exact h h'.objs.size c' ((X.mg "__name__").getD .none) ctv H _ I1 (LamX.ExtN.refl H) (fun _ e => e) hT (Heap.get?_push_size _ rfl) hco
end

open PySem.W in
theorem each_of {K : PySem.W.Frag} {G : Hp} {β : Type} {em : β → D} : ∀ {vs : List V} {us : List Value} {xs : List β}, Vals vs us → RepAll K G vs (xs.map em) → EachIs (fun (v : Value) (b : β) => ∃ y, RelV y v ∧ Rep K G y (em b)) us xs
  | _, _, [], r, h => by
    cases h
    cases r
    exact .nil
  | _, _, b :: bs, r, h => by
    cases h with
    | cons h1 h2 =>
      cases r with
      | cons r1 r2 => exact .cons ⟨_, r1, h1⟩ (each_of r2 h2)
open PySem.W in
theorem of_each {K : PySem.W.Frag} {G : Hp} {β : Type} {em : β → D} {us : List Value} {xs : List β} (h : EachIs (fun (v : Value) (b : β) => ∃ y, RelV y v ∧ Rep K G y (em b)) us xs) : ∃ vs, Vals vs us ∧ RepAll K G vs (xs.map em) := by
  induction h with
  | nil => exact ⟨[], .nil, .nil⟩
  | cons h1 h2 ih =>
    obtain ⟨y, r, h⟩ := h1
    obtain ⟨vs, rs, hs⟩ := ih
    exact ⟨y :: vs, .cons r rs, .cons h hs⟩
def key3 {β : Type} (k : β → Int × Int × Int) (b : β) : PyData := .tuple [.int (k b).1, .int (k b).2.1, .int (k b).2.2]
/-- sorted(xs, key=lambda x: x[:3]), each item a tuple that begins with three ints -/
theorem je_sortedCut {X : Cx} {B : Bs} {ρ : List Sl} {β : Type} {xs : List β} {em : β → D} {k : β → Int × Int × Int} {kk : Nat} {nm : Nat → Nat → PySem.Str} {c Pt : Addr} {params : Arguments} {scope : Scope} {x : PySem.Str} {j : Nat} {p pos kpos lpos p0 p1 p2 p3 : Pos} {e : Expr}
    (TB : LamX.TabB X.base X.mg c Pt) (hcode : X.env.code = .ref c) (hmem : (Pt, nm) ∈ B.T) (hn : nm lpos.line lpos.col = X.env.qual ++ "<lambda>") (hu : ∀ p ∈ B.T, p.1 = Pt → p.2 = nm) (hr : Room kk X.A) (hg : Gl X "sorted") (hmg : X.mg "sorted" = none)
    (hem : ∀ b ∈ xs, ∃ a more, em b = .tup (.int (k b).1 :: .int (k b).2.1 :: .int (k b).2.2 :: a :: more)) (ha : PE X e (tR X.K B ρ (.lst (xs.map em))))
    (hcl : cloFrom X.env.cells scope.names [] = [] := by rfl) (hb : ∀ (q : PySem.Str) (pm cv ctv : Value) (a : Addr), bindArgs (PySem.W.kla_fn "<lambda>" q params (cutE x 3 j p0 p1 p2 p3) scope [] pm cv ctv) ⟨[.ref a], []⟩ = pure [(x, .ref a)] := by intros; rfl)
    (hco : scope.isCoroutine = false := by rfl) (hgen : scope.isGenerator = false := by rfl) (hk : scope.kind = .function := by rfl) (hcell : ∀ y ∈ scope.names, y.2 = .local := by decide) (hx : scope.names.lookup x = some .local := by rfl) (hxd : (x == ("__debug__" : PySem.Str)) = false := by decide)
    (hdef : defaultsOf params X.env = ([], []) := by rfl) (he1 : starEach [e] X.env = (false, eval e X.env) :: starEach [] X.env := by rfl) (he2 : backTo pos (starEach [e] X.env) = (false, eval e X.env) :: backTo pos (starEach [] X.env) := by rfl) (he3 : (backTo pos (starEach [e] X.env)).any (·.1) = false := by rfl) : PE X (.Call (.Name "sorted" p) [e] [⟨some "key", .Lambda params (cutE x 3 j p0 p1 p2 p3) scope lpos, kpos⟩] pos) (tD X.K B ρ (.lst ((xs.mergeSort (PySem.W.dataLe false (key3 k))).map em))) := by
  refine ⟨fun pins s σ H Q I ⟨G, en, q⟩ => ?_⟩
  refine wpAny_Call_Name_kw (ld_blt (u := .builtin "sorted") I hg hmg boot_sorted ?_ (by decide) (by decide))
  refine PyProof.Rows.callWith_kw (thn ((pa_cons ha pa_nil he1).run pos pins s σ H (fun vs H1 => ∃ G1 y, vs = [y] ∧ Grow B.T G H G1 H1 ∧ Rp X.K G1 H1 y (.lst (xs.map em))) I ⟨G, en, fun y G1 H1 g1 ry => ⟨G1, y, rfl, g1, ry⟩⟩) fun us s1 ⟨vs, H1, I1, r1, q1⟩ => ?_) he2 he3 (by rfl) (by rfl)
  obtain ⟨G1, y, rfl, g1, ry⟩ := q1
  obtain ⟨a, vs, rfl, hv, rv⟩ := ry.lst g1.base
  obtain rfl := Vals.ref1 r1
  show wpAny _ _ (evalAll [(do let v ← eval (.Lambda params (cutE x 3 j p0 p1 p2 p3) scope lpos) X.env; standAt pos; pure v)]) _ _ _
  refine wpAny_evalAll_cons (wpAny_bind (lam_makeN I1 TB hcode hmem hn hu g1.tabs hdef (fun y hy z => absurd (hcell y hy) (by rw [z]; decide)) fun f c' pm ctv H2 s2 I2 eN nn T2 hf hc => wpAny_bind (wpAny_standAt (wpAny_pure (wpAny_evalAll_nil ?_)))))
  show wpAny _ _ (call (.builtin "sorted") [.ref a] [(Str.ofString "key", .ref f)]) _ _ _
  have g2 : Grow B.T G1 H1 G1 H2 := ⟨Same.refl _, g1.base.keep eN, g1.nt, eN, T2, nn, fun _ _ h => .inl h⟩
  have hv2 : H2 a = some (.lst vs) := eN _ _ hv (fun ps z => nomatch z)
  obtain ⟨its, rvs, hl, hz⟩ := I2.list (SqL.of hv2)
  rw [hcl] at hf
  refine PySem.W.sorted_key_data (b := false) (key3 k) hl.isList (each_of rvs rv) (PySem.W.AllAlike.of fun _ _ => by simp [PySem.W.alike, PySem.W.alikeAll, key3]) (PySem.W.Sortable.tuples fun _ => ⟨_, _, rfl⟩) (by rw [← (rv.length.trans (List.length_map ..))]; exact hz) (fun b _ => ?_) (PyProof.Rows.ksk_s1 _ _) (fun _ => PyProof.Rows.ksk_l1 _ _) (fun _ => PyProof.Rows.ksk_t1 _ _)
    (fun v b hR hm h tk kp => ?_) fun out cc h' tk kp fr hD hlen eo => ?_
  · have hd : (key3 k b).depth = 1 := by simp [key3, PyData.depth, PyData.depthAll]
    have := hr.units
    omega
  · obtain ⟨y, ryv, rb⟩ := hR
    obtain ⟨a0, more, eb⟩ := hem b hm
    rw [eb] at rb
    obtain ⟨p, ws, rfl, hp, rw_⟩ := (show Rp X.K G1 H2 y _ from .inl rb).tup g2.base
    have I3 : Inv X pins σ H2 { s2 with heap := h, toks := tk } := I2.kept kp
    obtain ⟨its3, rvs3, ht3, hz3⟩ := I3.tuple (SqT.of hp)
    cases ryv
    cases rw_ with | cons h1 rw_ => cases rw_ with | cons h2 rw_ => cases rw_ with | cons h3 rw_ => cases rw_ with | cons h4 rw_ =>
    cases h1; cases h2; cases h3
    cases rvs3 with | cons w1 rvs3 => cases rvs3 with | cons w2 rvs3 => cases rvs3 with | cons w3 rvs3 => cases rvs3 with | cons w4 rvs3 =>
    obtain ⟨t1, rfl⟩ := w1
    obtain ⟨t2, rfl⟩ := w2
    obtain ⟨t3, rfl⟩ := w3
    refine wpAny_mono (lam_cut (s := { s2 with heap := h, toks := tk }) (kp _ _ hf) (hb _ _ _ _ _) hr.depth I3.nolimit (codeO_at I3.hok hc) hco hgen hk (fun y hy => by rw [hcell y hy]; decide) hx hxd ht3 (by decide) ?_ ?_) (fun u s' ⟨h', tk', q', e1, e2, e3, e4⟩ => ?_) fun _ _ z => z
    · simp only [List.length_cons]; omega
    · have := rvs3.length
      simp only [List.length_cons] at hz3 ⊢
      omega
    · refine ⟨h', tk', e1, e2, ?_⟩
      rw [e3]
      obtain ⟨o, o1, o2, n, o3⟩ := e4
      exact Reads.tuple (as := []) o1 o2 o3 (.cons (as := []) (.int _ _) (.cons (as := []) (.int _ _) (.cons (as := []) (.int _ _) .nil)))
  · obtain ⟨ys, rys, hys⟩ := of_each eo
    have hn2 : H2 (s2.heap.objs.size + 1) = none := I2.hok.fresh (Nat.le_succ _)
    have hlen2 : ys.length ≤ sizeLine := by
      rw [hys.length, List.length_map, List.length_mergeSort, ← (rv.length.trans (List.length_map ..))]
      exact hz
    have g3 := g2.base.lay (o := .lst ys) hn2 (fun ps z => nomatch z)
    exact ⟨.ref _, upd H2 (s2.heap.objs.size + 1) (.lst ys), I2.laidN (t' := tk) kp fr hn2 ⟨hlen2, out, cc, rys, hD⟩, rfl, q _ _ _ ((g1.trans g2).trans g3) (.lst upd_same (hys.up g3.le))⟩
end DL
end
section
set_option Elab.async false
set_option linter.all false
set_option maxRecDepth 100000
set_option maxHeartbeats 4000000
/-! D-layer 16: instances made. -/
namespace DL
open PySem PySem.Spec PyProof.Rows L2 NdefX
/-- an instance of one's own -/
def insK (K : PySem.W.Frag) (C x : Addr) (ns : List PySem.Str) (ds : List D) : OwK where
  φ := fun G a u => a = x ∧ ∃ (dx : Addr) (fs : List (PySem.Str × V)), u = .ins C dx fs ∧ fs.map Prod.fst = ns ∧ RepAll K G (fs.map Prod.snd) ds
  mono := fun G G' _ u e h => by
    obtain ⟨y, dx, fs, h, n, r⟩ := h
    exact ⟨y, dx, fs, h, n, r.up e⟩
  nt := fun G _ u ⟨_, dx, fs, h, _⟩ ps z => by rw [h] at z; cases z
  nc := fun G _ u ⟨_, dx, fs, h, _⟩ c q z => by rw [h] at z; unfold LamX.CodeO at z; cases z
theorem putF_new {f : PySem.Str} {v : V} : ∀ {fs : List (PySem.Str × V)}, f ∉ fs.map (·.1) → putF f v fs = fs ++ [(f, v)]
  | [], _ => rfl
  | (g, x) :: r, h => by
    have h1 : ¬ g = f := fun z => h (by rw [z]; exact List.mem_cons_self)
    unfold putF
    rw [if_neg h1, putF_new (fs := r) fun z => h (List.mem_cons_of_mem _ z)]
    rfl
section
variable {X : Cx} {B : Bs} {E : XK} {ρ : List Sl} {d : D} {ds : List D} {ns : List PySem.Str} {C a0 : Addr} {f x : PySem.Str} {e : Expr} {pos p p1 : Pos}
/-- self.f = e, a new field -/
theorem js_fset (i : Nat) (hx0 : ρ[i]? = some (.ow (insK X.K C a0 ns ds))) (c : Cls X.K C) (n : NoAttr X.K C f) (hf : f ∉ ns) (hz : ns.length < 1000) (h : PE X e (tD X.K B ρ d)) (hN : X.N[i]? = some x := by rfl)
    (hv : Vis X.env.scope x := by first | exact Or.inl rfl | exact Or.inr (Or.inl rfl) | exact Or.inr (Or.inr rfl)) (hd : (x == ("__debug__" : PySem.Str)) = false := by decide) (hcd : (x == ("__classdict__" : PySem.Str)) = false := by decide)
    (hs : swapsWith e (some (.Attribute (.Name x p) f p1)) pos.line X.env = pure false := by rfl) : PS X (.Assign [.Attribute (.Name x p) f p1] e pos) (tS X.K B E ρ (.nx (ρ.set i (.ow (insK X.K C a0 (ns ++ [f]) (ds ++ [d])))))) :=
  ps_mono (ps_fld (pe_var hN hv hd hcd) h hs) fun D σ H ⟨G, en, q⟩ => ⟨G, en, fun v G1 H1 g1 rv => by
    have en1 := en.up g1
    obtain ⟨a, u, h1, h2, ⟨rfl, dx, fs, rfl, hn, r⟩, _⟩ := en1.ow hx0
    refine ⟨.ref a, h1, a, C, dx, fs, rfl, h2, c, n, ?_, ?_⟩
    · have := congrArg List.length hn
      rw [List.length_map] at this
      omega
    · rw [putF_new (by rw [hn]; exact hf)]
      exact q σ G1 _ g1.le (en1.mut hx0 h1 ⟨rfl, dx, fs ++ [(f, v)], rfl, by rw [List.map_append, hn]; rfl, by rw [List.map_append]; exact r.append (.one rv)⟩)⟩
end
/-- freezing an instance -/
theorem En.freezeI {K : PySem.W.Frag} {T : List NTab} {G0 H0 G H : Hp} {ρ : List Sl} {σ : L2.St} {i : Nat} {C x : Addr} {ns : List PySem.Str} {ds : List D} (e : En K T G0 H0 G ρ σ H) (hi : ρ[i]? = some (.ow (insK K C x ns ds))) : ∃ G', Grow T G0 H0 G' H ∧ Rep K G' (.ref x) (.ins C ns ds) := by
  obtain ⟨a, u, h1, h2, h3, h4, h5⟩ := e.ow hi
  obtain ⟨rfl, dx, fs, rfl, hn, r⟩ := id h3
  have le : Same G (upd G a (.ins C dx fs)) := upd_keep h4
  refine ⟨upd G a (.ins C dx fs), ⟨e.grow.le.trans le, fun c o h => ?_, fun c ps h => ?_, e.grow.keep, e.grow.tabs, e.grow.nn, fun c o h => ?_⟩, .ins upd_same hn rfl (r.up le)⟩
  · by_cases z : c = a
    · subst z; rw [upd_same] at h; cases h; exact h2
    · rw [upd_ne z] at h; exact e.grow.sub c o h
  · by_cases z : c = a
    · subst z; rw [upd_same] at h; cases h
    · rw [upd_ne z] at h; exact e.grow.nt c ps h
  · by_cases z : c = a
    · subst z; exact .inr (.inl h5)
    · rw [upd_ne z] at h; exact e.grow.new c o h
/-- __init__'s promise: the fields' data -/
def spInit (K : PySem.W.Frag) (T : List NTab) (C : Addr) (ns : List PySem.Str) (R : List D → List D → Prop) : Sp := fun vs H Q E => ∃ G H0 x dx us ds xs, vs = .ref x :: us ∧ H0 x = none ∧ H = upd H0 x (.ins C dx []) ∧ Base T G H0 ∧ RepAll K G us ds ∧ R ds xs ∧
  ∀ G' H', Grow T G H0 G' H' → Rep K G' (.ref x) (.ins C ns xs) → Q .non H'
def envI (K : PySem.W.Frag) (C x : Addr) (n : Nat) (ds : List D) : List Sl := .ow (insK K C x [] []) :: env0 n ds
theorem en_startI {K : PySem.W.Frag} {T : List NTab} {G H0 : Hp} {N : List PySem.Str} {x0 : PySem.Str} {x dx C : Addr} {us : List V} {ds : List D} (b : Base T G H0) (hx : H0 x = none) (r : RepAll K G us ds) :
    En K T G H0 G (envI K C x N.length ds) (L2.start (x0 :: N) (.ref x :: us)) (upd H0 x (.ins C dx [])) := by
  have e0 := (en_start (N := N) b r).up (b.own (o := .ins C dx []) hx)
  have es : L2.start (x0 :: N) (.ref x :: us) = some (.ref x) :: L2.start N us := by
    unfold L2.start
    rw [List.map_cons, List.cons_append, List.length_cons, List.length_cons, Nat.add_sub_add_right]
  rw [es]
  have gx : G x = none := by
    cases z : G x with
    | none => rfl
    | some o => rw [b.sub _ _ z] at hx; cases hx
  have no : ∀ (j : Nat) (k : OwK), (env0 N.length ds)[j]? ≠ some (.ow k) := fun j k z => by
    unfold env0 at z
    rcases List.mem_append.mp (List.mem_of_getElem? z) with m | m
    · obtain ⟨d, _, e⟩ := List.mem_map.mp m; cases e
    · have := List.eq_of_mem_replicate m; cases this
  refine ⟨e0.grow, by show _ + 1 = _ + 1; rw [e0.len], fun i s h => ?_, fun i j k k' a hne h1 h2 h3 h4 => ?_⟩
  · cases i with
    | zero => cases h; exact ⟨x, _, rfl, upd_same, ⟨rfl, dx, [], rfl, rfl, .nil⟩, gx, hx⟩
    | succ i =>
      have := e0.sl i s h
      cases s with
      | un => trivial
      | da d => exact this
      | ow k => exact this
  · cases i with
    | zero =>
      cases j with
      | zero => exact hne rfl
      | succ j => exact no j k' h2
    | succ i => exact no i k h1
/-- what a class must have to be made, with its __init__ -/
structure MkC (K : PySem.W.Frag) (C : Addr) (qual : PySem.Str) (st : Stmt) (ps : List PySem.Str) : Prop where
  ex : ∃ (f : Addr) (fd : FuncData), Fun K "__init__" qual st f fd ∧ Mk K C f ∧ Binds K fd ps []
structure MkCal (P : Program) (w : World) (K : PySem.W.Frag) (mg : PySem.Str → Option Value) (base : Heap) (T : List NTab) (k : Nat) (C : Addr) (ns ps : List PySem.Str) (R : List D → List D → Prop) : Prop where
  ex : ∃ (f : Addr) (fd : FuncData), FnOk P w K mg base CX0 k f fd ps (spInit K T C ns R) ∧ Mk K C f ∧ Binds K fd ps []
theorem mk_D {P : Program} {w : World} {K : PySem.W.Frag} {mg : PySem.Str → Option Value} {base : Heap} {T : List NTab} {k : Nat} {C : Addr} {ns ps : List PySem.Str} {R : List D → List D → Prop} {qual : PySem.Str} {st : Stmt} {N : List PySem.Str} {x0 : PySem.Str} (F : MkC K C qual st (x0 :: ps)) (S : FnScope (x0 :: N) (x0 :: ps) (defScope st)) (len : ∀ ds xs, R ds xs → ds.length = ps.length)
    (hbody : ∀ (f : Addr) (cdv : Value) (A : Around) (outer : List Env) (s : Shared) (H G H0 : Hp) (x : Addr) (E : XK) (ds xs : List D), Room k (A.deeper (envOfC qual (defScope st) s.heap.objs.size f cdv)) → R ds xs →
      ∃ ρ, ρ[0]? = some (.ow (insK K C x ns xs)) ∧ PSs (cxOf CX0 P w K mg base (x0 :: N) qual (defScope st) f cdv A outer s H E).nox (defBody st) (tS K ⟨T, G, H0⟩ E0 (envI K C x N.length ds) (.nx ρ))) : MkCal P w K mg base T (k + 1) C ns (x0 :: ps) R := by
  obtain ⟨f, fd, F, hm, hb⟩ := F.ex
  refine ⟨f, fd, F.ok S (fun vs H Q E h => ?_) (fun cdv A outer s H vs Q E hr h => ?_), hm, hb⟩
  · obtain ⟨G, H0, x, dx, us, ds, xs, rfl, _, _, _, r, hR, _⟩ := h
    rw [List.length_cons, r.length, len ds xs hR]
    rfl
  · obtain ⟨G, H0, x, dx, us, ds, xs, rfl, hx, rfl, b, r, hR, q⟩ := h
    obtain ⟨ρ, h0, hp⟩ := hbody f cdv A outer s _ G H0 x E ds xs hr hR
    refine ⟨_, hp, G, en_startI b hx r, fun σ' G' H' _ en => ?_⟩
    obtain ⟨G2, g2, r2⟩ := en.freezeI h0
    exact q _ _ g2 r2
/-- .. its code object told -/
structure MkCC (K : PySem.W.Frag) (C : Addr) (qual : PySem.Str) (st : Stmt) (ps : List PySem.Str) (c : Addr) : Prop where
  ex : ∃ (f : Addr) (oc : Value) (od : Option Addr) (kV doc pm : Value) (an : Option Addr) (ct : Value) (osl : Array (Option Value)),
    K.lookup f = some ⟨oc, od, .func (PySem.W.fnOf "__init__" qual (defArgs st) (defBody st) (defScope st) .none kV doc pm an (.ref c) ct), osl⟩ ∧ PySem.W.codeIn K (.ref c) qual = true ∧ Mk K C f ∧ Binds K (PySem.W.fnOf "__init__" qual (defArgs st) (defBody st) (defScope st) .none kV doc pm an (.ref c) ct) ps []
theorem mk_DC {P : Program} {w : World} {K : PySem.W.Frag} {mg : PySem.Str → Option Value} {base : Heap} {T : List NTab} {k : Nat} {C c : Addr} {ns ps : List PySem.Str} {R : List D → List D → Prop} {qual : PySem.Str} {st : Stmt} {N : List PySem.Str} {x0 : PySem.Str} (F : MkCC K C qual st (x0 :: ps) c) (S : FnScope (x0 :: N) (x0 :: ps) (defScope st)) (len : ∀ ds xs, R ds xs → ds.length = ps.length)
    (hbody : ∀ (f : Addr) (A : Around) (outer : List Env) (s : Shared) (H G H0 : Hp) (x : Addr) (E : XK) (ds xs : List D), Room k (A.deeper (envOfC qual (defScope st) s.heap.objs.size f (.ref c))) → R ds xs →
      ∃ ρ, ρ[0]? = some (.ow (insK K C x ns xs)) ∧ PSs (cxOf CX0 P w K mg base (x0 :: N) qual (defScope st) f (.ref c) A outer s H E).nox (defBody st) (tS K ⟨T, G, H0⟩ E0 (envI K C x N.length ds) (.nx ρ))) : MkCal P w K mg base T (k + 1) C ns (x0 :: ps) R := by
  obtain ⟨f, oc, od, kV, doc, pm, an, ct, osl, lk, hcd, hm, hb⟩ := F.ex
  refine ⟨f, _, fn_of lk hcd S (fun vs H Q E h => ?_) (fun A outer s H vs Q E hr h => ?_), hm, hb⟩
  · obtain ⟨G, H0, x, dx, us, ds, xs, rfl, _, _, _, r, hR, _⟩ := h
    rw [List.length_cons, r.length, len ds xs hR]
    rfl
  · obtain ⟨G, H0, x, dx, us, ds, xs, rfl, hx, rfl, b, r, hR, q⟩ := h
    obtain ⟨ρ, h0, hp⟩ := hbody f A outer s (upd H0 x (.ins C dx [])) G H0 x E ds xs hr hR
    refine ⟨_, hp.nox, G, en_startI b hx r, fun σ' G' H' _ en => ?_⟩
    obtain ⟨G2, g2, r2⟩ := en.freezeI h0
    exact q _ _ g2 r2
section
variable {X : Cx} {B : Bs} {ρ : List Sl} {e : Expr} {es : List Expr} {pos p : Pos} {C : Addr} {ns ps : List PySem.Str} {x : PySem.Str} {ds xs : List D} {R : List D → List D → Prop} {k j : Nat}
/-- C(..) -/
theorem je_mk (F : MkCal X.prog X.w X.K X.mg X.base B.T j C ns ps R) (hr : Room (k + 1) X.A) (hj : j ≤ k) (hg : Gl X x) (hm : X.mg x = some (.ref C)) (hR : R ds xs) (ha : PA X (e :: es) (tDs X.K B ρ ds)) (hdb : (x == ("__debug__" : PySem.Str)) = false := by decide)
    (he : starEach (e :: es) X.env = (false, eval e X.env) :: starEach es X.env := by rfl) (hpl : (backTo pos (starEach es X.env)).any (·.1) = false := by rfl) : PE X (.Call (.Name x p) (e :: es) [] pos) (tD X.K B ρ (.ins C ns xs)) := by
  obtain ⟨f, fd, F, M, hb⟩ := F.ex
  exact pe_mono (pe_make M F (hr.mono (Nat.succ_le_succ hj)) hg hm hb .nil pass0 ha hdb he hpl) fun σ H Q ⟨G, en, q⟩ => ⟨G, en, fun vs G1 H1 g1 rs y dx hy hdx hne => by
    rw [List.append_nil]
    have hy2 : upd H1 dx (.own y) y = none := by rw [upd_ne (Ne.symm hne)]; exact hy
    have g2 := g1.base.own (o := .own y) hdx
    exact ⟨G1, _, y, dx, vs, ds, xs, rfl, hy2, rfl, g2.base, rs, hR, fun G3 H3 g3 r3 => ⟨rfl, q _ _ _ ((g1.trans g2).trans g3) r3⟩⟩⟩
end
end DL
end
section
set_option Elab.async false
set_option linter.all false
set_option maxRecDepth 100000
set_option maxHeartbeats 4000000
/-! Sets, 1: the table of a set of up to 2047 slots, by the hashes of what is in it. -/
namespace DL
open PySem PySem.Spec PyProof.Rows L2
/-! ### masks -/
def round (m : Nat) : Nat → Nat → Nat → Nat × Nat
  | 0, c, acc => (c, acc)
  | n + 1, c, acc => round m n ((c * 5 + 1) % (m + 1)) (acc ||| (1 <<< c))
theorem lcg_front (m : Nat) : ∀ (k c : Nat), lcgI m ((c * 5 + 1) % (m + 1)) k = lcgI m c (k + 1)
  | 0, _ => rfl
  | k + 1, c => by
    show (lcgI m ((c * 5 + 1) % (m + 1)) k * 5 + 1) % (m + 1) = _
    rw [lcg_front m k c]
    rfl
theorem round_spec (m : Nat) : ∀ (n c acc : Nat), (round m n c acc).1 = lcgI m c n ∧ ∀ j, (round m n c acc).2.testBit j = true → acc.testBit j = true ∨ ∃ k, k < n ∧ lcgI m c k = j
  | 0, c, acc => ⟨rfl, fun j h => .inl h⟩
  | n + 1, c, acc => by
    obtain ⟨h1, h2⟩ := round_spec m n ((c * 5 + 1) % (m + 1)) (acc ||| (1 <<< c))
    refine ⟨by unfold round; rw [h1, lcg_front], fun j h => ?_⟩
    unfold round at h
    rcases h2 j h with h3 | ⟨k, hk, e⟩
    · rw [Nat.testBit_or, Bool.or_eq_true] at h3
      rcases h3 with h3 | h3
      · exact .inl h3
      · rw [Nat.one_shiftLeft, Nat.testBit_two_pow] at h3
        exact .inr ⟨0, Nat.succ_pos _, of_decide_eq_true h3⟩
    · exact .inr ⟨k + 1, Nat.succ_lt_succ hk, by rw [← lcg_front]; exact e⟩
structure Msk (m : Nat) : Prop where
  odd : m % 2 = 1
  le : m ≤ 2047
  cyc : round m (m + 1) 0 0 = (0, 2 ^ (m + 1) - 1)
theorem msk7 : Msk 7 := ⟨rfl, by decide, by decide +kernel⟩
theorem msk31 : Msk 31 := ⟨rfl, by decide, by decide +kernel⟩
theorem msk127 : Msk 127 := ⟨rfl, by decide, by decide +kernel⟩
theorem msk511 : Msk 511 := ⟨rfl, by decide, by decide +kernel⟩
theorem msk2047 : Msk 2047 := ⟨rfl, by decide, by decide +kernel⟩
theorem lcg_add (m i a : Nat) : ∀ k, lcgI m i (a + k) = lcgI m (lcgI m i a) k
  | 0 => rfl
  | k + 1 => by
    show (lcgI m i (a + k) * 5 + 1) % (m + 1) = (lcgI m (lcgI m i a) k * 5 + 1) % (m + 1)
    rw [lcg_add m i a k]
theorem Msk.cover {m : Nat} (M : Msk m) {j : Nat} (hj : j ≤ m) : ∃ k, k ≤ m ∧ lcgI m 0 k = j := by
  have h := (round_spec m (m + 1) 0 0).2 j (by rw [M.cyc, Nat.testBit_two_pow_sub_one]; exact decide_eq_true (by omega))
  rcases h with h | ⟨k, hk, e⟩
  · simp at h
  · exact ⟨k, Nat.le_of_lt_succ hk, e⟩
theorem Msk.back {m : Nat} (M : Msk m) : lcgI m 0 (m + 1) = 0 := by
  have h := (round_spec m (m + 1) 0 0).1
  rw [M.cyc] at h
  exact h.symm
theorem Msk.all {m : Nat} (M : Msk m) {i j : Nat} (hi : i ≤ m) (hj : j ≤ m) : ∃ k, k ≤ m ∧ lcgI m i k = j := by
  obtain ⟨a, ha, ea⟩ := M.cover hi
  obtain ⟨b, hb, eb⟩ := M.cover hj
  rw [← ea]
  by_cases c : a ≤ b
  · exact ⟨b - a, by omega, by rw [← lcg_add, Nat.add_sub_cancel' c]; exact eb⟩
  · refine ⟨m + 1 - a + b, by omega, ?_⟩
    rw [← lcg_add, ← Nat.add_assoc, Nat.add_sub_cancel' (by omega), lcg_add, M.back]
    exact eb

/-! ### the way of a hash -/
theorem way_bd {m : Nat} (h : Int) (k : Nat) : way m h k ≤ m := by
  have hi : SetTable.bits h % (m + 1) ≤ m := Nat.le_of_lt_succ (Nat.mod_lt _ (Nat.succ_pos _))
  obtain ⟨r1, r2, _⟩ := runEnd_bd hi
  have q := nth_in (m := m) k (runAt m (SetTable.bits h % (m + 1)) (SetTable.bits h)) (show SetTable.bits h % (m + 1) + (SetTable.runEnd m (SetTable.bits h % (m + 1)) - SetTable.bits h % (m + 1)) ≤ m by omega)
  exact Nat.le_trans (Nat.le_add_right _ _) q
theorem Msk.run {m : Nat} (M : Msk m) (h : Int) {j : Nat} (hj : j ≤ m) : ∃ n, n ≤ m + 12 ∧ runI m (SetTable.bits h) n = j := by
  obtain ⟨k, hk, e⟩ := M.all (runI_le m (SetTable.bits h) 12) hj
  exact ⟨12 + k, by omega, (runI_tail (bits_lt h) k).trans e⟩
theorem Msk.hit {m : Nat} (M : Msk m) (h : Int) {j : Nat} (hj : j ≤ m) : ∃ k, k < 10 * SetTable.turns m ∧ way m h k = j := by
  obtain ⟨n, hn, e⟩ := M.run h hj
  obtain ⟨k, hk, e2⟩ := run_nth m (SetTable.bits h) n
  refine ⟨k, by unfold SetTable.turns; omega, ?_⟩
  show (nth m _ k).j = j
  rw [e2]
  exact e

/-! ### the table's word -/
/-- each place is come to from its hash over places that are taken -/
structure TOk (t : SetTable) (hs : List Int) : Prop where
  ris : Ris t.place.toList
  dm : t.dummies = #[]
  sz : t.place.toList.length = hs.length
  msk : Msk t.mask
  bd : ∀ x ∈ t.place.toList, x ≤ t.mask
  reach : ∀ q ∈ hs.zip t.place.toList, ∃ k, way t.mask q.1 k = q.2 ∧ ∀ k', k' < k → way t.mask q.1 k' ∈ t.place.toList
theorem TOk.first {t : SetTable} {hs : List Int} (T : TOk t hs) (hl : hs.length ≤ t.mask) (h : Int) : ∃ K, K < 10 * SetTable.turns t.mask ∧ way t.mask h K ∉ t.place.toList ∧ ∀ k, k < K → way t.mask h k ∈ t.place.toList := by
  obtain ⟨j, hj, hn⟩ := st_missing t.place.toList (t.mask + 1) (by rw [T.sz]; omega)
  obtain ⟨k, hk, e⟩ := T.msk.hit h (Nat.le_of_lt_succ hj)
  obtain ⟨K, h1, h2, h3⟩ := st_least (p := fun k => way t.mask h k ∉ t.place.toList) k (by rw [← e] at hn; exact hn)
  exact ⟨K, Nat.lt_of_le_of_lt h1 hk, h2, fun k' hk' => Classical.not_not.mp (h3 k' hk')⟩
theorem TOk.zip_at {t : SetTable} {hs : List Int} (T : TOk t hs) {i : Nat} {h : Int} {j : Nat} (h1 : hs[i]? = some h) (h2 : t.place.toList[i]? = some j) : (h, j) ∈ hs.zip t.place.toList :=
  List.mem_of_getElem? (List.getElem?_zip_eq_some.mpr ⟨h1, h2⟩)
/-- what has the hash stands on the way before the first empty place -/
theorem TOk.before {t : SetTable} {hs : List Int} (T : TOk t hs) {h : Int} {K j : Nat} (hK : way t.mask h K ∉ t.place.toList) (hq : (h, j) ∈ hs.zip t.place.toList) : ∃ k, k < K ∧ way t.mask h k = j := by
  obtain ⟨k, e, hb⟩ := T.reach _ hq
  refine ⟨k, ?_, e⟩
  rcases Nat.lt_or_ge k K with c | c
  · exact c
  · exfalso
    rcases Nat.lt_or_eq_of_le c with c | c
    · exact hK (hb K c)
    · rw [c, e] at hK
      exact hK (List.of_mem_zip hq).2
theorem zip_ins {α β : Type} : ∀ {xs : List α} {ys : List β} (p : Nat) (x : α) (y : β), xs.length = ys.length → p ≤ xs.length → (xs.take p ++ x :: xs.drop p).zip (ys.take p ++ y :: ys.drop p) = (xs.zip ys).take p ++ (x, y) :: (xs.zip ys).drop p
  | xs, ys, 0, x, y, h, _ => rfl
  | a :: xs, b :: ys, p + 1, x, y, h, hp => by
    simp only [List.take_succ_cons, List.drop_succ_cons, List.cons_append, List.zip_cons_cons]
    rw [zip_ins p x y (Nat.succ.inj h) (Nat.le_of_succ_le_succ hp)]
  | [], _, p + 1, _, _, _, hp => absurd hp (by simp)
  | _ :: _, [], p + 1, _, _, h, _ => absurd h (by simp)
/-- a hash is put at the first empty place of its way -/
theorem TOk.put {t : SetTable} {hs : List Int} (T : TOk t hs) {h : Int} {K : Nat} (hK : way t.mask h K ∉ t.place.toList) (hb : ∀ k, k < K → way t.mask h k ∈ t.place.toList) {p : Nat} (hp : p = SetTable.below t.place (way t.mask h K)) :
    p ≤ hs.length ∧ TOk (t.put (way t.mask h K)).1 (hs.take p ++ h :: hs.drop p) ∧ (t.put (way t.mask h K)).1.fill = hs.length + 1 := by
  subst hp
  have hpl : SetTable.below t.place (way t.mask h K) ≤ t.place.toList.length := (below_cut T.ris (way t.mask h K)).1
  have hpp := put_place t (way t.mask h K)
  have hdm := put_dm T.dm (way t.mask h K)
  have hsz : (t.put (way t.mask h K)).1.place.toList.length = hs.length + 1 := by rw [hpp, len_ins _ hpl, T.sz]
  have up : ∀ x, x ∈ t.place.toList → x ∈ (t.put (way t.mask h K)).1.place.toList := fun x hx => by rw [hpp]; exact mem_ins.2 (.inr hx)
  have hph := hpl
  rw [T.sz] at hph
  refine ⟨hph, ⟨?_, hdm, ?_, T.msk, fun x hx => ?_, fun q hq => ?_⟩, ?_⟩
  · exact ris_insert T.ris fun e => hK (List.mem_of_getElem? (by rw [Array.getElem?_toList]; exact e))
  · rw [hsz, len_ins _ hph]
  · rw [hpp] at hx
    rcases mem_ins.1 hx with rfl | hx
    · exact way_bd h K
    · exact T.bd x hx
  · rw [hpp, zip_ins _ _ _ T.sz.symm hph] at hq
    rcases mem_ins.1 hq with rfl | hq
    · exact ⟨K, rfl, fun k hk => up _ (hb k hk)⟩
    · obtain ⟨k, e, z⟩ := T.reach q hq
      exact ⟨k, e, fun k' hk' => up _ (z k' hk')⟩
  · show (t.put (way t.mask h K)).1.place.size + (t.put (way t.mask h K)).1.dummies.size = _
    rw [hdm, ← Array.length_toList, hsz]
    rfl

/-! ### all laid anew -/
/-- a free place of the way is found -/
theorem Msk.free {m : Nat} (M : Msk m) (owner : Array (Option Nat)) (h : Int) {j : Nat} (hj : j ≤ m) (hf : oAt owner j = none) :
    ∃ K, SetTable.layClean.free m owner (SetTable.turns m) (SetTable.bits h % (m + 1)) (SetTable.bits h) = some (way m h K) ∧ oAt owner (way m h K) = none ∧ ∀ k, k < K → oAt owner (way m h k) ≠ none := by
  obtain ⟨n, hn, e⟩ := M.run h hj
  have hw : way m h (off m (SetTable.bits h % (m + 1)) (SetTable.bits h) n) = j := by
    show (nth m _ _).j = j
    rw [nth_off, itL_run]
    exact e
  obtain ⟨K, k1, k2, k3⟩ := st_least (p := fun k => oAt owner (way m h k) = none) _ (show oAt owner (way m h (off m (SetTable.bits h % (m + 1)) (SetTable.bits h) n)) = none by rw [hw]; exact hf)
  have is_ : ∀ {x : Option Nat}, x ≠ none → x.isNone = false := fun {x} hx => by cases x with | none => exact absurd rfl hx | some _ => rfl
  refine ⟨K, free_spec m owner (SetTable.turns m) n _ _ K (by unfold SetTable.turns; omega) k1 (fun k hk => is_ (k3 k hk)) ?_, k2, k3⟩
  rw [show oAt owner (nth m (runAt m (SetTable.bits h % (m + 1)) (SetTable.bits h)) K).j = none from k2]
  rfl
theorem own_step {m : Nat} (M : Msk m) {done : List Int} {owner : Array (Option Nat)} (W : Own m done owner) (hl : done.length ≤ m) (h : Int) :
    ∃ j, SetTable.layClean.free m owner (SetTable.turns m) (SetTable.bits h % (m + 1)) (SetTable.bits h) = some j ∧ Own m (done ++ [h]) (owner.setIfInBounds j (some done.length)) := by
  obtain ⟨ps, hps, hin⟩ := W.ps
  obtain ⟨j0, h0, hn0⟩ := st_missing ps (m + 1) (by omega)
  have hj0 : oAt owner j0 = none := Classical.byContradiction fun z => hn0 (hin j0 (Nat.le_of_lt_succ h0) z)
  obtain ⟨K, e1, e2, e3⟩ := M.free owner h (Nat.le_of_lt_succ h0) hj0
  have hself := oAt_set_self (some done.length) (show way m h K < owner.size by rw [W.sz]; exact Nat.lt_succ_of_le (way_bd h K))
  have mono : ∀ i, oAt owner i ≠ none → oAt (owner.setIfInBounds (way m h K) (some done.length)) i ≠ none := fun i hi => by
    by_cases c : i = way m h K
    · rw [c, hself]; simp
    · rw [oAt_set_ne _ c]; exact hi
  have hlen : (done ++ [h]).length = done.length + 1 := by rw [List.length_append]; rfl
  refine ⟨_, e1, ⟨by rw [Array.size_setIfInBounds]; exact W.sz, fun j k hj e => ?_, fun k hk => ?_, ⟨way m h K :: ps, by rw [List.length_cons, hlen, hps], fun j hj e => ?_⟩⟩⟩
  · by_cases c : j = way m h K
    · rw [c, hself] at e
      cases e
      exact ⟨h, K, by rw [List.getElem?_append_right (Nat.le_refl _), Nat.sub_self]; rfl, c.symm, fun k' hk' => mono _ (e3 k' hk')⟩
    · rw [oAt_set_ne _ c] at e
      obtain ⟨h', K', a1, a2, a3⟩ := W.at_ j k hj e
      exact ⟨h', K', by rw [List.getElem?_append_left (List.getElem?_eq_some_iff.mp a1).1]; exact a1, a2, fun k' hk' => mono _ (a3 k' hk')⟩
  · rw [hlen] at hk
    rcases Nat.lt_or_eq_of_le (Nat.le_of_lt_succ hk) with c | c
    · obtain ⟨j, hj, e⟩ := W.all k c
      exact ⟨j, hj, by rw [oAt_set_ne _ (fun z => by rw [z, e2] at e; cases e)]; exact e⟩
    · rw [c]; exact ⟨_, way_bd h K, hself⟩
  · by_cases c : j = way m h K
    · rw [c]; exact List.mem_cons_self
    · rw [oAt_set_ne _ c] at e
      exact List.mem_cons_of_mem _ (hin j hj e)
theorem own_all {m : Nat} (M : Msk m) : ∀ (rest done : List Int) (owner : Array (Option Nat)), Own m done owner → done.length + rest.length ≤ m →
    ∃ owner', rest.foldl (stepF m) (some (owner, done.length)) = some (owner', (done ++ rest).length) ∧ Own m (done ++ rest) owner'
  | [], done, owner, W, _ => ⟨owner, by rw [List.append_nil]; rfl, by rw [List.append_nil]; exact W⟩
  | h :: rest, done, owner, W, hl => by
    rw [List.length_cons] at hl
    obtain ⟨j, e, W'⟩ := own_step M W (by omega) h
    obtain ⟨owner', f, W2⟩ := own_all M rest (done ++ [h]) _ W' (by rw [List.length_append]; show done.length + 1 + rest.length ≤ m; omega)
    rw [List.append_assoc] at f W2
    refine ⟨owner', ?_, W2⟩
    rw [List.foldl_cons, stepF_some e]
    rw [List.length_append] at f
    exact f
theorem relaid_spec (t : SetTable) {hs : Array Int} {wanted M : Nat} (hw : SetTable.sizeAbove wanted - 1 = M) (hM : Msk M) (hn : hs.size ≤ M) :
    ∃ t' order, t.relaid hs wanted = some (t', order) ∧ order.toList.Perm (List.range hs.size) ∧ TOk t' (order.toList.map fun i => hs.getD i 0) ∧ t'.mask = M ∧ t'.led = t.led ∧ t'.plain = t.plain := by
  obtain ⟨owner, f, W⟩ := own_all hM hs.toList [] _ (Own.init M) (by rw [Array.length_toList]; show 0 + hs.size ≤ M; omega)
  rw [List.nil_append] at f W
  have hr : t.relaid hs wanted = some (tabOf t M owner, ((liveOf M owner).map (·.2)).toArray) := by
    rw [relaid_eq, hw, layClean_eq, show hs.toList.foldl (stepF M) (some (Array.replicate (M + 1) none, 0)) = some (owner, hs.toList.length) from f]
    rfl
  obtain ⟨r1, r2⟩ := ris_live (fun j => owner.getD j none) (List.range (M + 1)) (by unfold Ris; exact List.pairwise_lt_range)
  have r1 : Ris ((liveOf M owner).map (·.1)) := r1
  have r2 : ∀ x ∈ (liveOf M owner).map (·.1), x ∈ List.range (M + 1) := r2
  have hz : hs.toList.length = hs.size := Array.length_toList
  have hall : ∀ k, k < hs.size → k ∈ (liveOf M owner).map (·.2) := fun k hk => by
    obtain ⟨j, b1, b2⟩ := W.all k (by rw [hz]; exact hk)
    exact List.mem_map.mpr ⟨(j, k), (mem_live W.sz).2 ⟨b1, b2⟩, rfl⟩
  have hlen : (liveOf M owner).length = hs.size := by
    obtain ⟨ps, p1, p2⟩ := W.ps
    have nd : ((liveOf M owner).map (·.1)).Nodup := List.Pairwise.imp (R := (· < ·)) (fun {a b} h => Nat.ne_of_lt h) r1
    have a := nat_nodup_len ((liveOf M owner).map (·.1)) ps nd fun x hx => by
      obtain ⟨⟨y, k⟩, hq, rfl⟩ := List.mem_map.mp hx
      obtain ⟨b1, b2⟩ := (mem_live W.sz).1 hq
      exact p2 y b1 (by rw [b2]; simp)
    have b := nat_nodup_len (List.range hs.size) ((liveOf M owner).map (·.2)) List.nodup_range fun k hk => hall k (List.mem_range.mp hk)
    rw [List.length_map] at a b
    rw [List.length_range] at b
    omega
  refine ⟨_, _, hr, perm_range hs.size _ (by show ((liveOf M owner).map (·.2)).length = _; rw [List.length_map, hlen]) hall, ⟨r1, rfl, ?_, hM, fun x hx => Nat.le_of_lt_succ (List.mem_range.mp (r2 x hx)), fun q hq => ?_⟩, rfl, rfl, rfl⟩
  · show ((liveOf M owner).map (·.1)).length = (((liveOf M owner).map (·.2)).map fun i => hs.getD i 0).length
    rw [List.length_map, List.length_map, List.length_map]
  · have hq : q ∈ (((liveOf M owner).map (·.2)).map fun i => hs.getD i 0).zip ((liveOf M owner).map (·.1)) := hq
    rw [List.map_map, List.zip_map'] at hq
    obtain ⟨⟨y, k⟩, hu, rfl⟩ := List.mem_map.mp hq
    obtain ⟨b1, b2⟩ := (mem_live W.sz).1 hu
    obtain ⟨h0, K, a1, a2, a3⟩ := W.at_ y k b1 b2
    have e0 : hs.getD k 0 = h0 := by
      rw [Array.getD_eq_getD_getElem?, ← Array.getElem?_toList, a1]
      rfl
    refine ⟨K, ?_, fun k' hk' => ?_⟩
    · show way M (hs.getD k 0) K = y
      rw [e0, a2]
    · show way M (hs.getD k 0) k' ∈ (liveOf M owner).map (·.1)
      rw [e0]
      cases z : oAt owner (way M h0 k') with
      | none => exact absurd z (a3 k' hk')
      | some k2 => exact List.mem_map.mpr ⟨(way M h0 k', k2), (mem_live W.sz).2 ⟨way_bd _ _, z⟩, rfl⟩
end DL
end
section
set_option Elab.async false
set_option linter.all false
set_option maxRecDepth 100000
set_option maxHeartbeats 4000000
/-! Sets, 2: a set of nested tuples of ints. -/
namespace DL
open PySem PySem.Spec PyProof.Rows L2
section
variable {P : Program} {w : World}
/-! ### what the search asks of a key -/
mutual
theorem aclass_key : ∀ (k : NestedKey) (v : Value) (n : Nat) (s : Shared), NestedIs s.heap k v → k.depth ≤ n → ∀ (A : Around) (E : Value → Shared → Prop) (Q : Bool → Shared → Prop), Q false s → wpAny (model P w) A (ofAClassStatement n v) Q E s
  | .none, _, n, s, x, _, A, E, Q, q => by cases x; cases n <;> exact wpAny_pure q
  | .num i, _, n, s, x, _, A, E, Q, q => by cases x <;> cases n <;> exact wpAny_pure q
  | .text y, _, n, s, x, _, A, E, Q, q => by cases x; cases n <;> exact wpAny_pure q
  | .tup ks, _, 0, s, x, hn, _, _, _, _ => by simp only [NestedKey.depth] at hn; omega
  | .tup ks, _, n + 1, s, x, hn, A, E, Q, q => by
    cases x with
    | @tup a o vs m _ hg hc hd hk =>
      simp only [NestedKey.depth] at hn
      have hT : s.TypeIs (.ref a) "tuple" := ⟨o, hg, hc⟩
      unfold ofAClassStatement
      refine wpAny_bind (wpAny_typeOf hT ?_)
      dsimp only
      have e : (("tuple" : String) == "tuple") = true := by decide
      simp only [e, if_true, Bool.not_true, Bool.false_eq_true, if_false]
      try refine wpAny_bind (wpAny_pure ?_)
      try simp only [Bool.not_true, Bool.false_eq_true, if_false]
      show wpAny _ _ (seqItems? (.ref a) >>= _) _ _ s
      refine wpAny_bind (wpAny_seqItems hg hd ?_)
      dsimp only
      refine wpAny_bind ?_
      show wpAny _ _ (forIn vs _ _) _ _ s
      rw [← Array.forIn_toList]
      refine wpAny_forIn_list _ (fun rest r s' => r.1 = none ∧ s' = s ∧ ∀ v ∈ rest, v ∈ vs.toList) _ ?_ ?_ _ _ ⟨rfl, rfl, fun _ h => h⟩
      · rintro v rest r s' ⟨hr, rfl, hall⟩
        refine wpAny_bind (aclass_keys ks _ n s' hk (by omega) v (hall v List.mem_cons_self) _ _ _ ?_)
        simp only [Bool.false_eq_true, if_false]
        exact wpAny_pure ⟨rfl, rfl, fun u hu' => hall u (List.mem_cons_of_mem _ hu')⟩
      · rintro ⟨r1, r2⟩ s' ⟨hr, rfl, _⟩
        simp only at hr
        subst hr
        exact wpAny_pure q
theorem aclass_keys : ∀ (ks : List NestedKey) (vs : List Value) (n : Nat) (s : Shared), NestedAll s.heap ks vs → NestedKey.depthAll ks ≤ n → ∀ v ∈ vs, ∀ (A : Around) (E : Value → Shared → Prop) (Q : Bool → Shared → Prop), Q false s → wpAny (model P w) A (ofAClassStatement n v) Q E s
  | [], _, _, _, x, _, v, hv, _, _, _, _ => by cases x; cases hv
  | k :: ks, _, n, s, x, hn, v, hv, A, E, Q, q => by
    cases x with
    | cons x1 x2 =>
      simp only [NestedKey.depthAll] at hn
      rcases List.mem_cons.mp hv with e | hv
      · rw [e]; exact aclass_key k _ n s x1 (by omega) A E Q q
      · exact aclass_keys ks _ n s x2 (by omega) v hv A E Q q
end
mutual
/-- ints and tuples of such alone -/
def nkNum : NestedKey → Bool
  | .num _ => true
  | .tup ks => nkNums ks
  | _ => false
def nkNums : List NestedKey → Bool
  | [] => true
  | k :: ks => nkNum k && nkNums ks
end
mutual
theorem hashBy_key : ∀ (k : NestedKey) (v : Value) (n : Nat) (s : Shared), NestedIs s.heap k v → k.depth ≤ n → nkNum k = true → ∀ (A : Around) (E : Value → Shared → Prop) (Q : Bool → Shared → Prop), Q true s → wpAny (model P w) A (hashByValue n v) Q E s
  | .none, _, n, s, x, _, hm, A, E, Q, q => by cases hm
  | .text _, _, n, s, x, _, hm, A, E, Q, q => by cases hm
  | .num i, _, n, s, x, _, _, A, E, Q, q => by cases x <;> cases n <;> exact wpAny_pure q
  | .tup ks, _, 0, s, x, hn, _, _, _, _, _ => by simp only [NestedKey.depth] at hn; omega
  | .tup ks, _, n + 1, s, x, hn, hm, A, E, Q, q => by
    cases x with
    | @tup a o vs m _ hg hc hd hk =>
      simp only [NestedKey.depth] at hn
      have hT : s.TypeIs (.ref a) "tuple" := ⟨o, hg, hc⟩
      unfold hashByValue
      refine wpAny_bind (wpAny_specialOf hT F.slot_tuple_hash.lookup ?_)
      show wpAny _ _ (seqItems? (.ref a) >>= _) _ _ s
      refine wpAny_bind (wpAny_seqItems hg hd ?_)
      refine wpAny_bind ?_
      show wpAny _ _ (forIn vs _ _) _ _ s
      rw [← Array.forIn_toList]
      refine wpAny_forIn_list _ (fun rest r s' => r.1 = none ∧ s' = s ∧ ∀ v ∈ rest, v ∈ vs.toList) _ ?_ ?_ _ _ ⟨rfl, rfl, fun _ h => h⟩
      · rintro v rest r s' ⟨hr, rfl, hall⟩
        refine wpAny_bind (hashBy_keys ks _ n s' hk (by omega) (by unfold nkNum at hm; exact hm) v (hall v List.mem_cons_self) _ _ _ ?_)
        simp only [Bool.not_true, Bool.false_eq_true, if_false]
        exact wpAny_pure ⟨rfl, rfl, fun u hu' => hall u (List.mem_cons_of_mem _ hu')⟩
      · rintro ⟨r1, r2⟩ s' ⟨hr, rfl, _⟩
        simp only at hr
        subst hr
        exact wpAny_pure q
theorem hashBy_keys : ∀ (ks : List NestedKey) (vs : List Value) (n : Nat) (s : Shared), NestedAll s.heap ks vs → NestedKey.depthAll ks ≤ n → nkNums ks = true → ∀ v ∈ vs, ∀ (A : Around) (E : Value → Shared → Prop) (Q : Bool → Shared → Prop), Q true s → wpAny (model P w) A (hashByValue n v) Q E s
  | [], _, _, _, x, _, _, v, hv, _, _, _, _ => by cases x; cases hv
  | k :: ks, _, n, s, x, hn, hm, v, hv, A, E, Q, q => by
    cases x with
    | cons x1 x2 =>
      simp only [NestedKey.depthAll] at hn
      unfold nkNums at hm
      obtain ⟨m1, m2⟩ := Bool.and_eq_true_iff.mp hm
      rcases List.mem_cons.mp hv with e | hv
      · rw [e]; exact hashBy_key k _ n s x1 (by omega) m1 A E Q q
      · exact hashBy_keys ks _ n s x2 (by omega) m2 v hv A E Q q
end
/-- a tuple that is a key to be stored -/
structure Kt (h : Heap) (k : NestedKey) (a : Addr) : Prop where
  is : NestedIs h k (.ref a)
  dp : k.depth ≤ 8
  nm : nkNum k = true
theorem Kt.keep {h h' : Heap} {k : NestedKey} {a : Addr} (x : Kt h k a) (hk : ∀ b o vs n, h.get? b = some o → o.data = .seq vs n → h'.get? b = some o) : Kt h' k a := ⟨x.is.at hk, x.dp, x.nm⟩
variable {A : Around} {E : Value → Shared → Prop} {s : Shared}
theorem seen_keys {k : NestedKey} {b : Addr} {Q : Bool → Shared → Prop} (hk : Kt s.heap k b) {ys : List Value} (hy : ∀ y ∈ ys, ∃ k' c, y = Value.ref c ∧ Kt s.heap k' c) (h : Q false s) : wpAny (model P w) A (searchCouldBeSeen (.ref b) ys) Q E s := by
  unfold searchCouldBeSeen
  refine wpAny_bind ?_
  refine wpAny_forIn_list _ (fun rest r s' => r.1 = none ∧ s' = s ∧ ∀ y ∈ rest, ∃ k' c, y = Value.ref c ∧ Kt s.heap k' c) _ ?_ ?_ _ _ ⟨rfl, rfl, hy⟩
  · rintro v rest r s' ⟨hr, rfl, hall⟩
    obtain ⟨k', c, rfl, hc⟩ := hall v List.mem_cons_self
    have rest' : ∀ y ∈ rest, ∃ k' c, y = Value.ref c ∧ Kt s'.heap k' c := fun u hu' => hall u (List.mem_cons_of_mem _ hu')
    dsimp only
    by_cases hv : (b == c || (carriedByValue (.ref b) && carriedByValue (.ref c))) = true
    · exact wp_if_pos hv (wpAny_pure ⟨rfl, rfl, rest'⟩)
    · refine wp_if_neg hv ?_
      refine wpAny_bind (quiet_key k _ 8 s' hk.is hk.dp A _ _ ?_)
      simp only [Bool.not_true, Bool.false_eq_true, if_false]
      refine wpAny_bind (quiet_key k' _ 8 s' hc.is hc.dp A _ _ ?_)
      simp only [Bool.not_true, Bool.false_eq_true, if_false]
      refine wpAny_bind (aclass_key k _ 8 s' hk.is hk.dp A _ _ ?_)
      simp only [Bool.false_eq_true, if_false]
      refine wpAny_bind (aclass_key k' _ 8 s' hc.is hc.dp A _ _ ?_)
      simp only [Bool.false_eq_true, if_false]
      exact wpAny_pure ⟨rfl, rfl, rest'⟩
  · rintro ⟨r1, r2⟩ s' ⟨hr, rfl, _⟩
    simp only at hr
    subst hr
    exact wpAny_pure h

/-! ### the set -/
def nrows (w : World) (L : List (Addr × NestedKey)) : List (Int × Value) := L.map fun p => (p.2.hash w, Value.ref p.1)
/-- the object at a is a set of these keys at these addresses -/
structure NSet (w : World) (h : Heap) (a : Addr) (L : List (Addr × NestedKey)) (es : Array (Int × Value)) (ep : Nat) (t : SetTable) : Prop where
  ob : ∃ o, h.get? a = some o ∧ o.ExactSet ∧ o.data = .set es ep t
  rows : es.toList = nrows w L
  tab : TOk t (L.map fun p => p.2.hash w)
  nd : (L.map (·.2)).Nodup
  plain : t.plain = true
  led : w.params.followText "set-order" = true ∨ t.led = true
  room : L.length * 5 < t.mask * 3
variable {a : Addr} {L : List (Addr × NestedKey)} {es : Array (Int × Value)} {ep : Nat} {t : SetTable}
theorem NSet.size {h : Heap} (R : NSet w h a L es ep t) : es.size = L.length := by
  have h := congrArg List.length R.rows
  unfold nrows at h
  rw [Array.length_toList, List.length_map] at h
  exact h
theorem NSet.psz {h : Heap} (R : NSet w h a L es ep t) : t.place.size = L.length := by
  have h := R.tab.sz
  rw [Array.length_toList, List.length_map] at h
  exact h
theorem NSet.fits {h : Heap} (R : NSet w h a L es ep t) : t.fits es.size = true := by
  have h1 := R.psz
  have h2 := R.size
  have h3 := R.room
  unfold SetTable.fits SetTable.fill
  rw [R.tab.dm, Bool.and_eq_true, beq_iff_eq, decide_eq_true_eq]
  show t.place.size = es.size ∧ t.place.size + 0 ≤ t.mask
  omega
theorem NSet.entry {h : Heap} (R : NSet w h a L es ep t) {i : Nat} {p : Addr × NestedKey} (h : L[i]? = some p) : es[i]? = some (p.2.hash w, Value.ref p.1) := by
  rw [← Array.getElem?_toList, R.rows]
  unfold nrows
  rw [List.getElem?_map, h]
  rfl
theorem NSet.gw {h : Heap} (R : NSet w h a L es ep t) : ¬ t.gaveWay = true := by
  unfold SetTable.gaveWay
  rw [R.tab.msk.odd]
  decide
theorem nth_dm (m : Nat) : ∀ (n : Nat) (p : SetTable.Probe), p.dummy = none → (nth m p n).dummy = none
  | 0, _, h => h
  | n + 1, p, h => nth_dm m n (adv m p) (by unfold adv; split <;> exact h)
/-- the search, from the c-th step of the way on -/
theorem nsearch_from (R : NSet w s.heap a L es ep t) (hL : ∀ p ∈ L, Kt s.heap p.2 p.1) {x : Addr} {k : NestedKey} (hx : Kt s.heap k x) (hu : A.units + 8 < cLine) (adding : Bool) {K : Nat} (hKf : K < 10 * SetTable.turns t.mask)
    (hK : way t.mask (k.hash w) K ∉ t.place.toList) (hKb : ∀ c, c < K → way t.mask (k.hash w) c ∈ t.place.toList) {Q : SetFound → Shared → Prop}
    (hin : k ∈ L.map (·.2) → ∀ o : Option Nat, (adding = false → o.isSome = true) → Q (.there o) s) (hout : k ∉ L.map (·.2) → Q (.free (way t.mask (k.hash w) K) false) s) :
    ∀ (f c : Nat) (stand : Option SetTable.Probe), stand.getD (t.probeStart (k.hash w)) = nth t.mask (t.probeStart (k.hash w)) c → c ≤ K → K - c < f →
      (∀ (i : Nat) (p : Addr × NestedKey), L[i]? = some p → p.2 = k → ∃ c', c ≤ c' ∧ c' < K ∧ t.place.toList[i]? = some (way t.mask (k.hash w) c')) →
      wpAny (model P w) A (setSearchFrom a (.ref x) (k.hash w) adding f stand) Q E s
  | 0, c, stand, _, _, hf, _ => absurd hf (Nat.not_lt_zero _)
  | f + 1, c, stand, hst, hc, hf, hre => by
    obtain ⟨o, ho, hex, hd⟩ := R.ob
    have at_ : ∀ q, (nth t.mask (nth t.mask (t.probeStart (k.hash w)) c) q).j = way t.mask (k.hash w) (c + q) := fun q => congrArg SetTable.Probe.j (nth_add t.mask c _ q).symm
    have hKc : c + (K - c) = K := by omega
    have hash_at : ∀ (i : Nat) (p : Addr × NestedKey), L[i]? = some p → (es[i]?.map (·.1)).getD 0 = p.2.hash w := fun i p hp => by rw [R.entry hp]; rfl
    have spec := go_spec t R.tab.ris R.tab.dm (fun i => (es[i]?.map (·.1)).getD 0) (k.hash w) (10 * SetTable.turns t.mask) (K - c) (nth t.mask (t.probeStart (k.hash w)) c) (nth_dm _ _ _ rfl) (by omega)
      (fun q hq => by rw [at_]; exact hKb (c + q) (by omega)) (by rw [at_, hKc]; exact hK)
    rw [setSearchFrom_succ]
    refine wpAny_bind (wpAny_setState_of ho hd R.fits ?_)
    dsimp only
    refine wp_if_neg R.gw ?_
    try refine wpAny_bind (wpAny_pure ?_)
    rw [hst]
    rcases spec with ⟨q, i, hq, hi, hh, hno, hpr⟩ | ⟨hno, hpr⟩
    · have hpr' : t.probe (fun i => (es[i]?.map (·.1)).getD 0) (k.hash w) (nth t.mask (t.probeStart (k.hash w)) c) = some (.candidate (way t.mask (k.hash w) (c + q)) i (nth t.mask (t.probeStart (k.hash w)) (c + (q + 1)))) := by
        rw [← at_, nth_add]
        exact hpr
      rw [hpr']
      dsimp only
      rw [at_] at hi
      have hil : i < L.length := by
        have h1 := (List.getElem?_eq_some_iff.mp hi).1
        rw [Array.length_toList, R.psz] at h1
        exact h1
      obtain ⟨p, hp⟩ : ∃ p, L[i]? = some p := ⟨_, List.getElem?_eq_getElem hil⟩
      have hmem : p ∈ L := List.mem_of_getElem? hp
      have hpt := hL p hmem
      have hsl : t.slot (way t.mask (k.hash w) (c + q)) = .live i := slot_live R.tab.ris hi
      have rest : wpAny (model P w) A (searchRest a (.ref x) (k.hash w) adding f es t (way t.mask (k.hash w) (c + q)) i (nth t.mask (t.probeStart (k.hash w)) (c + (q + 1)))) Q E s := by
        unfold searchRest
        rw [R.entry hp]
        dsimp only
        refine wpAny_bind (wpAny_holding (eqAt_key p.2 k A s _ _ hpt.is hx.is (by have := hpt.dp; omega) _ _ _ _ ?_))
        rw [← NestedKey.decide_eq]
        refine wpAny_bind (wpAny_setState_of ho hd R.fits ?_)
        dsimp only
        by_cases hkk : p.2 = k
        · have hm : k ∈ L.map (·.2) := List.mem_map.mpr ⟨p, hmem, hkk⟩
          by_cases ha : adding = true
          · exact wp_if_pos (by simp [hkk, ha]) (wpAny_pure (hin hm none fun z => by rw [ha] at z; cases z))
          · refine wp_if_neg (by simp [ha]) ?_
            try refine wpAny_bind (wpAny_pure ?_)
            rw [sameMem]
            dsimp only
            simp only [if_true, hsl, R.entry hp]
            refine wpAny_bind (wpAny_isSame_ref_self (wpAny_bind (wpAny_pure ?_)))
            simp only [if_true]
            exact wp_if_pos (by simp [hkk]) (wpAny_pure (hin hm (some i) fun _ => rfl))
        · refine wp_if_neg (by simp [hkk]) ?_
          try refine wpAny_bind (wpAny_pure ?_)
          rw [sameMem]
          dsimp only
          simp only [if_true, hsl, R.entry hp]
          refine wpAny_bind (wpAny_isSame_ref_self (wpAny_bind (wpAny_pure ?_)))
          simp only [if_true]
          refine wp_if_neg (by simp [hkk]) ?_
          refine nsearch_from R hL hx hu adding hKf hK hKb hin hout f (c + (q + 1)) _ rfl (by omega) (by omega) fun i0 p0 h0 hk0 => ?_
          obtain ⟨c', a1, a2, a3⟩ := hre i0 p0 h0 hk0
          refine ⟨c', ?_, a2, a3⟩
          rcases Nat.lt_or_ge (c + q) c' with z | z
          · omega
          · exfalso
            rcases Nat.lt_or_eq_of_le z with z | z
            · refine hno (c' - c) i0 (by omega) (by rw [at_, show c + (c' - c) = c' by omega]; exact a3) ?_
              show (es[i0]?.map (·.1)).getD 0 = _
              rw [hash_at i0 p0 h0, hk0]
            · rw [z] at a3
              have s0 := slot_live R.tab.ris a3
              rw [hsl] at s0
              injection s0 with s0
              rw [← s0, hp] at h0
              cases h0
              exact hkk hk0
      by_cases hl : t.led = true
      · refine wp_if_neg (by simp [hl]) ?_
        try refine wpAny_bind (wpAny_pure ?_)
        exact rest
      · refine wp_if_pos (by simp [hl]) ?_
        refine wpAny_bind (seen_keys hx (fun y hy => ?_) ?_)
        · obtain ⟨e, he, rfl⟩ := List.mem_map.mp hy
          have he1 : e ∈ es ∧ e.1 = k.hash w := by simpa using he
          have he2 : e ∈ es.toList := by simpa using he1.1
          rw [R.rows] at he2
          obtain ⟨p2, hp2, rfl⟩ := List.mem_map.mp he2
          exact ⟨p2.2, p2.1, rfl, hL p2 hp2⟩
        · refine wp_if_neg (by decide) ?_
          try refine wpAny_bind (wpAny_pure ?_)
          exact rest
    · have hpr' : t.probe (fun i => (es[i]?.map (·.1)).getD 0) (k.hash w) (nth t.mask (t.probeStart (k.hash w)) c) = some (.empty (way t.mask (k.hash w) K) none) := by
        have e2 : way t.mask (k.hash w) K = (nth t.mask (nth t.mask (t.probeStart (k.hash w)) c) (K - c)).j := by rw [at_, hKc]
        rw [e2]
        exact hpr
      rw [hpr']
      dsimp only
      refine wpAny_pure (hout fun hm => ?_)
      obtain ⟨p0, h0, hk0⟩ := List.mem_map.mp hm
      obtain ⟨i0, hi0⟩ := List.mem_iff_getElem?.mp h0
      obtain ⟨c', a1, a2, a3⟩ := hre i0 p0 hi0 hk0
      refine hno (c' - c) i0 (by omega) (by rw [at_, show c + (c' - c) = c' by omega]; exact a3) ?_
      show (es[i0]?.map (·.1)).getD 0 = _
      rw [hash_at i0 p0 hi0, hk0]
theorem nsearch (R : NSet w s.heap a L es ep t) (hL : ∀ p ∈ L, Kt s.heap p.2 p.1) {x : Addr} {k : NestedKey} (hx : Kt s.heap k x) (hu : A.units + 8 < cLine) (adding : Bool) {Q : SetFound → Shared → Prop}
    (hin : k ∈ L.map (·.2) → ∀ o : Option Nat, (adding = false → o.isSome = true) → Q (.there o) s)
    (hout : ∀ K, k ∉ L.map (·.2) → way t.mask (k.hash w) K ∉ t.place.toList → (∀ c, c < K → way t.mask (k.hash w) c ∈ t.place.toList) → Q (.free (way t.mask (k.hash w) K) false) s) :
    wpAny (model P w) A (setSearch a (.ref x) (k.hash w) adding) Q E s := by
  have hroom := R.room
  obtain ⟨K, hKf, hK, hKb⟩ := R.tab.first (by rw [List.length_map]; omega) (k.hash w)
  have hbig : K < 100000 := by
    have := R.tab.msk.le
    unfold SetTable.turns at hKf
    omega
  unfold setSearch
  refine nsearch_from R hL hx hu adding hKf hK hKb hin (fun hn => hout K hn hK hKb) 100000 0 none rfl (Nat.zero_le _) (by omega) fun i p hp hk => ?_
  have hi : (L.map fun p => p.2.hash w)[i]? = some (k.hash w) := by rw [List.getElem?_map, hp, ← hk]; rfl
  have hil : i < t.place.toList.length := by rw [Array.length_toList, R.psz]; exact (List.getElem?_eq_some_iff.mp hp).1
  have hj := List.getElem?_eq_getElem hil
  obtain ⟨c, hc, e⟩ := R.tab.before hK (R.tab.zip_at hi hj)
  exact ⟨c, Nat.zero_le _, hc, by rw [hj, e]⟩
end
end DL
end
section
set_option Elab.async false
set_option linter.all false
set_option maxRecDepth 100000
set_option maxHeartbeats 4000000
/-! Sets, 3: adding to a set of nested tuples of ints, asking it. -/
namespace DL
open PySem PySem.Spec PyProof.Rows L2
section
variable {P : Program} {w : World} {A : Around} {E : Value → Shared → Prop} {s : Shared} {a : Addr} {L : List (Addr × NestedKey)} {es : Array (Int × Value)} {ep : Nat} {t : SetTable}
theorem pick_all {α : Type} : ∀ L : List α, (List.range L.length).filterMap (fun i => L[i]?) = L
  | [] => rfl
  | x :: L => by
    rw [List.length_cons, List.range_succ_eq_map, List.filterMap_cons_some (by rfl), List.filterMap_map]
    exact congrArg (x :: ·) (pick_all L)
theorem pick_rows {es : Array (Int × Value)} (hr : es.toList = nrows w L) (i : Nat) : es[i]? = (L[i]?).map fun p => (p.2.hash w, Value.ref p.1) := by
  rw [← Array.getElem?_toList, hr]
  unfold nrows
  rw [List.getElem?_map]
theorem norder (order : Array Nat) (hr : es.toList = nrows w L) (hp : order.toList.Perm (List.range L.length)) :
    ∃ L2 : List (Addr × NestedKey), (order.filterMap (es[·]?)).toList = nrows w L2 ∧ L2.Perm L ∧ (L2.map fun p => p.2.hash w) = order.toList.map fun i => (es.map (·.1)).getD i 0 := by
  refine ⟨order.toList.filterMap (L[·]?), ?_, ?_, ?_⟩
  · rw [Array.toList_filterMap]
    unfold nrows
    rw [List.map_filterMap]
    exact congrArg (fun f => List.filterMap f order.toList) (funext fun i => pick_rows hr i)
  · have h := hp.filterMap (fun i => L[i]?)
    rw [pick_all] at h
    exact h
  · have key : ∀ l : List Nat, (∀ i ∈ l, i < L.length) → ((l.filterMap (L[·]?)).map fun p => p.2.hash w) = l.map fun i => (es.map (·.1)).getD i 0 := by
      intro l
      induction l with
      | nil => intro _; rfl
      | cons i l ih =>
        intro hl
        obtain ⟨p, hi⟩ : ∃ p, L[i]? = some p := ⟨_, List.getElem?_eq_getElem (hl i List.mem_cons_self)⟩
        rw [List.filterMap_cons_some hi, List.map_cons, List.map_cons, ih fun j hj => hl j (List.mem_cons_of_mem _ hj)]
        have e : (es.map (·.1)).getD i 0 = p.2.hash w := by
          rw [Array.getD_eq_getD_getElem?, Array.getElem?_map, pick_rows hr, hi]
          rfl
        rw [e]
    exact key order.toList fun i hi => List.mem_range.mp (hp.mem_iff.mp hi)
/-- a stored tuple isn't the set: it stays when the set is written -/
theorem Kt.other {h h' : Heap} {k : NestedKey} {a b : Addr} {o : Obj} {es : Array (Int × Value)} {ep : Nat} {t : SetTable} (x : Kt h k b) (ho : h.get? a = some o) (hd : o.data = .set es ep t) (hs : Heap.SameBut a h h') : Kt h' k b :=
  x.keep fun c ob vs n hc hv => by
    refine (hs.2 c fun e => ?_).trans hc
    subst e
    rw [ho] at hc
    cases hc
    rw [hd] at hv
    cases hv
/-- the masks that a set comes to by growing -/
theorem grows {t : SetTable} {n : Nat} (M : t.mask = 7 ∨ t.mask = 31 ∨ t.mask = 127 ∨ t.mask = 511 ∨ t.mask = 2047) (h1 : n * 5 < t.mask * 3) (h2 : (n + 1) * 5 ≥ t.mask * 3) (h3 : n < 1000) :
    ∃ m, SetTable.sizeAbove (SetTable.grown (n + 1)) - 1 = m ∧ Msk m ∧ (m = 7 ∨ m = 31 ∨ m = 127 ∨ m = 511 ∨ m = 2047) ∧ SetTable.sizeAbove (SetTable.grown (n + 1)) ≤ 2048 ∧ (n + 1) * 5 < m * 3 := by
  rcases M with e | e | e | e | e <;> rw [e] at h1 h2
  · have : n = 4 := by omega
    subst this
    exact ⟨31, by decide +kernel, msk31, by omega, by decide +kernel, by decide⟩
  · have : n = 18 := by omega
    subst this
    exact ⟨127, by decide +kernel, msk127, by omega, by decide +kernel, by decide⟩
  · have : n = 76 := by omega
    subst this
    exact ⟨511, by decide +kernel, msk511, by omega, by decide +kernel, by decide⟩
  · have : n = 306 := by omega
    subst this
    exact ⟨2047, by decide +kernel, msk2047, by omega, by decide +kernel, by decide⟩
  · omega
def Five (m : Nat) : Prop := m = 7 ∨ m = 31 ∨ m = 127 ∨ m = 511 ∨ m = 2047
theorem nrelay {o : Obj} (ho : s.heap.get? a = some o) (hex : o.ExactSet) (hd : o.data = .set es ep t) (hrows : es.toList = nrows w L) (T : TOk t (L.map fun p => p.2.hash w)) (hfl : L.length ≤ t.mask) (nd : (L.map (·.2)).Nodup)
    (pl : t.plain = true) (ld : w.params.followText "set-order" = true ∨ t.led = true) {wanted m : Nat} (hw : SetTable.sizeAbove wanted - 1 = m) (hm : Msk m) (hm2 : Five m) (hw2 : SetTable.sizeAbove wanted ≤ 2048) (hn : L.length * 5 < m * 3) {Q : Unit → Shared → Prop}
    (hQ : ∀ h' L' es' ep' t', Heap.SameBut a s.heap h' → NSet w h' a L' es' ep' t' → Five t'.mask → L'.Perm L → Q () { s with heap := h' }) : wpAny (model P w) A (setRelay a wanted) Q E s := by
  have hsl : es.size = L.length := by
    have h := congrArg List.length hrows
    unfold nrows at h
    rw [Array.length_toList, List.length_map] at h
    exact h
  have hps : t.place.size = L.length := by
    have h := T.sz
    rw [Array.length_toList, List.length_map] at h
    exact h
  have hfits : t.fits es.size = true := by
    unfold SetTable.fits SetTable.fill
    rw [T.dm, Bool.and_eq_true, beq_iff_eq, decide_eq_true_eq]
    show t.place.size = es.size ∧ t.place.size + 0 ≤ t.mask
    omega
  obtain ⟨t', order, e, hp, T', em, el, ep'⟩ := relaid_spec t (hs := es.map (·.1)) (wanted := wanted) hw hm (by rw [Array.size_map, hsl]; omega)
  rw [Array.size_map, hsl] at hp
  obtain ⟨L2, r1, r2, r3⟩ := norder order hrows hp
  rw [← r3] at T'
  have hs2 : (order.filterMap (es[·]?)).size = es.size := by
    have h := congrArg List.length r1
    unfold nrows at h
    rw [Array.length_toList, List.length_map, r2.length_eq] at h
    rw [h, hsl]
  rw [setRelay_eq]
  refine wpAny_bind (wpAny_setState_of ho hd hfits ?_)
  dsimp only
  refine wp_if_neg (by rw [sizeLine_eq]; omega) ?_
  try refine wpAny_bind (wpAny_pure ?_)
  rw [e]
  dsimp only
  refine wpAny_bind ?_
  refine wp_if_neg (by rw [hs2]; simp) ?_
  try refine wpAny_bind (wpAny_pure ?_)
  refine wpAny_pure ?_
  dsimp only
  have hmle := hm.le
  refine wpAny_storeSet_of ho hd ?_ (by rw [hs2, hsl, sizeLine_eq]; omega)
  refine hQ _ L2 _ (ep + 1) t' (Heap.SameBut.update ..) ⟨⟨_, store_at ho hd, ⟨hex.1, hex.2.1, hex.2.2⟩, rfl⟩, r1, T', (r2.map (·.2)).nodup_iff.mpr nd, by rw [ep']; exact pl, by rw [el]; exact ld, ?_⟩ (by rw [em]; exact hm2) r2
  rw [r2.length_eq, em]
  exact hn
/-- adding -/
theorem nadd (R : NSet w s.heap a L es ep t) (hF : Five t.mask) (hL : ∀ p ∈ L, Kt s.heap p.2 p.1) {x : Addr} {k : NestedKey} (hx : Kt s.heap k x) (hu : A.units + 8 < cLine) (hfew : L.length < 1000) {Q : Bool → Shared → Prop}
    (hQ : ∀ b h' L' es' ep' t', Heap.SameBut a s.heap h' → NSet w h' a L' es' ep' t' → Five t'.mask → (k ∈ L.map (·.2) → L' = L) → (k ∉ L.map (·.2) → L'.Perm ((x, k) :: L)) → Q b { s with heap := h' }) :
    wpAny (model P w) A (setAddHashed a (.ref x) (k.hash w)) Q E s := by
  obtain ⟨o, ho, hex, hd⟩ := R.ob
  have hsl := R.size
  have hroom := R.room
  unfold setAddHashed
  refine wpAny_holding ?_
  rw [show (100000 : Nat) = 99999 + 1 from rfl, setAddHashedIn_succ]
  refine wpAny_bind (wpAny_setState_of ho hd R.fits ?_)
  dsimp only
  refine wp_if_neg (by simp [byScan, Value.scannable]) ?_
  try refine wpAny_bind (wpAny_pure ?_)
  refine wpAny_bind (nsearch R hL hx hu true (fun hm o _ => ?_) fun K hm hK hb => ?_)
  · dsimp only
    exact wpAny_pure (hQ false s.heap L es ep t (Heap.SameBut.refl a s.heap) R hF (fun _ => rfl) fun z => absurd hm z)
  · dsimp only
    refine wpAny_bind (wpAny_setState_of ho hd R.fits ?_)
    dsimp only
    obtain ⟨q2, q3, q9⟩ := R.tab.put hK hb rfl
    have q1 : (t.put (way t.mask (k.hash w) K)).2 = SetTable.below t.place (way t.mask (k.hash w) K) := rfl
    have q4 : (t.put (way t.mask (k.hash w) K)).1.mask = t.mask := rfl
    have q5 : (t.put (way t.mask (k.hash w) K)).1.led = t.led := rfl
    have hp1 : (t.put (way t.mask (k.hash w) K)).1.plain = true := R.plain
    generalize hpt : t.put (way t.mask (k.hash w) K) = pt at q1 q3 q4 q5 q9 hp1 ⊢
    obtain ⟨t1, p⟩ := pt
    dsimp only at q1 q3 q4 q5 q9 hp1 ⊢
    subst q1
    first
      | (refine wpAny_bind ?_; refine wp_if_pos hp1 ?_; refine hashBy_key k _ 8 _ hx.is hx.dp hx.nm _ _ _ ?_)
      | refine wp_if_pos hp1 (wpAny_bind (hashBy_key k _ 8 _ hx.is hx.dp hx.nm _ _ _ ?_))
    simp only [if_true]
    have hin : (SetTable.insertAt es (SetTable.below t.place (way t.mask (k.hash w) K)) (k.hash w, Value.ref x)).toList = nrows w (L.take (SetTable.below t.place (way t.mask (k.hash w) K)) ++ (x, k) :: L.drop (SetTable.below t.place (way t.mask (k.hash w) K))) := by
      rw [SetTable.toList_insertAt, R.rows]
      unfold nrows
      rw [List.map_append, List.map_cons, List.map_take, List.map_drop]
    generalize SetTable.below t.place (way t.mask (k.hash w) K) = p at q2 q3 hin ⊢
    have pm := put_perm L p (x, k)
    have hlen : (L.take p ++ (x, k) :: L.drop p).length = L.length + 1 := pm.length_eq
    have hhs : (L.take p ++ (x, k) :: L.drop p).map (fun p => p.2.hash w) = (L.map fun p => p.2.hash w).take p ++ k.hash w :: (L.map fun p => p.2.hash w).drop p := by
      rw [List.map_append, List.map_cons, List.map_take, List.map_drop]
    rw [← hhs] at q3
    rw [List.length_map] at q9
    have nd1 : ((L.take p ++ (x, k) :: L.drop p).map (·.2)).Nodup := by
      refine (pm.map (·.2)).nodup_iff.mpr ?_
      rw [List.map_cons]
      exact List.nodup_cons.mpr ⟨hm, R.nd⟩
    have hes : (SetTable.insertAt es p (k.hash w, Value.ref x)).size = L.length + 1 := by
      have h := congrArg List.length hin
      unfold nrows at h
      rw [Array.length_toList, List.length_map, hlen] at h
      exact h
    generalize SetTable.insertAt es p (k.hash w, Value.ref x) = es1 at hin hes ⊢
    generalize L.take p ++ (x, k) :: L.drop p = L1 at pm hlen q3 nd1 hin
    refine wpAny_bind (wpAny_storeSet_of ho hd ?_ (by rw [hes, sizeLine_eq]; omega))
    have sb : Heap.SameBut a s.heap (s.heap.update a (Obj.putSet es1 t1)) := Heap.SameBut.update ..
    have ho1 := store_at (es' := es1) (t' := t1) ho hd
    generalize s.heap.update a (Obj.putSet es1 t1) = h1 at sb ho1 ⊢
    have ld1 : w.params.followText "set-order" = true ∨ t1.led = true := by rw [q5]; exact R.led
    by_cases hf : t1.tooFull = true
    · first
        | (refine wpAny_bind ?_; refine wp_if_pos (by simp [hf]) ?_)
        | (refine wp_if_pos (by simp [hf]) ?_; refine wpAny_bind ?_)
      have hfull : (L.length + 1) * 5 ≥ t.mask * 3 := by
        have h := hf
        unfold SetTable.tooFull at h
        rw [decide_eq_true_eq, q9, q4] at h
        exact h
      rw [hsl]
      obtain ⟨m, g1, g2, g3, g4, g5⟩ := grows hF hroom hfull hfew
      refine nrelay (s := { s with heap := h1 }) ho1 ⟨hex.1, hex.2.1, hex.2.2⟩ rfl hin q3 (by rw [hlen, q4]; have := R.tab.msk.odd; rcases hF with e | e | e | e | e <;> rw [e] at hroom ⊢ <;> omega) nd1 hp1 ld1 g1 g2 g3 g4 (by rw [hlen]; exact g5) ?_
      intro h2 L2 es2 ep2 t2 sb2 R2 f2 pm2
      exact wpAny_pure (hQ true h2 L2 es2 ep2 t2 (sb.trans sb2) R2 f2 (fun z => absurd z hm) fun _ => pm2.trans pm)
    · first
        | refine wp_if_neg (by simp [hf]) ?_
        | (refine wpAny_bind ?_; refine wp_if_neg (by simp [hf]) ?_; refine wpAny_pure ?_)
      refine wpAny_pure (hQ true h1 L1 es1 (ep + 1) t1 sb ⟨⟨_, ho1, ⟨hex.1, hex.2.1, hex.2.2⟩, rfl⟩, hin, q3, nd1, hp1, ld1, ?_⟩ (by rw [q4]; exact hF) (fun z => absurd z hm) fun _ => pm)
      have h := hf
      unfold SetTable.tooFull at h
      rw [decide_eq_true_eq, q9] at h
      rw [hlen]
      omega
/-- asking -/
theorem nfind (R : NSet w s.heap a L es ep t) (hL : ∀ p ∈ L, Kt s.heap p.2 p.1) {x : Addr} {k : NestedKey} (hx : Kt s.heap k x) (hu : A.units + 8 < cLine) {Q : Option Nat → Shared → Prop}
    (hQ : ∀ o : Option Nat, o.isSome = decide (k ∈ L.map (·.2)) → Q o s) : wpAny (model P w) A (setFind a (.ref x) (k.hash w)) Q E s := by
  obtain ⟨o, ho, hex, hd⟩ := R.ob
  unfold setFind
  rw [show (100000 : Nat) = 99999 + 1 from rfl]
  unfold setFindIn
  refine wpAny_bind (wpAny_setState_of ho hd R.fits ?_)
  dsimp only
  refine wp_if_neg (by simp [byScan, Value.scannable]) ?_
  try refine wpAny_bind (wpAny_pure ?_)
  refine wpAny_bind (nsearch R hL hx hu false (fun hm o hs => ?_) fun K hm hK hb => ?_)
  · exact wpAny_pure (hQ o (by rw [hs rfl, decide_eq_true hm]))
  · exact wpAny_pure (hQ none (by rw [decide_eq_false hm]; rfl))
theorem ncontains (R : NSet w s.heap a L es ep t) (hL : ∀ p ∈ L, Kt s.heap p.2 p.1) {x : Addr} {k : NestedKey} (hx : Kt s.heap k x) (hu : A.units + 8 < cLine) {Q : Bool → Shared → Prop}
    (hQ : Q (decide (k ∈ L.map (·.2))) { s with toks := s.toks + k.draws }) : wpAny (model P w) A (setContains a (.ref x)) Q E s := by
  unfold setContains
  refine wpAny_holding (wpAny_bind (pyHash_key k _ A s _ hx.is (by have := hx.dp; omega) ?_))
  refine wpAny_bind (nfind (s := { s with toks := s.toks + k.draws }) R hL hx hu fun o ho => wpAny_pure ?_)
  rw [ho]
  exact hQ
end
end DL
end
section
set_option Elab.async false
set_option linter.all false
set_option maxRecDepth 100000
set_option maxHeartbeats 4000000
/-! Sets, 4: the set as an object of one's own; set(), add, not in. -/
namespace DL
open PySem PySem.Spec PyProof.Rows L2 NdefX
section
variable {P : Program} {w : World} {A : Around} {E : Value → Shared → Prop} {s : Shared} {a : Addr} {L : List (Addr × NestedKey)} {es : Array (Int × Value)} {ep : Nat} {t : SetTable}
theorem NSet.typeIs (R : NSet w s.heap a L es ep t) : s.TypeIs (.ref a) "set" := let ⟨o, ho, hex, _⟩ := R.ob; ⟨o, ho, hex.1⟩
theorem NSet.noDict (R : NSet w s.heap a L es ep t) : ∀ b, Value.ref a = .ref b → ∃ ob, s.heap.get? b = some ob ∧ ob.dict = none := fun b e => by
  cases e
  obtain ⟨o, ho, hex, _⟩ := R.ob
  exact ⟨o, ho, hex.2.1⟩
/-- x not in the set -/
theorem nnotin (R : NSet w s.heap a L es ep t) (hL : ∀ p ∈ L, Kt s.heap p.2 p.1) {x : Addr} {k : NestedKey} (hx : Kt s.heap k x) (hu : A.units + 20 < cLine) {Q : Value → Shared → Prop}
    (hQ : Q (.bool (!decide (k ∈ L.map (·.2)))) { s with toks := s.toks + k.draws }) : wpAny (model P w) A (compareOp .NotIn (.ref x) (.ref a)) Q E s := by
  show wpAny _ _ (do return .bool (!(← contains (.ref a) (.ref x)))) Q E s
  refine wpAny_bind ?_
  unfold contains
  try with_reducible refine wpAny_holding ?_
  refine wpAny_bind (wpAny_specialOf R.typeIs F.slot_set_contains.lookup ?_)
  show wpAny _ _ (if (some (Value.builtin "set.__contains__") == some Value.none) = true then _ else _) _ E s
  rw [if_neg (by rw [beq_builtin_none]; exact Bool.false_ne_true)]
  refine wpAny_bind (wpAny_callSpecialUnlessNone?_slot (name := Str.ofString "__contains__") R.typeIs F.slot_set_contains
    (wpAny_call_entry F.slot_set_contains R.typeIs entry_set_contains ?_ (F.args_set_contains_2 _ _)))
  unfold Builtin.«frozenset.__contains__» Builtin.Frozenset.oneOther
  simp only [List.isEmpty_nil, bind_assoc]
  unfold Builtin.Frozenset.addrOf Builtin.Frozenset.withSetAsKey setContains
  refine wpAny_bind (wpAny_pure ?_)
  try dsimp only
  refine wpAny_bind (wpAny_pure ?_)
  try dsimp only
  refine wpAny_bind (wpAny_tryCatch ?_)
  refine wpAny_holding ?_
  refine wpAny_bind (pyHash_key k _ _ s _ hx.is (by have := hx.dp; simp only [Around.in1_units]; omega) ?_)
  refine wpAny_bind (nfind (s := { s with toks := s.toks + k.draws }) R hL hx (by simp only [Around.in1_units]; omega) fun r hr => ?_)
  refine wpAny_pure ?_
  show wpAny _ _ (ret (Value.bool r.isSome)) _ _ _
  rw [hr]
  exact wpAny_pure ⟨_, rfl, wpAny_truthy_bool (wpAny_pure hQ)⟩
/-- set.add -/
theorem ncall_add (R : NSet w s.heap a L es ep t) (hF : Five t.mask) (hL : ∀ p ∈ L, Kt s.heap p.2 p.1) {x : Addr} {k : NestedKey} (hx : Kt s.heap k x) (hu : A.units + 20 < cLine) (hfew : L.length < 1000) {Q : Value → Shared → Prop}
    (hQ : ∀ h' L' es' ep' t', Heap.SameBut a s.heap h' → NSet w h' a L' es' ep' t' → Five t'.mask → (k ∈ L.map (·.2) → L' = L) → (k ∉ L.map (·.2) → L'.Perm ((x, k) :: L)) → Q .none { s with heap := h', toks := s.toks + k.draws }) :
    wpAny (model P w) A (call (.builtin "set.add") [.ref a, .ref x]) Q E s := by
  refine wpAny_call_entry F.slot_set_add R.typeIs F.entry_set_add ?_ (F.args_set_add_2 _ _)
  unfold Builtin.«set.add» Builtin.Frozenset.oneOther
  simp only [List.isEmpty_nil, bind_assoc]
  unfold Builtin.Frozenset.addrOf setAdd
  refine wpAny_bind (wpAny_pure ?_)
  try dsimp only
  refine wpAny_bind (wpAny_pure ?_)
  try dsimp only
  refine wpAny_bind ?_
  refine wpAny_holding ?_
  refine wpAny_bind (pyHash_key k _ _ s _ hx.is (by have := hx.dp; simp only [Around.in1_units]; omega) ?_)
  refine nadd (s := { s with toks := s.toks + k.draws }) R hF hL hx (by simp only [Around.in1_units]; omega) hfew fun b h' L' es' ep' t' sb R' F' c1 c2 => ?_
  exact wpAny_pure ⟨_, rfl, hQ h' L' es' ep' t' sb R' F' c1 c2⟩
theorem nfresh {h : Heap} (ho : h.get? a = some { cls := .type "set", dict := none, data := .set #[] 0 (.fresh 0 0 (!w.params.followText "set-order")) }) : NSet w h a [] #[] 0 (.fresh 0 0 (!w.params.followText "set-order")) where
  ob := ⟨_, ho, ⟨rfl, rfl, rfl⟩, rfl⟩
  rows := rfl
  tab := ⟨List.Pairwise.nil, rfl, rfl, msk7, fun x hx => (by cases hx), fun q hq => (by cases hq)⟩
  nd := List.nodup_nil
  plain := rfl
  led := by
    show _ ∨ (!w.params.followText "set-order") = true
    cases w.params.followText "set-order"
    · exact .inr rfl
    · exact .inl rfl
  room := by show 0 * 5 < 7 * 3; decide
end
/-! ### the object -/
def NSetO (w : World) (a : Addr) (L : List (Addr × NestedKey)) : HO := .ext fun h => ∃ es ep t, NSet w h a L es ep t ∧ Five t.mask
theorem NSet.at {w : World} {h h' : Heap} {a : Addr} {L : List (Addr × NestedKey)} {es : Array (Int × Value)} {ep : Nat} {t : SetTable} (R : NSet w h a L es ep t) (k : ∀ o, h.get? a = some o → h'.get? a = some o) : NSet w h' a L es ep t := by
  obtain ⟨o, ho, r⟩ := R.ob
  exact ⟨⟨o, k o ho, r⟩, R.rows, R.tab, R.nd, R.plain, R.led, R.room⟩
theorem nsetO_new {w : World} {P : Program} {H : Hp} {h : Heap} {a : Addr} {L : List (Addr × NestedKey)} {es : Array (Int × Value)} {ep : Nat} {t : SetTable} (R : NSet w h a L es ep t) (F : Five t.mask) : ObjOk P w H h a (NSetO w a L) := by
  obtain ⟨o, ho, _⟩ := R.ob
  exact ⟨⟨es, ep, t, R, F⟩, ⟨o, ho⟩, fun h1 h2 ⟨es, ep, t, p, f⟩ k => ⟨es, ep, t, p.at k, f⟩⟩
theorem nsetO_nt {w : World} {a : Addr} {L : List (Addr × NestedKey)} (ps : Array Value) : NSetO w a L ≠ .tbl ps := fun z => by unfold NSetO at z; cases z
theorem nsetO_nc {w : World} {a : Addr} {L : List (Addr × NestedKey)} (c : Addr) (q : PySem.Str) : NSetO w a L ≠ LamX.CodeO c q := ext_nc (a := a) (fun h ⟨es, ep, t, R, _⟩ => by
  obtain ⟨o, ho, _, hd⟩ := R.ob
  exact ⟨o, ho, fun vs z => by rw [hd] at z; cases z⟩) c q
/-! ### data as keys -/
mutual
def D.nk : D → NestedKey
  | .int i => .num i
  | .tup xs => .tup (nkAll xs)
  | _ => .none
def nkAll : List D → List NestedKey
  | [] => []
  | d :: ds => d.nk :: nkAll ds
end
mutual
/-- ints and tuples of such, at most n deep -/
def D.ky : Nat → D → Bool
  | _, .int _ => true
  | n + 1, .tup xs => kyAll n xs
  | _, _ => false
def kyAll : Nat → List D → Bool
  | _, [] => true
  | n, d :: ds => d.ky n && kyAll n ds
end
mutual
theorem ky_nk : ∀ (n : Nat) (d : D), d.ky n = true → d.nk.depth ≤ n ∧ nkNum d.nk = true
  | _, .int i, _ => ⟨Nat.zero_le _, rfl⟩
  | n + 1, .tup xs, h => by
    unfold D.ky at h
    obtain ⟨h1, h2⟩ := ky_nkAll n xs h
    unfold D.nk nkNum
    exact ⟨by simp only [NestedKey.depth]; omega, h2⟩
  | 0, .tup _, h => by unfold D.ky at h; cases h
  | n, .non, h => by unfold D.ky at h; cases h
  | n, .bl _, h => by unfold D.ky at h; cases h
  | n, .str _, h => by unfold D.ky at h; cases h
  | n, .lst _, h => by unfold D.ky at h; cases h
  | n, .ptup _, h => by unfold D.ky at h; cases h
  | n, .ins _ _ _, h => by unfold D.ky at h; cases h
  | n, .dic _ _, h => by unfold D.ky at h; cases h
  | n, .iset _, h => by unfold D.ky at h; cases h
  | n, .scr _, h => by unfold D.ky at h; cases h
  | n, .fn _ _, h => by unfold D.ky at h; cases h
  | n, .adr _, h => by unfold D.ky at h; cases h
theorem ky_nkAll : ∀ (n : Nat) (ds : List D), kyAll n ds = true → NestedKey.depthAll (nkAll ds) ≤ n ∧ nkNums (nkAll ds) = true
  | _, [], _ => ⟨Nat.zero_le _, rfl⟩
  | n, d :: ds, h => by
    unfold kyAll at h
    obtain ⟨h1, h2⟩ := Bool.and_eq_true_iff.mp h
    obtain ⟨a1, a2⟩ := ky_nk n d h1
    obtain ⟨b1, b2⟩ := ky_nkAll n ds h2
    unfold nkAll nkNums
    exact ⟨by simp only [NestedKey.depthAll]; omega, by rw [a2, b2]; rfl⟩
end
section
variable {X : Cx} {pins : List (Addr × Obj)} {σ : L2.St} {H G : Hp} {s : Shared} {T : List NTab}
mutual
theorem rep_nk (I : Inv X pins σ H s) (bs : Base T G H) : ∀ (n : Nat) (d : D) (v : V) (u : Value), Rep X.K G v d → d.ky n = true → L2.RelV v u → NestedIs s.heap d.nk u
  | _, .int i, _, _, .int _, _, r => by
    obtain ⟨t, rfl⟩ := r
    exact .int i t
  | n + 1, .tup xs, .ref a, u, .tup e rs, h, r => by
    unfold D.ky at h
    obtain rfl : u = Value.ref a := r
    obtain ⟨its, rv, ⟨o, ho, hc, m, hd⟩, _⟩ := I.tuple (SqT.of (bs.sub _ _ e))
    unfold D.nk
    exact .tup ho hc hd (by simpa using rep_nkAll I bs n xs _ _ rs h rv)
  | 0, .tup _, _, _, _, h, _ => by unfold D.ky at h; cases h
  | n, .non, _, _, _, h, _ => by unfold D.ky at h; cases h
  | n, .bl _, _, _, _, h, _ => by unfold D.ky at h; cases h
  | n, .str _, _, _, _, h, _ => by unfold D.ky at h; cases h
  | n, .lst _, _, _, _, h, _ => by unfold D.ky at h; cases h
  | n, .ptup _, _, _, _, h, _ => by unfold D.ky at h; cases h
  | n, .ins _ _ _, _, _, _, h, _ => by unfold D.ky at h; cases h
  | n, .dic _ _, _, _, _, h, _ => by unfold D.ky at h; cases h
  | n, .iset _, _, _, _, h, _ => by unfold D.ky at h; cases h
  | n, .scr _, _, _, _, h, _ => by unfold D.ky at h; cases h
  | n, .fn _ _, _, _, _, h, _ => by unfold D.ky at h; cases h
  | n, .adr _, _, _, _, h, _ => by unfold D.ky at h; cases h
theorem rep_nkAll (I : Inv X pins σ H s) (bs : Base T G H) : ∀ (n : Nat) (ds : List D) (vs : List V) (us : List Value), RepAll X.K G vs ds → kyAll n ds = true → Vals vs us → NestedAll s.heap (nkAll ds) us
  | _, [], _, _, .nil, _, r => by cases r; exact .nil
  | n, d :: ds, _, _, .cons h1 h2, h, r => by
    unfold kyAll at h
    obtain ⟨k1, k2⟩ := Bool.and_eq_true_iff.mp h
    cases r with
    | cons r1 r2 =>
      unfold nkAll
      exact .cons (rep_nk I bs n d _ _ h1 k1 r1) (rep_nkAll I bs n ds _ _ h2 k2 r2)
end
theorem rep_kt (I : Inv X pins σ H s) (bs : Base T G H) {d : D} {a : Addr} (r : Rep X.K G (.ref a) d) (h : d.ky 8 = true) : Kt s.heap d.nk a := ⟨rep_nk I bs 8 d _ _ r h rfl, (ky_nk 8 d h).1, (ky_nk 8 d h).2⟩
end
/-- a set of one's own: its members are those of ms -/
def nsK (K : PySem.W.Frag) (w : World) (ms : List D) : OwK where
  φ := fun G a u => ∃ L, u = NSetO w a L ∧ (∀ p ∈ L, ∃ d, d ∈ ms ∧ p.2 = d.nk ∧ d.ky 8 = true ∧ Rep K G (.ref p.1) d) ∧ (∀ d ∈ ms, d.nk ∈ L.map (·.2)) ∧ L.length ≤ ms.length
  mono := fun G G' a u e ⟨L, h, r, q⟩ => ⟨L, h, fun p hp => let ⟨d, h1, h2, h3, h4⟩ := r p hp; ⟨d, h1, h2, h3, h4.up e⟩, q⟩
  nt := fun G a u ⟨L, h, _⟩ ps z => by rw [h] at z; exact nsetO_nt ps z
  nc := fun G a u ⟨L, h, _⟩ c q z => by rw [h] at z; exact nsetO_nc c q z
section
variable {X : Cx} {B : Bs} {E : XK} {ρ : List Sl} {e : Expr} {pos : Pos} {d : D} {ms : List D}
/-- set() -/
theorem cr_nset0 : CallR X (.type "set") (fun xs H Q => xs = [] ∧ ∀ p, H p = none → Q (.ref p) (upd H p (NSetO X.w p []))) := by
  intro pins s σ H xs us Q I r h
  obtain ⟨rfl, q⟩ := h
  cases r
  refine setR_new fun new => ?_
  exact ⟨.ref _, upd H s.heap.objs.size (NSetO X.w s.heap.objs.size []), I.laid (t' := s.toks) (fun b u e => Heap.get?_push_of_some _ e) (Nat.le_refl _) (nsetO_new (nfresh (Heap.get?_push_size _ rfl)) (.inl rfl)), rfl, q _ (I.hok.fresh (Nat.le_refl _))⟩
end
end DL
end
section
set_option Elab.async false
set_option linter.all false
set_option maxRecDepth 100000
set_option maxHeartbeats 4000000
/-! Sets, 5: statements of a set of one's own. -/
namespace DL
open PySem PySem.Spec PyProof.Rows L2 NdefX
section
variable {X : Cx} {B : Bs} {E : XK} {ρ : List Sl} {e : Expr} {pos : Pos} {d : D} {ms : List D}
/-- x = set() -/
theorem js_nset0 (i : Nat) {x : PySem.Str} {p p1 p2 : Pos} (hg : Gl X "set") (hm : X.mg "set" = none) (hN : X.N.Nodup) (hi : X.N[i]? = some x := by rfl) (hx : Loc X.env.scope x := by first | exact Or.inl rfl | exact Or.inr rfl)
    (hs : swapsWith (.Call (.Name "set" p1) [] [] p2) (some (.Name x p)) pos.line X.env = pure false := by rfl) (hf : X.fn x = true ∨ X.env.scope.names.lookup x = some .local := by first | exact .inl rfl | exact .inr rfl) :
    PS X (.Assign [.Name x p] (.Call (.Name "set" p1) [] [] p2) pos) (tS X.K B E ρ (.nx (ρ.set i (.ow (nsK X.K X.w []))))) :=
  ps_mono (ps_set hN hi hx (pe_callTy0 cr_nset0 hg hm boot_set) hs hf) fun D σ H ⟨G, en, q⟩ => ⟨rfl, fun l hl => q _ G _ (Same.refl _) (en.setO hl ⟨[], rfl, fun p hp => (by cases hp), fun d hd => (by cases hd), Nat.le_refl _⟩)⟩
/-- x.add(e), a tuple -/
theorem pe_nadd (i : Nat) {x : PySem.Str} {p p1 p2 : Pos} (hu : X.A.units + 64 < cLine) (hx0 : ρ[i]? = some (.ow (nsK X.K X.w ms))) (hl : ms.length < 1000) (hd : d.ky 8 = true) (ht : ∃ xs, d = .tup xs) (h : PE X e (tD X.K B ρ d)) (hN : X.N[i]? = some x)
    (hv : Vis X.env.scope x) (hdb : (x == ("__debug__" : PySem.Str)) = false) (hcd : (x == ("__classdict__" : PySem.Str)) = false)
    (hst : starEach [e] X.env = (false, eval e X.env) :: starEach [] X.env)
    (hbase : attributeBase (.Name x p) "add" X.env (eval (.Name x p) X.env) = eval (.Name x p) X.env)
    (hfew : ((backTo p2 (starEach [e] X.env)).all (fun x => !x.1) && (backToKw p2 (keywordEach [] X.env)).all (fun x => x.1.isSome)
      && decide ([e].length + ([] : List Keyword).length + (if ([] : List Keyword).isEmpty then 0 else 1) < 30)) = true) (hline : (p1.endLine == p2.line) = true) :
    PE X (.Call (.Attribute (.Name x p) "add" p1) [e] [] p2) (fun σ H Q => ∃ G, B.En X.K G ρ σ H ∧ ∀ G' H', Same G G' → B.En X.K G' (ρ.set i (.ow (nsK X.K X.w (ms ++ [d])))) σ H' → Q .non H') := by
  refine ⟨fun pins s σ H Q I ⟨G, en, q⟩ => ?_⟩
  obtain ⟨a, u, h1, h2, ⟨L, rfl, r1, r2, r3⟩, _⟩ := en.ow hx0
  refine wpAny_Call_method_late hbase hfew hline rfl (thn ((pe_var hN hv hdb hcd).run pins s σ H (fun v H' => v = .ref a ∧ H' = H) I ⟨.ref a, h1, rfl, rfl⟩) fun v s1 ⟨y, H1, I1, ry, ey, eH⟩ => ?_)
  subst ey eH
  obtain rfl : v = Value.ref a := ry
  obtain ⟨⟨es, ep, t, R, F⟩, _⟩ := (show ObjOk X.prog X.w H1 s1.heap a (NSetO X.w a L) from I1.hok a _ h2)
  refine ⟨"set", "set.add", PySem.F.plainAttrs_set, PySem.F.slot_set_add, PySem.F.type_set_add, R.typeIs, R.noDict, ?_⟩
  have hA := (ja_one h hst).run p2 pins s1 σ H1 (fun us H2 => ∃ G2 b, us = [.ref b] ∧ Grow B.T G H1 G2 H2 ∧ Rep X.K G2 (.ref b) d) I1 ⟨G, en, fun vs G2 H2 g2 rs => by
    cases rs with
    | cons ry tl =>
      cases tl
      obtain ⟨xs, rfl⟩ := ht
      obtain ⟨b, ws, rfl, _⟩ := (show Rp X.K G2 H2 _ (.tup xs) from .inl ry).tup g2.base
      exact ⟨G2, b, rfl, g2, ry⟩⟩
  rw [hst] at hA ⊢
  refine Calls.callWith_builtin rfl (Calls.evalArgs_plain ?_)
  refine thn hA fun us s2 ⟨vs, H2, I2, rv, G2, b, ev, g2, rb⟩ => ?_
  subst ev
  obtain ⟨u1, rfl, e1⟩ := vals1 rv
  obtain rfl : u1 = Value.ref b := e1
  have hH2 : H2 a = some (NSetO X.w a L) := g2.keep a _ h2 (fun ps => nsetO_nt ps)
  obtain ⟨⟨es, ep, t, R, F⟩, _⟩ := (show ObjOk X.prog X.w H2 s2.heap a (NSetO X.w a L) from I2.hok a _ hH2)
  have hL : ∀ p ∈ L, Kt s2.heap p.2 p.1 := fun p hp => by
    obtain ⟨d', _, e2, k2, rr⟩ := r1 p hp
    rw [e2]
    exact rep_kt I2 g2.base (rr.up g2.le) k2
  refine ncall_add R F hL (rep_kt I2 g2.base rb hd) (by omega) (by omega) fun h' L' es' ep' t' sb R' F' c1 c2 => ?_
  have he : ∃ o, h'.get? a = some o := let ⟨o, ho, _⟩ := R'.ob; ⟨o, ho⟩
  refine ⟨.non, upd H2 a (NSetO X.w a L'), I2.write (e := a) (t' := s2.toks + d.nk.draws) (by rw [hH2]; trivial) (.inl rfl) (fun b o hb hv => (sb.2 b hb).trans hv) he (nsetO_new R' F'), rfl, ?_⟩
  have hm := Classical.em (d.nk ∈ L.map (·.2))
  refine q G2 _ g2.le ((en.up g2).mut hx0 h1 ⟨L', rfl, fun p hp => ?_, fun d' hd' => ?_, ?_⟩)
  · rcases hm with hm | hm
    · rw [c1 hm] at hp
      obtain ⟨d', m1, e2, k2, rr⟩ := r1 p hp
      exact ⟨d', List.mem_append_left _ m1, e2, k2, rr.up g2.le⟩
    · rcases List.mem_cons.mp ((c2 hm).mem_iff.mp hp) with rfl | hp
      · exact ⟨d, List.mem_append_right _ (by simp), rfl, hd, rb⟩
      · obtain ⟨d', m1, e2, k2, rr⟩ := r1 p hp
        exact ⟨d', List.mem_append_left _ m1, e2, k2, rr.up g2.le⟩
  · rcases hm with hm | hm
    · rw [c1 hm]
      rcases List.mem_append.mp hd' with hd' | hd'
      · exact r2 d' hd'
      · rw [List.mem_singleton.mp hd']; exact hm
    · rw [((c2 hm).map (·.2)).mem_iff, List.map_cons]
      rcases List.mem_append.mp hd' with hd' | hd'
      · exact List.mem_cons_of_mem _ (r2 d' hd')
      · rw [List.mem_singleton.mp hd']; exact List.mem_cons_self
  · rw [List.length_append]
    show _ ≤ ms.length + 1
    rcases hm with hm | hm
    · rw [c1 hm]; omega
    · rw [(c2 hm).length_eq, List.length_cons]; omega
theorem js_nadd (i : Nat) {x : PySem.Str} {p p1 p2 : Pos} (hu : X.A.units + 64 < cLine) (hx0 : ρ[i]? = some (.ow (nsK X.K X.w ms))) (hl : ms.length < 1000) (hd : d.ky 8 = true) (ht : ∃ xs, d = .tup xs) (h : PE X e (tD X.K B ρ d)) (hN : X.N[i]? = some x := by rfl)
    (hv : Vis X.env.scope x := by first | exact Or.inl rfl | exact Or.inr (Or.inl rfl) | exact Or.inr (Or.inr rfl)) (hdb : (x == ("__debug__" : PySem.Str)) = false := by decide) (hcd : (x == ("__classdict__" : PySem.Str)) = false := by decide)
    (hst : starEach [e] X.env = (false, eval e X.env) :: starEach [] X.env := by rfl)
    (hbase : attributeBase (.Name x p) "add" X.env (eval (.Name x p) X.env) = eval (.Name x p) X.env := by rfl)
    (hfew : ((backTo p2 (starEach [e] X.env)).all (fun x => !x.1) && (backToKw p2 (keywordEach [] X.env)).all (fun x => x.1.isSome)
      && decide ([e].length + ([] : List Keyword).length + (if ([] : List Keyword).isEmpty then 0 else 1) < 30)) = true := by rfl) (hline : (p1.endLine == p2.line) = true := by rfl)
    (hs : swapsWith (.Call (.Attribute (.Name x p) "add" p1) [e] [] p2) none pos.line X.env = pure false := by rfl) :
    PS X (.Expr (.Call (.Attribute (.Name x p) "add" p1) [e] [] p2) pos) (tS X.K B E ρ (.nx (ρ.set i (.ow (nsK X.K X.w (ms ++ [d])))))) :=
  ps_mono (ps_expr (pe_nadd i hu hx0 hl hd ht h hN hv hdb hcd hst hbase hfew hline) hs) fun D σ H ⟨G, en, q⟩ => ⟨G, en, fun G' H' s en' => q σ G' H' s en'⟩
/-- e not in x -/
theorem op_nnotin (hu : X.A.units + 64 < cLine) : OpR X (compareOp .NotIn) (fun x y H Q => ∃ (T : List NTab) (G : Hp) (d : D) (b a : Addr) (L : List (Addr × NestedKey)), Base T G H ∧ x = .ref b ∧ Rep X.K G (.ref b) d ∧ d.ky 8 = true ∧ y = .ref a ∧ H a = some (NSetO X.w a L) ∧
    (∀ p ∈ L, ∃ d', p.2 = d'.nk ∧ d'.ky 8 = true ∧ Rep X.K G (.ref p.1) d') ∧ Q (.bl (!decide (d.nk ∈ L.map (·.2)))) H) := by
  intro pins s σ H x y v u Q I rx ry h
  obtain ⟨T, G, d, b, a, L, bs, rfl, rb, hd, rfl, ha, hL, q⟩ := h
  obtain rfl : v = Value.ref b := rx
  obtain rfl : u = Value.ref a := ry
  obtain ⟨⟨es, ep, t, R, F⟩, _⟩ := (show ObjOk X.prog X.w H s.heap a (NSetO X.w a L) from I.hok a _ ha)
  exact nnotin R (fun p hp => by
    obtain ⟨d', e2, k2, rr⟩ := hL p hp
    rw [e2]
    exact rep_kt I bs rr k2) (rep_kt I bs rb hd) (by omega) ⟨.bl _, H, I.tok _, rfl, q⟩
theorem jt_nnotin (i : Nat) {x : PySem.Str} {p : Pos} (hu : X.A.units + 64 < cLine) (hx0 : ρ[i]? = some (.ow (nsK X.K X.w ms))) (hd : d.ky 8 = true) (ht : ∃ xs, d = .tup xs) (h : PE X e (tD X.K B ρ d)) (hN : X.N[i]? = some x := by rfl)
    (hv : Vis X.env.scope x := by first | exact Or.inl rfl | exact Or.inr (Or.inl rfl) | exact Or.inr (Or.inr rfl)) (hdb : (x == ("__debug__" : PySem.Str)) = false := by decide) (hcd : (x == ("__classdict__" : PySem.Str)) = false := by decide) :
    PT X (.Compare e [.NotIn] [.Name x p] pos) (tT X.K B ρ (!decide (d.nk ∈ ms.map D.nk))) :=
  pt_mono (pt_cmpR (op_nnotin hu) h (pe_var hN hv hdb hcd) rfl) fun σ H Q ⟨G, en, q⟩ => ⟨G, en, fun v G1 H1 g1 r => by
    obtain ⟨a, u, h1, h2, ⟨L, rfl, r1, r2, r3⟩, _⟩ := (en.up g1).ow hx0
    obtain ⟨xs, rfl⟩ := ht
    obtain ⟨b, ws, rfl, _⟩ := (show Rp X.K G1 H1 _ (.tup xs) from .inl r).tup g1.base
    refine ⟨.ref a, h1, B.T, G1, .tup xs, b, a, L, g1.base, rfl, r, hd, rfl, h2, fun p hp => ?_, _, rfl, ?_⟩
    · obtain ⟨d', _, e2, k2, rr⟩ := r1 p hp
      exact ⟨d', e2, k2, rr⟩
    · have e : decide ((D.tup xs).nk ∈ L.map (·.2)) = decide ((D.tup xs).nk ∈ ms.map D.nk) := by
        rw [Bool.eq_iff_iff]
        simp only [decide_eq_true_eq]
        constructor
        · intro z
          obtain ⟨p, hp, e⟩ := List.mem_map.mp z
          obtain ⟨d', m1, e2, _, _⟩ := r1 p hp
          exact List.mem_map.mpr ⟨d', m1, by rw [← e2, e]⟩
        · intro z
          obtain ⟨d', m1, e⟩ := List.mem_map.mp z
          rw [← e]
          exact r2 d' m1
      rw [e]
      exact q G1 H1 g1⟩
end
end DL
end
section
set_option Elab.async false
set_option linter.all false
set_option maxRecDepth 100000
set_option maxHeartbeats 4000000
/-! Dicts with nested tuples of ints as keys: an object of one's own; {k: v}, d[k] = v, not in. -/
namespace DL
open PySem PySem.Spec PyProof.Rows L2 NdefX
structure NDic (P : Program) (w : World) (h : Heap) (a : Addr) (xs : List (NestedKey × Addr × Value)) : Prop where
  ob : ∃ o es ep, h.get? a = some o ∧ o.ExactDict ∧ o.data = .dict es ep ∧ es.toList = xs.map (entryOfKey (nestedKind P w))
  nd : (xs.map (·.1)).Nodup
def NDicO (P : Program) (w : World) (a : Addr) (xs : List (NestedKey × Addr × Value)) : HO := .ext fun h => NDic P w h a xs
theorem NDic.at {P : Program} {w : World} {h h' : Heap} {a : Addr} {xs : List (NestedKey × Addr × Value)} (R : NDic P w h a xs) (k : ∀ o, h.get? a = some o → h'.get? a = some o) : NDic P w h' a xs := by
  obtain ⟨o, es, ep, ho, r⟩ := R.ob
  exact ⟨⟨o, es, ep, k o ho, r⟩, R.nd⟩
theorem ndicO_new {w : World} {P : Program} {H : Hp} {h : Heap} {a : Addr} {xs : List (NestedKey × Addr × Value)} (R : NDic P w h a xs) : ObjOk P w H h a (NDicO P w a xs) := by
  obtain ⟨o, es, ep, ho, _⟩ := R.ob
  exact ⟨R, ⟨o, ho⟩, fun h1 h2 p k => p.at k⟩
theorem ndicO_nt {P : Program} {w : World} {a : Addr} {xs : List (NestedKey × Addr × Value)} (ps : Array Value) : NDicO P w a xs ≠ .tbl ps := fun z => by unfold NDicO at z; cases z
theorem ndicO_nc {P : Program} {w : World} {a : Addr} {xs : List (NestedKey × Addr × Value)} (c : Addr) (q : PySem.Str) : NDicO P w a xs ≠ LamX.CodeO c q := ext_nc (a := a) (fun h R => by
  obtain ⟨o, es, ep, ho, _, hd, _⟩ := R.ob
  exact ⟨o, ho, fun vs z => by rw [hd] at z; cases z⟩) c q
theorem NDic.of {P : Program} {w : World} {h : Heap} {a : Addr} {xs : List (NestedKey × Addr × Value)} (x : h.DictOfH (nestedKind P w) a xs) : NDic P w h a xs := by
  obtain ⟨o, es, ep, h1, h2, h3, h4, _, h6⟩ := x
  exact ⟨⟨o, es, ep, h1, h2, h3, h4⟩, h6⟩
theorem NDic.dic {P : Program} {w : World} {h : Heap} {a : Addr} {xs : List (NestedKey × Addr × Value)} (R : NDic P w h a xs) (hk : ∀ y ∈ xs, Kt h y.1 y.2.1) : h.DictOfH (nestedKind P w) a xs := by
  obtain ⟨o, es, ep, h1, h2, h3, h4⟩ := R.ob
  exact ⟨o, es, ep, h1, h2, h3, h4, fun y hy => ⟨(hk y hy).is, (hk y hy).dp⟩, R.nd⟩
theorem atKey_isSome {xs : List (NestedKey × Addr × Value)} {k : NestedKey} : (atKey xs k).isSome = decide (k ∈ xs.map (·.1)) := by
  induction xs with
  | nil => rfl
  | cons x xs ih =>
    by_cases h : x.1 = k
    · simp [atKey, h]
    · have : atKey (x :: xs) k = atKey xs k := by simp [atKey, h]
      rw [this, ih, Bool.eq_iff_iff]
      simp [Ne.symm h]
/-- a dict of one's own: its keys are those of ms -/
def ndK (K : PySem.W.Frag) (P : Program) (w : World) (ms : List D) : OwK where
  φ := fun G a u => (a == sysModules) = false ∧ ∃ xs, u = NDicO P w a xs ∧ (∀ y ∈ xs, ∃ d, d ∈ ms ∧ y.1 = d.nk ∧ d.ky 8 = true ∧ Rep K G (.ref y.2.1) d) ∧ (∀ d ∈ ms, d.nk ∈ xs.map (·.1)) ∧ xs.length ≤ ms.length
  mono := fun G G' a u e ⟨hs, L, h, r, q⟩ => ⟨hs, L, h, fun p hp => let ⟨d, h1, h2, h3, h4⟩ := r p hp; ⟨d, h1, h2, h3, h4.up e⟩, q⟩
  nt := fun G a u ⟨_, L, h, _⟩ ps z => by rw [h] at z; exact ndicO_nt ps z
  nc := fun G a u ⟨_, L, h, _⟩ c q z => by rw [h] at z; exact ndicO_nc c q z
section
variable {X : Cx} {B : Bs} {E : XK} {ρ : List Sl} {e ve : Expr} {pos : Pos} {d : D} {ms : List D}
/-- x = {e: v} -/
theorem pe_nd1 {vv : V} (hu : X.A.units + 64 < cLine) (h : PE X e (tD X.K B ρ d)) (hv : PE X ve (tC vv)) (hd : d.ky 8 = true) (ht : ∃ xs, d = .tup xs) :
    PE X (.Dict [some e] [ve] pos) (fun σ H Q => ∃ G, B.En X.K G ρ σ H ∧ ∀ p u G' H', Grow B.T G H G' H' → H' p = none → (ndK X.K X.prog X.w [d]).φ G' p u → Q (.ref p) (upd H' p u)) := by
  refine ⟨fun pins s σ H Q I ⟨G, en, q⟩ => ?_⟩
  refine wpAny_Dict_any rfl rfl (by simp) (Nat.le_of_ble_eq_true rfl) ?_
  have hn := I.hok.fresh (Nat.le_refl s.heap.objs.size)
  have hb : sysModules < s.heap.objs.size := I.big
  have hbs : (s.heap.objs.size == sysModules) = false := beq_eq_false_iff_ne.mpr (Ne.symm (Nat.ne_of_lt hb))
  have n0 : NDic X.prog X.w (s.heap.push { cls := .type "dict", data := .dict #[] }) s.heap.objs.size [] := NDic.of (Heap.DictOfH.new s.heap)
  have I1 := I.laid (a := s.heap.objs.size) (o := NDicO X.prog X.w s.heap.objs.size []) (h' := s.heap.push { cls := .type "dict", data := .dict #[] }) (t' := s.toks) (fun _ _ q => Heap.get?_push_of_some _ q) (Nat.le_refl _) (ndicO_new n0)
  have g0 := en.base.own (o := NDicO X.prog X.w s.heap.objs.size []) hn
  refine thn ((pps_cons h hv pps_nil).run pins _ σ _ (fun ps H2 => ∃ G2 b, ps = [(.ref b, vv)] ∧ Grow B.T G (upd H s.heap.objs.size (NDicO X.prog X.w s.heap.objs.size [])) G2 H2 ∧ Rep X.K G2 (.ref b) d) I1 ⟨G, en.up g0, fun v G2 H2 g2 rv => ?_⟩) fun vs s2 ⟨ps, H2, I2, rel, G2, b, ep, g2, rb⟩ => ?_
  · obtain ⟨xs, rfl⟩ := ht
    obtain ⟨b, ws, rfl, _⟩ := (show Rp X.K G2 H2 _ (.tup xs) from .inl rv).tup g2.base
    exact ⟨G2, b, rfl, g2, rv⟩
  subst ep
  obtain ⟨p1, rfl, rk, rv⟩ : ∃ p1 : Value, vs = [(Value.ref b, p1)] ∧ True ∧ True := by
    cases rel with
    | @cons a' b' as bs h t =>
      cases t
      obtain ⟨h1, h2⟩ := h
      obtain ⟨b1, b2⟩ := b'
      have : b1 = Value.ref b := h1
      subst this
      exact ⟨b2, rfl, trivial, trivial⟩
  have hH2 := g2.keep s.heap.objs.size _ upd_same (fun ps => ndicO_nt ps)
  obtain ⟨R, _⟩ := (show ObjOk X.prog X.w H2 s2.heap s.heap.objs.size (NDicO X.prog X.w s.heap.objs.size []) from I2.hok _ _ hH2)
  have kt := rep_kt I2 g2.base rb hd
  unfold storeAll
  refine wpAny_storeAllH (knd := nestedKind X.prog X.w) (show X.A.units + 8 < cLine by omega) [(Value.ref b, p1)] [(d.nk, b, p1)] [] s2 _ ⟨rfl, rfl, ⟨kt.is, kt.dp⟩, trivial⟩ (R.dic fun y hy => by cases hy) (Nat.le_of_ble_eq_true rfl) fun h' tk dh sb => ?_
  have he : ∃ o, h'.get? s.heap.objs.size = some o := let ⟨o, _, _, ho, _⟩ := dh; ⟨o, ho⟩
  have I3 := I2.write (e := s.heap.objs.size) (t' := tk) (by rw [hH2]; trivial) (.inl rfl) (fun b o hb hv => (sb.2 b hb).trans hv) he (ndicO_new (H := upd H2 s.heap.objs.size (NDicO X.prog X.w s.heap.objs.size (storedAllH [] [(d.nk, b, p1)]))) (NDic.of dh))
  refine ⟨.ref s.heap.objs.size, _, I3, rfl, ?_⟩
  have gc := (g0.trans g2).cut hn (g2.away (en.base.none hn) upd_same (fun ps => ndicO_nt ps) (fun c q => ndicO_nc c q)) hH2 (fun ps => ndicO_nt ps) (fun c q => ndicO_nc c q)
  have e3 : upd H2 s.heap.objs.size (NDicO X.prog X.w s.heap.objs.size (storedAllH [] [(d.nk, b, p1)])) = upd (hide H2 s.heap.objs.size) s.heap.objs.size (NDicO X.prog X.w s.heap.objs.size (storedAllH [] [(d.nk, b, p1)])) := by
    funext c
    by_cases hc : c = s.heap.objs.size
    · rw [hc, upd_same, upd_same]
    · rw [upd_ne hc, upd_ne hc, hide_ne hc]
  rw [e3]
  refine q _ _ G2 _ gc hide_at ⟨hbs, _, rfl, fun y hy => ?_, fun d' hd' => ?_, ?_⟩
  · have hy' : y ∈ [(d.nk, b, p1)] := hy
    rw [List.mem_singleton.mp hy']
    exact ⟨d, by simp, rfl, hd, rb⟩
  · rw [List.mem_singleton.mp hd']
    show d.nk ∈ [(d.nk, b, p1)].map (·.1)
    simp
  · exact Nat.le_refl _
theorem js_nd1 (i : Nat) {x : PySem.Str} {p p2 : Pos} {vv : V} (hu : X.A.units + 64 < cLine) (h : PE X e (tD X.K B ρ d)) (hvv : PE X ve (tC vv)) (hd : d.ky 8 = true) (ht : ∃ xs, d = .tup xs) (hN : X.N.Nodup) (hi : X.N[i]? = some x := by rfl) (hx : Loc X.env.scope x := by first | exact Or.inl rfl | exact Or.inr rfl)
    (hs : swapsWith (.Dict [some e] [ve] p2) (some (.Name x p)) pos.line X.env = pure false := by rfl) (hf : X.fn x = true ∨ X.env.scope.names.lookup x = some .local := by first | exact .inl rfl | exact .inr rfl) :
    PS X (.Assign [.Name x p] (.Dict [some e] [ve] p2) pos) (tS X.K B E ρ (.nx (ρ.set i (.ow (ndK X.K X.prog X.w [d]))))) :=
  ps_mono (ps_set hN hi hx (pe_nd1 hu h hvv hd ht) hs hf) fun D σ H ⟨G, en, q⟩ => ⟨G, en, fun p u G' H' g n hk => q _ G' _ g.le ((en.up g).setO n hk)⟩
/-- e not in x -/
theorem op_ndnotin (hu : X.A.units + 64 < cLine) : OpR X (compareOp .NotIn) (fun x y H Q => ∃ (T : List NTab) (G : Hp) (d : D) (b a : Addr) (xs : List (NestedKey × Addr × Value)), Base T G H ∧ x = .ref b ∧ Rep X.K G (.ref b) d ∧ d.ky 8 = true ∧ y = .ref a ∧ (a == sysModules) = false ∧ H a = some (NDicO X.prog X.w a xs) ∧
    (∀ p ∈ xs, ∃ d', p.1 = d'.nk ∧ d'.ky 8 = true ∧ Rep X.K G (.ref p.2.1) d') ∧ Q (.bl (!decide (d.nk ∈ xs.map (·.1)))) H) := by
  intro pins s σ H x y v u Q I rx ry h
  obtain ⟨T, G, d, b, a, xs, bs, rfl, rb, hd, rfl, hsm, ha, hL, q⟩ := h
  obtain rfl : v = Value.ref b := rx
  obtain rfl : u = Value.ref a := ry
  obtain ⟨R, _⟩ := (show ObjOk X.prog X.w H s.heap a (NDicO X.prog X.w a xs) from I.hok a _ ha)
  have kt := rep_kt I bs rb hd
  refine wpAny_notIn_heap (knd := nestedKind X.prog X.w) (show X.A.in1.units + 8 < cLine by simp only [Around.in1_units]; omega) ⟨kt.is, kt.dp⟩ hsm (R.dic fun p hp => ?_) ⟨.bl _, H, I.tok _, rfl, by rw [atKey_isSome]; exact q⟩
  obtain ⟨d', e2, k2, rr⟩ := hL p hp
  rw [e2]
  exact rep_kt I bs rr k2
theorem nd_mem {K : PySem.W.Frag} {G : Hp} {xs : List (NestedKey × Addr × Value)} {ms : List D} {k : NestedKey} (r1 : ∀ y ∈ xs, ∃ d, d ∈ ms ∧ y.1 = d.nk ∧ d.ky 8 = true ∧ Rep K G (.ref y.2.1) d) (r2 : ∀ d ∈ ms, d.nk ∈ xs.map (·.1)) : decide (k ∈ xs.map (·.1)) = decide (k ∈ ms.map D.nk) := by
  rw [Bool.eq_iff_iff]
  simp only [decide_eq_true_eq]
  constructor
  · intro z
    obtain ⟨p, hp, e⟩ := List.mem_map.mp z
    obtain ⟨d', m1, e2, _, _⟩ := r1 p hp
    exact List.mem_map.mpr ⟨d', m1, by rw [← e2, e]⟩
  · intro z
    obtain ⟨d', m1, e⟩ := List.mem_map.mp z
    rw [← e]
    exact r2 d' m1
theorem jt_ndnotin (i : Nat) {x : PySem.Str} {p : Pos} (hu : X.A.units + 64 < cLine) (hx0 : ρ[i]? = some (.ow (ndK X.K X.prog X.w ms))) (hd : d.ky 8 = true) (ht : ∃ xs, d = .tup xs) (h : PE X e (tD X.K B ρ d)) (hN : X.N[i]? = some x := by rfl)
    (hv : Vis X.env.scope x := by first | exact Or.inl rfl | exact Or.inr (Or.inl rfl) | exact Or.inr (Or.inr rfl)) (hdb : (x == ("__debug__" : PySem.Str)) = false := by decide) (hcd : (x == ("__classdict__" : PySem.Str)) = false := by decide) :
    PT X (.Compare e [.NotIn] [.Name x p] pos) (tT X.K B ρ (!decide (d.nk ∈ ms.map D.nk))) :=
  pt_mono (pt_cmpR (op_ndnotin hu) h (pe_var hN hv hdb hcd) rfl) fun σ H Q ⟨G, en, q⟩ => ⟨G, en, fun v G1 H1 g1 r => by
    obtain ⟨a, u, h1, h2, ⟨hsm, xs, rfl, r1, r2, r3⟩, _⟩ := (en.up g1).ow hx0
    obtain ⟨ys, rfl⟩ := ht
    obtain ⟨b, ws, rfl, _⟩ := (show Rp X.K G1 H1 _ (.tup ys) from .inl r).tup g1.base
    refine ⟨.ref a, h1, B.T, G1, .tup ys, b, a, xs, g1.base, rfl, r, hd, rfl, hsm, h2, fun p hp => ?_, _, rfl, ?_⟩
    · obtain ⟨d', _, e2, k2, rr⟩ := r1 p hp
      exact ⟨d', e2, k2, rr⟩
    · rw [nd_mem r1 r2]
      exact q G1 H1 g1⟩
/-- x[e] = v, a new key -/
theorem js_ndput (i : Nat) {x : PySem.Str} {p p1 : Pos} {vv : V} (hu : X.A.units + 64 < cLine) (hx0 : ρ[i]? = some (.ow (ndK X.K X.prog X.w ms))) (hl : ms.length < 1000000) (hnew : d.nk ∉ ms.map D.nk) (hd : d.ky 8 = true) (ht : ∃ xs, d = .tup xs) (h : PE X e (tD X.K B ρ d)) (hvv : PE X ve (tC vv)) (hN : X.N[i]? = some x := by rfl)
    (hv : Vis X.env.scope x := by first | exact Or.inl rfl | exact Or.inr (Or.inl rfl) | exact Or.inr (Or.inr rfl)) (hdb : (x == ("__debug__" : PySem.Str)) = false := by decide) (hcd : (x == ("__classdict__" : PySem.Str)) = false := by decide)
    (hs : swapsWith ve (some (.Subscript (.Name x p) e p1)) pos.line X.env = pure false := by rfl) :
    PS X (.Assign [.Subscript (.Name x p) e p1] ve pos) (tS X.K B E ρ (.nx (ρ.set i (.ow (ndK X.K X.prog X.w (ms ++ [d])))))) := by
  refine ⟨fun pins s σ H D I ⟨G, en, q⟩ => ?_⟩
  refine wpAny_Assign_Subscript (thn (hvv.run pins s σ H (fun v H' => H' = H) I rfl) fun r s1 ⟨v, H1, I1, rv, e1⟩ => ?_) hs
  subst e1
  obtain ⟨a, u, h1, h2, ⟨hsm, xs, rfl, r1, r2, r3⟩, _⟩ := en.ow hx0
  refine thn ((pe_var hN hv hdb hcd).run pins s1 σ H1 (fun v H' => v = .ref a ∧ H' = H1) I1 ⟨.ref a, h1, rfl, rfl⟩) fun u s2 ⟨y, H2, I2, ry, ey, eH⟩ => ?_
  subst ey eH
  obtain rfl : u = Value.ref a := ry
  refine thn (h.run pins s2 σ H2 (fun z H3 => ∃ G3 b, z = .ref b ∧ Grow B.T G H2 G3 H3 ∧ Rep X.K G3 (.ref b) d) I2 ⟨G, en, fun z G3 H3 g3 rz => ?_⟩) fun iv s3 ⟨z, H3, I3, rz, G3, b, ez, g3, rb⟩ => ?_
  · obtain ⟨ys, rfl⟩ := ht
    obtain ⟨b, ws, rfl, _⟩ := (show Rp X.K G3 H3 _ (.tup ys) from .inl rz).tup g3.base
    exact ⟨G3, b, rfl, g3, rz⟩
  subst ez
  obtain rfl : iv = Value.ref b := rz
  have hH3 := g3.keep a _ h2 (fun ps => ndicO_nt ps)
  obtain ⟨R, _⟩ := (show ObjOk X.prog X.w H3 s3.heap a (NDicO X.prog X.w a xs) from I3.hok a _ hH3)
  have kt := rep_kt I3 g3.base rb hd
  have hno : atKey xs d.nk = none := by
    have := atKey_isSome (xs := xs) (k := d.nk)
    rw [nd_mem r1 r2, decide_eq_false hnew] at this
    exact Option.not_isSome_iff_eq_none.mp (by rw [this]; exact Bool.false_ne_true)
  refine wpAny_setItem_heap (hsz := by show xs.length ≤ 2 ^ 24; omega) (knd := nestedKind X.prog X.w) (show X.A.in1.units + 8 < cLine by simp only [Around.in1_units]; omega) ⟨kt.is, kt.dp⟩ (R.dic fun p hp => ?_) fun h' dh sb => ?_
  · obtain ⟨d', _, e2, k2, rr⟩ := r1 p hp
    rw [e2]
    exact rep_kt I3 g3.base (rr.up g3.le) k2
  rw [storedH_new hno] at dh
  have he : ∃ o, h'.get? a = some o := let ⟨o, _, _, ho, _⟩ := dh; ⟨o, ho⟩
  refine ⟨σ, upd H3 a (NDicO X.prog X.w a (xs ++ [(d.nk, b, r)])), I3.write (e := a) (by rw [hH3]; trivial) (.inl rfl) (fun b o hb hv => (sb.2 b hb).trans hv) he (ndicO_new (NDic.of dh)), ?_⟩
  refine q σ G3 _ g3.le ((en.up g3).mut hx0 h1 ⟨hsm, _, rfl, fun y hy => ?_, fun d' hd' => ?_, ?_⟩)
  · rcases List.mem_append.mp hy with hy | hy
    · obtain ⟨d', m1, e2, k2, rr⟩ := r1 y hy
      exact ⟨d', List.mem_append_left _ m1, e2, k2, rr.up g3.le⟩
    · rw [List.mem_singleton.mp hy]
      exact ⟨d, List.mem_append_right _ (by simp), rfl, hd, rb⟩
  · rw [List.map_append]
    rcases List.mem_append.mp hd' with hd' | hd'
    · exact List.mem_append_left _ (r2 d' hd')
    · rw [List.mem_singleton.mp hd']; exact List.mem_append_right _ (by simp)
  · rw [List.length_append, List.length_append]
    show xs.length + 1 ≤ ms.length + 1
    omega
end
end DL
end
section
set_option Elab.async false
set_option linter.all false
set_option maxRecDepth 100000
set_option maxHeartbeats 4000000
/-! The text by places: each def's statement, its names by slot. Printed by gen_tx.py. -/
namespace MM
open PySem PySem.Spec PyProof.Rows L2
def topS (i : Nat) : Stmt := PySem.Challenge.pw_meantmerge_k31_whole_partings_exactly.main.body.getD i (.Pass ⟨0, 0, 0, 0⟩)
abbrev s_Program_init : Stmt := inClass (topS 9) 0
abbrev N_Program_init : List PySem.Str := ["self", "names", "channels", "states", "rules"]
theorem sc_Program_init : FnScope N_Program_init ["self", "names", "channels", "states", "rules"] (defScope s_Program_init) := ⟨rfl, rfl, rfl, by decide +kernel, rfl, by decide +kernel, by decide +kernel⟩
abbrev s_face : Stmt := topS 10
abbrev N_face : List PySem.Str := ["program"]
theorem sc_face : FnScope N_face ["program"] (defScope s_face) := ⟨rfl, rfl, rfl, by decide +kernel, rfl, by decide +kernel, by decide +kernel⟩
abbrev s_position_of : Stmt := topS 11
abbrev N_position_of : List PySem.Str := ["number", "kept", "position", "value"]
theorem sc_position_of : FnScope N_position_of ["number", "kept"] (defScope s_position_of) := ⟨rfl, rfl, rfl, by decide +kernel, rfl, by decide +kernel, by decide +kernel⟩
abbrev s_candidates : Stmt := topS 12
abbrev N_candidates : List PySem.Str := ["kept", "number"]
theorem sc_candidates : FnScope N_candidates ["kept", "number"] (defScope s_candidates) := ⟨rfl, rfl, rfl, by decide +kernel, rfl, by decide +kernel, by decide +kernel⟩
abbrev s_rule_of : Stmt := topS 13
abbrev N_rule_of : List PySem.Str := ["program", "state", "name", "position", "at", "k"]
theorem sc_rule_of : FnScope N_rule_of ["program", "state", "name", "position"] (defScope s_rule_of) := ⟨rfl, rfl, rfl, by decide +kernel, rfl, by decide +kernel, by decide +kernel⟩
abbrev s_start : Stmt := topS 14
abbrev N_start : List PySem.Str := ["program"]
theorem sc_start : FnScope N_start ["program"] (defScope s_start) := ⟨rfl, rfl, rfl, by decide +kernel, rfl, by decide +kernel, by decide +kernel⟩
abbrev s_step : Stmt := topS 15
abbrev N_step : List PySem.Str := ["program", "configuration", "message", "state", "kept", "name", "number", "rule", "known", "output", "channel", "signal", "source"]
theorem sc_step : FnScope N_step ["program", "configuration", "message"] (defScope s_step) := ⟨rfl, rfl, rfl, by decide +kernel, rfl, by decide +kernel, by decide +kernel⟩
abbrev s_run : Stmt := topS 16
abbrev N_run : List PySem.Str := ["program", "messages", "configuration", "outputs", "message", "output"]
theorem sc_run : FnScope N_run ["program", "messages"] (defScope s_run) := ⟨rfl, rfl, rfl, by decide +kernel, rfl, by decide +kernel, by decide +kernel⟩
abbrev s_ranks : Stmt := topS 18
abbrev N_ranks : List PySem.Str := ["numbers", "places", "k", "number"]
theorem sc_ranks : FnScope N_ranks ["numbers"] (defScope s_ranks) := ⟨rfl, rfl, rfl, by decide +kernel, rfl, by decide +kernel, by decide +kernel⟩
abbrev s_ranked : Stmt := topS 19
abbrev N_ranked : List PySem.Str := ["messages", "places", "name", "number", "k", "message"]
theorem sc_ranked : FnScope N_ranked ["messages"] (defScope s_ranked) := ⟨rfl, rfl, rfl, by decide +kernel, rfl, by decide +kernel, by decide +kernel⟩
abbrev s_ranked_spot : Stmt := topS 21
abbrev N_ranked_spot : List PySem.Str := ["configurations", "numbers", "places", "configuration", "number", "place", "state", "kept", "n"]
theorem sc_ranked_spot : FnScope N_ranked_spot ["configurations"] (defScope s_ranked_spot) := ⟨rfl, rfl, rfl, by decide +kernel, rfl, by decide +kernel, by decide +kernel⟩
abbrev s_kept_numbers : Stmt := topS 22
abbrev N_kept_numbers : List PySem.Str := ["configurations", "state", "kept", "number"]
theorem sc_kept_numbers : FnScope N_kept_numbers ["configurations"] (defScope s_kept_numbers) := ⟨rfl, rfl, rfl, by decide +kernel, rfl, by decide +kernel, by decide +kernel⟩
abbrev s_spot_of : Stmt := topS 23
abbrev N_spot_of : List PySem.Str := ["programs", "messages", "program"]
theorem sc_spot_of : FnScope N_spot_of ["programs", "messages"] (defScope s_spot_of) := ⟨rfl, rfl, rfl, by decide +kernel, rfl, by decide +kernel, by decide +kernel⟩
abbrev s_steps_at : Stmt := topS 24
abbrev N_steps_at : List PySem.Str := ["names", "spot", "count", "name", "position"]
theorem sc_steps_at : FnScope N_steps_at ["names", "spot"] (defScope s_steps_at) := ⟨rfl, rfl, rfl, by decide +kernel, rfl, by decide +kernel, by decide +kernel⟩
abbrev s_new_number : Stmt := topS 25
abbrev N_new_number : List PySem.Str := ["kept", "numbers", "position"]
theorem sc_new_number : FnScope N_new_number ["kept", "numbers", "position"] (defScope s_new_number) := ⟨rfl, rfl, rfl, by decide +kernel, rfl, by decide +kernel, by decide +kernel⟩
abbrev s_continued : Stmt := topS 26
abbrev N_continued : List PySem.Str := ["programs", "messages", "step_taken", "doubled", "kept", "number", "name", "program"]
theorem sc_continued : FnScope N_continued ["programs", "messages", "step_taken"] (defScope s_continued) := ⟨rfl, rfl, rfl, by decide +kernel, rfl, by decide +kernel, by decide +kernel⟩
abbrev s_spot_after : Stmt := topS 27
abbrev N_spot_after : List PySem.Str := ["programs", "spot", "step_taken", "configurations", "kept", "number", "known", "behind", "outputs", "program", "configuration", "following", "output", "state", "rank", "n", "c", "signal"]
theorem sc_spot_after : FnScope N_spot_after ["programs", "spot", "step_taken"] (defScope s_spot_after) := ⟨rfl, rfl, rfl, by decide +kernel, rfl, by decide +kernel, by decide +kernel⟩
abbrev s_Store_init : Stmt := inClass (topS 31) 0
abbrev N_Store_init : List PySem.Str := ["self"]
theorem sc_Store_init : FnScope N_Store_init ["self"] (defScope s_Store_init) := ⟨rfl, rfl, rfl, by decide +kernel, rfl, by decide +kernel, by decide +kernel⟩
abbrev s_Store_size : Stmt := inClass (topS 31) 1
abbrev N_Store_size : List PySem.Str := ["self"]
theorem sc_Store_size : FnScope N_Store_size ["self"] (defScope s_Store_size) := ⟨rfl, rfl, rfl, by decide +kernel, rfl, by decide +kernel, by decide +kernel⟩
abbrev s_Store_entry : Stmt := inClass (topS 31) 2
abbrev N_Store_entry : List PySem.Str := ["self", "number"]
theorem sc_Store_entry : FnScope N_Store_entry ["self", "number"] (defScope s_Store_entry) := ⟨rfl, rfl, rfl, by decide +kernel, rfl, by decide +kernel, by decide +kernel⟩
abbrev s_Store_add : Stmt := inClass (topS 31) 3
abbrev N_Store_add : List PySem.Str := ["self", "entry"]
theorem sc_Store_add : FnScope N_Store_add ["self", "entry"] (defScope s_Store_add) := ⟨rfl, rfl, rfl, by decide +kernel, rfl, by decide +kernel, by decide +kernel⟩
abbrev s_Store_commit : Stmt := inClass (topS 31) 4
abbrev N_Store_commit : List PySem.Str := ["self", "program", "others", "entry"]
theorem sc_Store_commit : FnScope N_Store_commit ["self", "program"] (defScope s_Store_commit) := ⟨rfl, rfl, rfl, by decide +kernel, rfl, by decide +kernel, by decide +kernel⟩
abbrev s_Store_merge : Stmt := inClass (topS 31) 5
abbrev N_Store_merge : List PySem.Str := ["self", "base", "one", "other", "number"]
theorem sc_Store_merge : FnScope N_Store_merge ["self", "base", "one", "other"] (defScope s_Store_merge) := ⟨rfl, rfl, rfl, by decide +kernel, rfl, by decide +kernel, by decide +kernel⟩
abbrev s_known : Stmt := topS 32
abbrev N_known : List PySem.Str := ["store", "number"]
theorem sc_known : FnScope N_known ["store", "number"] (defScope s_known) := ⟨rfl, rfl, rfl, by decide +kernel, rfl, by decide +kernel, by decide +kernel⟩
abbrev s_parts : Stmt := topS 33
abbrev N_parts : List PySem.Str := ["store", "number", "rows", "k", "entry", "base", "one", "other", "part"]
theorem sc_parts : FnScope N_parts ["store", "number"] (defScope s_parts) := ⟨rfl, rfl, rfl, by decide +kernel, rfl, by decide +kernel, by decide +kernel⟩
abbrev s_merged : Stmt := topS 34
abbrev N_merged : List PySem.Str := ["base", "one", "other"]
theorem sc_merged : FnScope N_merged ["base", "one", "other"] (defScope s_merged) := ⟨rfl, rfl, rfl, by decide +kernel, rfl, by decide +kernel, by decide +kernel⟩
abbrev s_meaning : Stmt := topS 35
abbrev N_meaning : List PySem.Str := ["store", "number", "outputs", "values", "k", "entry"]
theorem sc_meaning : FnScope N_meaning ["store", "number", "outputs"] (defScope s_meaning) := ⟨rfl, rfl, rfl, by decide +kernel, rfl, by decide +kernel, by decide +kernel⟩
abbrev s_input_to : Stmt := topS 39
abbrev N_input_to : List PySem.Str := ["programs", "kept", "at", "taken", "steps", "before", "last", "messages", "step_taken"]
theorem sc_input_to : FnScope N_input_to ["programs", "kept", "at", "taken"] (defScope s_input_to) := ⟨rfl, rfl, rfl, by decide +kernel, rfl, by decide +kernel, by decide +kernel⟩
abbrev s_search : Stmt := topS 40
abbrev N_search : List PySem.Str := ["programs", "names", "has_mark", "first", "kept", "seen", "at", "spot", "steps", "behind", "k", "taken"]
theorem sc_search : FnScope N_search ["programs", "names", "has_mark"] (defScope s_search) := ⟨rfl, rfl, rfl, by decide +kernel, rfl, by decide +kernel, by decide +kernel⟩
abbrev s_together : Stmt := topS 41
abbrev N_together : List PySem.Str := ["store", "numbers", "most", "number", "found", "part"]
theorem sc_together : FnScope N_together ["store", "numbers", "most"] (defScope s_together) := ⟨rfl, rfl, rfl, by decide +kernel, rfl, by decide +kernel, by decide +kernel⟩
abbrev s_by_part : Stmt := topS 42
abbrev N_by_part : List PySem.Str := ["some", "outputs", "part", "output"]
theorem sc_by_part : FnScope N_by_part ["some", "outputs"] (defScope s_by_part) := ⟨rfl, rfl, rfl, by decide +kernel, rfl, by decide +kernel, by decide +kernel⟩
abbrev s_all_names : Stmt := topS 43
abbrev N_all_names : List PySem.Str := ["store"]
theorem sc_all_names : FnScope N_all_names ["store"] (defScope s_all_names) := ⟨rfl, rfl, rfl, by decide +kernel, rfl, by decide +kernel, by decide +kernel⟩
abbrev s_first_parting : Stmt := topS 44
abbrev N_first_parting : List PySem.Str := ["store", "number", "other", "some", "programs", "parts_here", "part"]
theorem sc_first_parting : FnScope N_first_parting ["store", "number", "other"] (defScope s_first_parting) := ⟨rfl, rfl, rfl, by decide +kernel, rfl, by decide +kernel, by decide +kernel⟩
abbrev s_first_difference : Stmt := topS 45
abbrev N_first_difference : List PySem.Str := ["store", "number", "program", "some", "programs", "differs", "part"]
theorem sc_first_difference : FnScope N_first_difference ["store", "number", "program"] (defScope s_first_difference) := ⟨rfl, rfl, rfl, by decide +kernel, rfl, by decide +kernel, by decide +kernel⟩
abbrev s_law_cell : Stmt := topS 47
abbrev N_law_cell : List PySem.Str := ["_law_script", "_law_k"]
theorem sc_law_cell : FnScope N_law_cell ["_law_script", "_law_k"] (defScope s_law_cell) := ⟨rfl, rfl, rfl, by decide +kernel, rfl, by decide +kernel, by decide +kernel⟩
abbrev s_law_row : Stmt := topS 48
abbrev N_law_row : List PySem.Str := ["_law_cell_here", "_law_count", "_law_row_here", "_law_rest", "_law_seed", "_law_k"]
theorem sc_law_row : FnScope N_law_row ["_law_cell_here", "_law_count"] (defScope s_law_row) := ⟨rfl, rfl, rfl, by decide +kernel, rfl, by decide +kernel, by decide +kernel⟩
abbrev s_law_word : Stmt := topS 49
abbrev N_law_word : List PySem.Str := ["_law_number", "_law_letters", "_law_word_here"]
theorem sc_law_word : FnScope N_law_word ["_law_number"] (defScope s_law_word) := ⟨rfl, rfl, rfl, by decide +kernel, rfl, by decide +kernel, by decide +kernel⟩
abbrev s_law_names : Stmt := topS 50
abbrev N_law_names : List PySem.Str := ["_law_row_here", "_law_names_here", "_law_k", "_law_word_here", "_law_j"]
theorem sc_law_names : FnScope N_law_names ["_law_row_here"] (defScope s_law_names) := ⟨rfl, rfl, rfl, by decide +kernel, rfl, by decide +kernel, by decide +kernel⟩
abbrev s_law_picks : Stmt := topS 51
abbrev N_law_picks : List PySem.Str := ["_law_known", "_law_count", "_law_number", "_law_picks_here", "_law_k", "_law_at"]
theorem sc_law_picks : FnScope N_law_picks ["_law_known", "_law_count", "_law_number"] (defScope s_law_picks) := ⟨rfl, rfl, rfl, by decide +kernel, rfl, by decide +kernel, by decide +kernel⟩
abbrev s_law_channels : Stmt := topS 52
abbrev N_law_channels : List PySem.Str := ["_law_names_here", "_law_channels_here"]
theorem sc_law_channels : FnScope N_law_channels ["_law_names_here"] (defScope s_law_channels) := ⟨rfl, rfl, rfl, by decide +kernel, rfl, by decide +kernel, by decide +kernel⟩
abbrev s_law_outputs : Stmt := topS 53
abbrev N_law_outputs : List PySem.Str := ["_law_channels_here", "_law_known", "_law_number", "_law_more", "_law_outputs_here", "_law_k", "_law_at", "_law_signals"]
theorem sc_law_outputs : FnScope N_law_outputs ["_law_channels_here", "_law_known", "_law_number", "_law_more"] (defScope s_law_outputs) := ⟨rfl, rfl, rfl, by decide +kernel, rfl, by decide +kernel, by decide +kernel⟩
abbrev s_law_rule : Stmt := topS 54
abbrev N_law_rule : List PySem.Str := ["_law_key", "_law_states", "_law_channels_here", "_law_digits", "_law_state", "_law_name", "_law_position_here", "_law_known", "_law_targets", "_law_target", "_law_picks_here", "_law_k"]
theorem sc_law_rule : FnScope N_law_rule ["_law_key", "_law_states", "_law_channels_here", "_law_digits"] (defScope s_law_rule) := ⟨rfl, rfl, rfl, by decide +kernel, rfl, by decide +kernel, by decide +kernel⟩
abbrev s_law_keys : Stmt := topS 55
abbrev N_law_keys : List PySem.Str := ["_law_names_here", "_law_states", "_law_keys_here", "_law_state", "_law_name", "_law_position_here"]
theorem sc_law_keys : FnScope N_law_keys ["_law_names_here", "_law_states"] (defScope s_law_keys) := ⟨rfl, rfl, rfl, by decide +kernel, rfl, by decide +kernel, by decide +kernel⟩
abbrev s_law_plan : Stmt := topS 56
abbrev N_law_plan : List PySem.Str := ["_law_cell_here", "_law_names_here", "_law_row_here", "_law_count", "_law_states", "_law_keys_here", "_law_channels_here", "_law_rules", "_law_k"]
theorem sc_law_plan : FnScope N_law_plan ["_law_cell_here", "_law_names_here"] (defScope s_law_plan) := ⟨rfl, rfl, rfl, by decide +kernel, rfl, by decide +kernel, by decide +kernel⟩
abbrev s_law_side : Stmt := topS 57
abbrev N_law_side : List PySem.Str := ["_law_plan_here", "_law_cell_here", "_law_rules", "_law_number", "_law_at", "_law_state", "_law_name", "_law_position_here", "_law_target", "_law_picks_here", "_law_outputs_here", "_law_known"]
theorem sc_law_side : FnScope N_law_side ["_law_plan_here", "_law_cell_here"] (defScope s_law_side) := ⟨rfl, rfl, rfl, by decide +kernel, rfl, by decide +kernel, by decide +kernel⟩
abbrev s_law_program : Stmt := topS 58
abbrev N_law_program : List PySem.Str := ["_law_plan_here"]
theorem sc_law_program : FnScope N_law_program ["_law_plan_here"] (defScope s_law_program) := ⟨rfl, rfl, rfl, by decide +kernel, rfl, by decide +kernel, by decide +kernel⟩
abbrev s_law_position : Stmt := topS 59
abbrev N_law_position : List PySem.Str := ["_law_number", "_law_kept", "_law_less", "_law_value"]
theorem sc_law_position : FnScope N_law_position ["_law_number", "_law_kept"] (defScope s_law_position) := ⟨rfl, rfl, rfl, by decide +kernel, rfl, by decide +kernel, by decide +kernel⟩
abbrev s_law_step : Stmt := topS 60
abbrev N_law_step : List PySem.Str := ["_law_plan_here", "_law_place", "_law_message", "_law_position_here", "_law_known", "_law_rule_here", "_law_output", "_law_triple", "_law_k"]
theorem sc_law_step : FnScope N_law_step ["_law_plan_here", "_law_place", "_law_message"] (defScope s_law_step) := ⟨rfl, rfl, rfl, by decide +kernel, rfl, by decide +kernel, by decide +kernel⟩
abbrev s_law_entries : Stmt := topS 61
abbrev N_law_entries : List PySem.Str := ["_law_script", "_law_names_here", "_law_row_here", "_law_base", "_law_entries_here", "_law_k", "_law_size", "_law_merge"]
theorem sc_law_entries : FnScope N_law_entries ["_law_script", "_law_names_here"] (defScope s_law_entries) := ⟨rfl, rfl, rfl, by decide +kernel, rfl, by decide +kernel, by decide +kernel⟩
abbrev s_law_same_face : Stmt := topS 62
abbrev N_law_same_face : List PySem.Str := ["_law_plan_here", "_law_base"]
theorem sc_law_same_face : FnScope N_law_same_face ["_law_plan_here", "_law_base"] (defScope s_law_same_face) := ⟨rfl, rfl, rfl, by decide +kernel, rfl, by decide +kernel, by decide +kernel⟩
abbrev s_law_store : Stmt := topS 63
abbrev N_law_store : List PySem.Str := ["_law_entries_here", "_law_store_here", "_law_entry"]
theorem sc_law_store : FnScope N_law_store ["_law_entries_here"] (defScope s_law_store) := ⟨rfl, rfl, rfl, by decide +kernel, rfl, by decide +kernel, by decide +kernel⟩
abbrev s_law_merged : Stmt := topS 64
abbrev N_law_merged : List PySem.Str := ["_law_base", "_law_one", "_law_other"]
theorem sc_law_merged : FnScope N_law_merged ["_law_base", "_law_one", "_law_other"] (defScope s_law_merged) := ⟨rfl, rfl, rfl, by decide +kernel, rfl, by decide +kernel, by decide +kernel⟩
abbrev s_law_made_of : Stmt := topS 65
abbrev N_law_made_of : List PySem.Str := ["_law_entries_here", "_law_number", "_law_rows", "_law_k", "_law_both", "_law_part"]
theorem sc_law_made_of : FnScope N_law_made_of ["_law_entries_here", "_law_number"] (defScope s_law_made_of) := ⟨rfl, rfl, rfl, by decide +kernel, rfl, by decide +kernel, by decide +kernel⟩
abbrev s_law_spot_after : Stmt := topS 66
abbrev N_law_spot_after : List PySem.Str := ["_law_several", "_law_spot", "_law_taken", "_law_kept", "_law_place", "_law_number", "_law_known", "_law_places", "_law_outputs_here", "_law_k", "_law_output", "_law_rank", "_law_t", "_law_n"]
theorem sc_law_spot_after : FnScope N_law_spot_after ["_law_several", "_law_spot", "_law_taken"] (defScope s_law_spot_after) := ⟨rfl, rfl, rfl, by decide +kernel, rfl, by decide +kernel, by decide +kernel⟩
abbrev s_law_ranked_places : Stmt := topS 67
abbrev N_law_ranked_places : List PySem.Str := ["_law_places", "_law_numbers", "_law_place", "_law_rows", "_law_number", "_law_n"]
theorem sc_law_ranked_places : FnScope N_law_ranked_places ["_law_places"] (defScope s_law_ranked_places) := ⟨rfl, rfl, rfl, by decide +kernel, rfl, by decide +kernel, by decide +kernel⟩
abbrev s_law_steps : Stmt := topS 68
abbrev N_law_steps : List PySem.Str := ["_law_names_here", "_law_spot", "_law_ranks", "_law_place", "_law_steps_here", "_law_name", "_law_rank", "_law_position_here"]
theorem sc_law_steps : FnScope N_law_steps ["_law_names_here", "_law_spot"] (defScope s_law_steps) := ⟨rfl, rfl, rfl, by decide +kernel, rfl, by decide +kernel, by decide +kernel⟩
abbrev s_law_meaning : Stmt := topS 69
abbrev N_law_meaning : List PySem.Str := ["_law_entries_here", "_law_number", "_law_some", "_law_outputs_here", "_law_values", "_law_k", "_law_part"]
theorem sc_law_meaning : FnScope N_law_meaning ["_law_entries_here", "_law_number", "_law_some", "_law_outputs_here"] (defScope s_law_meaning) := ⟨rfl, rfl, rfl, by decide +kernel, rfl, by decide +kernel, by decide +kernel⟩
abbrev s_law_marked : Stmt := topS 70
abbrev N_law_marked : List PySem.Str := ["_law_entries_here", "_law_number", "_law_other", "_law_some", "_law_outputs_here", "_law_meaning_here"]
theorem sc_law_marked : FnScope N_law_marked ["_law_entries_here", "_law_number", "_law_other", "_law_some", "_law_outputs_here"] (defScope s_law_marked) := ⟨rfl, rfl, rfl, by decide +kernel, rfl, by decide +kernel, by decide +kernel⟩
abbrev s_law_search : Stmt := topS 71
abbrev N_law_search : List PySem.Str := ["_law_entries_here", "_law_pair", "_law_some", "_law_names_here", "_law_most", "_law_several", "_law_first", "_law_kept", "_law_listed", "_law_at", "_law_steps_here", "_law_behind", "_law_k", "_law_part", "_law_taken"]
theorem sc_law_search : FnScope N_law_search ["_law_entries_here", "_law_pair", "_law_some", "_law_names_here", "_law_most"] (defScope s_law_search) := ⟨rfl, rfl, rfl, by decide +kernel, rfl, by decide +kernel, by decide +kernel⟩
abbrev s_law_parted : Stmt := topS 72
abbrev N_law_parted : List PySem.Str := ["_law_store_here", "_law_number", "_law_other"]
theorem sc_law_parted : FnScope N_law_parted ["_law_store_here", "_law_number", "_law_other"] (defScope s_law_parted) := ⟨rfl, rfl, rfl, by decide +kernel, rfl, by decide +kernel, by decide +kernel⟩
abbrev s_law_differs : Stmt := topS 73
abbrev N_law_differs : List PySem.Str := ["_law_store_here", "_law_number", "_law_program_here"]
theorem sc_law_differs : FnScope N_law_differs ["_law_store_here", "_law_number", "_law_program_here"] (defScope s_law_differs) := ⟨rfl, rfl, rfl, by decide +kernel, rfl, by decide +kernel, by decide +kernel⟩
abbrev s_law_due : Stmt := topS 74
abbrev N_law_due : List PySem.Str := ["_law_programs", "_law_found", "_law_messages", "_law_taken"]
theorem sc_law_due : FnScope N_law_due ["_law_programs", "_law_found"] (defScope s_law_due) := ⟨rfl, rfl, rfl, by decide +kernel, rfl, by decide +kernel, by decide +kernel⟩
abbrev s_law_partings_hold : Stmt := topS 75
abbrev N_law_partings_hold : List PySem.Str := ["_law_entries_here", "_law_store_here", "_law_pair", "_law_names_here", "_law_some", "_law_found", "_law_part"]
theorem sc_law_partings_hold : FnScope N_law_partings_hold ["_law_entries_here", "_law_store_here", "_law_pair", "_law_names_here"] (defScope s_law_partings_hold) := ⟨rfl, rfl, rfl, by decide +kernel, rfl, by decide +kernel, by decide +kernel⟩
abbrev s_law_differences_hold : Stmt := topS 76
abbrev N_law_differences_hold : List PySem.Str := ["_law_entries_here", "_law_store_here", "_law_number", "_law_plan_here", "_law_names_here", "_law_some", "_law_more", "_law_found", "_law_part"]
theorem sc_law_differences_hold : FnScope N_law_differences_hold ["_law_entries_here", "_law_store_here", "_law_number", "_law_plan_here", "_law_names_here"] (defScope s_law_differences_hold) := ⟨rfl, rfl, rfl, by decide +kernel, rfl, by decide +kernel, by decide +kernel⟩
abbrev s_law : Stmt := topS 77
abbrev N_law : List PySem.Str := ["_law_script", "_law_names_here", "_law_entries_here", "_law_store_here", "_law_number", "_law_other", "_law_programs", "_law_plan_here", "_law_entry"]
theorem sc_law : FnScope N_law ["_law_script"] (defScope s_law) := ⟨rfl, rfl, rfl, by decide +kernel, rfl, by decide +kernel, by decide +kernel⟩
end MM
end
section
set_option Elab.async false
set_option linter.all false
set_option maxRecDepth 100000
set_option maxHeartbeats 4000000
namespace MM
open PySem PySem.Spec PyProof.Rows L2 NdefX DL
variable {P : Program} {w : World} {K : PySem.W.Frag} {mg : PySem.Str → Option Value} {base : Heap} {T : List NTab}
def posStp (n : Int) (p : Int) (v : Int) : Int ⊕ Out := if n = v then .inr (.rt (.int (p + 1))) else .inl (if v < n then p + 2 else p)
def posOf (n : Int) : List Int → Int → Int
  | [], p => p
  | v :: vs, p => if n = v then p + 1 else posOf n vs (if v < n then p + 2 else p)
theorem posOf_run (n : Int) : ∀ (vs : List Int) (p : Int), runL (posStp n) p vs = .inl (posOf n vs p) ∨ runL (posStp n) p vs = .inr (.rt (.int (posOf n vs p)))
  | [], p => .inl rfl
  | v :: vs, p => by
    rw [runL_cons]
    unfold posStp posOf
    by_cases h : n = v
    · rw [if_pos h, if_pos h]; exact .inr rfl
    · rw [if_neg h, if_neg h]; exact posOf_run n vs _
def R_position_of (ds : List D) (d : D) : Prop := ∃ (n : Int) (ks : List Int), ds = [.int n, .tup (ks.map D.int)] ∧ d = .int (posOf n ks 0)
theorem ok_position_of (F : Dfn K mg "position_of" s_position_of ["number", "kept"]) : Cal P w K mg base T 1 "position_of" ["number", "kept"] R_position_of := by
  refine cal_D F sc_position_of (fun ds d h => ?_) fun f cdv A outer s H G E ds d hr h => ?_
  · obtain ⟨n, ks, rfl, _⟩ := h; rfl
  · obtain ⟨n, ks, rfl, rfl⟩ := h
    refine jss_cons (js_set 2 je_int sc_position_of.nd) ?_
    refine jss_loop rfl (js_forR (xs := ks) (em := D.int) (fun p : Int => [.da (.int n), .da (.tup (ks.map D.int)), .da (.int p), .un]) (posStp n) (fun _ _ => True) 0 PassesOwn.never rfl
      (ji_tup (je_var 1 rfl)) (gok_name 3) (pg_name (i := 3) sc_position_of.nd rfl (.inl rfl)) (fun _ _ => trivial) trivial (fun _ _ _ _ _ _ _ => trivial) (fun p v o h => ?_) (fun k p v hk _ => ?_)) (fun p hp => ?_) (fun o ho => ?_)
    · unfold posStp at h
      split at h
      · cases h; rfl
      · cases h
    · refine jss_ifq (jt_eqI (je_var 0 rfl) (je_var 3 rfl)) (fun hd => ?_) (fun hd => ?_)
      · have e := of_decide_eq_true hd
        have eo : posStp n p v = .inr (.rt (.int (p + 1))) := if_pos e
        rw [eo]
        exact ⟨jss_one (js_ret (je_add (je_var 2 rfl) je_int)), rfl⟩
      · have e := of_decide_eq_false hd
        have eo : posStp n p v = .inl (if v < n then p + 2 else p) := if_neg e
        rw [eo]
        refine jss_one (js_if (jt_gt (je_var 0 rfl) (je_var 3 rfl)) (fun h2 => ?_) (fun h2 => ?_))
        · rw [if_pos (of_decide_eq_true h2)]
          exact jss_weak (.same (.same (.same (.un .nil)))) (jss_one (js_aug 2 rfl je_int sc_position_of.nd))
        · rw [if_neg (of_decide_eq_false h2)]
          exact jss_weak (.same (.same (.same (.un .nil)))) jss_nil
    · rcases posOf_run n ks 0 with e | e
      · rw [e] at hp
        cases hp
        exact jss_one (js_ret (je_var 2 rfl))
      · rw [e] at hp
        cases hp
    · rcases posOf_run n ks 0 with e | e
      · rw [e] at ho
        cases ho
      · rw [e] at ho
        cases ho
        rfl
end MM
end
section
set_option Elab.async false
set_option linter.all false
set_option maxRecDepth 100000
set_option maxHeartbeats 4000000
namespace MM
open PySem PySem.Spec PyProof.Rows L2 NdefX DL
variable {P : Program} {w : World} {K : PySem.W.Frag} {mg : PySem.Str → Option Value} {base : Heap} {T : List NTab}
abbrev St := PySem.Str
/-! ### data -/
def gi {α : Type} [Inhabited α] (xs : List α) (i : Int) : α := xs.getD i.toNat default
theorem gi_nat {α : Type} [Inhabited α] {xs : List α} {k : Nat} {x : α} (h : xs[k]? = some x) : gi xs (k : Int) = x := by
  unfold gi
  rw [Int.toNat_natCast, List.getD_eq_getElem?_getD, h]
  rfl
theorem atI_nat {α : Type} {xs : List α} {k : Nat} {x : α} (h : xs[k]? = some x) : L2.atI xs (k : Int) = some x := by
  have hl := (List.getElem?_eq_some_iff.mp h).1
  unfold L2.atI ixN
  rw [if_pos (Int.natCast_nonneg k), if_pos (Int.ofNat_lt.mpr hl)]
  show xs[(k : Int).toNat]? = _
  rw [Int.toNat_natCast, h]
theorem atI_gi {α β : Type} [Inhabited α] {xs : List α} {em : α → β} {i : Int} (h0 : 0 ≤ i) (h1 : i < xs.length) : L2.atI (xs.map em) i = some (em (gi xs i)) := by
  obtain ⟨k, rfl⟩ : ∃ k : Nat, i = k := ⟨i.toNat, by omega⟩
  have hk : k < xs.length := by omega
  have hx := List.getElem?_eq_getElem hk
  rw [gi_nat hx]
  exact atI_nat (by rw [List.getElem?_map, hx]; rfl)
structure Rl where
  st : Int
  nm : Int
  ps : Int
  tg : Int
  pk : List Int
  out : List (Int × St × Int)
  deriving Inhabited
structure Pg where
  names : List St
  chans : List (St × List St)
  states : List (St × Int)
  rules : List Rl
  deriving Inhabited
abbrev Conf := Int × List Int
abbrev Msg := St × Int
abbrev O3 := St × St × Int
def dI (xs : List Int) : D := .tup (xs.map D.int)
def dO (o : Int × St × Int) : D := .tup [.int o.1, .str o.2.1, .int o.2.2]
def dRl (r : Rl) : D := .tup [.int r.st, .int r.nm, .int r.ps, .int r.tg, dI r.pk, .tup (r.out.map dO)]
def dCh (c : St × List St) : D := .tup [.str c.1, .tup (c.2.map D.str)]
def dSt (s : St × Int) : D := .tup [.str s.1, .int s.2]
def dCf (c : Conf) : D := .tup [.int c.1, dI c.2]
def dMs (m : Msg) : D := .tup [.str m.1, .int m.2]
def dO3 (o : O3) : D := .tup [.str o.1, .str o.2.1, .int o.2.2]
def dOu (o : List O3) : D := .tup (o.map dO3)
def dSp (s : List Conf) : D := .tup (s.map dCf)
def dPg (CP : Addr) (p : Pg) : D := .ins CP ["names", "channels", "states", "rules"] [.ptup (p.names.map D.str), .tup (p.chans.map dCh), .tup (p.states.map dSt), .tup (p.rules.map dRl)]
/-- what the module knows of the class Program -/
structure PgC (K : PySem.W.Frag) (mg : PySem.Str → Option Value) (CP : Addr) : Prop where
  own : OwnC K CP
  mgp : mg "Program" = some (.ref CP)
  a1 : NoAttr K CP "names"
  a2 : NoAttr K CP "channels"
  a3 : NoAttr K CP "states"
  a4 : NoAttr K CP "rules"
  kt : PySem.W.kitOne K (.type "tuple") (.ref CP) = some false
  kp : PySem.W.kitOne K (.ref CP) (.ref CP) = some true
section
variable {X : Cx} {B : Bs} {ρ : List Sl} {e : Expr} {pos : Pos} {CP : Addr} {p : Pg}
theorem je_names (C : PgC X.K X.mg CP) (h : PE X e (tD X.K B ρ (dPg CP p))) (hb : attributeBase e "names" X.env (eval e X.env) = eval e X.env := by rfl) : PE X (.Attribute e "names" pos) (tD X.K B ρ (.ptup (p.names.map D.str))) := je_fld C.own.cls C.a1 h rfl hb
theorem je_chans (C : PgC X.K X.mg CP) (h : PE X e (tD X.K B ρ (dPg CP p))) (hb : attributeBase e "channels" X.env (eval e X.env) = eval e X.env := by rfl) : PE X (.Attribute e "channels" pos) (tD X.K B ρ (.tup (p.chans.map dCh))) := je_fld C.own.cls C.a2 h rfl hb
theorem je_states (C : PgC X.K X.mg CP) (h : PE X e (tD X.K B ρ (dPg CP p))) (hb : attributeBase e "states" X.env (eval e X.env) = eval e X.env := by rfl) : PE X (.Attribute e "states" pos) (tD X.K B ρ (.tup (p.states.map dSt))) := je_fld C.own.cls C.a3 h rfl hb
theorem je_rules (C : PgC X.K X.mg CP) (h : PE X e (tD X.K B ρ (dPg CP p))) (hb : attributeBase e "rules" X.env (eval e X.env) = eval e X.env := by rfl) : PE X (.Attribute e "rules" pos) (tD X.K B ρ (.tup (p.rules.map dRl))) := je_fld C.own.cls C.a4 h rfl hb
end

/-! ### face, start, candidates -/
def dFace (p : Pg) : D := .tup [.ptup (p.names.map D.str), .tup (p.chans.map dCh)]
def R_face (CP : Addr) (ds : List D) (d : D) : Prop := ∃ p, ds = [dPg CP p] ∧ d = dFace p
theorem ok_face {CP : Addr} (C : PgC K mg CP) (F : Dfn K mg "face" s_face ["program"]) : Cal P w K mg base T 1 "face" ["program"] (R_face CP) := by
  refine cal_D F sc_face (fun ds d h => ?_) fun f cdv A outer s H G E ds d hr h => ?_
  · obtain ⟨p, rfl, _⟩ := h; rfl
  · obtain ⟨p, rfl, rfl⟩ := h
    exact jss_one (js_ret (je_tp (ja_cons (je_names C (je_var 0 rfl)) (ja_one (je_chans C (je_var 0 rfl))))))
def R_start (ds : List D) (d : D) : Prop := ∃ p, ds = [p] ∧ d = dCf (0, [])
theorem ok_start (F : Dfn K mg "start" s_start ["program"]) : Cal P w K mg base T 1 "start" ["program"] R_start := by
  refine cal_D F sc_start (fun ds d h => ?_) fun f cdv A outer s H G E ds d hr h => ?_
  · obtain ⟨p, rfl, _⟩ := h; rfl
  · obtain ⟨p, rfl, rfl⟩ := h
    exact jss_one (js_ret (je_tp (ja_cons je_int (ja_one (je_tp ja_nil)))))
def cands (ks : List Int) (n : Int) : List Int := if n ∈ ks then ks else srt (ks ++ [n])
def R_candidates (ds : List D) (d : D) : Prop := ∃ (ks : List Int) (n : Int), ks.length < 1000 ∧ ds = [dI ks, .int n] ∧ d = .lst ((cands ks n).map D.int)
theorem ok_candidates (Bl : Blt mg) (F : Dfn K mg "candidates" s_candidates ["kept", "number"]) : Cal P w K mg base T 1 "candidates" ["kept", "number"] R_candidates := by
  refine cal_D F sc_candidates (fun ds d h => ?_) fun f cdv A outer s H G E ds d hr h => ?_
  · obtain ⟨ks, n, _, rfl, _⟩ := h; rfl
  · obtain ⟨ks, n, hz, rfl, rfl⟩ := h
    refine jss_ifr rfl (jt_inT (ns := ks) (je_var 1 rfl) (je_var 0 rfl)) (fun hd => ?_) (fun hd => ?_)
    · have hk : cands ks n = ks := if_pos (of_decide_eq_true hd)
      rw [hk]
      exact jss_one (js_ret (je_listT rfl Bl.list (PE_r (je_var 0 rfl))))
    · have hk : cands ks n = srt (ks ++ [n]) := if_neg (of_decide_eq_false hd)
      rw [hk]
      refine jss_one (js_ret (je_sortedI rfl Bl.sorted (PE_r (PE_eq (je_catL (xs := ks.map D.int) (ys := [.int n]) (by rw [List.length_map]; show ks.length + 1 ≤ 2 ^ 24; omega) (PE_r (je_listT rfl Bl.list (PE_r (je_var 0 rfl)))) (PE_r (je_ls (ja_one (je_var 1 rfl))))) ?_))))
      rw [List.map_append]
      rfl

/-! ### rule_of -/
def offs (p : Pg) (s : Nat) : Int := (List.range s).foldl (fun (a : Int) (i : Nat) => a + p.names.length * (2 * (gi p.states (i : Int)).2 + 1)) 0
def ruleIx (p : Pg) (s : Nat) (nm ps : Int) : Int := offs p s + nm * (2 * (gi p.states (s : Int)).2 + 1) + ps
/-- small programs -/
structure Sml (p : Pg) : Prop where
  n : p.names.length < 1000
  s : p.states.length < 1000
  k : ∀ q ∈ p.states, 0 ≤ q.2 ∧ q.2 < 1000
def R_rule_of (CP : Addr) (ds : List D) (d : D) : Prop := ∃ (p : Pg) (s : Nat) (nm ps : Int), Sml p ∧ s < p.states.length ∧ 0 ≤ nm ∧ nm < 1000 ∧ 0 ≤ ruleIx p s nm ps ∧ ruleIx p s nm ps < p.rules.length ∧
  ds = [dPg CP p, .int (s : Int), .int nm, .int ps] ∧ d = dRl (gi p.rules (ruleIx p s nm ps))
theorem cmul {i j : Int} (h3 : 0 ≤ j) (h4 : j < 2 ^ 20) : CMul i j := .inr ⟨by omega, by omega⟩
theorem cmull {i j : Int} (h3 : 0 ≤ i) (h4 : i < 2 ^ 20) : CMul i j := .inl ⟨by omega, by omega⟩
theorem Sml.at_ {p : Pg} (S : Sml p) {i : Int} (h0 : 0 ≤ i) (h1 : i < p.states.length) : 0 ≤ (gi p.states i).2 ∧ (gi p.states i).2 < 1000 := by
  obtain ⟨k, rfl⟩ : ∃ k : Nat, i = k := ⟨i.toNat, by omega⟩
  have hk : k < p.states.length := by omega
  rw [gi_nat (List.getElem?_eq_getElem hk)]
  exact S.k _ (List.getElem_mem hk)
theorem map_range (n : Nat) : rngD n = (List.range n).map fun i : Nat => D.int (i : Int) := rfl
theorem ok_rule_of {CP : Addr} (Bl : Blt mg) (C : PgC K mg CP) (F : Dfn K mg "rule_of" s_rule_of ["program", "state", "name", "position"]) : Cal P w K mg base T 1 "rule_of" ["program", "state", "name", "position"] (R_rule_of CP) := by
  refine cal_D F sc_rule_of (fun ds d h => ?_) fun f cdv A outer s H G E ds d hr h => ?_
  · obtain ⟨p, s, nm, ps, _, _, _, _, _, _, rfl, _⟩ := h; rfl
  · obtain ⟨p, st, nm, ps, S, hs, n0, n1, r0, r1, rfl, rfl⟩ := h
    have hst : (st : Int) < p.states.length := Int.ofNat_lt.mpr hs
    obtain ⟨k0, k1⟩ := S.at_ (Int.natCast_nonneg st) hst
    have sn := S.n
    have ss := S.s
    refine jss_cons (js_set 4 je_int sc_rule_of.nd) ?_
    refine jss_cons (js_forF (xs := List.range st) (em := fun i : Nat => D.int (i : Int)) (fun z : Int => [.da (dPg CP p), .da (.int (st : Int)), .da (.int nm), .da (.int ps), .da (.int z), .un]) (fun (a : Int) (i : Nat) => a + p.names.length * (2 * (gi p.states (i : Int)).2 + 1)) (fun _ _ => True) 0 PassesOwn.never rfl
      (ji_range (by omega) rfl Bl.range (je_var 1 rfl)) (gok_name 5) (pg_name (i := 5) sc_rule_of.nd rfl (.inl rfl)) (fun _ _ => trivial) trivial (fun _ _ _ _ _ => trivial) (fun k z i hk _ => ?_)) ?_
    · have hi : i < st := List.mem_range.mp (List.mem_of_getElem? hk)
      have hil : (i : Int) < p.states.length := by omega
      obtain ⟨q0, q1⟩ := S.at_ (Int.natCast_nonneg i) hil
      refine jss_weak (.same (.same (.same (.same (.same (.un .nil)))))) (jss_one (js_aug 4 rfl (je_mul (cmul (by omega) (by omega)) (PE_eq (je_lenP rfl Bl.len (je_names C (je_var 0 rfl))) (by rw [List.length_map])) ?_) sc_rule_of.nd))
      exact je_add (je_mul (cmul q0 (by omega)) je_int (je_ixT (d := .int (gi p.states i).2) (xs := [.str (gi p.states i).1, .int (gi p.states i).2]) (je_ixT (je_states C (je_var 0 rfl)) (je_var 5 rfl) (atI_gi (Int.natCast_nonneg i) hil)) je_int rfl)) je_int
    · refine jss_one (js_ret (je_ixT (je_rules C (je_var 0 rfl)) (je_add (je_add (je_var 4 rfl) (je_mul (cmull n0 (by omega)) (je_var 2 rfl) ?_)) (je_var 3 rfl)) (atI_gi r0 r1)))
      exact je_add (je_mul (cmul k0 (by omega)) je_int (je_ixT (d := .int (gi p.states (st : Int)).2) (xs := [.str (gi p.states (st : Int)).1, .int (gi p.states (st : Int)).2]) (je_ixT (je_states C (je_var 0 rfl)) (je_var 1 rfl) (atI_gi (Int.natCast_nonneg st) hst)) je_int rfl)) je_int
end MM
end
section
set_option Elab.async false
set_option linter.all false
set_option maxRecDepth 100000
set_option maxHeartbeats 4000000
namespace MM
open PySem PySem.Spec PyProof.Rows L2 NdefX DL
variable {P : Program} {w : World} {K : PySem.W.Frag} {mg : PySem.Str → Option Value} {base : Heap} {T : List NTab}
section
variable {X : Cx} {pos p1 p2 p3 : Pos} {k : Nat}
theorem pgT2 (i j : Nat) {x y : St} (hc : X.calm = true) (hN : X.N.Nodup) (h1 : X.N[i]? = some x := by rfl) (h2 : X.N[j]? = some y := by rfl) (l1 : Loc X.env.scope x := by first | exact Or.inl rfl | exact Or.inr rfl) (l2 : Loc X.env.scope y := by first | exact Or.inl rfl | exact Or.inr rfl)
    (f1 : X.fn x = true ∨ X.env.scope.names.lookup x = some .local := by first | exact .inl rfl | exact .inr rfl) (f2 : X.fn y = true ∨ X.env.scope.names.lookup y = some .local := by first | exact .inl rfl | exact .inr rfl)
    (hs1 : (assignEach [.Name x p1, .Name y p2] X.env).map (·.2) = assign (.Name x p1) X.env :: (assignEach [.Name y p2] X.env).map (·.2) := by rfl) (hs2 : (assignEach [.Name y p2] X.env).map (·.2) = assign (.Name y p2) X.env :: (assignEach [] X.env).map (·.2) := by rfl)
    (hn : (assignEach [.Name x p1, .Name y p2] X.env).length = 2 := by rfl) (hst : (assignEach [.Name x p1, .Name y p2] X.env).findIdx? (·.1) = none := by rfl) : PG X (.Tuple [.Name x p1, .Name y p2] k pos) (gTup X.K [i, j].length (gNs [i, j])) :=
  pg_tup hc (pgs_cons (pg_name hN h1 l1 f1) (pgs_cons (pg_name hN h2 l2 f2) pgs_nil hs2) hs1) hn hst
theorem pgT3 (i j l : Nat) {x y z : St} (hc : X.calm = true) (hN : X.N.Nodup) (h1 : X.N[i]? = some x := by rfl) (h2 : X.N[j]? = some y := by rfl) (h3 : X.N[l]? = some z := by rfl) (l1 : Loc X.env.scope x := by first | exact Or.inl rfl | exact Or.inr rfl) (l2 : Loc X.env.scope y := by first | exact Or.inl rfl | exact Or.inr rfl) (l3 : Loc X.env.scope z := by first | exact Or.inl rfl | exact Or.inr rfl)
    (f1 : X.fn x = true ∨ X.env.scope.names.lookup x = some .local := by first | exact .inl rfl | exact .inr rfl) (f2 : X.fn y = true ∨ X.env.scope.names.lookup y = some .local := by first | exact .inl rfl | exact .inr rfl) (f3 : X.fn z = true ∨ X.env.scope.names.lookup z = some .local := by first | exact .inl rfl | exact .inr rfl)
    (hs1 : (assignEach [.Name x p1, .Name y p2, .Name z p3] X.env).map (·.2) = assign (.Name x p1) X.env :: (assignEach [.Name y p2, .Name z p3] X.env).map (·.2) := by rfl) (hs2 : (assignEach [.Name y p2, .Name z p3] X.env).map (·.2) = assign (.Name y p2) X.env :: (assignEach [.Name z p3] X.env).map (·.2) := by rfl) (hs3 : (assignEach [.Name z p3] X.env).map (·.2) = assign (.Name z p3) X.env :: (assignEach [] X.env).map (·.2) := by rfl)
    (hn : (assignEach [.Name x p1, .Name y p2, .Name z p3] X.env).length = 3 := by rfl) (hst : (assignEach [.Name x p1, .Name y p2, .Name z p3] X.env).findIdx? (·.1) = none := by rfl) : PG X (.Tuple [.Name x p1, .Name y p2, .Name z p3] k pos) (gTup X.K [i, j, l].length (gNs [i, j, l])) :=
  pg_tup hc (pgs_cons (pg_name hN h1 l1 f1) (pgs_cons (pg_name hN h2 l2 f2) (pgs_cons (pg_name hN h3 l3 f3) pgs_nil hs3) hs2) hs1) hn hst
end
/-! ### step -/
def nix : List St → St → Nat
  | [], _ => 0
  | x :: xs, y => if x = y then 0 else nix xs y + 1
theorem nix_at : ∀ {xs : List St} {y : St}, y ∈ xs → xs[nix xs y]? = some y
  | x :: xs, y, h => by
    unfold nix
    by_cases e : x = y
    · rw [if_pos e]; simp [e]
    · rw [if_neg e]
      have := nix_at (xs := xs) (y := y) (by rcases List.mem_cons.mp h with z | z; exact absurd z.symm e; exact z)
      simpa using this
theorem nix_no : ∀ {xs : List St} {y : St} (m : Nat), m < nix xs y → xs[m]? ≠ some y
  | [], y, m, h => by unfold nix at h; omega
  | x :: xs, y, m, h => by
    unfold nix at h
    by_cases e : x = y
    · rw [if_pos e] at h; omega
    · rw [if_neg e] at h
      cases m with
      | zero => simpa using e
      | succ m => simpa using nix_no (xs := xs) (y := y) m (by omega)
theorem nix_lt {xs : List St} {y : St} (h : y ∈ xs) : nix xs y < xs.length := (List.getElem?_eq_some_iff.mp (nix_at h)).1
def rix (p : Pg) (c : Conf) (m : Msg) : Int := ruleIx p c.1.toNat (nix p.names m.1 : Int) (posOf m.2 c.2 0)
def rlOf (p : Pg) (c : Conf) (m : Msg) : Rl := gi p.rules (rix p c m)
def stepO (p : Pg) (kn : List Int) (r : Rl) : List O3 := r.out.map fun o => ((gi p.chans o.1).1, o.2.1, gi kn o.2.2)
def stepV (p : Pg) (c : Conf) (m : Msg) : Conf × List O3 := (((rlOf p c m).tg, (rlOf p c m).pk.map (gi (cands c.2 m.2))), stepO p (cands c.2 m.2) (rlOf p c m))
structure StepOk (p : Pg) (c : Conf) (m : Msg) : Prop where
  sm : Sml p
  nm : m.1 ∈ p.names
  s0 : 0 ≤ c.1
  s1 : c.1 < p.states.length
  kl : c.2.length < 1000
  r0 : 0 ≤ rix p c m
  r1 : rix p c m < p.rules.length
  pl : (rlOf p c m).pk.length < 1000
  ol : (rlOf p c m).out.length < 1000
  pk : ∀ i ∈ (rlOf p c m).pk, 0 ≤ i ∧ i < (cands c.2 m.2).length
  out : ∀ o ∈ (rlOf p c m).out, (0 ≤ o.1 ∧ o.1 < p.chans.length) ∧ 0 ≤ o.2.2 ∧ o.2.2 < (cands c.2 m.2).length
def dRes (r : Conf × List O3) : D := .tup [dCf r.1, dOu r.2]
def R_step (CP : Addr) (ds : List D) (d : D) : Prop := ∃ (p : Pg) (c : Conf) (m : Msg), StepOk p c m ∧ ds = [dPg CP p, dCf c, dMs m] ∧ d = dRes (stepV p c m)
theorem sz24 {n : Nat} (h : n < 1000) : n ≤ sizeLine := by show n ≤ 2 ^ 24; omega
theorem ok_step {CP : Addr} (Bl : Blt mg) (C : PgC K mg CP) (F : Dfn K mg "step" s_step ["program", "configuration", "message"]) (c1 : Cal P w K mg base T 1 "rule_of" ["program", "state", "name", "position"] (R_rule_of CP)) (c2 : Cal P w K mg base T 1 "position_of" ["number", "kept"] R_position_of)
    (c3 : Cal P w K mg base T 1 "candidates" ["kept", "number"] R_candidates) : Cal P w K mg base T 2 "step" ["program", "configuration", "message"] (R_step CP) := by
  refine cal_D F sc_step (fun ds d h => ?_) fun f cdv A outer s H G E ds d hr h => ?_
  · obtain ⟨p, c, m, _, rfl, _⟩ := h; rfl
  · obtain ⟨p, c, m, S, rfl, rfl⟩ := h
    obtain ⟨st, ks⟩ := c
    obtain ⟨nm, nu⟩ := m
    refine jss_cons (js_asg (gok_tup [3, 4]) ⟨_, rfl, rfl⟩ (je_var 1 rfl) (pgT2 3 4 rfl sc_step.nd)) ?_
    refine jss_cons (js_asg (gok_tup [5, 6]) ⟨_, rfl, rfl⟩ (je_var 2 rfl) (pgT2 5 6 rfl sc_step.nd)) ?_
    have s0 := S.s0
    have s1 := S.s1
    have est : ((st.toNat : Nat) : Int) = st := Int.toNat_of_nonneg s0
    have hnl := nix_lt S.nm
    have sn := S.sm.n
    have hR : R_rule_of CP [dPg CP p, .int st, .int (nix p.names nm : Int), .int (posOf nu ks 0)] (dRl (rlOf p (st, ks) (nm, nu))) := ⟨p, st.toNat, _, _, S.sm, by omega, by omega, by omega, S.r0, S.r1, by rw [est], rfl⟩
    refine jss_cons (js_set 7 (je_fn c1 hr (by decide) rfl hR (ja_cons (je_var 0 rfl) (ja_cons (je_var 3 rfl) (ja_cons (je_indexS (je_names C (je_var 0 rfl)) (je_var 5 rfl) (nix_at S.nm) nix_no) (ja_one (je_fn c2 hr (by decide) rfl ⟨nu, ks, rfl, rfl⟩ (ja_cons (je_var 6 rfl) (ja_one (je_var 4 rfl))))))))) sc_step.nd) ?_
    refine jss_cons (js_set 8 (je_fn c3 hr (by decide) rfl ⟨ks, nu, S.kl, rfl, rfl⟩ (ja_cons (je_var 4 rfl) (ja_one (je_var 6 rfl)))) sc_step.nd) ?_
    refine jss_cons (js_setL 9 (Nat.zero_le _) ja_nil sc_step.nd) ?_
    generalize hr' : rlOf p (st, ks) (nm, nu) = r at *
    have So : ∀ o ∈ r.out, (0 ≤ o.1 ∧ o.1 < p.chans.length) ∧ 0 ≤ o.2.2 ∧ o.2.2 < (cands ks nu).length := by rw [← hr']; exact S.out
    have Sp : ∀ i ∈ r.pk, 0 ≤ i ∧ i < (cands ks nu).length := by rw [← hr']; exact S.pk
    have ol : r.out.length < 1000 := by rw [← hr']; exact S.ol
    have pl : r.pk.length < 1000 := by rw [← hr']; exact S.pl
    refine jss_cons (js_forF (xs := r.out) (em := dO) (fun z : List O3 => [.da (dPg CP p), .da (dCf (st, ks)), .da (dMs (nm, nu)), .da (.int st), .da (dI ks), .da (.str nm), .da (.int nu), .da (dRl r), .da (.lst ((cands ks nu).map D.int)), .ow (lstK K (z.map dO3)), .un, .un, .un])
      (fun z o => z ++ [((gi p.chans o.1).1, o.2.1, gi (cands ks nu) o.2.2)]) (fun k z => z.length = k) [] PassesOwn.never rfl
      (ji_tup (je_ixT (je_var 7 rfl) je_int rfl)) (gok_tup [10, 11, 12]) (pgT3 10 11 12 rfl sc_step.nd) (fun o _ => ⟨_, rfl, rfl⟩) rfl (fun k z x hx hz => by rw [List.length_append, hz]; rfl) (fun k z o hk hz => ?_)) ?_
    · obtain ⟨⟨a0, a1⟩, b0, b1⟩ := So o (List.mem_of_getElem? hk)
      have hkl := (List.getElem?_eq_some_iff.mp hk).1
      obtain ⟨ch, sg, sr⟩ := o
      have e : (z ++ [((gi p.chans ch).1, sg, gi (cands ks nu) sr)]).map dO3 = z.map dO3 ++ [dO3 ((gi p.chans ch).1, sg, gi (cands ks nu) sr)] := by rw [List.map_append]; rfl
      show PSs _ _ (tS _ _ _ _ (.nx [_, _, _, _, _, _, _, _, _, .ow (lstK K ((z ++ [((gi p.chans ch).1, sg, gi (cands ks nu) sr)]).map dO3)), _, _, _]))
      rw [e]
      refine jss_weak (.same (.same (.same (.same (.same (.same (.same (.same (.same (.same (.un (.un (.un .nil))))))))))))) (jss_one (js_app 9 rfl ?_ ?_))
      · rw [List.length_map]
        show z.length < 2 ^ 24
        omega
      · exact je_tp (ja_cons (je_ixT (d := .str (gi p.chans ch).1) (xs := [.str (gi p.chans ch).1, .tup ((gi p.chans ch).2.map D.str)]) (je_ixT (je_chans C (je_var 0 rfl)) (je_var 10 rfl) (atI_gi a0 a1)) je_int rfl) (ja_cons (je_var 11 rfl) (ja_one (je_ixL (PE_r (je_var 8 rfl)) (je_var 12 rfl) (atI_gi b0 b1)))))
    · have ef : ∀ (os : List (Int × St × Int)) (z : List O3), os.foldl (fun z o => z ++ [((gi p.chans o.1).1, o.2.1, gi (cands ks nu) o.2.2)]) z = z ++ os.map fun o => ((gi p.chans o.1).1, o.2.1, gi (cands ks nu) o.2.2) := by
        intro os
        induction os with
        | nil => intro z; simp
        | cons o os ih => intro z; rw [List.foldl_cons, ih, List.map_cons, List.append_assoc]; rfl
      rw [ef]
      refine jss_one (js_ret (PE_eq (je_tp (ja_cons (je_tp (ja_cons (je_ixT (je_var 7 rfl) je_int rfl) (ja_one (je_tupL rfl Bl.tuple (PE_r (je_lc0 (xs := r.pk) (em := D.int) (own := [("source", 12)]) (fun i => D.int (gi (cands ks nu) i)) rfl sc_step.nd (ji_tup (je_ixT (je_var 7 rfl) je_int rfl)) (blkOk_by (N := N_step) (sc := defScope s_step) (by decide +kernel)) (gok_name 12) (by simp) (fun _ _ => trivial) (sz24 pl)
        (fun s H C cl fp => pg_name (i := 12) sc_step.nd rfl (.inl rfl)) (fun k i hk s H C cl fp => je_ixL (PE_r (je_var 8 rfl)) (je_var 12 rfl) (atI_gi (Sp i (List.mem_of_getElem? hk)).1 (Sp i (List.mem_of_getElem? hk)).2)))))))) (ja_one (je_tupL rfl Bl.tuple (jr_own 9 rfl))))) ?_))
      unfold stepV dRes dCf dI
      rw [hr', List.map_map]
      rfl
end MM
end
section
set_option Elab.async false
set_option linter.all false
set_option maxRecDepth 100000
set_option maxHeartbeats 4000000
namespace MM
open PySem PySem.Spec PyProof.Rows L2 NdefX DL
variable {P : Program} {w : World} {K : PySem.W.Frag} {mg : PySem.Str → Option Value} {base : Heap} {T : List NTab}
/-! ### run -/
def runF (p : Pg) (z : Conf × List (List O3)) (m : Msg) : Conf × List (List O3) := ((stepV p z.1 m).1, z.2 ++ [(stepV p z.1 m).2])
def runV (p : Pg) (ms : List Msg) : Conf × List (List O3) := ms.foldl (runF p) ((0, []), [])
structure RunOk (p : Pg) (ms : List Msg) : Prop where
  l : ms.length < 1000
  ok : ∀ (k : Nat) (m : Msg), ms[k]? = some m → StepOk p (runV p (ms.take k)).1 m
theorem foldl_inv {S α : Type} {f : S → α → S} {z0 : S} {xs : List α} {k : Nat} {x : α} (h : xs[k]? = some x) {z : S} (hz : z = (xs.take k).foldl f z0) : f z x = (xs.take (k + 1)).foldl f z0 := by rw [foldl_take h, hz]
def R_run (CP : Addr) (ds : List D) (d : D) : Prop := ∃ (p : Pg) (ms : List Msg), RunOk p ms ∧ ds = [dPg CP p, .lst (ms.map dMs)] ∧ d = .tup [dCf (runV p ms).1, .lst ((runV p ms).2.map dOu)]
theorem ok_run {CP : Addr} (F : Dfn K mg "run" s_run ["program", "messages"]) (c1 : Cal P w K mg base T 1 "start" ["program"] R_start) (c2 : Cal P w K mg base T 2 "step" ["program", "configuration", "message"] (R_step CP)) : Cal P w K mg base T 3 "run" ["program", "messages"] (R_run CP) := by
  refine cal_D F sc_run (fun ds d h => ?_) fun f cdv A outer s H G E ds d hr h => ?_
  · obtain ⟨p, ms, _, rfl, _⟩ := h; rfl
  · obtain ⟨p, ms, S, rfl, rfl⟩ := h
    have hl := S.l
    refine jss_cons (js_set 2 (je_fn c1 hr (by decide) rfl ⟨_, rfl, rfl⟩ (ja_one (je_var 0 rfl))) sc_run.nd) ?_
    refine jss_cons (js_setL 3 (Nat.zero_le _) ja_nil sc_run.nd) ?_
    refine jss_cons (js_forF (xs := ms) (em := dMs) (fun z : Conf × List (List O3) => [.da (dPg CP p), .da (.lst (ms.map dMs)), .da (dCf z.1), .ow (lstK K (z.2.map dOu)), .un, .un]) (runF p) (fun k z => z = runV p (ms.take k) ∧ z.2.length = k) ((0, []), []) PassesOwn.never rfl
      (ji_list (je_var 1 rfl)) (gok_name 4) (pg_name (i := 4) sc_run.nd rfl (.inl rfl)) (fun _ _ => trivial) ⟨rfl, rfl⟩ (fun k z x hx ⟨h1, h2⟩ => ⟨foldl_inv hx h1, by unfold runF; rw [List.length_append, h2]; rfl⟩) (fun k z m hk ⟨h1, h2⟩ => ?_)) ?_
    · have so : StepOk p z.1 m := by rw [h1]; exact S.ok k m hk
      have hkl := (List.getElem?_eq_some_iff.mp hk).1
      refine jss_cons (js_asg (gok_tup [2, 5]) ⟨_, rfl, rfl⟩ (je_fn c2 hr (by decide) rfl ⟨p, z.1, m, so, rfl, rfl⟩ (ja_cons (je_var 0 rfl) (ja_cons (je_var 2 rfl) (ja_one (je_var 4 rfl))))) (pgT2 2 5 rfl sc_run.nd)) ?_
      have e : (runF p z m).2.map dOu = z.2.map dOu ++ [dOu (stepV p z.1 m).2] := by unfold runF; rw [List.map_append]; rfl
      show PSs _ _ (tS _ _ _ _ (.nx [_, _, _, .ow (lstK K ((runF p z m).2.map dOu)), _, _]))
      rw [e]
      refine jss_weak (.same (.same (.same (.same (.un (.un .nil)))))) (jss_one (js_app 3 rfl ?_ (je_var 5 rfl)))
      rw [List.length_map]
      show z.2.length < 2 ^ 24
      omega
    · refine jss_freeze 3 rfl ?_
      exact jss_one (js_ret (je_tp (ja_cons (je_var 2 rfl) (ja_one (je_var 3 rfl)))))

/-! ### ranks -/
def rk (ns : List Int) (n : Int) : Int := (((asc ns).filter fun m => decide (m < n)).length : Int)
def ranksV (ns : List Int) : List Int := ns.map (rk ns)
theorem less_at : ∀ {L : List Int} {k : Nat} {x : Int}, L.Pairwise (· < ·) → L[k]? = some x → (L.filter fun m => decide (m < x)).length = k
  | [], _, _, _, h => by simp at h
  | y :: L, 0, x, hp, h => by
    simp at h
    subst h
    have : ((y :: L).filter fun m => decide (m < y)) = [] := by
      rw [List.filter_eq_nil_iff]
      intro a ha
      rcases List.mem_cons.mp ha with rfl | ha
      · simp
      · have := List.rel_of_pairwise_cons hp ha
        simp; omega
    rw [this]; rfl
  | y :: L, k + 1, x, hp, h => by
    have h' : L[k]? = some x := by simpa using h
    have hy : y < x := List.rel_of_pairwise_cons hp (List.mem_of_getElem? h')
    rw [List.filter_cons, if_pos (by simpa using hy), List.length_cons, less_at (List.pairwise_cons.mp hp).2 h']
theorem enumD_map {α : Type} (xs : List α) (em : α → D) : enumD (xs.map em) = xs.zipIdx.map fun p => D.tup [.int (p.2 : Int), em p.1] := by
  unfold enumD
  rw [List.zipIdx_map, List.map_map]
  rfl
theorem mem_zipIdx {α : Type} {xs : List α} {q : α × Nat} (h : q ∈ xs.zipIdx) : xs[q.2]? = some q.1 := by
  obtain ⟨k, hk⟩ := List.mem_iff_getElem?.mp h
  rw [List.getElem?_zipIdx] at hk
  cases e : xs[k]? with
  | none => rw [e] at hk; cases hk
  | some x =>
    rw [e] at hk
    cases hk
    simpa using e
theorem zipIdx_fst {α : Type} (xs : List α) : xs.zipIdx.map (·.1) = xs := by rw [List.zipIdx_map_fst]
def R_ranks (ds : List D) (d : D) : Prop := ∃ ns : List Int, ns.length < 64 ∧ ds = [.lst (ns.map D.int)] ∧ d = .lst ((ranksV ns).map D.int)
def rkK (ns : List Int) : Key → D
  | .inl n => .int (rk ns n)
  | .inr _ => .non
theorem ok_ranks (Bl : Blt mg) (F : Dfn K mg "ranks" s_ranks ["numbers"]) : Cal P w K mg base T 1 "ranks" ["numbers"] R_ranks := by
  refine cal_D F sc_ranks (fun ds d h => ?_) fun f cdv A outer s H G E ds d hr h => ?_
  · obtain ⟨ns, _, rfl, _⟩ := h; rfl
  · obtain ⟨ns, hl, rfl, rfl⟩ := h
    have al := asc_len_le ns
    have hF : ∀ x ∈ (asc ns).zipIdx, (fun x : Int × Nat => D.int (x.2 : Int)) x = rkK ns (Sum.inl x.1) := fun x hx => by
      show D.int (x.2 : Int) = .int (rk ns x.1)
      unfold rk
      rw [less_at (asc_pw ns) (mem_zipIdx hx)]
    refine jss_cons (js_set 1 (je_dc (xs := (asc ns).zipIdx) (em := fun p : Int × Nat => D.tup [.int (p.2 : Int), .int p.1]) (own := [("k", 2), ("number", 3)]) (fun p => p.1) (fun p => .int (p.2 : Int)) rfl sc_ranks.nd ?_ (blkOk_by (N := N_ranks) (sc := defScope s_ranks) (by decide +kernel)) (gok_tup [2, 3]) (by simp) (fun _ _ => ⟨_, rfl, rfl⟩) (by rw [List.length_zipIdx]; exact sz24 (by omega))
      (fun s H C cl fp => pgT2 2 3 rfl sc_ranks.nd) (fun k x hk s H C cl fp => je_var 3 rfl) (fun k x hk s H C cl fp => je_var 2 rfl)) sc_ranks.nd) ?_
    · rw [← enumD_map (asc ns) D.int]
      exact ji_enum rfl Bl.enumerate (je_sortedSet rfl (by omega) rfl Bl.sorted (pe_mono (je_sc (xs := ns) (em := D.int) (own := [("number", 3)]) (fun n => n) rfl sc_ranks.nd (ji_list (je_var 0 rfl)) (blkOk_by (N := N_ranks) (sc := defScope s_ranks) (by decide +kernel)) (gok_name 3) (by simp) (fun _ _ => trivial) (by omega)
        (fun s H C cl fp => pg_name (i := 3) sc_ranks.nd rfl (.inl rfl)) (fun k x hk s H C cl fp => je_var 3 rfl)) fun σ H Q h => by rw [List.map_id']; exact h))
    · refine jss_one (js_ret (PE_eq (je_lc0 (xs := ns) (em := D.int) (own := [("number", 3)]) (fun n => .int (rk ns n)) rfl sc_ranks.nd (ji_list (je_var 0 rfl)) (blkOk_by (N := N_ranks) (sc := defScope s_ranks) (by decide +kernel)) (gok_name 3) (by simp) (fun _ _ => trivial) (sz24 (by omega))
        (fun s H C cl fp => pg_name (i := 3) sc_ranks.nd rfl (.inl rfl)) (fun k n hk s H C cl fp => je_dget ?_ (je_var 1 rfl) (je_var 3 rfl) ?_)) ?_))
      · have := hr.units
        exact Nat.lt_of_le_of_lt (Nat.add_le_add_left (by decide) _) this
      · refine dget_dmap (rkK ns) hF ?_
        have : n ∈ asc ns := mem_asc.mpr (List.mem_of_getElem? hk)
        rw [List.mem_map]
        rw [← zipIdx_fst (asc ns)] at this
        obtain ⟨q, hq, rfl⟩ := List.mem_map.mp this
        exact ⟨q, hq, rfl⟩
      · unfold ranksV
        rw [List.map_map]
        rfl
/-! ### ranked -/
def rankedV (ms : List Msg) : List Msg := ms.map fun m => (m.1, rk (ms.map (·.2)) m.2)
def R_ranked (ds : List D) (d : D) : Prop := ∃ ms : List Msg, ms.length < 64 ∧ ds = [.lst (ms.map dMs)] ∧ d = .lst ((rankedV ms).map dMs)
theorem ok_ranked (Bl : Blt mg) (F : Dfn K mg "ranked" s_ranked ["messages"]) (c1 : Cal P w K mg base T 1 "ranks" ["numbers"] R_ranks) : Cal P w K mg base T 2 "ranked" ["messages"] R_ranked := by
  refine cal_D F sc_ranked (fun ds d h => ?_) fun f cdv A outer s H G E ds d hr h => ?_
  · obtain ⟨ms, _, rfl, _⟩ := h; rfl
  · obtain ⟨ms, hl, rfl, rfl⟩ := h
    refine jss_cons (js_set 1 (je_fn c1 hr (by decide) rfl ⟨ms.map (·.2), by rw [List.length_map]; exact hl, rfl, rfl⟩ (ja_one (PE_eq (je_lc0 (xs := ms) (em := dMs) (own := [("name", 2), ("number", 3)]) (fun m => .int m.2) rfl sc_ranked.nd (ji_list (je_var 0 rfl)) (blkOk_by (N := N_ranked) (sc := defScope s_ranked) (by decide +kernel)) (gok_tup [2, 3]) (by simp) (fun _ _ => ⟨_, rfl, rfl⟩) (sz24 (by omega))
      (fun s H C cl fp => pgT2 2 3 rfl sc_ranked.nd) (fun k m hk s H C cl fp => je_var 3 rfl)) (by rw [List.map_map]; rfl)))) sc_ranked.nd) ?_
    refine jss_one (js_ret (PE_eq (je_lc0 (xs := ms.zipIdx) (em := fun p => D.tup [.int (p.2 : Int), dMs p.1]) (own := [("k", 4), ("message", 5)]) (fun p => dMs (p.1.1, rk (ms.map (·.2)) p.1.2)) rfl sc_ranked.nd ?_ (blkOk_by (N := N_ranked) (sc := defScope s_ranked) (by decide +kernel)) (gok_tup [4, 5]) (by simp) (fun _ _ => ⟨_, rfl, rfl⟩) (by rw [List.length_zipIdx]; exact sz24 (by omega))
      (fun s H C cl fp => pgT2 4 5 rfl sc_ranked.nd) (fun k m hk s H C cl fp => ?_)) ?_))
    · rw [← enumD_map ms dMs]
      exact ji_enum rfl Bl.enumerate (je_var 0 rfl)
    · have hm := mem_zipIdx (List.mem_of_getElem? hk)
      refine je_tp (ja_cons (je_ixT (d := .str m.1.1) (xs := [.str m.1.1, .int m.1.2]) (je_var 5 rfl) je_int rfl) (ja_one (je_ixL (d := .int (rk (ms.map (·.2)) m.1.2)) (PE_r (je_var 1 rfl)) (je_var 4 rfl) (atI_nat ?_))))
      unfold ranksV
      rw [List.getElem?_map, List.getElem?_map, List.getElem?_map, hm]
      rfl
    · unfold rankedV
      rw [List.map_map]
      have : (fun p : Msg × Nat => dMs (p.1.1, rk (ms.map (·.2)) p.1.2)) = (dMs ∘ fun m : Msg => (m.1, rk (ms.map (·.2)) m.2)) ∘ (·.1) := rfl
      rw [this, ← List.map_map, zipIdx_fst]
end MM
end
section
set_option Elab.async false
set_option linter.all false
set_option maxRecDepth 100000
set_option maxHeartbeats 4000000
namespace MM
open PySem PySem.Spec PyProof.Rows L2 NdefX DL
variable {P : Program} {w : World} {K : PySem.W.Frag} {mg : PySem.Str → Option Value} {base : Heap} {T : List NTab}
theorem room1 {k : Nat} {A : Around} (r : Room k A) : A.units + 1 < cLine := Nat.lt_of_le_of_lt (Nat.add_le_add_left (by decide) _) r.units
/-! ### ranked_spot -/
def nums (cs : List Conf) : List Int := cs.flatMap (·.2)
def rspot (cs : List Conf) : List Conf := cs.map fun c => (c.1, c.2.map (rk (nums cs)))
theorem nums_map (cs : List Conf) : (cs.flatMap fun c => c.2.map D.int) = (nums cs).map D.int := by unfold nums; rw [List.map_flatMap]
theorem mem_nums {cs : List Conf} {c : Conf} {n : Int} (h : c ∈ cs) (hn : n ∈ c.2) : n ∈ nums cs := List.mem_flatMap.mpr ⟨c, h, hn⟩
theorem zip_map_r {α β : Type} (xs : List α) (f : α → β) : xs.zip (xs.map f) = xs.map fun x => (x, f x) := by
  induction xs with
  | nil => rfl
  | cons x xs ih => rw [List.map_cons, List.zip_cons_cons, ih, List.map_cons]
theorem len_in {cs : List Conf} {c : Conf} (h : c ∈ cs) : c.2.length ≤ (nums cs).length := by
  unfold nums
  induction cs with
  | nil => simp at h
  | cons x cs ih =>
    rw [List.flatMap_cons, List.length_append]
    rcases List.mem_cons.mp h with rfl | h
    · omega
    · have := ih h; omega
def R_ranked_spot (ds : List D) (d : D) : Prop := ∃ cs : List Conf, cs.length < 1000 ∧ (nums cs).length < 64 ∧ ds = [.lst (cs.map dCf)] ∧ d = dSp (rspot cs)
theorem ok_ranked_spot (Bl : Blt mg) (F : Dfn K mg "ranked_spot" s_ranked_spot ["configurations"]) (c1 : Cal P w K mg base T 1 "ranks" ["numbers"] R_ranks) : Cal P w K mg base T 2 "ranked_spot" ["configurations"] R_ranked_spot := by
  refine cal_D F sc_ranked_spot (fun ds d h => ?_) fun f cdv A outer s H G E ds d hr h => ?_
  · obtain ⟨cs, _, _, rfl, _⟩ := h; rfl
  · obtain ⟨cs, hl, hn, rfl, rfl⟩ := h
    refine jss_cons (js_setLc2 (xs := cs) (em := dCf) (own := [("configuration", 3), ("number", 4)]) (vs1 := [4]) 1 (fun c => c.2) D.int (fun c n => .int n) rfl sc_ranked_spot.nd (ji_list (je_var 0 rfl)) (blkOk_by (N := N_ranked_spot) (sc := defScope s_ranked_spot) (by decide +kernel)) (by simp) (gok_name 3) (by simp) (fun _ _ => trivial)
      (gok_name 4) (by simp) (fun _ _ _ _ => trivial) (by rw [nums_map, List.length_map]; exact sz24 (by omega)) (fun s H C cl fp => pg_name (i := 3) sc_ranked_spot.nd rfl (.inl rfl)) (fun s H C cl fp => pg_name (i := 4) sc_ranked_spot.nd rfl (.inl rfl))
      (fun k c hk s H C cl fp => ji_tup (je_ixT (je_var 3 rfl) je_int rfl)) (fun k c j y hk hj s H C cl fp => je_var 4 rfl) (sw_true rfl rfl rfl (by decide +kernel))) ?_
    rw [nums_map]
    refine jss_cons (js_set 2 (je_dc (xs := nums cs) (em := fun n => D.tup [.int n, .int (rk (nums cs) n)]) (own := [("number", 4), ("place", 5)]) (fun n => n) (fun n => .int (rk (nums cs) n)) rfl sc_ranked_spot.nd ?_ (blkOk_by (N := N_ranked_spot) (sc := defScope s_ranked_spot) (by decide +kernel)) (gok_tup [4, 5]) (by simp) (fun _ _ => ⟨_, rfl, rfl⟩) (sz24 (by omega))
      (fun s H C cl fp => pgT2 4 5 rfl sc_ranked_spot.nd) (fun k n hk s H C cl fp => je_var 4 rfl) (fun k n hk s H C cl fp => je_var 5 rfl)) sc_ranked_spot.nd) ?_
    · have e : (nums cs).map (fun n => D.tup [.int n, .int (rk (nums cs) n)]) = zipD ((nums cs).map D.int) ((ranksV (nums cs)).map D.int) := by
        unfold zipD ranksV
        rw [List.map_map, List.zip_map_left, zip_map_r, List.map_map, List.map_map]
        rfl
      rw [e]
      exact ji_zip rfl Bl.zip (je_var 1 rfl) (je_fn c1 hr (by decide) rfl ⟨nums cs, hn, rfl, rfl⟩ (ja_one (je_var 1 rfl)))
    · refine jss_one (js_ret (je_tupL rfl Bl.tuple (PE_r (PE_eq (je_lc0 (xs := cs) (em := dCf) (own := [("state", 6), ("kept", 7)]) (fun c => dCf (c.1, c.2.map (rk (nums cs)))) rfl sc_ranked_spot.nd (ji_list (je_var 0 rfl)) (blkOk_by (N := N_ranked_spot) (sc := defScope s_ranked_spot) (by decide +kernel)) (gok_tup [6, 7]) (by simp) (fun _ _ => ⟨_, rfl, rfl⟩) (sz24 hl)
        (fun s H C cl fp => pgT2 6 7 rfl sc_ranked_spot.nd) (fun k c hk s H C cl fp => ?_)) ?_))))
      · have hc := List.mem_of_getElem? hk
        have := len_in hc
        refine je_tp (ja_cons (je_var 6 rfl) (ja_one (je_tupL rfl Bl.tuple (PE_r (PE_eq (je_lc0 (xs := c.2) (em := D.int) (own := [("n", 8)]) (fun n => .int (rk (nums cs) n)) rfl sc_ranked_spot.nd (ji_tup (je_var 7 rfl)) (blkOk_by (by kernel_rfl)) (gok_name 8) (by simp) (fun _ _ => trivial) (sz24 (by omega))
          (fun s H C cl fp => pg_name (i := 8) sc_ranked_spot.nd rfl (.inl rfl)) (fun k n hk s H C cl fp => je_dget (room1 hr) (je_var 2 rfl) (je_var 8 rfl) ?_)) (by rw [List.map_map]; rfl))))))
        exact dget_dmap (rkK (nums cs)) (fun _ _ => rfl) (List.mem_map.mpr ⟨n, mem_nums hc (List.mem_of_getElem? hk), rfl⟩)
      · unfold rspot
        rw [List.map_map]
        rfl
end MM
end
section
set_option Elab.async false
set_option linter.all false
set_option maxRecDepth 100000
set_option maxHeartbeats 4000000
namespace MM
open PySem PySem.Spec PyProof.Rows L2 NdefX DL
variable {P : Program} {w : World} {K : PySem.W.Frag} {mg : PySem.Str → Option Value} {base : Heap} {T : List NTab}
/-! ### kept_numbers -/
def R_kept_numbers (ds : List D) (d : D) : Prop := ∃ cs : List Conf, cs.length < 1000 ∧ (nums cs).length < 64 ∧ (ds = [.lst (cs.map dCf)] ∨ ds = [dSp cs]) ∧ d = .lst ((asc (nums cs)).map D.int)
theorem ok_kept_numbers (Bl : Blt mg) (F : Dfn K mg "kept_numbers" s_kept_numbers ["configurations"]) : Cal P w K mg base T 1 "kept_numbers" ["configurations"] R_kept_numbers := by
  refine cal_D F sc_kept_numbers (fun ds d h => ?_) fun f cdv A outer s H G E ds d hr h => ?_
  · obtain ⟨cs, _, _, rfl | rfl, _⟩ := h <;> rfl
  · obtain ⟨cs, hl, hn, hd, rfl⟩ := h
    have hl2 := asc_len_le (nums cs)
    have e : (cs.flatMap fun c => c.2.map fun n => n) = nums cs := by
      unfold nums
      exact congrArg (fun F => cs.flatMap F) (funext fun c => List.map_id' c.2)
    rcases hd with rfl | rfl
    · refine jss_one (js_ret (je_sortedSet rfl (by omega) rfl Bl.sorted (pe_mono (je_sc2 (xs := cs) (em := dCf) (own := [("state", 1), ("kept", 2), ("number", 3)]) (vs1 := [3]) (fun c => c.2) D.int (fun c n => n) rfl sc_kept_numbers.nd (ji_list (je_var 0 rfl)) (blkOk_by (N := N_kept_numbers) (sc := defScope s_kept_numbers) (by decide +kernel)) (by simp) (gok_tup [1, 2]) (by simp) (fun _ _ => ⟨_, rfl, rfl⟩)
        (gok_name 3) (by simp) (fun _ _ _ _ => trivial) (by rw [e]; omega) (fun s H C cl fp => pgT2 1 2 rfl sc_kept_numbers.nd) (fun s H C cl fp => pg_name (i := 3) sc_kept_numbers.nd rfl (.inl rfl))
        (fun k c hk s H C cl fp => ji_tup (je_var 2 rfl)) (fun k c j y hk hj s H C cl fp => je_var 3 rfl)) fun σ H Q h => by rw [e]; exact h)))
    · refine jss_one (js_ret (je_sortedSet rfl (by omega) rfl Bl.sorted (pe_mono (je_sc2 (xs := cs) (em := dCf) (own := [("state", 1), ("kept", 2), ("number", 3)]) (vs1 := [3]) (fun c => c.2) D.int (fun c n => n) rfl sc_kept_numbers.nd (ji_tup (je_var 0 rfl)) (blkOk_by (N := N_kept_numbers) (sc := defScope s_kept_numbers) (by decide +kernel)) (by simp) (gok_tup [1, 2]) (by simp) (fun _ _ => ⟨_, rfl, rfl⟩)
        (gok_name 3) (by simp) (fun _ _ _ _ => trivial) (by rw [e]; omega) (fun s H C cl fp => pgT2 1 2 rfl sc_kept_numbers.nd) (fun s H C cl fp => pg_name (i := 3) sc_kept_numbers.nd rfl (.inl rfl))
        (fun k c hk s H C cl fp => ji_tup (je_var 2 rfl)) (fun k c j y hk hj s H C cl fp => je_var 3 rfl)) fun σ H Q h => by rw [e]; exact h)))

/-! ### spot_of -/
def ends (ps : List Pg) (ms : List Msg) : List Conf := ps.map fun p => (runV p ms).1
def R_spot_of (CP : Addr) (ds : List D) (d : D) : Prop := ∃ (ps : List Pg) (ms : List Msg), ps.length < 1000 ∧ (∀ p ∈ ps, RunOk p ms) ∧ (nums (ends ps ms)).length < 64 ∧ ds = [.lst (ps.map (dPg CP)), .lst (ms.map dMs)] ∧ d = dSp (rspot (ends ps ms))
theorem ok_spot_of {CP : Addr} (F : Dfn K mg "spot_of" s_spot_of ["programs", "messages"]) (c1 : Cal P w K mg base T 3 "run" ["program", "messages"] (R_run CP)) (c2 : Cal P w K mg base T 2 "ranked_spot" ["configurations"] R_ranked_spot) : Cal P w K mg base T 4 "spot_of" ["programs", "messages"] (R_spot_of CP) := by
  refine cal_D F sc_spot_of (fun ds d h => ?_) fun f cdv A outer s H G E ds d hr h => ?_
  · obtain ⟨ps, ms, _, _, _, rfl, _⟩ := h; rfl
  · obtain ⟨ps, ms, hl, ho, hn, rfl, rfl⟩ := h
    refine jss_one (js_ret (je_fn c2 hr (by decide) rfl ⟨ends ps ms, by unfold ends; rw [List.length_map]; exact hl, hn, rfl, rfl⟩ (ja_one (PE_eq (je_lc0 (xs := ps) (em := dPg CP) (own := [("program", 2)]) (fun p => dCf (runV p ms).1) rfl sc_spot_of.nd (ji_list (je_var 0 rfl)) (blkOk_by (N := N_spot_of) (sc := defScope s_spot_of) (by decide +kernel)) (gok_name 2) (by simp) (fun _ _ => trivial) (sz24 hl)
      (fun s H C cl fp => pg_name (i := 2) sc_spot_of.nd rfl (.inl rfl)) (fun k p hk s H C cl fp => je_ixT (d := dCf (runV p ms).1) (xs := [dCf (runV p ms).1, .lst ((runV p ms).2.map dOu)]) (je_fn c1 hr (by decide) rfl ⟨p, ms, ho p (List.mem_of_getElem? hk), rfl, rfl⟩ (ja_cons (je_var 2 rfl) (ja_one (je_var 1 rfl)))) je_int rfl)) ?_))))
    unfold ends
    rw [List.map_map]
    rfl

/-! ### steps_at -/
def stepsV (names : List St) (sp : List Conf) : List Msg := names.flatMap fun nm => (List.range (2 * (asc (nums sp)).length + 1)).map fun i : Nat => (nm, (i : Int))
def R_steps_at (ds : List D) (d : D) : Prop := ∃ (names : List St) (sp : List Conf), names.length < 1000 ∧ sp.length < 1000 ∧ (nums sp).length < 64 ∧ ds = [.ptup (names.map D.str), dSp sp] ∧ d = .lst ((stepsV names sp).map dMs)
theorem flat_len_le {α β : Type} {F : α → List β} {n : Nat} : ∀ {xs : List α}, (∀ x ∈ xs, (F x).length ≤ n) → (xs.flatMap F).length ≤ xs.length * n
  | [], _ => by simp
  | x :: xs, h => by
    have := flat_len_le (F := F) (n := n) (xs := xs) fun y hy => h y (List.mem_cons_of_mem _ hy)
    have h1 := h x (by simp)
    rw [List.flatMap_cons, List.length_append, List.length_cons, Nat.add_mul]
    omega
theorem ok_steps_at (Bl : Blt mg) (F : Dfn K mg "steps_at" s_steps_at ["names", "spot"]) (c1 : Cal P w K mg base T 1 "kept_numbers" ["configurations"] R_kept_numbers) : Cal P w K mg base T 2 "steps_at" ["names", "spot"] R_steps_at := by
  refine cal_D F sc_steps_at (fun ds d h => ?_) fun f cdv A outer s H G E ds d hr h => ?_
  · obtain ⟨names, sp, _, _, _, rfl, _⟩ := h; rfl
  · obtain ⟨names, sp, hl, hs, hn, rfl, rfl⟩ := h
    have al := asc_len_le (nums sp)
    refine jss_cons (js_set 2 (PE_eq (je_lenL rfl Bl.len (PE_r (je_fn c1 hr (by decide) rfl ⟨sp, hs, hn, .inr rfl, rfl⟩ (ja_one (je_var 1 rfl))))) (show _ = D.int ((asc (nums sp)).length : Int) by rw [List.length_map])) sc_steps_at.nd) ?_
    refine jss_one (js_ret (PE_eq (je_lc2 (xs := names) (em := D.str) (own := [("name", 3), ("position", 4)]) (vs1 := [4]) (fun _ => List.range (2 * (asc (nums sp)).length + 1)) (fun i : Nat => .int (i : Int)) (fun nm i => dMs (nm, (i : Int))) rfl sc_steps_at.nd (ji_ptup (je_var 0 rfl)) (blkOk_by (N := N_steps_at) (sc := defScope s_steps_at) (by decide +kernel)) (by simp) (gok_name 3) (by simp) (fun _ _ => trivial)
      (gok_name 4) (by simp) (fun _ _ _ _ => trivial) ?_ (fun s H C cl fp => pg_name (i := 3) sc_steps_at.nd rfl (.inl rfl)) (fun s H C cl fp => pg_name (i := 4) sc_steps_at.nd rfl (.inl rfl))
      (fun k nm hk s H C cl fp => ji_range (n := 2 * (asc (nums sp)).length + 1) (by omega) rfl Bl.range (PE_eq (je_add (je_mul (cmul (Int.natCast_nonneg _) (by omega)) je_int (je_var 2 rfl)) je_int) (congrArg D.int (by omega)))) (fun k nm j y hk hj s H C cl fp => je_tp (ja_cons (je_var 3 rfl) (ja_one (je_var 4 rfl))))) ?_))
    · refine Nat.le_trans (flat_len_le (n := 129) fun x _ => ?_) ?_
      · rw [List.length_map, List.length_range]; omega
      · show _ ≤ 2 ^ 24
        omega
    · unfold stepsV
      rw [List.map_flatMap]
      refine congrArg D.lst (congrArg (fun F => names.flatMap F) (funext fun nm => ?_))
      rw [List.map_map]
      rfl

/-! ### new_number -/
def newN (ks ns : List Int) (pos : Int) : Int := if pos % 2 = 1 then gi ks (pos / 2) else if (ks.length : Int) = 0 then mxd (-1) ns + 1 else if pos = 0 then gi ks 0 - 1 else gi ks (pos / 2 - 1) + 1
def R_new_number (ds : List D) (d : D) : Prop := ∃ (ks ns : List Int) (pos : Int), 0 ≤ pos ∧ pos ≤ 2 * ks.length ∧ ds = [.lst (ks.map D.int), .lst (ns.map D.int), .int pos] ∧ d = .int (newN ks ns pos)
theorem ok_new_number (Bl : Blt mg) (F : Dfn K mg "new_number" s_new_number ["kept", "numbers", "position"]) : Cal P w K mg base T 1 "new_number" ["kept", "numbers", "position"] R_new_number := by
  refine cal_D F sc_new_number (fun ds d h => ?_) fun f cdv A outer s H G E ds d hr h => ?_
  · obtain ⟨ks, ns, pos, _, _, rfl, _⟩ := h; rfl
  · obtain ⟨ks, ns, pos, h0, h1, rfl, rfl⟩ := h
    unfold newN
    have hdiv : CDiv pos 2 := ⟨by omega, by omega⟩
    refine jss_ifr rfl (jt_eqI (je_mod (by omega) (je_var 2 rfl) je_int) je_int) (fun hd => ?_) (fun hd => ?_)
    · have e := of_decide_eq_true hd
      rw [if_pos e]
      exact jss_one (js_ret (je_ixL (PE_r (je_var 0 rfl)) (je_fdiv hdiv (je_var 2 rfl) je_int) (atI_gi (by omega) (by omega))))
    have e := of_decide_eq_false hd
    rw [if_neg e]
    refine jss_ifr rfl (jt_eqI (PE_eq (je_lenL rfl Bl.len (PE_r (je_var 0 rfl))) (show _ = D.int (ks.length : Int) by rw [List.length_map])) je_int) (fun hd => ?_) (fun hd => ?_)
    · have e2 := of_decide_eq_true hd
      rw [if_pos e2]
      exact jss_one (js_ret (je_add (je_maxDef rfl hr.units rfl Bl.max (PE_r (je_var 1 rfl)) (je_neg je_int)) je_int))
    have e2 := of_decide_eq_false hd
    rw [if_neg e2]
    refine jss_ifr rfl (jt_eqI (je_var 2 rfl) je_int) (fun hd => ?_) (fun hd => ?_)
    · have e3 := of_decide_eq_true hd
      rw [if_pos e3]
      exact jss_one (js_ret (je_sub (je_ixL (PE_r (je_var 0 rfl)) je_int (atI_gi (by omega) (by omega))) je_int))
    · have e3 := of_decide_eq_false hd
      rw [if_neg e3]
      exact jss_one (js_ret (je_add (je_ixL (PE_r (je_var 0 rfl)) (je_sub (je_fdiv hdiv (je_var 2 rfl) je_int) je_int) (atI_gi (by omega) (by omega))) je_int))
end MM
end
section
set_option Elab.async false
set_option linter.all false
set_option maxRecDepth 100000
set_option maxHeartbeats 4000000
namespace MM
open PySem PySem.Spec PyProof.Rows L2 NdefX DL
variable {P : Program} {w : World} {K : PySem.W.Frag} {mg : PySem.Str → Option Value} {base : Heap} {T : List NTab}
/-! ### continued -/
theorem rk_bd (ns : List Int) (n : Int) : 0 ≤ rk ns n ∧ rk ns n ≤ ns.length := by
  unfold rk
  have h1 := List.length_filter_le (fun m => decide (m < n)) (asc ns)
  have h2 := asc_len_le ns
  omega
def doubled (ms : List Msg) : List Msg := (rankedV ms).map fun m => (m.1, 2 * m.2)
def contKs (ps : List Pg) (ms : List Msg) : List Int := asc (nums (ends ps (doubled ms)))
def contN (ps : List Pg) (ms : List Msg) (tk : Msg) : Int := newN (contKs ps ms) ((doubled ms).map (·.2)) tk.2
def contV (ps : List Pg) (ms : List Msg) (tk : Msg) : List Msg := rankedV (doubled ms ++ [(tk.1, contN ps ms tk)])
structure ContOk (ps : List Pg) (ms : List Msg) (tk : Msg) : Prop where
  l : ms.length < 63
  pl : ps.length < 1000
  ro : ∀ p ∈ ps, RunOk p (doubled ms)
  nl : (nums (ends ps (doubled ms))).length < 64
  t0 : 0 ≤ tk.2
  t1 : tk.2 ≤ 2 * (contKs ps ms).length
def R_continued (CP : Addr) (ds : List D) (d : D) : Prop := ∃ (ps : List Pg) (ms : List Msg) (tk : Msg), ContOk ps ms tk ∧ ds = [.lst (ps.map (dPg CP)), .lst (ms.map dMs), dMs tk] ∧ d = .lst ((contV ps ms tk).map dMs)
theorem ok_continued {CP : Addr} (Bl : Blt mg) (F : Dfn K mg "continued" s_continued ["programs", "messages", "step_taken"]) (c1 : Cal P w K mg base T 2 "ranked" ["messages"] R_ranked) (c2 : Cal P w K mg base T 1 "kept_numbers" ["configurations"] R_kept_numbers) (c3 : Cal P w K mg base T 3 "run" ["program", "messages"] (R_run CP))
    (c4 : Cal P w K mg base T 1 "new_number" ["kept", "numbers", "position"] R_new_number) : Cal P w K mg base T 4 "continued" ["programs", "messages", "step_taken"] (R_continued CP) := by
  refine cal_D F sc_continued (fun ds d h => ?_) fun f cdv A outer s H G E ds d hr h => ?_
  · obtain ⟨ps, ms, tk, _, rfl, _⟩ := h; rfl
  · obtain ⟨ps, ms, tk, S, rfl, rfl⟩ := h
    have sl := S.l
    have hrl : (rankedV ms).length = ms.length := by unfold rankedV; rw [List.length_map]
    refine jss_cons (js_set 3 (PE_eq (d' := .lst ((doubled ms).map dMs)) (je_lc0 (xs := rankedV ms) (em := dMs) (own := [("name", 6), ("number", 5)]) (fun m => dMs (m.1, 2 * m.2)) rfl sc_continued.nd (ji_list (je_fn c1 hr (by decide) rfl ⟨ms, by omega, rfl, rfl⟩ (ja_one (je_var 1 rfl)))) (blkOk_by (N := N_continued) (sc := defScope s_continued) (by decide +kernel)) (gok_tup [6, 5]) (by simp) (fun _ _ => ⟨_, rfl, rfl⟩) (sz24 (by omega))
      (fun s H C cl fp => pgT2 6 5 rfl sc_continued.nd) (fun k m hk s H C cl fp => ?_)) ?_) sc_continued.nd) ?_
    · have hm : ∃ n, m.2 = rk (ms.map (·.2)) n := by
        obtain ⟨q, _, rfl⟩ := List.mem_map.mp (show m ∈ ms.map (fun m => (m.1, rk (ms.map (·.2)) m.2)) from List.mem_of_getElem? hk)
        exact ⟨_, rfl⟩
      obtain ⟨n, hn⟩ := hm
      have b := rk_bd (ms.map (·.2)) n
      rw [List.length_map, ← hn] at b
      exact je_tp (ja_cons (je_var 6 rfl) (ja_one (je_mul (cmul b.1 (by omega)) je_int (je_var 5 rfl))))
    · unfold doubled
      rw [List.map_map]
      rfl
    refine jss_cons (js_set 4 (je_fn c2 hr (by decide) rfl ⟨ends ps (doubled ms), by unfold ends; rw [List.length_map]; exact S.pl, S.nl, .inl rfl, rfl⟩ (ja_one (PE_eq (d' := .lst ((ends ps (doubled ms)).map dCf)) (je_lc0 (xs := ps) (em := dPg CP) (own := [("program", 7)]) (fun p => dCf (runV p (doubled ms)).1) rfl sc_continued.nd (ji_list (je_var 0 rfl)) (blkOk_by (N := N_continued) (sc := defScope s_continued) (by decide +kernel)) (gok_name 7) (by simp) (fun _ _ => trivial) (sz24 S.pl)
      (fun s H C cl fp => pg_name (i := 7) sc_continued.nd rfl (.inl rfl)) (fun k p hk s H C cl fp => je_ixT (d := dCf (runV p (doubled ms)).1) (xs := [dCf (runV p (doubled ms)).1, .lst ((runV p (doubled ms)).2.map dOu)]) (je_fn c3 hr (by decide) rfl ⟨p, doubled ms, S.ro p (List.mem_of_getElem? hk), rfl, rfl⟩ (ja_cons (je_var 7 rfl) (ja_one (je_var 3 rfl)))) je_int rfl)) (by unfold ends; rw [List.map_map]; rfl)))) sc_continued.nd) ?_
    refine jss_cons (js_set 5 (je_fn c4 hr (by decide) rfl ⟨contKs ps ms, (doubled ms).map (·.2), tk.2, S.t0, S.t1, rfl, rfl⟩ (ja_cons (je_var 4 rfl) (ja_cons (PE_eq (d' := .lst (((doubled ms).map (·.2)).map D.int)) (je_lc0 (xs := doubled ms) (em := dMs) (own := [("name", 6), ("number", 5)]) (fun m => .int m.2) rfl sc_continued.nd (ji_list (je_var 3 rfl)) (blkOk_by (N := N_continued) (sc := defScope s_continued) (by decide +kernel)) (gok_tup [6, 5]) (by simp) (fun _ _ => ⟨_, rfl, rfl⟩) (sz24 (by unfold doubled; rw [List.length_map]; omega))
      (fun s H C cl fp => pgT2 6 5 rfl sc_continued.nd) (fun k m hk s H C cl fp => je_var 5 rfl)) (by rw [List.map_map]; rfl)) (ja_one (je_ixT (d := .int tk.2) (xs := [.str tk.1, .int tk.2]) (je_var 2 rfl) je_int rfl))))) sc_continued.nd) ?_
    have dl : (doubled ms).length = ms.length := by unfold doubled; rw [List.length_map, hrl]
    refine jss_one (js_ret (je_fn c1 hr (by decide) rfl ⟨doubled ms ++ [(tk.1, contN ps ms tk)], by rw [List.length_append, dl]; show ms.length + 1 < 64; omega, rfl, rfl⟩ (ja_one (PE_eq (je_catL (xs := (doubled ms).map dMs) (ys := [dMs (tk.1, contN ps ms tk)]) ?_ (PE_r (je_var 3 rfl)) (PE_r (je_ls (ja_one (je_tp (ja_cons (je_ixT (d := .str tk.1) (xs := [.str tk.1, .int tk.2]) (je_var 2 rfl) je_int rfl) (ja_one (je_var 5 rfl)))))))) ?_))))
    · rw [List.length_map, dl]
      show ms.length + 1 ≤ 2 ^ 24
      omega
    · rw [List.map_append]
      rfl

/-! ### spot_after -/
def dbl (cs : List Conf) : List Conf := cs.map fun c => (c.1, c.2.map fun r => 2 * r)
def saKs (sp : List Conf) : List Int := asc (nums (dbl sp))
def saN (sp : List Conf) (tk : Msg) : Int := newN (saKs sp) [] tk.2
def saKn (sp : List Conf) (tk : Msg) : List Int := asc (saKs sp ++ [saN sp tk])
def posIn (kn : List Int) (n : Int) : Int := ((kn.filter fun m => decide (m < n)).length : Int)
def saRes (ps : List Pg) (sp : List Conf) (tk : Msg) : List (Conf × List O3) := (ps.zip (dbl sp)).map fun q => stepV q.1 q.2 (tk.1, saN sp tk)
def saOut (sp : List Conf) (tk : Msg) (r : Conf × List O3) : List O3 := r.2.map fun o => (o.1, o.2.1, posIn (saKn sp tk) o.2.2)
def safterV (ps : List Pg) (sp : List Conf) (tk : Msg) : List Conf × List (List O3) := (rspot ((saRes ps sp tk).map (·.1)), (saRes ps sp tk).map (saOut sp tk))
structure SaOk (ps : List Pg) (sp : List Conf) (tk : Msg) : Prop where
  pl : ps.length < 1000
  sl : sp.length < 1000
  rb : ∀ c ∈ sp, ∀ r ∈ c.2, 0 ≤ r ∧ r < 1000
  nl : (nums (dbl sp)).length < 63
  t0 : 0 ≤ tk.2
  t1 : tk.2 ≤ 2 * (saKs sp).length
  so : ∀ q ∈ ps.zip (dbl sp), StepOk q.1 q.2 (tk.1, saN sp tk) ∧ ∀ o ∈ (stepV q.1 q.2 (tk.1, saN sp tk)).2, o.2.2 ∈ saKn sp tk
  rl : (nums ((saRes ps sp tk).map (·.1))).length < 64
def dSa (r : List Conf × List (List O3)) : D := .tup [dSp r.1, .lst (r.2.map dOu)]
def R_spot_after (CP : Addr) (ds : List D) (d : D) : Prop := ∃ (ps : List Pg) (sp : List Conf) (tk : Msg), SaOk ps sp tk ∧ ds = [.lst (ps.map (dPg CP)), dSp sp, dMs tk] ∧ d = dSa (safterV ps sp tk)
theorem kn_at {kn : List Int} {n : Int} (hp : kn.Pairwise (· < ·)) (h : n ∈ kn) : ∃ k : Nat, kn[k]? = some n ∧ (∀ m, m < k → kn[m]? ≠ some n) ∧ posIn kn n = (k : Int) := by
  obtain ⟨k, hk⟩ := List.mem_iff_getElem?.mp h
  refine ⟨k, hk, fun m hm hmn => ?_, by unfold posIn; rw [less_at hp hk]⟩
  have h1 := less_at hp hk
  have h2 := less_at hp hmn
  omega
theorem ok_spot_after {CP : Addr} (Bl : Blt mg) (F : Dfn K mg "spot_after" s_spot_after ["programs", "spot", "step_taken"]) (c1 : Cal P w K mg base T 1 "kept_numbers" ["configurations"] R_kept_numbers) (c2 : Cal P w K mg base T 1 "new_number" ["kept", "numbers", "position"] R_new_number) (c3 : Cal P w K mg base T 2 "step" ["program", "configuration", "message"] (R_step CP))
    (c4 : Cal P w K mg base T 2 "ranked_spot" ["configurations"] R_ranked_spot) : Cal P w K mg base T 3 "spot_after" ["programs", "spot", "step_taken"] (R_spot_after CP) := by
  refine cal_D F sc_spot_after (fun ds d h => ?_) fun f cdv A outer s H G E ds d hr h => ?_
  · obtain ⟨ps, sp, tk, _, rfl, _⟩ := h; rfl
  · obtain ⟨ps, sp, tk, S, rfl, rfl⟩ := h
    have sl := S.sl
    have pl := S.pl
    have dl : (dbl sp).length = sp.length := by unfold dbl; rw [List.length_map]
    have kl : (saKs sp).length < 63 := Nat.lt_of_le_of_lt (asc_len_le _) S.nl
    refine jss_cons (js_setLc0 (xs := sp) (em := dCf) (own := [("state", 13), ("kept", 4)]) 3 (fun c => dCf (c.1, c.2.map fun r => 2 * r)) rfl sc_spot_after.nd (ji_tup (je_var 1 rfl)) (blkOk_by (N := N_spot_after) (sc := defScope s_spot_after) (by decide +kernel)) (gok_tup [13, 4]) (by simp) (fun _ _ => ⟨_, rfl, rfl⟩) (sz24 sl)
      (fun s H C cl fp => pgT2 13 4 rfl sc_spot_after.nd) (fun k c hk s H C cl fp => ?_) (sw_true rfl rfl rfl (by decide +kernel))) ?_
    · have hc := List.mem_of_getElem? hk
      have hcl : c.2.length < 63 := by
        have h1 := len_in (show (c.1, c.2.map fun r => 2 * r) ∈ dbl sp from List.mem_map.mpr ⟨c, hc, rfl⟩)
        have h2 := S.nl
        rw [List.length_map] at h1
        omega
      refine je_tp (ja_cons (je_var 13 rfl) (ja_one (je_tupL rfl Bl.tuple (PE_r (PE_eq (je_lc0 (xs := c.2) (em := D.int) (own := [("rank", 14)]) (fun r => .int (2 * r)) rfl sc_spot_after.nd (ji_tup (je_var 4 rfl)) (blkOk_by (by kernel_rfl)) (gok_name 14) (by simp) (fun _ _ => trivial) (sz24 (by omega))
        (fun s H C cl fp => pg_name (i := 14) sc_spot_after.nd rfl (.inl rfl)) (fun k r hk s H C cl fp => ?_)) (by rw [List.map_map]; rfl))))))
      obtain ⟨r0, r1⟩ := S.rb c hc r (List.mem_of_getElem? hk)
      exact je_mul (cmul r0 (by omega)) je_int (je_var 14 rfl)
    rw [show (sp.map fun c => dCf (c.1, c.2.map fun r => 2 * r)) = (dbl sp).map dCf by unfold dbl; rw [List.map_map]; rfl]
    refine jss_cons (js_set 4 (je_fn c1 hr (by decide) rfl ⟨dbl sp, by omega, by have := S.nl; omega, .inl rfl, rfl⟩ (ja_one (je_var 3 rfl))) sc_spot_after.nd) ?_
    refine jss_cons (js_set 5 (je_fn c2 hr (by decide) rfl ⟨saKs sp, [], tk.2, S.t0, S.t1, rfl, rfl⟩ (ja_cons (je_var 4 rfl) (ja_cons (je_ls ja_nil) (ja_one (je_ixT (d := .int tk.2) (xs := [.str tk.1, .int tk.2]) (je_var 2 rfl) je_int rfl))))) sc_spot_after.nd) ?_
    refine jss_cons (js_set 6 (je_sortedSet (L := saKs sp ++ [saN sp tk]) rfl (by have := asc_len_le (saKs sp ++ [saN sp tk]); rw [List.length_append] at this; have e : [saN sp tk].length = 1 := rfl; omega) rfl Bl.sorted (pe_mono (je_sc (xs := saKs sp ++ [saN sp tk]) (em := D.int) (own := [("n", 15)]) (fun n => n) rfl sc_spot_after.nd (ji_list (PE_eq (je_catL (xs := (saKs sp).map D.int) (ys := [.int (saN sp tk)]) (by rw [List.length_map]; show (saKs sp).length + 1 ≤ 2 ^ 24; omega) (PE_r (je_var 4 rfl)) (PE_r (je_ls (ja_one (je_var 5 rfl))))) (by rw [List.map_append]; rfl)))
      (blkOk_by (N := N_spot_after) (sc := defScope s_spot_after) (by decide +kernel)) (gok_name 15) (by simp) (fun _ _ => trivial) (by rw [List.length_append]; show (saKs sp).length + 1 < 4000; omega) (fun s H C cl fp => pg_name (i := 15) sc_spot_after.nd rfl (.inl rfl)) (fun k n hk s H C cl fp => je_var 15 rfl)) fun σ H Q h => by rw [List.map_id']; exact h)) sc_spot_after.nd) ?_
    refine jss_cons (js_setL 7 (Nat.zero_le _) ja_nil sc_spot_after.nd) ?_
    refine jss_cons (js_setL 8 (Nat.zero_le _) ja_nil sc_spot_after.nd) ?_
    refine jss_cons (js_forF (xs := ps.zip (dbl sp)) (em := fun q => D.tup [dPg CP q.1, dCf q.2]) (fun z : List (Conf × List O3) => [.da (.lst (ps.map (dPg CP))), .da (dSp sp), .da (dMs tk), .da (.lst ((dbl sp).map dCf)), .da (.lst ((saKs sp).map D.int)), .da (.int (saN sp tk)), .da (.lst ((saKn sp tk).map D.int)), .ow (lstK K ((z.map (·.1)).map dCf)), .ow (lstK K ((z.map (saOut sp tk)).map dOu)), .un, .un, .un, .un, .un, .un, .un, .un, .un])
      (fun z q => z ++ [stepV q.1 q.2 (tk.1, saN sp tk)]) (fun k z => z.length = k) [] PassesOwn.never rfl ?_ (gok_tup [9, 10]) (pgT2 9 10 rfl sc_spot_after.nd) (fun _ _ => ⟨_, rfl, rfl⟩) rfl (fun k z x hx hz => by rw [List.length_append, hz]; rfl) (fun k z q hk hz => ?_)) ?_
    · have e : (ps.zip (dbl sp)).map (fun q => D.tup [dPg CP q.1, dCf q.2]) = zipD (ps.map (dPg CP)) ((dbl sp).map dCf) := by
        unfold zipD
        rw [List.zip_map, List.map_map]
        rfl
      rw [e]
      exact ji_zip rfl Bl.zip (je_var 0 rfl) (je_var 3 rfl)
    · have hq := List.mem_of_getElem? hk
      obtain ⟨so, sm⟩ := S.so q hq
      have hkl := (List.getElem?_eq_some_iff.mp hk).1
      rw [List.length_zip] at hkl
      have hkl2 : k < ps.length := Nat.lt_of_lt_of_le hkl (Nat.min_le_left _ _)
      refine jss_cons (js_asg (gok_tup [11, 12]) ⟨_, rfl, rfl⟩ (je_fn c3 hr (by decide) rfl ⟨q.1, q.2, (tk.1, saN sp tk), so, rfl, rfl⟩ (ja_cons (je_var 9 rfl) (ja_cons (je_var 10 rfl) (ja_one (je_tp (ja_cons (je_ixT (d := .str tk.1) (xs := [.str tk.1, .int tk.2]) (je_var 2 rfl) je_int rfl) (ja_one (je_var 5 rfl)))))))) (pgT2 11 12 rfl sc_spot_after.nd)) ?_
      have e1 : ((z ++ [stepV q.1 q.2 (tk.1, saN sp tk)]).map (·.1)).map dCf = (z.map (·.1)).map dCf ++ [dCf (stepV q.1 q.2 (tk.1, saN sp tk)).1] := by rw [List.map_append, List.map_append]; rfl
      have e2 : ((z ++ [stepV q.1 q.2 (tk.1, saN sp tk)]).map (saOut sp tk)).map dOu = (z.map (saOut sp tk)).map dOu ++ [dOu (saOut sp tk (stepV q.1 q.2 (tk.1, saN sp tk)))] := by rw [List.map_append, List.map_append]; rfl
      show PSs _ _ (tS _ _ _ _ (.nx [_, _, _, _, _, _, _, .ow (lstK K (((z ++ [stepV q.1 q.2 (tk.1, saN sp tk)]).map (·.1)).map dCf)), .ow (lstK K (((z ++ [stepV q.1 q.2 (tk.1, saN sp tk)]).map (saOut sp tk)).map dOu)), _, _, _, _, _, _, _, _, _]))
      rw [e1, e2]
      have hol : (stepV q.1 q.2 (tk.1, saN sp tk)).2.length < 1000 := by
        have := so.ol
        unfold stepV stepO
        rw [List.length_map]
        exact this
      generalize stepV q.1 q.2 (tk.1, saN sp tk) = rv at *
      refine jss_cons (js_app 7 rfl ?_ (je_var 11 rfl)) ?_
      · rw [List.length_map, List.length_map]
        show z.length < 2 ^ 24
        omega
      refine jss_weak (.same (.same (.same (.same (.same (.same (.same (.same (.same (.un (.un (.un (.un (.un (.un (.un (.un (.un .nil)))))))))))))))))) (jss_one (js_app 8 rfl ?_ ?_))
      · rw [List.length_map, List.length_map]
        show z.length < 2 ^ 24
        omega
      refine je_tupL rfl Bl.tuple (PE_r (PE_eq (d' := .lst ((saOut sp tk rv).map dO3)) (je_lc0 (xs := rv.2) (em := dO3) (own := [("c", 16), ("signal", 17), ("n", 15)]) (fun o => dO3 (o.1, o.2.1, posIn (saKn sp tk) o.2.2)) rfl sc_spot_after.nd (ji_tup (je_var 12 rfl)) (blkOk_by (N := N_spot_after) (sc := defScope s_spot_after) (by decide +kernel)) (gok_tup [16, 17, 15]) (by simp) (fun _ _ => ⟨_, rfl, rfl⟩) (sz24 ?_)
        (fun s H C cl fp => pgT3 16 17 15 rfl sc_spot_after.nd) (fun k o hk s H C cl fp => ?_)) (by unfold saOut; rw [List.map_map]; rfl)))
      · exact hol
      · obtain ⟨j, h1, h2, h3⟩ := kn_at (asc_pw _) (sm o (List.mem_of_getElem? hk))
        refine je_tp (ja_cons (je_var 16 rfl) (ja_cons (je_var 17 rfl) (ja_one (PE_eq (je_indexI (PE_r (je_var 6 rfl)) (je_var 15 rfl) h1 h2) ?_))))
        show D.int (j : Int) = .int (posIn (saKn sp tk) o.2.2)
        rw [show posIn (saKn sp tk) o.2.2 = (j : Int) from h3]
    · have ef : ∀ (os : List (Pg × Conf)) (z : List (Conf × List O3)), os.foldl (fun z q => z ++ [stepV q.1 q.2 (tk.1, saN sp tk)]) z = z ++ os.map fun q => stepV q.1 q.2 (tk.1, saN sp tk) := by
        intro os
        induction os with
        | nil => intro z; simp
        | cons o os ih => intro z; rw [List.foldl_cons, ih, List.map_cons, List.append_assoc]; rfl
      rw [ef, List.nil_append]
      refine jss_freeze 7 rfl (jss_freeze 8 rfl ?_)
      refine jss_one (js_ret (je_tp (ja_cons (je_fn c4 hr (by decide) rfl ⟨(saRes ps sp tk).map (·.1), ?_, S.rl, rfl, rfl⟩ (ja_one (je_var 7 rfl))) (ja_one (je_var 8 rfl)))))
      unfold saRes
      rw [List.length_map, List.length_map, List.length_zip]
      exact Nat.lt_of_le_of_lt (Nat.min_le_left _ _) pl
end MM
end
section
set_option Elab.async false
set_option linter.all false
set_option maxRecDepth 100000
set_option maxHeartbeats 4000000
namespace MM
open PySem PySem.Spec PyProof.Rows L2 NdefX DL
variable {P : Program} {w : World} {K : PySem.W.Frag} {mg : PySem.Str → Option Value} {base : Heap} {T : List NTab}
/-! ### the store, read -/
inductive Ent where
  | pg (p : Pg)
  | mg (a b c : Int)
instance : Inhabited Ent := ⟨.mg 0 0 0⟩
def dEnt (CP : Addr) : Ent → D
  | .pg p => dPg CP p
  | .mg a b c => .tup [.int a, .int b, .int c]
def dStore (CS CP : Addr) (es : List Ent) : D := .ins CS ["_entries"] [.lst (es.map (dEnt CP))]
structure StC (K : PySem.W.Frag) (mg : PySem.Str → Option Value) (CS : Addr) : Prop where
  own : OwnC K CS
  mgs : mg "Store" = some (.ref CS)
  a1 : NoAttr K CS "_entries"
variable {CS CP : Addr}
def R_size (CS CP : Addr) (ds : List D) (d : D) : Prop := ∃ es : List Ent, ds = [dStore CS CP es] ∧ d = .int es.length
theorem ok_size (Bl : Blt mg) (S : StC K mg CS) (F : Prt K CS "size" "Store.size" s_Store_size) : PCal P w K mg base T 1 CS "size" (R_size CS CP) := by
  refine pcal_D F sc_Store_size (fun ds d h => ?_) fun f cdv A outer s H G E ds d hr h => ?_
  · obtain ⟨es, rfl, _⟩ := h; rfl
  · obtain ⟨es, rfl, rfl⟩ := h
    exact jss_one (js_ret (PE_eq (je_lenL rfl Bl.len (PE_r (je_fld (d := .lst (es.map (dEnt CP))) S.own.cls S.a1 (je_var 0 rfl) rfl))) (by rw [List.length_map])))
def R_known (CS CP : Addr) (ds : List D) (d : D) : Prop := ∃ (es : List Ent) (n : Int), 0 ≤ n ∧ n < es.length ∧ ds = [dStore CS CP es, .int n] ∧ d = .non
theorem ok_known (Bl : Blt mg) (S : StC K mg CS) (F : Dfn K mg "known" s_known ["store", "number"]) (c1 : PCal P w K mg base T 1 CS "size" (R_size CS CP)) : Cal P w K mg base T 3 "known" ["store", "number"] (R_known CS CP) := by
  refine cal_Dn F sc_known (fun ds d h => ?_) fun f cdv A outer s H G E ds d hr h => ?_
  · obtain ⟨es, n, _, _, rfl, _⟩ := h; rfl
  · obtain ⟨es, n, h0, h1, rfl, rfl⟩ := h
    refine ⟨rfl, env0 N_known.length [dStore CS CP es, .int n], ?_⟩
    refine jss_ifn (k := !true || false) (PW.pt (jw_or (jt_not (jt_val (je_isi rfl Bl.isinstance (je_var 1 rfl) (pe_tyT rfl Bl.int PySem.Pv.boot_int) (.ty "int") trivial (kit_ty (by decide +kernel))))) (fun _ => jw_or1 (jt_val (je_isi rfl Bl.isinstance (je_var 1 rfl) (pe_tyT rfl Bl.bool PySem.Pv.boot_bool) (.ty "bool") trivial (kit_ty (by decide +kernel))))))) rfl ?_
    refine jss_ifn (k := !(decide (0 ≤ n) && decide (n < es.length))) (jt_not (jt_chain0 je_int (je_var 1 rfl) (je_prop (k := 1) S.own.cls c1 hr (by decide) ⟨es, rfl, rfl⟩ (je_var 0 rfl)))) ?_ jss_nil
    rw [decide_eq_true h0, decide_eq_true h1]
    rfl
def R_entry (CS CP : Addr) (ds : List D) (d : D) : Prop := ∃ (es : List Ent) (n : Int), 0 ≤ n ∧ n < es.length ∧ ds = [dStore CS CP es, .int n] ∧ d = dEnt CP (gi es n)
theorem ok_entry (S : StC K mg CS) (F : Mth K CS "entry" "Store.entry" s_Store_entry ["self", "number"]) (c1 : Cal P w K mg base T 3 "known" ["store", "number"] (R_known CS CP)) : MCal P w K mg base T 4 CS "entry" ["self", "number"] (R_entry CS CP) := by
  refine mcal_D F sc_Store_entry (fun ds d h => ?_) fun f cdv A outer s H G E ds d hr h => ?_
  · obtain ⟨es, n, _, _, rfl, _⟩ := h; rfl
  · obtain ⟨es, n, h0, h1, rfl, rfl⟩ := h
    refine jss_cons (js_expr (je_fn c1 hr (by decide) rfl ⟨es, n, h0, h1, rfl, rfl⟩ (ja_cons (je_var 0 rfl) (ja_one (je_var 1 rfl))))) ?_
    exact jss_one (js_ret (je_ixL (PE_r (je_fld (d := .lst (es.map (dEnt CP))) S.own.cls S.a1 (je_var 0 rfl) rfl)) (je_var 1 rfl) (atI_gi h0 h1)))
/-- store.entry(k) -/
theorem je_entry {X : Cx} {B : Bs} {ρ : List Sl} {o e : Expr} {pos apos : Pos} {k : Nat} {es : List Ent} {n : Int} {pl : Sem Bool} (S : StC X.K X.mg CS) (c1 : MCal X.prog X.w X.K X.mg X.base B.T 4 CS "entry" ["self", "number"] (R_entry CS CP)) (hr : Room k X.A) (hj : 4 ≤ k) (h0 : 0 ≤ n) (h1 : n < es.length) (ho : PE X o (tD X.K B ρ (dStore CS CP es))) (he : PE X e (tD X.K B ρ (.int n)))
    (hst : starEach [e] X.env = (false, eval e X.env) :: starEach [] X.env := by rfl) (hpl : (backTo pos (starEach [] X.env)).any (·.1) = false := by rfl)
    (ht : eval (.Call (.Attribute o "entry" apos) [e] [] pos) X.env = (do
      let ov ← eval o X.env
      standAt apos.atName
      let (f, first) ← holding [ov] (getMethod ov "entry" pl)
      callWith pos f first (backTo pos (starEach [e] X.env)) (backToKw pos (keywordEach [] X.env))) := by rfl) : PE X (.Call (.Attribute o "entry" apos) [e] [] pos) (tD X.K B ρ (dEnt CP (gi es n))) :=
  je_meth S.own.cls c1 hr hj (by decide) ⟨es, n, h0, h1, rfl, rfl⟩ ho (ja_one he hst) hst hpl ht
/-- isinstance(entry, Program) -/
def Ent.isPg : Ent → Bool
  | .pg _ => true
  | .mg _ _ _ => false
theorem je_isPg {X : Cx} {B : Bs} {ρ : List Sl} {a : Expr} {pos p p2 : Pos} {en : Ent} (hg : Gl X "isinstance") (hm : X.mg "isinstance" = none) (hg2 : Gl X "Program") (C : PgC X.K X.mg CP) (ha : PE X a (tD X.K B ρ (dEnt CP en)))
    (hs : starEach [a, .Name "Program" p2] X.env = (false, eval a X.env) :: starEach [.Name "Program" p2] X.env := by rfl) (hs2 : starEach [.Name "Program" p2] X.env = (false, eval (.Name "Program" p2) X.env) :: starEach [] X.env := by rfl) (hpl : (backTo pos (starEach [.Name "Program" p2] X.env)).any (·.1) = false := by rfl) :
    PE X (.Call (.Name "isinstance" p) [a, .Name "Program" p2] [] pos) (tD X.K B ρ (.bl en.isPg)) := by
  cases en with
  | pg q => exact je_isi (d := dPg CP q) hg hm ha (pe_cls hg2 C.mgp) (.own CP) C.own C.kp hs hs2 hpl
  | mg a b c => exact je_isi (d := .tup [.int a, .int b, .int c]) hg hm ha (pe_cls hg2 C.mgp) (.own CP) trivial C.kt hs hs2 hpl

/-! ### parts -/
def dRow (r : List Int) : D := .lst (r.map D.int)
def partsF (es : List Ent) (rows : List (List Int)) (k : Nat) : List (List Int) := match gi es (k : Int) with
  | .pg _ => rows ++ [[(k : Int)]]
  | .mg a b c => rows ++ [asc (gi rows a ++ gi rows b ++ gi rows c)]
def partsR (es : List Ent) (n : Nat) : List (List Int) := (List.range n).foldl (partsF es) []
def partsV (es : List Ent) (n : Nat) : List Int := gi (partsR es (n + 1)) (n : Int)
structure PartsOk (es : List Ent) : Prop where
  l : es.length < 64
  b : ∀ (k : Nat) (a b c : Int), k < es.length → gi es (k : Int) = .mg a b c → (0 ≤ a ∧ a < k) ∧ (0 ≤ b ∧ b < k) ∧ 0 ≤ c ∧ c < k
  s : ∀ (k : Nat) (a b c : Int), k < es.length → gi es (k : Int) = .mg a b c → (gi (partsR es k) a).length + (gi (partsR es k) b).length + (gi (partsR es k) c).length < 64
theorem partsF_len (es : List Ent) (rows : List (List Int)) (k : Nat) : (partsF es rows k).length = rows.length + 1 := by
  unfold partsF
  split <;> rw [List.length_append] <;> rfl
def R_parts (CS CP : Addr) (ds : List D) (d : D) : Prop := ∃ (es : List Ent) (n : Nat), PartsOk es ∧ n < es.length ∧ ds = [dStore CS CP es, .int (n : Int)] ∧ d = dRow (partsV es n)
theorem range_take {n k : Nat} (h : k ≤ n) : (List.range n).take k = List.range k := by rw [List.take_range, Nat.min_eq_left h]
theorem ok_parts (Bl : Blt mg) (C : PgC K mg CP) (S : StC K mg CS) (F : Dfn K mg "parts" s_parts ["store", "number"]) (c1 : Cal P w K mg base T 3 "known" ["store", "number"] (R_known CS CP)) (c2 : MCal P w K mg base T 4 CS "entry" ["self", "number"] (R_entry CS CP)) : Cal P w K mg base T 5 "parts" ["store", "number"] (R_parts CS CP) := by
  refine cal_D F sc_parts (fun ds d h => ?_) fun f cdv A outer s H G E ds d hr h => ?_
  · obtain ⟨es, n, _, _, rfl, _⟩ := h; rfl
  · obtain ⟨es, n, O, hn, rfl, rfl⟩ := h
    have ol := O.l
    refine jss_cons (js_expr (je_fn c1 hr (by decide) rfl ⟨es, n, by omega, by omega, rfl, rfl⟩ (ja_cons (je_var 0 rfl) (ja_one (je_var 1 rfl))))) ?_
    refine jss_cons (js_setL 2 (Nat.zero_le _) ja_nil sc_parts.nd) ?_
    refine jss_cons (js_forF (xs := List.range (n + 1)) (em := fun i : Nat => D.int (i : Int)) (fun z : List (List Int) => [.da (dStore CS CP es), .da (.int (n : Int)), .ow (lstK K (z.map dRow)), .un, .un, .un, .un, .un, .un]) (partsF es) (fun k z => z = partsR es k ∧ z.length = k) [] PassesOwn.never rfl
      (ji_range (n := n + 1) (by omega) rfl Bl.range (PE_eq (je_add (je_var 1 rfl) je_int) (congrArg D.int (by omega)))) (gok_name 3) (pg_name (i := 3) sc_parts.nd rfl (.inl rfl)) (fun _ _ => trivial) ⟨rfl, rfl⟩ (fun k z x hx ⟨h1, h2⟩ => ?_) (fun k z i hk ⟨h1, h2⟩ => ?_)) ?_
    · have hkn := (List.getElem?_eq_some_iff.mp hx).1
      rw [List.length_range] at hkn
      refine ⟨?_, by rw [partsF_len, h2]⟩
      have := foldl_inv (f := partsF es) (z0 := []) hx (z := z) (by rw [range_take (by omega)]; exact h1)
      rw [this, range_take (by omega)]
      rfl
    · have hkn := (List.getElem?_eq_some_iff.mp hk).1
      rw [List.length_range] at hkn
      have hik : i = k := by rw [List.getElem?_range hkn] at hk; exact (Option.some.inj hk).symm
      subst hik
      refine jss_cons (js_set 4 (je_entry (es := es) (n := (i : Int)) S c2 hr (by decide) (by omega) (by omega) (je_var 0 rfl) (je_var 3 rfl)) sc_parts.nd) ?_
      show PSs _ _ (tS _ _ _ _ (.nx [_, _, .ow (lstK K ((partsF es z i).map dRow)), _, _, _, _, _, _]))
      unfold partsF
      have hb := O.b i
      have hs := O.s i
      cases he : gi es (i : Int) with
      | pg p =>
        refine jss_one (js_if (jt_val (je_isPg (en := .pg p) rfl Bl.isinstance rfl C (je_var 4 rfl))) (fun _ => ?_) (fun z => nomatch z))
        have e : (z ++ [[(i : Int)]]).map dRow = z.map dRow ++ [dRow [(i : Int)]] := by rw [List.map_append]; rfl
        show PSs _ _ (tS _ _ _ _ (.nx [_, _, .ow (lstK K ((z ++ [[(i : Int)]]).map dRow)), _, _, _, _, _, _]))
        rw [e]
        refine jss_weak (.same (.same (.same (.un (.un (.un (.un (.un (.un .nil))))))))) (jss_one (js_app 2 rfl (by rw [List.length_map, h2]; show i < 2 ^ 24; omega) (je_ls (ja_one (je_var 3 rfl)))))
      | mg a b c =>
        obtain ⟨⟨a0, a1⟩, ⟨b0, b1⟩, c0, c1'⟩ := hb a b c (by omega) he
        have hs := hs a b c (by omega) he
        rw [← h1] at hs
        refine jss_one (js_if (jt_val (je_isPg (en := .mg a b c) rfl Bl.isinstance rfl C (je_var 4 rfl))) (fun z => nomatch z) (fun _ => ?_))
        have e : (z ++ [asc (gi z a ++ gi z b ++ gi z c)]).map dRow = z.map dRow ++ [dRow (asc (gi z a ++ gi z b ++ gi z c))] := by rw [List.map_append]; rfl
        show PSs _ _ (tS _ _ _ _ (.nx [_, _, .ow (lstK K ((z ++ [asc (gi z a ++ gi z b ++ gi z c)]).map dRow)), _, _, _, _, _, _]))
        rw [e]
        refine jss_cons (js_asg (d := .tup [.int a, .int b, .int c]) (gok_tup [5, 6, 7]) ⟨_, rfl, rfl⟩ (je_var 4 rfl) (pgT3 5 6 7 rfl sc_parts.nd)) ?_
        have hal := asc_len_le (gi z a ++ gi z b ++ gi z c)
        rw [List.length_append, List.length_append] at hal
        have sl : ∀ n : Nat, n < 64 → n ≤ sizeLine := fun n hn => by show n ≤ 2 ^ 24; omega
        refine jss_weak (.same (.same (.same (.un (.un (.un (.un (.un (.un .nil))))))))) (jss_one (js_app 2 rfl (by rw [List.length_map, h2]; show i < 2 ^ 24; omega) (je_sortedSet (L := gi z a ++ gi z b ++ gi z c) rfl (by omega) rfl Bl.sorted (pe_mono (je_sc (xs := gi z a ++ gi z b ++ gi z c) (em := D.int) (own := [("part", 8)]) (fun n => n) rfl sc_parts.nd (ji_list ?_) (blkOk_by (N := N_parts) (sc := defScope s_parts) (by decide +kernel)) (gok_name 8) (by simp) (fun _ _ => trivial) (by rw [List.length_append, List.length_append]; omega)
          (fun s H C cl fp => pg_name (i := 8) sc_parts.nd rfl (.inl rfl)) (fun k n hk s H C cl fp => je_var 8 rfl)) fun σ H Q h => by rw [List.map_id']; exact h))))
        rw [List.map_append, List.map_append]
        exact je_catL (by rw [List.length_append, List.length_map, List.length_map, List.length_map]; exact sl _ hs) (PE_r (je_catL (by rw [List.length_map, List.length_map]; exact sl _ (by omega)) (PE_r (je_ixL (jr_own 2 rfl) (je_var 5 rfl) (atI_gi (em := dRow) a0 (by omega)))) (PE_r (je_ixL (jr_own 2 rfl) (je_var 6 rfl) (atI_gi (em := dRow) b0 (by omega)))))) (PE_r (je_ixL (jr_own 2 rfl) (je_var 7 rfl) (atI_gi (em := dRow) c0 (by omega))))
    · have hlen : ((List.range (n + 1)).foldl (partsF es) []).length = n + 1 := by
        have : ∀ (l : List Nat) (z : List (List Int)), (l.foldl (partsF es) z).length = z.length + l.length := by
          intro l
          induction l with
          | nil => intro z; rfl
          | cons x l ih => intro z; rw [List.foldl_cons, ih, partsF_len, List.length_cons]; omega
        rw [this, List.length_range]; exact Nat.zero_add _
      exact jss_one (js_ret (je_ixL (jr_own 2 rfl) (je_var 1 rfl) (atI_gi (em := dRow) (by omega) (by omega))))
end MM
end
section
set_option Elab.async false
set_option linter.all false
set_option maxRecDepth 100000
set_option maxHeartbeats 4000000
namespace MM
open PySem PySem.Spec PyProof.Rows L2 NdefX DL
variable {P : Program} {w : World} {K : PySem.W.Frag} {mg : PySem.Str → Option Value} {base : Heap} {T : List NTab} {CS CP : Addr}
/-! ### outputs compared -/
abbrev Val := Option (List O3)
def dVal : Val → D
  | none => .non
  | some o => dOu o
def OuOk (o : List O3) : Prop := ∀ x ∈ o, PyData.strOk x.1 = true ∧ PyData.strOk x.2.1 = true
def VlOk (v : Val) : Prop := ∀ o, v = some o → OuOk o
theorem pl_dO3 {o : List O3} (h : OuOk o) : plAll 2 (o.map dO3) = true := by
  induction o with
  | nil => rfl
  | cons x o ih =>
    obtain ⟨h1, h2⟩ := h x (by simp)
    have := ih fun y hy => h y (List.mem_cons_of_mem _ hy)
    rw [List.map_cons]
    unfold plAll
    rw [this, Bool.and_true]
    unfold dO3 D.pl
    unfold plAll plAll plAll plAll
    unfold D.pl
    rw [h1, h2]
    rfl
theorem pl_dOu {o : List O3} (h : OuOk o) : (dOu o).pl 3 = true := by unfold dOu D.pl; exact pl_dO3 h
theorem pl_dVal {v : Val} (h : VlOk v) : (dVal v).pl 3 = true := by
  cases v with
  | none => rfl
  | some o => exact pl_dOu (h o rfl)
theorem eqv_dO3 (x y : O3) : PyData.eqv (dO3 x).py (dO3 y).py = decide (x = y) := by
  obtain ⟨a, b, c⟩ := x
  obtain ⟨a', b', c'⟩ := y
  have : PyData.eqv (dO3 (a, b, c)).py (dO3 (a', b', c')).py = ((a == a') && ((b == b') && ((c == c') && true))) := by
    simp [dO3, D.py, pyAll, PyData.eqv, PyData.eqvAll]
  rw [this, Bool.and_true, Bool.eq_iff_iff]
  simp [Prod.ext_iff]
theorem eqv_all : ∀ (a b : List O3), PyData.eqvAll (pyAll (a.map dO3)) (pyAll (b.map dO3)) = decide (a = b)
  | [], [] => by simp [pyAll, PyData.eqvAll]
  | [], y :: b => by simp [pyAll, PyData.eqvAll]
  | x :: a, [] => by simp [pyAll, PyData.eqvAll]
  | x :: a, y :: b => by
    rw [List.map_cons, List.map_cons]
    unfold pyAll PyData.eqvAll
    rw [eqv_dO3, eqv_all a b, Bool.eq_iff_iff]
    simp
theorem eqb_dOu (a b : List O3) : (dOu a).eqb (dOu b) = decide (a = b) := by
  unfold D.eqb dOu D.py PyData.eqv
  exact eqv_all a b
theorem eqb_dVal (a b : Val) : (dVal a).eqb (dVal b) = decide (a = b) := by
  cases a with
  | none =>
    cases b with
    | none => simp [D.eqb, dVal, D.py, PyData.eqv]
    | some b => simp [D.eqb, dVal, dOu, D.py, PyData.eqv]
  | some a =>
    cases b with
    | none => simp [D.eqb, dVal, dOu, D.py, PyData.eqv]
    | some b =>
      rw [show (dVal (some a)).eqb (dVal (some b)) = decide (a = b) from eqb_dOu a b, Bool.eq_iff_iff]
      simp
theorem isNon_dVal (v : Val) : (dVal v).isNon = v.isNone := by cases v <;> rfl

/-! ### merged -/
def mergedV (b o t : Val) : Val := if (b.isNone || (o.isNone || t.isNone)) = true then none else if o = b then t else if t = b ∨ o = t then o else none
def R_merged (ds : List D) (d : D) : Prop := ∃ b o t : Val, VlOk b ∧ VlOk o ∧ VlOk t ∧ ds = [dVal b, dVal o, dVal t] ∧ d = dVal (mergedV b o t)
theorem ok_merged (F : Dfn K mg "merged" s_merged ["base", "one", "other"]) : Cal P w K mg base T 1 "merged" ["base", "one", "other"] R_merged := by
  refine cal_D F sc_merged (fun ds d h => ?_) fun f cdv A outer s H G E ds d hr h => ?_
  · obtain ⟨b, o, t, _, _, _, rfl, _⟩ := h; rfl
  · obtain ⟨b, o, t, hb, ho, ht, rfl, rfl⟩ := h
    unfold mergedV
    refine jss_ifr (k := b.isNone || (o.isNone || t.isNone)) rfl (PT_eq (PW.pt (jw_or (jt_isN (PE_r (je_var 0 rfl))) fun _ => jw_or (jt_isN (PE_r (je_var 1 rfl))) fun _ => jw_or1 (jt_isN (PE_r (je_var 2 rfl))))) (by rw [isNon_dVal, isNon_dVal, isNon_dVal])) (fun hd => ?_) (fun hd => ?_)
    · rw [if_pos hd]
      exact jss_one (js_ret je_non)
    rw [if_neg (by rw [hd]; exact Bool.false_ne_true)]
    refine jss_ifr (k := decide (o = b)) rfl (PT_eq (jt_eqD hr.units (PE_r (je_var 1 rfl)) (PE_r (je_var 0 rfl)) (pl_dVal ho) (pl_dVal hb)) (eqb_dVal o b)) (fun hd => ?_) (fun hd => ?_)
    · rw [if_pos (of_decide_eq_true hd)]
      exact jss_one (js_ret (je_var 2 rfl))
    rw [if_neg (of_decide_eq_false hd)]
    refine jss_ifr (k := decide (t = b) || decide (o = t)) rfl (PT_eq (PW.pt (jw_or (jt_eqD hr.units (PE_r (je_var 2 rfl)) (PE_r (je_var 0 rfl)) (pl_dVal ht) (pl_dVal hb)) fun _ => jw_or1 (jt_eqD hr.units (PE_r (je_var 1 rfl)) (PE_r (je_var 2 rfl)) (pl_dVal ho) (pl_dVal ht)))) (by rw [eqb_dVal, eqb_dVal])) (fun hd => ?_) (fun hd => ?_)
    · rw [if_pos (by simpa using hd)]
      exact jss_one (js_ret (je_var 1 rfl))
    · rw [if_neg (by simpa using hd)]
      exact jss_one (js_ret je_non)
theorem merged_ok {b o t : Val} (ho : VlOk o) (ht : VlOk t) : VlOk (mergedV b o t) := by
  unfold mergedV
  intro x hx
  split at hx
  · cases hx
  · split at hx
    · exact ht x hx
    · split at hx
      · exact ho x hx
      · cases hx

/-! ### meaning -/
def lk (qs : List (Int × List O3)) (k : Int) : List O3 := ((qs.find? fun q => decide (q.1 = k)).map (·.2)).getD []
def dQs (qs : List (Int × List O3)) : D := .dk (dmap (fun q => (Sum.inl q.1 : Key)) (fun q => dOu q.2) qs)
theorem lk_at : ∀ {qs : List (Int × List O3)}, (qs.map (·.1)).Nodup → ∀ q ∈ qs, lk qs q.1 = q.2
  | p :: qs, hn, q, h => by
    rw [List.map_cons] at hn
    have hn := List.nodup_cons.mp hn
    unfold lk
    rw [List.find?_cons]
    rcases List.mem_cons.mp h with rfl | h
    · simp
    · have : p.1 ≠ q.1 := fun e => hn.1 (e ▸ List.mem_map.mpr ⟨q, h, rfl⟩)
      rw [decide_eq_false this]
      exact lk_at hn.2 q h
theorem lk_no {qs : List (Int × List O3)} {k : Int} (h : k ∉ qs.map (·.1)) : lk qs k = [] := by
  unfold lk
  rw [List.find?_eq_none.mpr]
  · rfl
  · intro q hq e
    exact h (List.mem_map.mpr ⟨q, hq, of_decide_eq_true e⟩)
def lkK (qs : List (Int × List O3)) : Key → D
  | .inl k => dOu (lk qs k)
  | .inr _ => .non
theorem dget_qs {qs : List (Int × List O3)} (hn : (qs.map (·.1)).Nodup) (k : Int) : (dget (dmap (fun q => (Sum.inl q.1 : Key)) (fun q => dOu q.2) qs) (Sum.inl k)).getD (dOu []) = dOu (lk qs k) := by
  have hF : ∀ x ∈ qs, (fun q : Int × List O3 => dOu q.2) x = lkK qs (Sum.inl x.1) := fun x hx => by
    show dOu x.2 = dOu (lk qs x.1)
    rw [lk_at hn x hx]
  by_cases h : k ∈ qs.map (·.1)
  · obtain ⟨q, hq, rfl⟩ := List.mem_map.mp h
    rw [dget_dmap (lkK qs) hF (List.mem_map.mpr ⟨q, hq, rfl⟩)]
    rfl
  · rw [dget_dmap0 (lkK qs) hF, lk_no h]
    · rfl
    · intro z
      obtain ⟨q, hq, e⟩ := List.mem_map.mp z
      exact h (List.mem_map.mpr ⟨q, hq, Sum.inl.inj e⟩)
def valsF (es : List Ent) (qs : List (Int × List O3)) (vals : List Val) (k : Nat) : List Val := match gi es (k : Int) with
  | .pg _ => vals ++ [some (lk qs (k : Int))]
  | .mg a b c => vals ++ [mergedV (gi vals a) (gi vals b) (gi vals c)]
def valsR (es : List Ent) (qs : List (Int × List O3)) (n : Nat) : List Val := (List.range n).foldl (valsF es qs) []
def meanV (es : List Ent) (qs : List (Int × List O3)) (n : Nat) : Val := gi (valsR es qs (n + 1)) (n : Int)
structure MeanOk (es : List Ent) (qs : List (Int × List O3)) : Prop where
  l : es.length < 64
  b : ∀ (k : Nat) (a b c : Int), k < es.length → gi es (k : Int) = .mg a b c → (0 ≤ a ∧ a < k) ∧ (0 ≤ b ∧ b < k) ∧ 0 ≤ c ∧ c < k
  nd : (qs.map (·.1)).Nodup
  o : ∀ q ∈ qs, OuOk q.2
theorem lk_ok {qs : List (Int × List O3)} (h : ∀ q ∈ qs, OuOk q.2) (k : Int) : OuOk (lk qs k) := by
  unfold lk
  cases e : qs.find? fun q => decide (q.1 = k) with
  | none => exact fun x hx => absurd hx (by simp)
  | some q => exact h q (List.mem_of_find?_eq_some e)
theorem valsF_len (es : List Ent) (qs : List (Int × List O3)) (vals : List Val) (k : Nat) : (valsF es qs vals k).length = vals.length + 1 := by
  unfold valsF
  split <;> rw [List.length_append] <;> rfl
theorem gi_mem {α : Type} [Inhabited α] {xs : List α} {i : Int} (h0 : 0 ≤ i) (h1 : i < xs.length) : gi xs i ∈ xs := by
  obtain ⟨k, rfl⟩ : ∃ k : Nat, i = k := ⟨i.toNat, by omega⟩
  have hk : k < xs.length := by omega
  rw [gi_nat (List.getElem?_eq_getElem hk)]
  exact List.getElem_mem hk
def R_meaning (CS CP : Addr) (ds : List D) (d : D) : Prop := ∃ (es : List Ent) (qs : List (Int × List O3)) (n : Nat), MeanOk es qs ∧ n < es.length ∧ ds = [dStore CS CP es, .int (n : Int), dQs qs] ∧ d = dVal (meanV es qs n)
theorem ok_meaning (Bl : Blt mg) (C : PgC K mg CP) (S : StC K mg CS) (F : Dfn K mg "meaning" s_meaning ["store", "number", "outputs"]) (c1 : MCal P w K mg base T 4 CS "entry" ["self", "number"] (R_entry CS CP)) (c2 : Cal P w K mg base T 1 "merged" ["base", "one", "other"] R_merged) : Cal P w K mg base T 5 "meaning" ["store", "number", "outputs"] (R_meaning CS CP) := by
  refine cal_D F sc_meaning (fun ds d h => ?_) fun f cdv A outer s H G E ds d hr h => ?_
  · obtain ⟨es, qs, n, _, _, rfl, _⟩ := h; rfl
  · obtain ⟨es, qs, n, O, hn, rfl, rfl⟩ := h
    have ol := O.l
    refine jss_cons (js_setL 3 (Nat.zero_le _) ja_nil sc_meaning.nd) ?_
    refine jss_cons (js_forF (xs := List.range (n + 1)) (em := fun i : Nat => D.int (i : Int)) (fun z : List Val => [.da (dStore CS CP es), .da (.int (n : Int)), .da (dQs qs), .ow (lstK K (z.map dVal)), .un, .un]) (valsF es qs) (fun k z => z = valsR es qs k ∧ z.length = k ∧ ∀ v ∈ z, VlOk v) [] PassesOwn.never rfl
      (ji_range (n := n + 1) (by omega) rfl Bl.range (PE_eq (je_add (je_var 1 rfl) je_int) (congrArg D.int (by omega)))) (gok_name 4) (pg_name (i := 4) sc_meaning.nd rfl (.inl rfl)) (fun _ _ => trivial) ⟨rfl, rfl, fun v hv => absurd hv (by simp)⟩ (fun k z x hx ⟨h1, h2, h3⟩ => ?_) (fun k z i hk ⟨h1, h2, h3⟩ => ?_)) ?_
    · have hkn := (List.getElem?_eq_some_iff.mp hx).1
      rw [List.length_range] at hkn
      have hxk : x = k := by rw [List.getElem?_range hkn] at hx; exact (Option.some.inj hx).symm
      refine ⟨?_, by rw [valsF_len, h2], ?_⟩
      · have := foldl_inv (f := valsF es qs) (z0 := []) hx (z := z) (by rw [range_take (by omega)]; exact h1)
        rw [this, range_take (by omega)]
        rfl
      · subst hxk
        have hb := O.b x
        unfold valsF
        cases he : gi es (x : Int) with
        | pg p =>
          intro v hv
          rcases List.mem_append.mp hv with hv | hv
          · exact h3 v hv
          · rw [List.mem_singleton] at hv
            subst hv
            exact fun o ho => by cases ho; exact lk_ok O.o _
        | mg a b c =>
          obtain ⟨⟨a0, a1⟩, ⟨b0, b1⟩, c0, c1'⟩ := hb a b c (by omega) he
          intro v hv
          rcases List.mem_append.mp hv with hv | hv
          · exact h3 v hv
          · rw [List.mem_singleton] at hv
            subst hv
            exact merged_ok (h3 _ (gi_mem b0 (by omega))) (h3 _ (gi_mem c0 (by omega)))
    · have hkn := (List.getElem?_eq_some_iff.mp hk).1
      rw [List.length_range] at hkn
      have hik : i = k := by rw [List.getElem?_range hkn] at hk; exact (Option.some.inj hk).symm
      subst hik
      refine jss_cons (js_set 5 (je_entry (es := es) (n := (i : Int)) S c1 hr (by decide) (by omega) (by omega) (je_var 0 rfl) (je_var 4 rfl)) sc_meaning.nd) ?_
      show PSs _ _ (tS _ _ _ _ (.nx [_, _, _, .ow (lstK K ((valsF es qs z i).map dVal)), _, _]))
      unfold valsF
      have hb := O.b i
      cases he : gi es (i : Int) with
      | pg p =>
        refine jss_one (js_if (jt_val (je_isPg (en := .pg p) rfl Bl.isinstance rfl C (je_var 5 rfl))) (fun _ => ?_) (fun z => nomatch z))
        have e : (z ++ [some (lk qs (i : Int))]).map dVal = z.map dVal ++ [dOu (lk qs (i : Int))] := by rw [List.map_append]; rfl
        show PSs _ _ (tS _ _ _ _ (.nx [_, _, _, .ow (lstK K ((z ++ [some (lk qs (i : Int))]).map dVal)), _, _]))
        rw [e]
        refine jss_weak (.same (.same (.same (.same (.un (.un .nil)))))) (jss_one (js_app 3 rfl (by rw [List.length_map, h2]; show i < 2 ^ 24; omega) (PE_eq (je_dget2 (d := dOu []) (m := dmap (fun q => (Sum.inl q.1 : Key)) (fun q => dOu q.2) qs) (room1 hr) (je_var 2 rfl) (je_var 4 rfl) (je_tp ja_nil) ⟨rfl, rfl, rfl, rfl⟩) (dget_qs O.nd _))))
      | mg a b c =>
        obtain ⟨⟨a0, a1⟩, ⟨b0, b1⟩, c0, c1'⟩ := hb a b c (by omega) he
        refine jss_one (js_if (jt_val (je_isPg (en := .mg a b c) rfl Bl.isinstance rfl C (je_var 5 rfl))) (fun z => nomatch z) (fun _ => ?_))
        have e : (z ++ [mergedV (gi z a) (gi z b) (gi z c)]).map dVal = z.map dVal ++ [dVal (mergedV (gi z a) (gi z b) (gi z c))] := by rw [List.map_append]; rfl
        show PSs _ _ (tS _ _ _ _ (.nx [_, _, _, .ow (lstK K ((z ++ [mergedV (gi z a) (gi z b) (gi z c)]).map dVal)), _, _]))
        rw [e]
        refine jss_weak (.same (.same (.same (.same (.un (.un .nil)))))) (jss_one (js_app 3 rfl (by rw [List.length_map, h2]; show i < 2 ^ 24; omega) (je_fn c2 hr (by decide) rfl ⟨gi z a, gi z b, gi z c, h3 _ (gi_mem a0 (by omega)), h3 _ (gi_mem b0 (by omega)), h3 _ (gi_mem c0 (by omega)), rfl, rfl⟩
          (ja_cons (je_ixL (jr_own 3 rfl) (je_ixT (d := .int a) (xs := [.int a, .int b, .int c]) (je_var 5 rfl) je_int rfl) (atI_gi (em := dVal) a0 (by omega))) (ja_cons (je_ixL (jr_own 3 rfl) (je_ixT (d := .int b) (xs := [.int a, .int b, .int c]) (je_var 5 rfl) je_int rfl) (atI_gi (em := dVal) b0 (by omega))) (ja_one (je_ixL (jr_own 3 rfl) (je_ixT (d := .int c) (xs := [.int a, .int b, .int c]) (je_var 5 rfl) je_int rfl) (atI_gi (em := dVal) c0 (by omega)))))))))
    · have hlen : ((List.range (n + 1)).foldl (valsF es qs) []).length = n + 1 := by
        have : ∀ (l : List Nat) (z : List Val), (l.foldl (valsF es qs) z).length = z.length + l.length := by
          intro l
          induction l with
          | nil => intro z; rfl
          | cons x l ih => intro z; rw [List.foldl_cons, ih, valsF_len, List.length_cons]; omega
        rw [this, List.length_range]; exact Nat.zero_add _
      exact jss_one (js_ret (je_ixL (jr_own 3 rfl) (je_var 1 rfl) (atI_gi (em := dVal) (by omega) (by omega))))
end MM
end
section
set_option Elab.async false
set_option linter.all false
set_option maxRecDepth 100000
set_option maxHeartbeats 4000000
namespace MM
open PySem PySem.Spec PyProof.Rows L2 NdefX DL
variable {P : Program} {w : World} {K : PySem.W.Frag} {mg : PySem.Str → Option Value} {base : Heap} {T : List NTab} {CS CP : Addr}
/-! ### together -/
def togV (es : List Ent) (ns : List Nat) : List Int := asc (ns.flatMap (partsV es))
def R_together (CS CP : Addr) (ds : List D) (d : D) : Prop := ∃ (es : List Ent) (ns : List Nat) (most : Int), PartsOk es ∧ ns.length < 10 ∧ (∀ n ∈ ns, n < es.length) ∧ (ns.flatMap (partsV es)).length < 64 ∧ ((togV es ns).length : Int) ≤ most ∧
  ds = [dStore CS CP es, .lst (ns.map fun n : Nat => D.int (n : Int)), .int most] ∧ d = dRow (togV es ns)
theorem ok_together (Bl : Blt mg) (F : Dfn K mg "together" s_together ["store", "numbers", "most"]) (c1 : Cal P w K mg base T 3 "known" ["store", "number"] (R_known CS CP)) (c2 : Cal P w K mg base T 5 "parts" ["store", "number"] (R_parts CS CP)) : Cal P w K mg base T 6 "together" ["store", "numbers", "most"] (R_together CS CP) := by
  refine cal_D F sc_together (fun ds d h => ?_) fun f cdv A outer s H G E ds d hr h => ?_
  · obtain ⟨es, ns, most, _, _, _, _, _, rfl, _⟩ := h; rfl
  · obtain ⟨es, ns, most, O, hl, hn, hf, hm, rfl, rfl⟩ := h
    have al := asc_len_le (ns.flatMap (partsV es))
    refine jss_cons (js_forF (xs := ns) (em := fun n : Nat => D.int (n : Int)) (fun _ : Unit => [.da (dStore CS CP es), .da (.lst (ns.map fun n : Nat => D.int (n : Int))), .da (.int most), .un, .un, .un]) (fun _ _ => ()) (fun _ _ => True) () PassesOwn.never rfl
      (ji_list (je_var 1 rfl)) (gok_name 3) (pg_name (i := 3) sc_together.nd rfl (.inl rfl)) (fun _ _ => trivial) trivial (fun _ _ _ _ _ => trivial) (fun k z n hk _ => ?_)) ?_
    · have hnl := hn n (List.mem_of_getElem? hk)
      exact jss_weak (.same (.same (.same (.un (.un (.un .nil)))))) (jss_one (js_expr (je_fn c1 hr (by decide) rfl ⟨es, n, by omega, by omega, rfl, rfl⟩ (ja_cons (je_var 0 rfl) (ja_one (je_var 3 rfl))))))
    · have e : (ns.flatMap fun n => (partsV es n).map fun i => i) = ns.flatMap (partsV es) := congrArg (fun F => ns.flatMap F) (funext fun n => List.map_id' _)
      refine jss_cons (js_set 4 (je_sortedSet (L := ns.flatMap (partsV es)) rfl (by omega) rfl Bl.sorted (pe_mono (je_sc2 (B := ⟨T, G, H⟩) (xs := ns) (em := fun n : Nat => D.int (n : Int)) (own := [("number", 3), ("part", 5)]) (vs1 := [5]) (partsV es) D.int (fun n i => i) rfl sc_together.nd (ji_list (je_var 1 rfl)) (blkOk_by (N := N_together) (sc := defScope s_together) (by decide +kernel)) (by simp) (gok_name 3) (by simp) (fun _ _ => trivial)
        (gok_name 5) (by simp) (fun _ _ _ _ => trivial) (by rw [e]; omega) (fun s H C cl fp => pg_name (i := 3) sc_together.nd rfl (.inl rfl)) (fun s H C cl fp => pg_name (i := 5) sc_together.nd rfl (.inl rfl))
        (fun k n hk s H C cl fp => ji_list (je_fn c2 hr (by decide) rfl ⟨es, n, O, hn n (List.mem_of_getElem? hk), rfl, rfl⟩ (ja_cons (je_var 0 rfl) (ja_one (je_var 3 rfl))))) (fun k n j y hk hj s H C cl fp => je_var 5 rfl)) fun σ H Q h => by rw [e]; exact h)) sc_together.nd) ?_
      refine jss_ifn (jt_gt (PE_eq (je_lenL rfl Bl.len (PE_r (je_var 4 rfl))) (show _ = D.int ((togV es ns).length : Int) by rw [List.length_map]; rfl)) (je_var 2 rfl)) (decide_eq_false (by omega)) ?_
      exact jss_one (js_ret (je_var 4 rfl))

/-! ### by_part, all_names -/
def R_by_part (ds : List D) (d : D) : Prop := ∃ (sm : List Int) (os : List (List O3)), sm.length < 1000 ∧ ds = [dRow sm, .lst (os.map dOu)] ∧ d = dQs (sm.zip os)
theorem ok_by_part (Bl : Blt mg) (F : Dfn K mg "by_part" s_by_part ["some", "outputs"]) : Cal P w K mg base T 1 "by_part" ["some", "outputs"] R_by_part := by
  refine cal_D F sc_by_part (fun ds d h => ?_) fun f cdv A outer s H G E ds d hr h => ?_
  · obtain ⟨sm, os, _, rfl, _⟩ := h; rfl
  · obtain ⟨sm, os, hl, rfl, rfl⟩ := h
    refine jss_one (js_ret (je_dc (xs := sm.zip os) (em := fun q => D.tup [.int q.1, dOu q.2]) (own := [("part", 2), ("output", 3)]) (fun q => q.1) (fun q => dOu q.2) rfl sc_by_part.nd ?_ (blkOk_by (N := N_by_part) (sc := defScope s_by_part) (by decide +kernel)) (gok_tup [2, 3]) (by simp) (fun _ _ => ⟨_, rfl, rfl⟩) (by rw [List.length_zip]; exact sz24 (Nat.lt_of_le_of_lt (Nat.min_le_left _ _) hl))
      (fun s H C cl fp => pgT2 2 3 rfl sc_by_part.nd) (fun k n hk s H C cl fp => je_var 2 rfl) (fun k n hk s H C cl fp => je_var 3 rfl)))
    have e : (sm.zip os).map (fun q => D.tup [.int q.1, dOu q.2]) = zipD (sm.map D.int) (os.map dOu) := by
      unfold zipD
      rw [List.zip_map, List.map_map]
      rfl
    rw [e]
    exact ji_zip rfl Bl.zip (je_var 0 rfl) (je_var 1 rfl)
def R_all_names (CS CP : Addr) (ds : List D) (d : D) : Prop := ∃ (es : List Ent) (p : Pg), 0 < es.length ∧ gi es 0 = .pg p ∧ ds = [dStore CS CP es] ∧ d = .ptup (p.names.map D.str)
theorem ok_all_names (C : PgC K mg CP) (S : StC K mg CS) (F : Dfn K mg "all_names" s_all_names ["store"]) (c1 : MCal P w K mg base T 4 CS "entry" ["self", "number"] (R_entry CS CP)) : Cal P w K mg base T 5 "all_names" ["store"] (R_all_names CS CP) := by
  refine cal_D F sc_all_names (fun ds d h => ?_) fun f cdv A outer s H G E ds d hr h => ?_
  · obtain ⟨es, p, _, _, rfl, _⟩ := h; rfl
  · obtain ⟨es, p, hl, he, rfl, rfl⟩ := h
    exact jss_one (js_ret (je_names (p := p) C (PE_eq (je_entry (es := es) (n := 0) S c1 hr (by decide) (by omega) (by omega) (je_var 0 rfl) je_int) (by rw [he]; rfl))))

/-! ### input_to -/
def stAt (st : Stmt) (i : Nat) : Stmt := (defBody st).getD i (.Pass ⟨0, 0, 0, 0⟩)
def whPos (st : Stmt) (i : Nat) : Pos := match stAt st i with
  | .While _ _ _ p => p
  | _ => ⟨0, 0, 0, 0⟩
def whCond (st : Stmt) (i : Nat) : Expr := match stAt st i with
  | .While c _ _ _ => c
  | _ => .Constant .none 0 ⟨0, 0, 0, 0⟩
def whBody (st : Stmt) (i : Nat) : List Stmt := match stAt st i with
  | .While _ b _ _ => b
  | _ => []

abbrev KE := (Int × Option Msg) × List Conf
def dMo : Option Msg → D
  | none => .non
  | some m => dMs m
def dKe (k : KE) : D := .tup [.tup [.int k.1.1, dMo k.1.2], dSp k.2]
inductive Chain (kept : List KE) : Int → List Msg → Prop
  | zero : Chain kept 0 []
  | step {a b : Int} {m : Msg} {l : List Msg} : 0 < a → a < kept.length → (gi kept a).1 = (b, some m) → Chain kept b l → Chain kept a (m :: l)
theorem Chain.ats {kept : List KE} : ∀ {l : List Msg} {a : Int}, Chain kept a l → ∃ ats : Nat → Int, ats 0 = a ∧ ats l.length = 0 ∧ ∀ k m, l[k]? = some m → 0 < ats k ∧ ats k < kept.length ∧ (gi kept (ats k)).1 = (ats (k + 1), some m)
  | [], _, .zero => ⟨fun _ => 0, rfl, rfl, fun k m h => by simp at h⟩
  | m :: l, a, .step h0 h1 h2 h3 => by
    obtain ⟨ats, e0, e1, e2⟩ := h3.ats
    refine ⟨fun k => match k with | 0 => a | k + 1 => ats k, rfl, e1, fun k m' hk => ?_⟩
    cases k with
    | zero =>
      simp at hk
      subst hk
      exact ⟨h0, h1, by rw [h2, ← e0]⟩
    | succ k => exact e2 k m' (by simpa using hk)
def inputV (ps : List Pg) (steps : List Msg) : List Msg := steps.foldl (contV ps) []
structure InputOk (ps : List Pg) (steps : List Msg) : Prop where
  ok : ∀ (k : Nat) (tk : Msg), steps[k]? = some tk → ContOk ps (inputV ps (steps.take k)) tk
def R_input_to (CP : Addr) (ds : List D) (d : D) : Prop := ∃ (ps : List Pg) (kept : List KE) (a : Int) (tk : Msg) (l : List Msg), Chain kept a l ∧ l.length < 1000 ∧ InputOk ps (tk :: l).reverse ∧ ds = [.lst (ps.map (dPg CP)), .lst (kept.map dKe), .int a, dMs tk] ∧ d = .lst ((inputV ps (tk :: l).reverse).map dMs)
theorem ok_input_to (F : Dfn K mg "input_to" s_input_to ["programs", "kept", "at", "taken"]) (c1 : Cal P w K mg base T 4 "continued" ["programs", "messages", "step_taken"] (R_continued CP)) : Cal P w K mg base T 5 "input_to" ["programs", "kept", "at", "taken"] (R_input_to CP) := by
  refine cal_D F sc_input_to (fun ds d h => ?_) fun f cdv A outer s H G E ds d hr h => ?_
  · obtain ⟨ps, kept, a, tk, l, _, _, _, rfl, _⟩ := h; rfl
  · obtain ⟨ps, kept, a, tk, l, hc, hl, O, rfl, rfl⟩ := h
    obtain ⟨ats, e0, e1, e2⟩ := hc.ats
    refine jss_cons (js_setL 4 (Nat.le_of_ble_eq_true rfl) (ja_one (je_var 3 rfl)) sc_input_to.nd) ?_
    have hwh : PS (cxOf CX0 P w K mg base N_input_to "input_to" (defScope s_input_to) f cdv A outer s H E).nox (stAt s_input_to 1) (tS K ⟨T, G, H⟩ E0 [.da (.lst (ps.map (dPg CP))), .da (.lst (kept.map dKe)), .da (.int a), .da (dMs tk), .ow (lstK K [dMs tk]), .un, .un, .un, .un]
        (.nx [.da (.lst (ps.map (dPg CP))), .da (.lst (kept.map dKe)), .da (.int 0), .da (dMs tk), .ow (lstK K ((tk :: l).map dMs)), .un, .un, .un, .un])) := by
      have h := js_while (X := (cxOf CX0 P w K mg base N_input_to "input_to" (defScope s_input_to) f cdv A outer s H E).nox) (B := ⟨T, G, H⟩) (E := E0) (pos := whPos s_input_to 1) (c := whCond s_input_to 1) (body := whBody s_input_to 1)
        (fun k => [.da (.lst (ps.map (dPg CP))), .da (.lst (kept.map dKe)), .da (.int (ats k)), .da (dMs tk), .ow (lstK K ((tk :: l.take k).map dMs)), .un, .un, .un, .un]) l.length PassesOwn.never
        (fun k hk => PT_eq (jt_gt (je_var 2 rfl) je_int) ?_) (fun k hk => ?_)
      · rw [e0, e1, List.take_zero, List.take_length] at h
        exact h
      · by_cases hlt : k < l.length
        · have := (e2 k _ (List.getElem?_eq_getElem hlt)).1
          rw [decide_eq_true this, decide_eq_true hlt]
        · have : k = l.length := by omega
          subst this
          rw [e1]
          simp
      · have hk' := List.getElem?_eq_getElem hk
        obtain ⟨a0, a1, a2⟩ := e2 k _ hk'
        have e : (tk :: l.take (k + 1)).map dMs = (tk :: l.take k).map dMs ++ [dMs l[k]] := by rw [List.take_succ, hk', ← List.cons_append, List.map_append]; rfl
        show PSs _ _ (tS _ _ _ _ (.nx [_, _, _, _, .ow (lstK K ((tk :: l.take (k + 1)).map dMs)), _, _, _, _]))
        rw [e]
        refine jss_cons (js_asg (d := .tup [.int (ats (k + 1)), dMs l[k]]) (gok_tup [5, 6]) ⟨_, rfl, rfl⟩ (je_ixT (xs := [.tup [.int (ats (k + 1)), dMs l[k]], dSp (gi kept (ats k)).2]) (PE_eq (je_ixL (PE_r (je_var 1 rfl)) (je_var 2 rfl) (atI_gi (em := dKe) (by omega) a1)) (by unfold dKe; rw [a2]; rfl)) je_int rfl) (pgT2 5 6 rfl sc_input_to.nd)) ?_
        refine jss_cons (js_app 4 rfl ?_ (je_var 6 rfl)) ?_
        · rw [List.length_map, List.length_cons, List.length_take]
          show min k l.length + 1 < 2 ^ 24
          omega
        exact jss_weak (.same (.same (.same (.same (.same (.un (.un (.un (.un .nil))))))))) (jss_one (js_set 2 (je_var 5 rfl) sc_input_to.nd))
    refine jss_cons hwh ?_
    refine jss_cons (js_set 7 (je_ls ja_nil) sc_input_to.nd) ?_
    refine jss_cons (js_forF (xs := (tk :: l).reverse) (em := dMs) (fun z : List Msg => [.da (.lst (ps.map (dPg CP))), .da (.lst (kept.map dKe)), .da (.int 0), .da (dMs tk), .ow (lstK K ((tk :: l).map dMs)), .un, .un, .da (.lst (z.map dMs)), .un]) (contV ps) (fun k z => z = inputV ps ((tk :: l).reverse.take k)) [] PassesOwn.never rfl
      ?_ (gok_name 8) (pg_name (i := 8) sc_input_to.nd rfl (.inl rfl)) (fun _ _ => trivial) rfl (fun k z x hx hz => foldl_inv hx hz) (fun k z x hx hz => ?_)) ?_
    · rw [List.map_reverse]
      exact ji_list (je_revL (jr_own 4 rfl))
    · have co := O.ok k x hx
      rw [← hz] at co
      exact jss_weak (.same (.same (.same (.same (.same (.same (.same (.same (.un .nil))))))))) (jss_one (js_set 7 (je_fn c1 hr (by decide) rfl ⟨ps, z, x, co, rfl, rfl⟩ (ja_cons (je_var 0 rfl) (ja_cons (je_var 7 rfl) (ja_one (je_var 8 rfl))))) sc_input_to.nd))
    · exact jss_one (js_ret (je_var 7 rfl))
end MM
end
section
set_option Elab.async false
set_option linter.all false
set_option maxRecDepth 100000
set_option maxHeartbeats 4000000
namespace MM
open PySem PySem.Spec PyProof.Rows L2 NdefX DL
variable {P : Program} {w : World} {K : PySem.W.Frag} {mg : PySem.Str → Option Value} {base : Heap} {T : List NTab} {CS CP CT : Addr}
/-! ### spots as keys -/
theorem nk_ints : ∀ {a b : List Int}, nkAll (a.map D.int) = nkAll (b.map D.int) → a = b
  | [], [], _ => rfl
  | [], _ :: _, h => by simp [nkAll] at h
  | _ :: _, [], h => by simp [nkAll] at h
  | x :: a, y :: b, h => by
    simp only [List.map_cons, nkAll, D.nk, List.cons.injEq, NestedKey.num.injEq] at h
    rw [h.1, nk_ints h.2]
theorem nk_conf {a b : Conf} (h : (dCf a).nk = (dCf b).nk) : a = b := by
  obtain ⟨s, k⟩ := a
  obtain ⟨s', k'⟩ := b
  simp only [dCf, dI, D.nk, nkAll, NestedKey.tup.injEq, List.cons.injEq, NestedKey.num.injEq, and_true] at h
  rw [h.1, nk_ints h.2]
theorem nk_confs : ∀ {a b : List Conf}, nkAll (a.map dCf) = nkAll (b.map dCf) → a = b
  | [], [], _ => rfl
  | [], _ :: _, h => by simp [nkAll] at h
  | _ :: _, [], h => by simp [nkAll] at h
  | x :: a, y :: b, h => by
    simp only [List.map_cons, nkAll, List.cons.injEq] at h
    rw [nk_conf h.1, nk_confs h.2]
theorem nk_spot {a b : List Conf} (h : (dSp a).nk = (dSp b).nk) : a = b := by
  simp only [dSp, D.nk, NestedKey.tup.injEq] at h
  exact nk_confs h
theorem ky_ints (n : Nat) : ∀ a : List Int, kyAll n (a.map D.int) = true
  | [] => by cases n <;> rfl
  | x :: a => by
    rw [List.map_cons]
    unfold kyAll
    rw [ky_ints n a]
    cases n <;> rfl
theorem ky_confs : ∀ a : List Conf, kyAll 7 (a.map dCf) = true
  | [] => rfl
  | x :: a => by
    rw [List.map_cons]
    unfold kyAll
    rw [ky_confs a, Bool.and_true]
    unfold dCf D.ky kyAll kyAll kyAll dI D.ky
    rw [ky_ints]
    rfl
theorem ky_spot (a : List Conf) : (dSp a).ky 8 = true := by unfold dSp D.ky; exact ky_confs a
theorem mem_spots {sp : List Conf} {ks : List KE} : decide ((dSp sp).nk ∈ (ks.map fun k => dSp k.2).map D.nk) = decide (sp ∈ ks.map (·.2)) := by
  rw [Bool.eq_iff_iff]
  simp only [decide_eq_true_eq, List.map_map]
  constructor
  · intro z
    obtain ⟨k, hk, e⟩ := List.mem_map.mp z
    exact List.mem_map.mpr ⟨k, hk, nk_spot e⟩
  · intro z
    obtain ⟨k, hk, e⟩ := List.mem_map.mp z
    exact List.mem_map.mpr ⟨k, hk, by rw [← e]; rfl⟩

/-! ### search -/
def firstS (ps : List Pg) : List Conf := ps.map fun _ => (0, [])
theorem first_eq (ps : List Pg) : rspot (ends ps []) = firstS ps := by
  unfold rspot ends firstS
  rw [List.map_map]
  rfl
theorem nums_first (ps : List Pg) : nums (ends ps []) = [] := by
  unfold nums ends
  rw [List.flatMap_map]
  exact List.flatMap_eq_nil_iff.mpr fun _ _ => rfl
def spAt (kept : List KE) (k : Nat) : List Conf := (gi kept (k : Int)).2
def extF (ps : List Pg) (sp : List Conf) (a : Int) (kept : List KE) (tk : Msg) : Option (List KE) :=
  if (safterV ps sp tk).1 ∈ kept.map (·.2) then some kept else if kept.length = 400 then none else some (kept ++ [((a, some tk), (safterV ps sp tk).1)])
def extAll (ps : List Pg) (sp : List Conf) (a : Int) : List KE → List Msg → Option (List KE)
  | kept, [] => some kept
  | kept, tk :: tks => match extF ps sp a kept tk with
    | some k => extAll ps sp a k tks
    | none => none
inductive SEnd where
  | none
  | found (tk : Msg) (l : List Msg)
  | large
/-- a turn's calls are in order -/
structure TurnOk (ps : List Pg) (names : List St) (dom : List (List O3) → Prop) (sp : List Conf) : Prop where
  nl : names.length < 1000
  sl : sp.length < 1000
  nn : (nums sp).length < 64
  sa : ∀ tk ∈ stepsV names sp, SaOk ps sp tk ∧ dom (safterV ps sp tk).2
def finOk (ps : List Pg) (names : List St) (mark : List (List O3) → Bool) (n : Nat) (kept : List KE) : SEnd → Prop
  | .none => n = kept.length
  | .found tk l => n < kept.length ∧ (∃ j : Nat, (stepsV names (spAt kept n))[j]? = some tk ∧ mark (safterV ps (spAt kept n) tk).2 = true ∧ ∀ (i : Nat) (t : Msg), i < j → (stepsV names (spAt kept n))[i]? = some t → mark (safterV ps (spAt kept n) t).2 = false) ∧ Chain kept (n : Int) l ∧ l.length < 1000 ∧ InputOk ps (tk :: l).reverse
  | .large => n < kept.length ∧ (∀ tk ∈ stepsV names (spAt kept n), mark (safterV ps (spAt kept n) tk).2 = false) ∧ extAll ps (spAt kept n) (n : Int) kept (stepsV names (spAt kept n)) = none
structure SrchOk (ps : List Pg) (names : List St) (mark : List (List O3) → Bool) (dom : List (List O3) → Prop) (n : Nat) (kp : Nat → List KE) (e : SEnd) : Prop where
  pl : ps.length < 1000
  k0 : kp 0 = [((0, none), firstS ps)]
  ln : ∀ k, k ≤ n → (kp k).length ≤ 400
  turn : ∀ k, k ≤ n → k < (kp k).length → TurnOk ps names dom (spAt (kp k) k)
  go : ∀ k, k < n → k < (kp k).length ∧ (∀ tk ∈ stepsV names (spAt (kp k) k), mark (safterV ps (spAt (kp k) k) tk).2 = false) ∧ extAll ps (spAt (kp k) k) (k : Int) (kp k) (stepsV names (spAt (kp k) k)) = some (kp (k + 1))
  fin : finOk ps names mark n (kp n) e
def srchD (ps : List Pg) (n : Nat) (kp : Nat → List KE) (CT : Addr) : SEnd → Ans
  | .none => .inl (.tup [.lst ((kp n).map dKe), .non])
  | .found tk l => .inl (.tup [.lst ((kp n).map dKe), .lst ((inputV ps (tk :: l).reverse).map dMs)])
  | .large => .inr CT
/-- what the module knows of the class TooLarge -/
structure TlC (K : PySem.W.Frag) (mg : PySem.Str → Option Value) (CT : Addr) : Prop where
  mgt : mg "TooLarge" = some (.ref CT)
  ex : ∃ (bmB : List Value) (B newId initId : String), ExcBaseFacts B newId initId bmB ∧ PySem.W.excIn K CT bmB newId = true
  kp : PySem.W.keepIn K (.ref CT) = true
  sub : PySem.W.subIn K (.ref CT) (.type "BaseException") = some true
  ty : PySem.W.typeIn K (.ref CT) = some (.type "type")
  te : PySem.W.exmOne K (.ref CT) (.ref CT) = some true
def mostI (mg : PySem.Str → Option Value) (x : PySem.Str) (i : Int) : Prop := ∃ t, mg x = some (.int i t)
def RMark (mark : List (List O3) → Bool) (dom : List (List O3) → Prop) (d r : D) : Prop := ∃ rows, dom rows ∧ d = .lst (rows.map dOu) ∧ r = .bl (mark rows)
def spSearch (P : Program) (w : World) (K : PySem.W.Frag) (mg : PySem.Str → Option Value) (base : Heap) (T : List NTab) (CP CT : Addr) (k : Nat) : SpS := fun outer s vs H Q E => ∃ G ps names f F mark dom n kp e, Base T G H ∧ RepAll K G vs [.lst (ps.map (dPg CP)), .ptup (names.map D.str), .fn f F] ∧
  MarkOk P w K mg base T k outer s H G f F (RMark mark dom) ∧ SrchOk ps names mark dom n kp e ∧ endsA K T G H Q E (srchD ps n kp CT e)
structure CalS (P : Program) (w : World) (K : PySem.W.Frag) (mg : PySem.Str → Option Value) (base : Heap) (T : List NTab) (CP CT : Addr) (j k : Nat) : Prop where
  ex : ∃ (f : Addr) (fd : FuncData), FnS P w K mg base (L2.CX P w) k f fd ["programs", "names", "has_mark"] (spSearch P w K mg base T CP CT j) ∧ mg "search" = some (.ref f) ∧ PySem.W.keepIn K (.ref f) = true ∧ Binds K fd ["programs", "names", "has_mark"] []
theorem runL_ext {ps : List Pg} {sp : List Conf} {a : Int} {CT : Addr} : ∀ (tks : List Msg) (m : Nat) (kept : List KE), runL (fun kept (q : Msg × Nat) => match extF ps sp a kept q.1 with
    | some k => .inl k
    | none => .inr (.ex CT)) kept (tks.zipIdx m) = match extAll ps sp a kept tks with
    | some k => .inl k
    | none => .inr (.ex CT)
  | [], _, _ => rfl
  | tk :: tks, m, kept => by
    rw [List.zipIdx_cons, runL_cons]
    unfold extAll
    cases h : extF ps sp a kept tk with
    | some k => exact runL_ext tks (m + 1) k
    | none => rfl
theorem rng_zip {α : Type} (xs : List α) : rngD xs.length = xs.zipIdx.map fun p => D.int (p.2 : Int) := by
  unfold rngD
  have : List.range xs.length = xs.zipIdx.map (·.2) := by rw [List.zipIdx_map_snd, List.range_eq_range']
  rw [this, List.map_map]
  rfl
theorem extF_len {ps : List Pg} {sp : List Conf} {a : Int} {kept k' : List KE} {tk : Msg} (h : extF ps sp a kept tk = some k') (hl : kept.length ≤ 400) : k'.length ≤ 400 := by
  unfold extF at h
  split at h
  · cases h; exact hl
  · split at h
    · cases h
    · next h1 h2 =>
      cases h
      rw [List.length_append]
      show kept.length + 1 ≤ 400
      omega
theorem ok_search (Bl : Blt mg) (TL : TlC K mg CT) (hM : mostI mg "MOST_INPUTS" 400) (F : Dfn K mg "search" s_search ["programs", "names", "has_mark"]) (c1 : Cal P w K mg base T 4 "spot_of" ["programs", "messages"] (R_spot_of CP)) (c2 : Cal P w K mg base T 2 "steps_at" ["names", "spot"] R_steps_at)
    (c3 : Cal P w K mg base T 3 "spot_after" ["programs", "spot", "step_taken"] (R_spot_after CP)) (c4 : Cal P w K mg base T 5 "input_to" ["programs", "kept", "at", "taken"] (R_input_to CP)) : CalS P w K mg base T CP CT 6 7 := by
  obtain ⟨f, fd, F, hm, hb⟩ := F.ex
  refine ⟨f, fd, fnS_of F sc_search (fun outer s vs H Q E h => ?_) (fun cdv A outer s H vs Q E hr h => ?_), hm, F.kp, hb⟩
  · obtain ⟨G, ps, names, fc, Fc, mark, dom, n, kp, e, _, r, _⟩ := h
    exact r.length
  obtain ⟨G, ps, names, fc, Fc, mark, dom, n, kp, e, b, r, M, S, q⟩ := h
  refine ⟨tS K ⟨T, G, H⟩ E (env0 N_search.length [.lst (ps.map (dPg CP)), .ptup (names.map D.str), .fn fc Fc]) (srchD ps n kp CT e).out, ?_, G, en_start b r, ends_out q⟩
  obtain ⟨mt, hM⟩ := hM
  -- the environments
  let ρT : List KE → Int → List Sl := fun kept a => [.da (.lst (ps.map (dPg CP))), .da (.ptup (names.map D.str)), .da (.fn fc Fc), .da (dSp (firstS ps)), .ow (lstK K (kept.map dKe)), .ow (nsK K w (kept.map fun k => dSp k.2)), .da (.int a), .un, .un, .un, .un, .un]
  let ρ9 : List Conf → List KE → Int → List Sl := fun sp kept a => [.da (.lst (ps.map (dPg CP))), .da (.ptup (names.map D.str)), .da (.fn fc Fc), .da (dSp (firstS ps)), .ow (lstK K (kept.map dKe)), .ow (nsK K w (kept.map fun k => dSp k.2)), .da (.int a), .da (dSp sp), .da (.lst ((stepsV names sp).map dMs)),
    .da (.lst ((stepsV names sp).map fun tk => dSa (safterV ps sp tk))), .un, .un]
  have stl : ∀ sp, TurnOk ps names dom sp → (stepsV names sp).length ≤ 1000 * 129 := fun sp t => by
    have al := asc_len_le (nums sp)
    have nn := t.nn
    refine Nat.le_trans (flat_len_le (n := 129) fun x _ => ?_) (Nat.mul_le_mul_right _ (Nat.le_of_lt t.nl))
    rw [List.length_map, List.length_range]; omega
  -- the turn up to the loops
  have head : ∀ (kept : List KE) (k : Nat) (o : Out), TurnOk ps names dom (spAt kept k) → k < kept.length →
      PSs (cxOf (L2.CX P w) P w K mg base N_search "search" (defScope s_search) f cdv A outer s H E) ((whBody s_search 5).drop 3) (tS K ⟨T, G, H⟩ E (ρ9 (spAt kept k) kept k) o) →
      PSs (cxOf (L2.CX P w) P w K mg base N_search "search" (defScope s_search) f cdv A outer s H E) (whBody s_search 5) (tS K ⟨T, G, H⟩ E (ρT kept k) o) := by
    intro kept k o t hk hrest
    refine jss_cons (js_set 7 (je_ixT (d := dSp (spAt kept k)) (xs := [.tup [.int (gi kept (k : Int)).1.1, dMo (gi kept (k : Int)).1.2], dSp (gi kept (k : Int)).2]) (je_ixL (jr_own 4 rfl) (je_var 6 rfl) (atI_gi (em := dKe) (by omega) (by omega))) je_int rfl) sc_search.nd) ?_
    refine jss_cons (js_set 8 (je_fn c2 hr (by decide) rfl ⟨names, spAt kept k, t.nl, t.sl, t.nn, rfl, rfl⟩ (ja_cons (je_var 1 rfl) (ja_one (je_var 7 rfl)))) sc_search.nd) ?_
    refine jss_cons (js_setLc0 (xs := stepsV names (spAt kept k)) (em := dMs) (own := [("taken", 11)]) 9 (fun tk => dSa (safterV ps (spAt kept k) tk)) rfl sc_search.nd (ji_list (je_var 8 rfl)) (blkOk_by (N := N_search) (sc := defScope s_search) (by decide +kernel)) (gok_name 11) (by simp) (fun _ _ => trivial) (by have := stl _ t; show _ ≤ 2 ^ 24; omega)
      (fun s H C cl fp => pg_name (i := 11) sc_search.nd rfl (.inl rfl)) (fun j tk hj s H C cl fp => je_fn c3 hr (by decide) rfl ⟨ps, spAt kept k, tk, (t.sa tk (List.mem_of_getElem? hj)).1, rfl, rfl⟩ (ja_cons (je_var 0 rfl) (ja_cons (je_var 7 rfl) (ja_one (je_var 11 rfl))))) (sw_true rfl rfl rfl (by decide +kernel))) ?_
    exact hrest
  have at9 : ∀ {X : Cx} {B : Bs} {ρ : List Sl} {sp : List Conf} {q : Msg × Nat} {e1 e2 : Expr} {po : Pos}, q ∈ (stepsV names sp).zipIdx → PE X e1 (tD X.K B ρ (.lst ((stepsV names sp).map fun tk => dSa (safterV ps sp tk)))) → PE X e2 (tD X.K B ρ (.int (q.2 : Int))) → PlainIx e2 → PE X (.Subscript e1 e2 po) (tD X.K B ρ (dSa (safterV ps sp q.1))) :=
    fun hq h1 h2 hs => je_ixL (PE_r h1) h2 (atI_nat (by rw [List.getElem?_map, mem_zipIdx hq]; rfl)) hs
  have iter : ∀ {sp : List Conf} {kept : List KE} {a : Int}, TurnOk ps names dom sp → ∀ {tg : Expr} {p1 p2 p3 p4 p5 : Pos}, PI (cxOf (L2.CX P w) P w K mg base N_search "search" (defScope s_search) f cdv A outer s H E) tg (.Call (.Name "range" p1) [.Call (.Name "len" p2) [.Name "steps" p3] [] p4] [] p5) (tI K ⟨T, G, H⟩ (ρ9 sp kept a) ((stepsV names sp).zipIdx.map fun q => D.int (q.2 : Int))) := by
    intro sp kept a t tg p1 p2 p3 p4 p5
    rw [← rng_zip]
    exact ji_range (by have := stl sp t; omega) rfl Bl.range (PE_eq (je_lenL rfl Bl.len (PE_r (je_var 8 rfl))) (by rw [List.length_map]))
  -- the first loop finds nothing
  have quiet : ∀ (kept : List KE) (k : Nat) (o : Out), TurnOk ps names dom (spAt kept k) → (∀ tk ∈ stepsV names (spAt kept k), mark (safterV ps (spAt kept k) tk).2 = false) →
      PSs (cxOf (L2.CX P w) P w K mg base N_search "search" (defScope s_search) f cdv A outer s H E) ((whBody s_search 5).drop 4) (tS K ⟨T, G, H⟩ E (ρ9 (spAt kept k) kept k) o) →
      PSs (cxOf (L2.CX P w) P w K mg base N_search "search" (defScope s_search) f cdv A outer s H E) ((whBody s_search 5).drop 3) (tS K ⟨T, G, H⟩ E (ρ9 (spAt kept k) kept k) o) := by
    intro kept k o t hq hrest
    refine jss_cons (js_forF (S := Unit) (xs := (stepsV names (spAt kept k)).zipIdx) (em := fun q => D.int (q.2 : Int)) (fun _ => ρ9 (spAt kept k) kept k) (fun _ _ => ()) (fun _ _ => True) () ownX rfl (iter t) (gok_name 10) (pg_name (i := 10) sc_search.nd rfl (.inl rfl)) (fun _ _ => trivial) trivial (fun _ _ _ _ _ => trivial) (fun j z q hj _ => ?_)) hrest
    have hqm := List.mem_of_getElem? hj
    have htm : q.1 ∈ stepsV names (spAt kept k) := List.mem_of_getElem? (mem_zipIdx hqm)
    refine jss_weak (.same (.same (.same (.same (.same (.same (.same (.same (.same (.same (.un (.same .nil)))))))))))) (jss_one (js_if (k := mark (safterV ps (spAt kept k) q.1).2) (jt_val (je_clo 2 M hr (by decide) rfl ⟨_, (t.sa q.1 htm).2, rfl, rfl⟩ (je_ixT (xs := [dSp (safterV ps (spAt kept k) q.1).1, .lst ((safterV ps (spAt kept k) q.1).2.map dOu)]) (at9 hqm (je_var 9 rfl) (je_var 10 rfl) (fun _ _ => rfl)) je_int rfl))) (fun z => ?_) (fun _ => jss_nil)))
    rw [hq q.1 htm] at z
    cases z
  -- the second loop
  have widen : ∀ (kept : List KE) (k : Nat), TurnOk ps names dom (spAt kept k) → kept.length ≤ 400 →
      PS (cxOf (L2.CX P w) P w K mg base N_search "search" (defScope s_search) f cdv A outer s H E) ((whBody s_search 5).getD 4 (.Pass ⟨0, 0, 0, 0⟩)) (tS K ⟨T, G, H⟩ E (ρ9 (spAt kept k) kept k) (outOf (fun k' => ρ9 (spAt kept k) k' k) (match extAll ps (spAt kept k) (k : Int) kept (stepsV names (spAt kept k)) with
        | some k => .inl k
        | none => .inr (.ex CT)))) := by
    intro kept k t hl
    rw [← runL_ext (stepsV names (spAt kept k)) 0 kept]
    refine js_forR (S := List KE) (xs := (stepsV names (spAt kept k)).zipIdx) (em := fun q => D.int (q.2 : Int)) (fun k' => ρ9 (spAt kept k) k' k) (fun kept' (q : Msg × Nat) => match extF ps (spAt kept k) (k : Int) kept' q.1 with
      | some k => .inl k
      | none => .inr (.ex CT)) (fun _ z => z.length ≤ 400) kept ownX rfl (iter t) (gok_name 10) (pg_name (i := 10) sc_search.nd rfl (.inl rfl)) (fun _ _ => trivial) hl (fun j z q z' hj hz e => ?_) (fun z q o e => ?_) (fun j z q hj hz => ?_)
    · cases h : extF ps (spAt kept k) (k : Int) z q.1 with
      | some k2 => rw [h] at e; cases e; exact extF_len h hz
      | none => rw [h] at e; cases e
    · cases h : extF ps (spAt kept k) (k : Int) z q.1 with
      | some k2 => rw [h] at e; cases e
      | none => rw [h] at e; cases e; rfl
    · have hqm := List.mem_of_getElem? hj
      have hst := mem_zipIdx hqm
      -- the test
      have b0 : ∀ {X : Cx} {B : Bs} {ρ : List Sl} {e1 e2 : Expr} {po po2 : Pos} {jj : Nat} {p3 : Pos}, PE X e1 (tD X.K B ρ (.lst ((stepsV names (spAt kept k)).map fun tk => dSa (safterV ps (spAt kept k) tk)))) → PE X e2 (tD X.K B ρ (.int (q.2 : Int))) → PlainIx e2 →
          PE X (.Subscript (.Subscript e1 e2 po) (.Constant (.int 0) jj p3) po2) (tD X.K B ρ (dSp (safterV ps (spAt kept k) q.1).1)) := fun h1 h2 hs => je_ixT (xs := [dSp (safterV ps (spAt kept k) q.1).1, .lst ((safterV ps (spAt kept k) q.1).2.map dOu)]) (at9 hqm h1 h2 hs) je_int rfl
      refine jss_one (js_if (PT_eq (jt_nnotin (ms := z.map fun k => dSp k.2) 5 hr.units rfl (ky_spot _) ⟨_, rfl⟩ (b0 (je_var 9 rfl) (je_var 10 rfl) (fun _ _ => rfl))) (by rw [mem_spots])) (fun hd => ?_) (fun hd => ?_))
      · have hd' : ¬ (safterV ps (spAt kept k) q.1).1 ∈ z.map (·.2) := by simpa using hd
        refine jss_ifq (k := decide ((z.length : Int) = 400)) (jt_eqI (PE_eq (je_lenL rfl Bl.len (jr_own 4 rfl)) (by rw [List.length_map])) (je_globI rfl hM ⟨mt, rfl⟩)) (fun h4 => ?_) (fun h4 => ?_)
        · have h4' : z.length = 400 := by have := of_decide_eq_true h4; omega
          have ee : extF ps (spAt kept k) (k : Int) z q.1 = none := by unfold extF; rw [if_neg hd', if_pos h4']
          rw [ee]
          obtain ⟨bmB, Bn, newId, initId, F1, F2⟩ := TL.ex
          exact ⟨jss_one (js_raise rfl takesX F1 F2 TL.mgt TL.kp (raises_own TL.sub TL.ty) rfl), rfl⟩
        · have h4' : ¬ z.length = 400 := by have := of_decide_eq_false h4; omega
          have ee : extF ps (spAt kept k) (k : Int) z q.1 = some (z ++ [(((k : Int), some q.1), (safterV ps (spAt kept k) q.1).1)]) := by unfold extF; rw [if_neg hd', if_neg h4']
          rw [ee]
          refine jss_cons (js_nadd (ms := z.map fun k => dSp k.2) 5 hr.units rfl (by rw [List.length_map]; omega) (ky_spot _) ⟨_, rfl⟩ (b0 (je_var 9 rfl) (je_var 10 rfl) (fun _ _ => rfl))) ?_
          have e1 : (z ++ [(((k : Int), some q.1), (safterV ps (spAt kept k) q.1).1)]).map dKe = z.map dKe ++ [dKe (((k : Int), some q.1), (safterV ps (spAt kept k) q.1).1)] := by rw [List.map_append]; rfl
          have e2 : (z ++ [(((k : Int), some q.1), (safterV ps (spAt kept k) q.1).1)]).map (fun k => dSp k.2) = (z.map fun k => dSp k.2) ++ [dSp (safterV ps (spAt kept k) q.1).1] := by rw [List.map_append]; rfl
          show PSs _ _ (tS _ _ _ _ (.nx (ρ9 (spAt kept k) (z ++ [(((k : Int), some q.1), (safterV ps (spAt kept k) q.1).1)]) k)))
          show PSs _ _ (tS _ _ _ _ (.nx [_, _, _, _, .ow (lstK K ((z ++ [(((k : Int), some q.1), (safterV ps (spAt kept k) q.1).1)]).map dKe)), .ow (nsK K w ((z ++ [(((k : Int), some q.1), (safterV ps (spAt kept k) q.1).1)]).map fun k => dSp k.2)), _, _, _, _, _, _]))
          rw [e1, e2]
          refine jss_weak (.same (.same (.same (.same (.same (.same (.same (.same (.same (.same (.un (.same .nil)))))))))))) (jss_one (js_app 4 rfl (by rw [List.length_map]; show z.length < 2 ^ 24; omega) ?_))
          exact je_tp (ja_cons (je_tp (ja_cons (je_var 6 rfl) (ja_one (je_ixL (PE_r (je_var 8 rfl)) (je_var 10 rfl) (atI_nat (by rw [List.getElem?_map, hst]; rfl)))))) (ja_one (b0 (je_var 9 rfl) (je_var 10 rfl) (fun _ _ => rfl))))
      · have hd' : (safterV ps (spAt kept k) q.1).1 ∈ z.map (·.2) := by simpa using hd
        have ee : extF ps (spAt kept k) (k : Int) z q.1 = some z := by unfold extF; rw [if_pos hd']
        rw [ee]
        exact jss_weak (.same (.same (.same (.same (.same (.same (.same (.same (.same (.same (.un (.same .nil)))))))))))) jss_nil
  -- a whole turn that goes on
  have turnGo : ∀ (kept kept' : List KE) (k : Nat), TurnOk ps names dom (spAt kept k) → k < kept.length → kept.length ≤ 400 → (∀ tk ∈ stepsV names (spAt kept k), mark (safterV ps (spAt kept k) tk).2 = false) → extAll ps (spAt kept k) (k : Int) kept (stepsV names (spAt kept k)) = some kept' →
      PSs (cxOf (L2.CX P w) P w K mg base N_search "search" (defScope s_search) f cdv A outer s H E) (whBody s_search 5) (tS K ⟨T, G, H⟩ E (ρT kept k) (.nx (ρT kept' ((k + 1 : Nat) : Int)))) := by
    intro kept kept' k t hk hl hq he
    refine head kept k _ t hk (quiet kept k _ t hq ?_)
    have hw := widen kept k t hl
    rw [he] at hw
    have ha : PS (cxOf (L2.CX P w) P w K mg base N_search "search" (defScope s_search) f cdv A outer s H E) ((whBody s_search 5).getD 5 (.Pass ⟨0, 0, 0, 0⟩)) (tS K ⟨T, G, H⟩ E (ρ9 (spAt kept k) kept' (k : Int)) (.nx (ρ9 (spAt kept k) kept' ((k : Int) + 1)))) := js_aug 6 rfl je_int sc_search.nd
    have ek : ((k + 1 : Nat) : Int) = (k : Int) + 1 := by omega
    rw [ek]
    exact jss_cons hw (jss_weak (ρ1 := ρ9 (spAt kept k) kept' ((k : Int) + 1)) (.same (.same (.same (.same (.same (.same (.same (.un (.un (.un (.same (.same .nil)))))))))))) (jss_one ha))
  have start : ∀ o, PSs (cxOf (L2.CX P w) P w K mg base N_search "search" (defScope s_search) f cdv A outer s H E) ((defBody s_search).drop 5) (tS K ⟨T, G, H⟩ E (ρT (kp 0) ((0 : Nat) : Int)) o) →
      PSs (cxOf (L2.CX P w) P w K mg base N_search "search" (defScope s_search) f cdv A outer s H E) (defBody s_search) (tS K ⟨T, G, H⟩ E (env0 N_search.length [.lst (ps.map (dPg CP)), .ptup (names.map D.str), .fn fc Fc]) o) := by
    intro o hrest
    refine jss_cons (js_set 3 (je_fn c1 hr (by decide) rfl ⟨ps, [], S.pl, fun p hp => ⟨by decide, fun k m hk => by simp at hk⟩, by rw [nums_first]; decide, rfl, by rw [first_eq]⟩ (ja_cons (je_var 0 rfl) (ja_one (je_ls ja_nil)))) sc_search.nd) ?_
    refine jss_cons (js_setL 4 (Nat.le_of_ble_eq_true rfl) (ja_one (je_tp (ja_cons (je_tp (ja_cons je_int (ja_one je_non))) (ja_one (je_var 3 rfl))))) sc_search.nd) ?_
    refine jss_cons (js_nset0 5 rfl Bl.set sc_search.nd) ?_
    refine jss_cons (js_nadd (ms := []) 5 hr.units rfl (by decide) (ky_spot _) ⟨_, rfl⟩ (je_var 3 rfl)) ?_
    refine jss_cons (js_set 6 je_int sc_search.nd) ?_
    rw [S.k0] at hrest
    exact hrest
  refine start _ ?_
  have cond : ∀ k, k ≤ n → PT (cxOf (L2.CX P w) P w K mg base N_search "search" (defScope s_search) f cdv A outer s H E) (whCond s_search 5) (tT K ⟨T, G, H⟩ (ρT (kp k) k) (decide ((k : Int) < (kp k).length))) := fun k hk =>
    jt_lt (je_var 6 rfl) (PE_eq (je_lenL rfl Bl.len (jr_own 4 rfl)) (by rw [List.length_map]))
  have whole : ∀ k, k < n → PSs (cxOf (L2.CX P w) P w K mg base N_search "search" (defScope s_search) f cdv A outer s H E) (whBody s_search 5) (tS K ⟨T, G, H⟩ E (ρT (kp k) (k : Int)) (.nx (ρT (kp (k + 1)) ((k + 1 : Nat) : Int)))) := fun k hk => by
    obtain ⟨g1, g2, g3⟩ := S.go k hk
    exact turnGo (kp k) (kp (k + 1)) k (S.turn k (Nat.le_of_lt hk) g1) g1 (S.ln k (Nat.le_of_lt hk)) g2 g3
  have fin := S.fin
  cases e with
  | none =>
    have fin : n = (kp n).length := fin
    have hw := js_while (X := cxOf (L2.CX P w) P w K mg base N_search "search" (defScope s_search) f cdv A outer s H E) (B := ⟨T, G, H⟩) (E := E) (pos := whPos s_search 5) (c := whCond s_search 5) (body := whBody s_search 5) (fun k => ρT (kp k) (k : Int)) n ownX
      (fun k hk => PT_eq (cond k hk) (by
        rcases Nat.lt_or_eq_of_le hk with h | h
        · have := (S.go k h).1
          rw [decide_eq_true h, decide_eq_true (by omega)]
        · subst h
          rw [decide_eq_false (Nat.lt_irrefl _), decide_eq_false (by omega)])) whole
    refine jss_cons hw ?_
    refine jss_freeze 4 rfl ?_
    exact jss_one (js_ret (je_tp (ja_cons (je_var 4 rfl) (ja_one je_non))))
  | found tk l =>
    obtain ⟨f1, ⟨j, j1, j2, j3⟩, f3, f4, f5⟩ := (show finOk ps names mark n (kp n) (.found tk l) from fin)
    have t := S.turn n (Nat.le_refl _) f1
    have hjl := (List.getElem?_eq_some_iff.mp j1).1
    have hw := js_whilex (X := cxOf (L2.CX P w) P w K mg base N_search "search" (defScope s_search) f cdv A outer s H E) (B := ⟨T, G, H⟩) (E := E) (pos := whPos s_search 5) (c := whCond s_search 5) (body := whBody s_search 5) (o := (srchD ps n kp CT (.found tk l)).out) (fun k => ρT (kp k) (k : Int)) n ownX rfl
      (fun k hk => PT_eq (cond k hk) (by
        rcases Nat.lt_or_eq_of_le hk with h | h
        · have := (S.go k h).1
          exact decide_eq_true (by omega)
        · subst h
          exact decide_eq_true (by omega))) whole ?_
    · exact jss_out rfl hw
    · refine head (kp n) n _ t f1 ?_
      refine jss_out rfl (js_forx (items := (stepsV names (spAt (kp n) n)).zipIdx.map fun q => D.int (q.2 : Int)) (fun _ => ρ9 (spAt (kp n) n) (kp n) (n : Int)) j ownX rfl (iter t) (gok_name 10) (pg_name (i := 10) sc_search.nd rfl (.inl rfl)) (fun _ _ => trivial) rfl (by rw [List.length_map, List.length_zipIdx]; exact hjl) (fun i d hd hi => ?_) (fun d hd => ?_))
      · rw [List.getElem?_map] at hd
        cases hq : (stepsV names (spAt (kp n) n)).zipIdx[i]? with
        | none => rw [hq] at hd; cases hd
        | some q =>
          rw [hq] at hd
          cases hd
          have hqm := List.mem_of_getElem? hq
          have hst := mem_zipIdx hqm
          have hqi : q.2 = i := by
            rw [List.getElem?_zipIdx] at hq
            cases hx : (stepsV names (spAt (kp n) n))[i]? with
            | none => rw [hx] at hq; cases hq
            | some x => rw [hx] at hq; cases hq; exact Nat.zero_add _
          rw [hqi] at hst
          refine jss_weak (.same (.same (.same (.same (.same (.same (.same (.same (.same (.same (.un (.same .nil)))))))))))) (jss_one (js_if (k := mark (safterV ps (spAt (kp n) n) q.1).2) (jt_val (je_clo 2 M hr (by decide) rfl ⟨_, (t.sa q.1 (List.mem_of_getElem? hst)).2, rfl, rfl⟩ (je_ixT (xs := [dSp (safterV ps (spAt (kp n) n) q.1).1, .lst ((safterV ps (spAt (kp n) n) q.1).2.map dOu)]) (at9 hqm (je_var 9 rfl) (je_var 10 rfl) (fun _ _ => rfl)) je_int rfl))) (fun z => ?_) (fun _ => jss_nil)))
          rw [j3 i q.1 hi hst] at z
          cases z
      · rw [List.getElem?_map] at hd
        cases hq : (stepsV names (spAt (kp n) n)).zipIdx[j]? with
        | none => rw [hq] at hd; cases hd
        | some q =>
          rw [hq] at hd
          cases hd
          have hqm := List.mem_of_getElem? hq
          have hst := mem_zipIdx hqm
          have hq1 : q.1 = tk := by
            rw [List.getElem?_zipIdx, j1] at hq
            cases hq
            rfl
          have hm : mark (safterV ps (spAt (kp n) n) q.1).2 = true := by rw [hq1]; exact j2
          refine jss_one (js_if (k := mark (safterV ps (spAt (kp n) n) q.1).2) (jt_val (je_clo 2 M hr (by decide) rfl ⟨_, (t.sa q.1 (List.mem_of_getElem? hst)).2, rfl, rfl⟩ (je_ixT (xs := [dSp (safterV ps (spAt (kp n) n) q.1).1, .lst ((safterV ps (spAt (kp n) n) q.1).2.map dOu)]) (at9 hqm (je_var 9 rfl) (je_var 10 rfl) (fun _ _ => rfl)) je_int rfl))) (fun _ => ?_) (fun z => ?_))
          · have f5' : InputOk ps (q.1 :: l).reverse := by rw [hq1]; exact f5
            have eo : (srchD ps n kp CT (.found tk l)).out = .rt (.tup [.lst ((kp n).map dKe), .lst ((inputV ps (q.1 :: l).reverse).map dMs)]) := by rw [hq1]; rfl
            rw [eo]
            refine jss_freeze 4 rfl ?_
            exact jss_one (js_ret (je_tp (ja_cons (je_var 4 rfl) (ja_one (je_fn c4 hr (by decide) rfl ⟨ps, kp n, (n : Int), q.1, l, f3, f4, f5', rfl, rfl⟩ (ja_cons (je_var 0 rfl) (ja_cons (je_var 4 rfl) (ja_cons (je_var 6 rfl) (ja_one (je_ixL (PE_r (je_var 8 rfl)) (je_var 10 rfl) (atI_nat (by rw [List.getElem?_map, hst]; rfl))))))))))))
          · rw [hm] at z
            cases z
  | large =>
    obtain ⟨f1, f2, f3⟩ := (show finOk ps names mark n (kp n) .large from fin)
    have t := S.turn n (Nat.le_refl _) f1
    have hw := js_whilex (X := cxOf (L2.CX P w) P w K mg base N_search "search" (defScope s_search) f cdv A outer s H E) (B := ⟨T, G, H⟩) (E := E) (pos := whPos s_search 5) (c := whCond s_search 5) (body := whBody s_search 5) (o := .ex CT) (fun k => ρT (kp k) (k : Int)) n ownX rfl
      (fun k hk => PT_eq (cond k hk) (by
        rcases Nat.lt_or_eq_of_le hk with h | h
        · have := (S.go k h).1
          exact decide_eq_true (by omega)
        · subst h
          exact decide_eq_true (by omega))) whole ?_
    · exact jss_out rfl hw
    · refine head (kp n) n _ t f1 (quiet (kp n) n _ t f2 ?_)
      have hv := widen (kp n) n t (S.ln n (Nat.le_refl _))
      rw [f3] at hv
      exact jss_out rfl hv
end MM
end
section
set_option Elab.async false
set_option linter.all false
set_option maxRecDepth 100000
set_option maxHeartbeats 4000000
namespace MM
open PySem PySem.Spec PyProof.Rows L2 NdefX DL
variable {P : Program} {w : World} {K : PySem.W.Frag} {mg : PySem.Str → Option Value} {base : Heap} {T : List NTab} {CS CP CT : Addr}
/-! ### search called with a nested def -/
section
variable {X : Cx} {B : Bs} {ρ : List Sl} {e1 e2 e3 : Expr} {pos p : Pos} {k : Nat} {ps : List Pg} {names : List St} {f : Addr} {F : NF} {js : List Nat} {cs : List D} {fr : List St} {x : St} {Rn : List D → List D → D → Prop} {mark : List (List O3) → Bool} {dom : List (List O3) → Prop} {n : Nat} {kp : Nat → List KE} {e : SEnd} {d : D} {E' : XK}
theorem search_sp (hjs : js.map (fun j => ρ[j]?) = cs.map (fun d => some (Sl.da d))) (cp : X.Ok → Caps X F.cl fr js) (nok : NOk X.prog X.w X.K X.mg X.base CX0 6 f F [x] fr (spN X.K B.T Rn)) (hRn : ∀ d r, RMark mark dom d r → Rn cs [d] r) (S : SrchOk ps names mark dom n kp e)
    (hst : X.stack = X.env :: X.outer) (hfr : X.env.frame = some X.env.locals) (hfn : ∀ x, X.fn x = true) {G H G1 H1 : Hp} {σ : L2.St} {pins : List (Addr × Obj)} {s1 : Shared} {vs : List V} {Q : VK} {E : XK} (en : B.En X.K G ρ σ H) (g1 : Grow B.T G H G1 H1)
    (rs : RepAll X.K G1 vs [.lst (ps.map (dPg CP)), .ptup (names.map D.str), .fn f F]) (I1 : Inv X pins σ H1 s1) (q : endsA X.K B.T G1 H1 Q E (srchD ps n kp CT e)) : spSearch X.prog X.w X.K X.mg X.base B.T CP CT 6 X.stack s1 vs H1 Q E := by
  obtain ⟨ws, e0, rw0⟩ := slots_of en hjs
  have C := cells_of I1 (cp I1.ok)
  rw [e0] at C
  exact ⟨G1, ps, names, f, F, mark, dom, n, kp, e, g1.base, rs, ⟨⟨x, fr, ws, cs, Rn, nok, C, rw0.up g1.le, hRn⟩, cells_nf I1 hst hfr hfn (cp I1.ok)⟩, S, q⟩
theorem je_search (Sc : CalS X.prog X.w X.K X.mg X.base B.T CP CT 6 7) (hr : Room k X.A) (hk : 7 ≤ k) (hg : Gl X "search") (h1 : PE X e1 (tD X.K B ρ (.lst (ps.map (dPg CP))))) (h2 : PE X e2 (tD X.K B ρ (.ptup (names.map D.str)))) (h3 : PE X e3 (tD X.K B ρ (.fn f F)))
    (hjs : js.map (fun j => ρ[j]?) = cs.map (fun d => some (Sl.da d))) (cp : X.Ok → Caps X F.cl fr js) (nok : NOk X.prog X.w X.K X.mg X.base CX0 6 f F [x] fr (spN X.K B.T Rn)) (hRn : ∀ d r, RMark mark dom d r → Rn cs [d] r) (S : SrchOk ps names mark dom n kp e)
    (hst : X.stack = X.env :: X.outer) (hfr : X.env.frame = some X.env.locals) (hfn : ∀ x, X.fn x = true) (hd : srchD ps n kp CT e = .inl d)
    (a1 : starEach [e1, e2, e3] X.env = (false, eval e1 X.env) :: starEach [e2, e3] X.env := by rfl) (a2 : starEach [e2, e3] X.env = (false, eval e2 X.env) :: starEach [e3] X.env := by rfl) (a3 : starEach [e3] X.env = (false, eval e3 X.env) :: starEach [] X.env := by rfl)
    (hpl : (backTo pos (starEach [e2, e3] X.env)).any (·.1) = false := by rfl) : PE X (.Call (.Name "search" p) [e1, e2, e3] [] pos) (tD X.K B ρ d) := by
  obtain ⟨g, fd, FS, hm, hkp, hb⟩ := Sc.ex
  refine pe_mono (pe_callS (E := E0) FS (hr.mono hk) hg hm hkp hb passL (ja_cons h1 (ja_cons h2 (ja_one h3 a3) a2) a1) (by decide) a1 hpl) fun σ H Q ⟨G, en, q⟩ => ⟨G, en, fun vs G1 H1 g1 rs pins s1 I1 => ?_⟩
  refine search_sp hjs cp nok hRn S hst hfr hfn en g1 rs I1 ?_
  rw [hd]
  exact fun v G2 H2 g2 rv => q v G2 H2 (g1.trans g2) rv
theorem je_searchX (Sc : CalS X.prog X.w X.K X.mg X.base B.T CP CT 6 7) (hr : Room k X.A) (hk : 7 ≤ k) (hg : Gl X "search") (h1 : PE X e1 (tD X.K B ρ (.lst (ps.map (dPg CP))))) (h2 : PE X e2 (tD X.K B ρ (.ptup (names.map D.str)))) (h3 : PE X e3 (tD X.K B ρ (.fn f F)))
    (hjs : js.map (fun j => ρ[j]?) = cs.map (fun d => some (Sl.da d))) (cp : X.Ok → Caps X F.cl fr js) (nok : NOk X.prog X.w X.K X.mg X.base CX0 6 f F [x] fr (spN X.K B.T Rn)) (hRn : ∀ d r, RMark mark dom d r → Rn cs [d] r) (S : SrchOk ps names mark dom n kp e)
    (hst : X.stack = X.env :: X.outer) (hfr : X.env.frame = some X.env.locals) (hfn : ∀ x, X.fn x = true) (hp : Passes (L2.CX X.prog X.w) X E') (hd : srchD ps n kp CT e = .inr CT)
    (a1 : starEach [e1, e2, e3] X.env = (false, eval e1 X.env) :: starEach [e2, e3] X.env := by rfl) (a2 : starEach [e2, e3] X.env = (false, eval e2 X.env) :: starEach [e3] X.env := by rfl) (a3 : starEach [e3] X.env = (false, eval e3 X.env) :: starEach [] X.env := by rfl)
    (hpl : (backTo pos (starEach [e2, e3] X.env)).any (·.1) = false := by rfl) : PE X (.Call (.Name "search" p) [e1, e2, e3] [] pos) (tX X.K B ρ E' CT) := by
  obtain ⟨g, fd, FS, hm, hkp, hb⟩ := Sc.ex
  refine pe_mono (pe_callS (E := E') FS (hr.mono hk) hg hm hkp hb hp (ja_cons h1 (ja_cons h2 (ja_one h3 a3) a2) a1) (by decide) a1 hpl) fun σ H Q ⟨G, en, q⟩ => ⟨G, en, fun vs G1 H1 g1 rs pins s1 I1 => ?_⟩
  refine search_sp hjs cp nok hRn S hst hfr hfn en g1 rs I1 ?_
  rw [hd]
  exact fun G2 H2 g2 => q G2 H2 (g1.trans g2).le (en.grow.trans (g1.trans g2))
end
/-! ### parts_here -/
theorem vals_ok {es : List Ent} {qs : List (Int × List O3)} (O : MeanOk es qs) : ∀ n, n ≤ es.length → (valsR es qs n).length = n ∧ ∀ v ∈ valsR es qs n, VlOk v := by
  intro n
  induction n with
  | zero => intro _; exact ⟨rfl, fun v hv => absurd hv (by simp [valsR])⟩
  | succ n ih =>
    intro hn
    obtain ⟨h1, h2⟩ := ih (Nat.le_of_succ_le hn)
    have e : valsR es qs (n + 1) = valsF es qs (valsR es qs n) n := by
      unfold valsR
      rw [List.range_succ, List.foldl_append]
      rfl
    rw [e]
    refine ⟨by rw [valsF_len, h1], ?_⟩
    have hb := O.b n
    unfold valsF
    cases he : gi es (n : Int) with
    | pg p =>
      intro v hv
      rcases List.mem_append.mp hv with hv | hv
      · exact h2 v hv
      · rw [List.mem_singleton] at hv
        subst hv
        exact fun o ho => by cases ho; exact lk_ok O.o _
    | mg a b c =>
      obtain ⟨_, ⟨b0, b1⟩, c0, c1⟩ := hb a b c (by omega) he
      intro v hv
      rcases List.mem_append.mp hv with hv | hv
      · exact h2 v hv
      · rw [List.mem_singleton] at hv
        subst hv
        exact merged_ok (h2 _ (gi_mem b0 (by omega))) (h2 _ (gi_mem c0 (by omega)))
theorem mean_ok {es : List Ent} {qs : List (Int × List O3)} (O : MeanOk es qs) {n : Nat} (hn : n < es.length) : VlOk (meanV es qs n) := by
  obtain ⟨h1, h2⟩ := vals_ok O (n + 1) hn
  exact h2 _ (gi_mem (by omega) (by omega))
abbrev s_ph : Stmt := stAt s_first_parting 2
abbrev N_ph : List PySem.Str := ["row", "store", "number", "other", "some", "outputs"]
abbrev F_ph : List PySem.Str := ["store", "number", "other", "some"]
theorem sc_ph : NScope N_ph ["row"] F_ph (C8.fnScope s_ph) := nscope_by (by decide +kernel)
def Rn_ph (CS CP : Addr) (cs ds : List D) (d : D) : Prop := ∃ (es : List Ent) (n1 n2 : Nat) (sm : List Int) (rows : List (List O3)), MeanOk es (sm.zip rows) ∧ n1 < es.length ∧ n2 < es.length ∧ sm.length < 1000 ∧
  cs = [dStore CS CP es, .int (n1 : Int), .int (n2 : Int), dRow sm] ∧ ds = [.lst (rows.map dOu)] ∧ d = .bl (!decide (meanV es (sm.zip rows) n1 = meanV es (sm.zip rows) n2))
theorem nok_ph {f c : Addr} {qual : St} {cl : List (PySem.Str × Addr)} (c1 : Cal P w K mg base T 1 "by_part" ["some", "outputs"] R_by_part) (c2 : Cal P w K mg base T 5 "meaning" ["store", "number", "outputs"] (R_meaning CS CP)) :
    NOk P w K mg base CX0 6 f (NF.of s_ph "parts_here" qual cl c) ["row"] F_ph (spN K T (Rn_ph CS CP)) := by
  refine nok_D (N := N_ph) sc_ph (fun doc pm ctv us hl => match us, hl with | [_], _ => rfl) (fun cs ds d h => ?_) fun A outer s H G E cs ds d hr h => ?_
  · obtain ⟨es, n1, n2, sm, rows, _, _, _, _, _, rfl, _⟩ := h; rfl
  · obtain ⟨es, n1, n2, sm, rows, O, h1, h2, hl, rfl, rfl, rfl⟩ := h
    refine jss_cons (js_set 5 (je_fn c1 hr (by decide) rfl ⟨sm, rows, hl, rfl, rfl⟩ (ja_cons (je_var 4 rfl) (ja_one (je_var 0 rfl)))) sc_ph.nd) ?_
    refine jss_one (js_ret (PE_eq (je_neD hr.units (PE_r (je_fn c2 hr (by decide) rfl ⟨es, _, n1, O, h1, rfl, rfl⟩ (ja_cons (je_var 1 rfl) (ja_cons (je_var 2 rfl) (ja_one (je_var 5 rfl)))))) (PE_r (je_fn c2 hr (by decide) rfl ⟨es, _, n2, O, h2, rfl, rfl⟩ (ja_cons (je_var 1 rfl) (ja_cons (je_var 3 rfl) (ja_one (je_var 5 rfl))))))
      (pl_dVal (mean_ok O h1)) (pl_dVal (mean_ok O h2))) ?_))
    rw [eqb_dVal]

/-! ### first_parting -/
def fpA (ps : List Pg) (CT : Addr) : SEnd → Ans
  | .none => .inl .non
  | .found tk l => .inl (.lst ((inputV ps (tk :: l).reverse).map dMs))
  | .large => .inr CT
def markP (es : List Ent) (n1 n2 : Nat) (sm : List Int) (rows : List (List O3)) : Bool := !decide (meanV es (sm.zip rows) n1 = meanV es (sm.zip rows) n2)
def domP (es : List Ent) (sm : List Int) (rows : List (List O3)) : Prop := MeanOk es (sm.zip rows)
structure FpOk (es : List Ent) (n1 n2 : Nat) (ps : List Pg) (p0 : Pg) (n : Nat) (kp : Nat → List KE) (e : SEnd) : Prop where
  po : PartsOk es
  l1 : n1 < es.length
  l2 : n2 < es.length
  fl : ([n1, n2].flatMap (partsV es)).length < 64
  tl : (togV es [n1, n2]).length ≤ 4
  ib : ∀ k ∈ togV es [n1, n2], 0 ≤ k ∧ k < es.length
  pg : (togV es [n1, n2]).map (gi es) = ps.map Ent.pg
  h0 : gi es 0 = .pg p0
  so : SrchOk ps p0.names (markP es n1 n2 (togV es [n1, n2])) (domP es (togV es [n1, n2])) n kp e
def R_first_parting (CS CP CT : Addr) (ds : List D) (o : Ans) : Prop := ∃ (es : List Ent) (n1 n2 : Nat) (ps : List Pg) (p0 : Pg) (n : Nat) (kp : Nat → List KE) (e : SEnd), FpOk es n1 n2 ps p0 n kp e ∧ ds = [dStore CS CP es, .int (n1 : Int), .int (n2 : Int)] ∧ o = fpA ps CT e
theorem nd_ph : ndefB (defScope s_first_parting) (C8.fnScope s_ph) F_ph = true := by decide +kernel
theorem ok_first_parting {cfp Pt : Addr} {nm : Nat → Nat → PySem.Str} (Bl : Blt mg) (S : StC K mg CS) (hM : mostI mg "MOST_PARTS" 4) (F : DfnC K mg "first_parting" s_first_parting ["store", "number", "other"] cfp) (TB : LamX.TabB base mg cfp Pt) (hmem : (Pt, nm) ∈ T) (hu : ∀ p ∈ T, p.1 = Pt → p.2 = nm) (hnm : ∀ a b, nm a b = "first_parting.<locals>.parts_here")
    (c1 : Cal P w K mg base T 6 "together" ["store", "numbers", "most"] (R_together CS CP)) (c2 : MCal P w K mg base T 4 CS "entry" ["self", "number"] (R_entry CS CP)) (c3 : Cal P w K mg base T 5 "all_names" ["store"] (R_all_names CS CP))
    (c4 : Cal P w K mg base T 1 "by_part" ["some", "outputs"] R_by_part) (c5 : Cal P w K mg base T 5 "meaning" ["store", "number", "outputs"] (R_meaning CS CP)) (Sc : CalS P w K mg base T CP CT 6 7) : CalX P w K mg base T 8 "first_parting" ["store", "number", "other"] (R_first_parting CS CP CT) := by
  refine cal_XC F sc_first_parting (fun ds d h => ?_) fun f A outer s H G E ds o hr h => ?_
  · obtain ⟨es, n1, n2, ps, p0, n, kp, e, _, rfl, _⟩ := h; rfl
  obtain ⟨es, n1, n2, ps, p0, n, kp, e, O, rfl, rfl⟩ := h
  obtain ⟨mt, hM⟩ := hM
  have tl := O.tl
  have h0l : 0 < es.length := Nat.lt_of_le_of_lt (Nat.zero_le _) O.l1
  refine jss_cons (js_set 3 (je_fn c1 hr (by decide) rfl ⟨es, [n1, n2], 4, O.po, by simp, ?_, O.fl, by omega, rfl, rfl⟩ (ja_cons (je_var 0 rfl) (ja_cons (je_ls (ja_cons (je_var 1 rfl) (ja_one (je_var 2 rfl)))) (ja_one (je_globI rfl hM ⟨mt, rfl⟩))))) sc_first_parting.nd) ?_
  · intro n hn
    rcases List.mem_cons.mp hn with rfl | hn
    · exact O.l1
    · rw [List.mem_singleton] at hn; subst hn; exact O.l2
  refine jss_cons (js_setLc0 (xs := togV es [n1, n2]) (em := D.int) (own := [("part", 6)]) 4 (fun k => dEnt CP (gi es k)) rfl sc_first_parting.nd (ji_list (je_var 3 rfl)) (blkOk_by (N := N_first_parting) (sc := defScope s_first_parting) (by decide +kernel)) (gok_name 6) (by simp) (fun _ _ => trivial) (by show _ ≤ 2 ^ 24; omega)
    (fun s H C cl fp => pg_name (i := 6) sc_first_parting.nd rfl (.inl rfl)) (fun j k hj s H C cl fp => je_entry (es := es) S c2 hr (by decide) (O.ib k (List.mem_of_getElem? hj)).1 (O.ib k (List.mem_of_getElem? hj)).2 (je_var 0 rfl) (je_var 6 rfl)) (sw_true rfl rfl rfl (by decide +kernel))) ?_
  have e1 : (togV es [n1, n2]).map (fun k => dEnt CP (gi es k)) = ps.map (dPg CP) := by
    have := congrArg (List.map (dEnt CP)) O.pg
    rw [List.map_map, List.map_map] at this
    exact this
  rw [e1]
  refine jss_ndef 5 rfl TB rfl hmem (hnm _ _) hu (ndef_free nd_ph) rfl rfl rfl sc_first_parting.nd rfl (.inl rfl) (.inl rfl) fun fa c' => ?_
  have nokp := nok_ph (P := P) (w := w) (K := K) (mg := mg) (base := base) (T := T) (CS := CS) (CP := CP) (f := fa) (c := c') (qual := "first_parting.<locals>.parts_here") (cl := cloFrom (cxOf (L2.CX P w) P w K mg base N_first_parting "first_parting" (defScope s_first_parting) f (.ref cfp) A outer s H E).env.cells (C8.fnScope s_ph).names []) c4 c5
  have hRn : ∀ d r, RMark (markP es n1 n2 (togV es [n1, n2])) (domP es (togV es [n1, n2])) d r → Rn_ph CS CP [dStore CS CP es, .int (n1 : Int), .int (n2 : Int), dRow (togV es [n1, n2])] [d] r := fun d r ⟨rows, h1, h2, h3⟩ => ⟨es, n1, n2, togV es [n1, n2], rows, h1, O.l1, O.l2, by omega, rfl, by rw [h2], h3⟩
  have cap : (cxOf (L2.CX P w) P w K mg base N_first_parting "first_parting" (defScope s_first_parting) f (.ref cfp) A outer s H E).Ok → Caps (cxOf (L2.CX P w) P w K mg base N_first_parting "first_parting" (defScope s_first_parting) f (.ref cfp) A outer s H E) (cloFrom (cxOf (L2.CX P w) P w K mg base N_first_parting "first_parting" (defScope s_first_parting) f (.ref cfp) A outer s H E).env.cells (C8.fnScope s_ph).names []) F_ph [0, 1, 2, 3] := fun ok => Caps.made ok (ndef_free nd_ph) (ndef_fr nd_ph) rfl
  cases e with
  | none =>
    show PSs _ _ (tS _ _ _ _ (.rt .non))
    exact jss_one (js_ret (je_ixT (xs := [.lst ((kp n).map dKe), .non]) (je_search (js := [0, 1, 2, 3]) (cs := [dStore CS CP es, .int (n1 : Int), .int (n2 : Int), dRow (togV es [n1, n2])]) Sc hr (by decide) rfl (je_var 4 rfl) (je_fn c3 hr (by decide) rfl ⟨es, p0, h0l, O.h0, rfl, rfl⟩ (ja_one (je_var 0 rfl))) (je_var 5 rfl) rfl cap nokp hRn O.so rfl rfl (fun _ => rfl) rfl) je_int rfl))
  | found tk l =>
    show PSs _ _ (tS _ _ _ _ (.rt (.lst ((inputV ps (tk :: l).reverse).map dMs))))
    exact jss_one (js_ret (je_ixT (xs := [.lst ((kp n).map dKe), .lst ((inputV ps (tk :: l).reverse).map dMs)]) (je_search (js := [0, 1, 2, 3]) (cs := [dStore CS CP es, .int (n1 : Int), .int (n2 : Int), dRow (togV es [n1, n2])]) Sc hr (by decide) rfl (je_var 4 rfl) (je_fn c3 hr (by decide) rfl ⟨es, p0, h0l, O.h0, rfl, rfl⟩ (ja_one (je_var 0 rfl))) (je_var 5 rfl) rfl cap nokp hRn O.so rfl rfl (fun _ => rfl) rfl) je_int rfl))
  | large =>
    show PSs _ _ (tS _ _ _ _ (.ex CT))
    exact jss_one (js_retX (je_ixX (fun _ _ => rfl) (je_searchX (js := [0, 1, 2, 3]) (cs := [dStore CS CP es, .int (n1 : Int), .int (n2 : Int), dRow (togV es [n1, n2])]) Sc hr (by decide) rfl (je_var 4 rfl) (je_fn c3 hr (by decide) rfl ⟨es, p0, h0l, O.h0, rfl, rfl⟩ (ja_one (je_var 0 rfl))) (je_var 5 rfl) rfl cap nokp hRn O.so rfl rfl (fun _ => rfl) passesX rfl)))
end MM
end
section
set_option Elab.async false
set_option linter.all false
set_option maxRecDepth 100000
set_option maxHeartbeats 4000000
namespace MM
open PySem PySem.Spec PyProof.Rows L2 NdefX DL
variable {P : Program} {w : World} {K : PySem.W.Frag} {mg : PySem.Str → Option Value} {base : Heap} {T : List NTab} {CS CP CT : Addr}
/-! ### differs -/
theorem cutD_last {α : Type} (xs : List α) : DL.cutD xs none (some (-1)) = xs.dropLast := by
  unfold DL.cutD
  have e0 : HT.sIx xs.length 0 none = 0 := rfl
  have e1 : HT.sIx xs.length xs.length (some (-1)) = xs.length - 1 := by
    unfold HT.sIx
    simp only []
    first
      | omega
      | (split <;> omega)
  rw [e0, e1, List.drop_zero, List.dropLast_eq_take]
  rfl
theorem atI_last {α : Type} (xs : List α) (x : α) : L2.atI (xs ++ [x]) (-1) = some x := by
  unfold L2.atI ixN
  rw [List.length_append, if_neg (by decide), if_pos (by show -((xs.length + 1 : Nat) : Int) ≤ -1; omega)]
  show (xs ++ [x])[(-1 + ((xs.length + 1 : Nat) : Int)).toNat]? = some x
  rw [show (-1 + ((xs.length + 1 : Nat) : Int)).toNat = xs.length by omega]
  simp
abbrev s_df : Stmt := stAt s_first_difference 4
abbrev N_df : List PySem.Str := ["row", "store", "number", "some"]
abbrev F_df : List PySem.Str := ["store", "number", "some"]
theorem sc_df : NScope N_df ["row"] F_df (C8.fnScope s_df) := nscope_by (by decide +kernel)
def Rn_df (CS CP : Addr) (cs ds : List D) (d : D) : Prop := ∃ (es : List Ent) (n1 : Nat) (sm : List Int) (rows : List (List O3)) (ol : List O3), MeanOk es (sm.zip rows) ∧ n1 < es.length ∧ sm.length < 1000 ∧ OuOk ol ∧
  cs = [dStore CS CP es, .int (n1 : Int), dRow sm] ∧ ds = [.lst ((rows ++ [ol]).map dOu)] ∧ d = .bl (!decide (meanV es (sm.zip rows) n1 = some ol))
theorem nok_df {f c : Addr} {qual : St} {cl : List (PySem.Str × Addr)} (c1 : Cal P w K mg base T 1 "by_part" ["some", "outputs"] R_by_part) (c2 : Cal P w K mg base T 5 "meaning" ["store", "number", "outputs"] (R_meaning CS CP)) :
    NOk P w K mg base CX0 6 f (NF.of s_df "differs" qual cl c) ["row"] F_df (spN K T (Rn_df CS CP)) := by
  refine nok_D (N := N_df) sc_df (fun doc pm ctv us hl => match us, hl with | [_], _ => rfl) (fun cs ds d h => ?_) fun A outer s H G E cs ds d hr h => ?_
  · obtain ⟨es, n1, sm, rows, ol, _, _, _, _, _, rfl, _⟩ := h; rfl
  · obtain ⟨es, n1, sm, rows, ol, O, h1, hl, ho, rfl, rfl, rfl⟩ := h
    have ec : DL.cutD ((rows ++ [ol]).map dOu) none (some (-1)) = rows.map dOu := by rw [cutD_last, List.map_append]; exact List.dropLast_concat
    have el : L2.atI ((rows ++ [ol]).map dOu) (-1) = some (dOu ol) := by rw [List.map_append]; exact atI_last _ _
    refine jss_one (js_ret (PE_eq (je_neD (n := 3) hr.units (PE_r (je_fn c2 hr (by decide) rfl ⟨es, _, n1, O, h1, rfl, rfl⟩ (ja_cons (je_var 1 rfl) (ja_cons (je_var 2 rfl) (ja_one (je_fn c1 hr (by decide) rfl ⟨sm, rows, hl, rfl, rfl⟩ (ja_cons (je_var 3 rfl) (ja_one (PE_eq (je_slL (PE_r (je_var 0 rfl)) jo_none (jo_some (je_neg je_int))) (congrArg D.lst ec)))))))))) (PE_r (je_ixL (PE_r (je_var 0 rfl)) (je_neg je_int) el)) (pl_dVal (mean_ok O h1)) (pl_dOu ho)) ?_))
    show D.bl (!(dVal (meanV es (sm.zip rows) n1)).eqb (dVal (some ol))) = _
    rw [eqb_dVal]

/-! ### first_difference -/
def markD (es : List Ent) (n1 : Nat) (sm : List Int) (rows : List (List O3)) : Bool := !decide (meanV es (sm.zip rows.dropLast) n1 = some (rows.getLastD []))
def domD (es : List Ent) (sm : List Int) (rows : List (List O3)) : Prop := rows ≠ [] ∧ MeanOk es (sm.zip rows.dropLast) ∧ OuOk (rows.getLastD [])
def FaceOk (p : Pg) : Prop := (∀ x ∈ p.names, PyData.strOk x = true) ∧ ∀ c ∈ p.chans, PyData.strOk c.1 = true ∧ ∀ x ∈ c.2, PyData.strOk x = true
theorem pl_strs {n : Nat} {xs : List St} (h : ∀ x ∈ xs, PyData.strOk x = true) : plAll n (xs.map D.str) = true := by
  induction xs with
  | nil => cases n <;> rfl
  | cons x xs ih =>
    rw [List.map_cons]
    unfold plAll
    rw [ih fun y hy => h y (List.mem_cons_of_mem _ hy), Bool.and_true]
    have := h x List.mem_cons_self
    cases n <;> exact this
theorem pl_chs {n : Nat} {xs : List (St × List St)} (h : ∀ c ∈ xs, PyData.strOk c.1 = true ∧ ∀ x ∈ c.2, PyData.strOk x = true) : plAll (n + 2) (xs.map dCh) = true := by
  induction xs with
  | nil => rfl
  | cons x xs ih =>
    rw [List.map_cons]
    unfold plAll
    rw [ih fun y hy => h y (List.mem_cons_of_mem _ hy), Bool.and_true]
    obtain ⟨h1, h2⟩ := h x List.mem_cons_self
    unfold dCh D.pl plAll plAll plAll D.pl
    rw [pl_strs h2, h1]
    rfl
theorem pl_face {p : Pg} (h : FaceOk p) : (dFace p).pl 4 = true := by
  unfold dFace D.pl plAll plAll plAll D.pl
  rw [pl_strs h.1, pl_chs (n := 0) h.2]
  rfl
structure FdOk (es : List Ent) (n1 : Nat) (q : Pg) (ps : List Pg) (p0 : Pg) (n : Nat) (kp : Nat → List KE) (e : SEnd) : Prop where
  po : PartsOk es
  l1 : n1 < es.length
  fl : ([n1].flatMap (partsV es)).length < 64
  tl : (togV es [n1]).length ≤ 3
  ib : ∀ k ∈ togV es [n1], 0 ≤ k ∧ k < es.length
  pg : (togV es [n1]).map (gi es) = ps.map Ent.pg
  h0 : gi es 0 = .pg p0
  fc : FaceOk p0
  fe : dFace q = dFace p0
  so : SrchOk (ps ++ [q]) p0.names (markD es n1 (togV es [n1])) (domD es (togV es [n1])) n kp e
def R_first_difference (CS CP CT : Addr) (ds : List D) (o : Ans) : Prop := ∃ (es : List Ent) (n1 : Nat) (q : Pg) (ps : List Pg) (p0 : Pg) (n : Nat) (kp : Nat → List KE) (e : SEnd), FdOk es n1 q ps p0 n kp e ∧ ds = [dStore CS CP es, .int (n1 : Int), dPg CP q] ∧ o = fpA (ps ++ [q]) CT e
theorem nd_df : ndefB (defScope s_first_difference) (C8.fnScope s_df) F_df = true := by decide +kernel
theorem ok_first_difference {cfd Pt : Addr} {nm : Nat → Nat → PySem.Str} (Bl : Blt mg) (S : StC K mg CS) (hM : mostI mg "MOST_PARTS" 4) (F : DfnC K mg "first_difference" s_first_difference ["store", "number", "program"] cfd) (TB : LamX.TabB base mg cfd Pt) (hmem : (Pt, nm) ∈ T) (hu : ∀ p ∈ T, p.1 = Pt → p.2 = nm) (hnm : ∀ a b, nm a b = "first_difference.<locals>.differs")
    (c0 : Cal P w K mg base T 3 "known" ["store", "number"] (R_known CS CP)) (cf : Cal P w K mg base T 1 "face" ["program"] (R_face CP))
    (c1 : Cal P w K mg base T 6 "together" ["store", "numbers", "most"] (R_together CS CP)) (c2 : MCal P w K mg base T 4 CS "entry" ["self", "number"] (R_entry CS CP)) (c3 : Cal P w K mg base T 5 "all_names" ["store"] (R_all_names CS CP))
    (c4 : Cal P w K mg base T 1 "by_part" ["some", "outputs"] R_by_part) (c5 : Cal P w K mg base T 5 "meaning" ["store", "number", "outputs"] (R_meaning CS CP)) (Sc : CalS P w K mg base T CP CT 6 7) : CalX P w K mg base T 8 "first_difference" ["store", "number", "program"] (R_first_difference CS CP CT) := by
  refine cal_XC F sc_first_difference (fun ds d h => ?_) fun f A outer s H G E ds o hr h => ?_
  · obtain ⟨es, n1, q, ps, p0, n, kp, e, _, rfl, _⟩ := h; rfl
  obtain ⟨es, n1, q, ps, p0, n, kp, e, O, rfl, rfl⟩ := h
  obtain ⟨mt, hM⟩ := hM
  have tl := O.tl
  have h0l : 0 < es.length := Nat.lt_of_le_of_lt (Nat.zero_le _) O.l1
  have l1 := O.l1
  refine jss_cons (js_expr (je_fn c0 hr (by decide) rfl ⟨es, n1, by omega, by omega, rfl, rfl⟩ (ja_cons (je_var 0 rfl) (ja_one (je_var 1 rfl))))) ?_
  refine jss_ifn (k := !(dFace q).eqb (dFace p0)) (jt_neD (n := 4) hr.units (PE_r (je_fn cf hr (by decide) rfl ⟨q, rfl, rfl⟩ (ja_one (je_var 2 rfl)))) (PE_r (je_fn cf hr (by decide) rfl ⟨p0, congrArg (fun z => [dEnt CP z]) O.h0, rfl⟩ (ja_one (je_entry (es := es) (n := 0) S c2 hr (by decide) (by decide) (by omega) (je_var 0 rfl) je_int)))) (by rw [O.fe]; exact pl_face O.fc) (pl_face O.fc)) (by rw [O.fe, D.eqb_refl (pl_face O.fc)]; rfl) ?_
  refine jss_cons (js_set 3 (je_fn c1 hr (by decide) rfl ⟨es, [n1], 3, O.po, by simp, ?_, O.fl, by omega, rfl, rfl⟩ (ja_cons (je_var 0 rfl) (ja_cons (je_ls (ja_one (je_var 1 rfl))) (ja_one (PE_eq (d := .int (4 - 1)) (je_sub (je_globI rfl hM ⟨mt, rfl⟩) je_int) rfl))))) sc_first_difference.nd) ?_
  · intro n hn
    rw [List.mem_singleton] at hn; subst hn; exact O.l1
  have e1 : (togV es [n1]).map (fun k => dEnt CP (gi es k)) = ps.map (dPg CP) := by
    have := congrArg (List.map (dEnt CP)) O.pg
    rw [List.map_map, List.map_map] at this
    exact this
  refine jss_cons (js_set 4 (PE_eq (je_catL (xs := (togV es [n1]).map (fun k => dEnt CP (gi es k))) (ys := [dPg CP q]) (by rw [List.length_map]; show _ + 1 ≤ 2 ^ 24; omega) (PE_r (je_lc0 (xs := togV es [n1]) (em := D.int) (own := [("part", 6)]) (fun k => dEnt CP (gi es k)) rfl sc_first_difference.nd (ji_list (je_var 3 rfl)) (blkOk_by (N := N_first_difference) (sc := defScope s_first_difference) (by decide +kernel)) (gok_name 6) (by simp) (fun _ _ => trivial) (by show _ ≤ 2 ^ 24; omega)
    (fun s H C cl fp => pg_name (i := 6) sc_first_difference.nd rfl (.inl rfl)) (fun j k hj s H C cl fp => je_entry (es := es) S c2 hr (by decide) (O.ib k (List.mem_of_getElem? hj)).1 (O.ib k (List.mem_of_getElem? hj)).2 (je_var 0 rfl) (je_var 6 rfl)))) (PE_r (je_ls (ja_one (je_var 2 rfl))))) (show _ = D.lst ((ps ++ [q]).map (dPg CP)) by rw [e1, List.map_append]; rfl)) sc_first_difference.nd) ?_
  refine jss_ndef 5 rfl TB rfl hmem (hnm _ _) hu (ndef_free nd_df) rfl rfl rfl sc_first_difference.nd rfl (.inl rfl) (.inl rfl) fun fa c' => ?_
  have nokp := nok_df (P := P) (w := w) (K := K) (mg := mg) (base := base) (T := T) (CS := CS) (CP := CP) (f := fa) (c := c') (qual := "first_difference.<locals>.differs") (cl := cloFrom (cxOf (L2.CX P w) P w K mg base N_first_difference "first_difference" (defScope s_first_difference) f (.ref cfd) A outer s H E).env.cells (C8.fnScope s_df).names []) c4 c5
  have hRn : ∀ d r, RMark (markD es n1 (togV es [n1])) (domD es (togV es [n1])) d r → Rn_df CS CP [dStore CS CP es, .int (n1 : Int), dRow (togV es [n1])] [d] r := fun d r ⟨rows, ⟨hne, h1, ho⟩, h2, h3⟩ =>
    ⟨es, n1, togV es [n1], rows.dropLast, rows.getLastD [], h1, O.l1, by omega, ho, rfl, by
      rw [h2]
      have : rows.dropLast ++ [rows.getLastD []] = rows := by
        obtain ⟨ys, y, rfl⟩ := List.eq_nil_or_concat rows |>.resolve_left hne
        simp
      rw [this], h3⟩
  have cap : (cxOf (L2.CX P w) P w K mg base N_first_difference "first_difference" (defScope s_first_difference) f (.ref cfd) A outer s H E).Ok → Caps (cxOf (L2.CX P w) P w K mg base N_first_difference "first_difference" (defScope s_first_difference) f (.ref cfd) A outer s H E) (cloFrom (cxOf (L2.CX P w) P w K mg base N_first_difference "first_difference" (defScope s_first_difference) f (.ref cfd) A outer s H E).env.cells (C8.fnScope s_df).names []) F_df [0, 1, 3] := fun ok => Caps.made ok (ndef_free nd_df) (ndef_fr nd_df) rfl
  cases e with
  | none =>
    show PSs _ _ (tS _ _ _ _ (.rt .non))
    exact jss_one (js_ret (je_ixT (xs := [.lst ((kp n).map dKe), .non]) (je_search (js := [0, 1, 3]) (cs := [dStore CS CP es, .int (n1 : Int), dRow (togV es [n1])]) Sc hr (by decide) rfl (je_var 4 rfl) (je_fn c3 hr (by decide) rfl ⟨es, p0, h0l, O.h0, rfl, rfl⟩ (ja_one (je_var 0 rfl))) (je_var 5 rfl) rfl cap nokp hRn O.so rfl rfl (fun _ => rfl) rfl) je_int rfl))
  | found tk l =>
    show PSs _ _ (tS _ _ _ _ (.rt (.lst ((inputV (ps ++ [q]) (tk :: l).reverse).map dMs))))
    exact jss_one (js_ret (je_ixT (xs := [.lst ((kp n).map dKe), .lst ((inputV (ps ++ [q]) (tk :: l).reverse).map dMs)]) (je_search (js := [0, 1, 3]) (cs := [dStore CS CP es, .int (n1 : Int), dRow (togV es [n1])]) Sc hr (by decide) rfl (je_var 4 rfl) (je_fn c3 hr (by decide) rfl ⟨es, p0, h0l, O.h0, rfl, rfl⟩ (ja_one (je_var 0 rfl))) (je_var 5 rfl) rfl cap nokp hRn O.so rfl rfl (fun _ => rfl) rfl) je_int rfl))
  | large =>
    show PSs _ _ (tS _ _ _ _ (.ex CT))
    exact jss_one (js_retX (je_ixX (fun _ _ => rfl) (je_searchX (js := [0, 1, 3]) (cs := [dStore CS CP es, .int (n1 : Int), dRow (togV es [n1])]) Sc hr (by decide) rfl (je_var 4 rfl) (je_fn c3 hr (by decide) rfl ⟨es, p0, h0l, O.h0, rfl, rfl⟩ (ja_one (je_var 0 rfl))) (je_var 5 rfl) rfl cap nokp hRn O.so rfl rfl (fun _ => rfl) passesX rfl)))
end MM
end
section
set_option Elab.async false
set_option linter.all false
set_option maxRecDepth 100000
set_option maxHeartbeats 4000000
namespace MM
open PySem PySem.Spec PyProof.Rows L2 NdefX DL
variable {P : Program} {w : World} {K : PySem.W.Frag} {mg : PySem.Str → Option Value} {base : Heap} {T : List NTab} {CS CP CT : Addr}
/-! ### programs made -/
def rk3 (r : Rl) : Int × Int × Int := (r.st, r.nm, r.ps)
def sortR (rs : List Rl) : List Rl := rs.mergeSort (PySem.W.dataLe false (key3 rk3))
def dPgF (p : Pg) : List D := [.ptup (p.names.map D.str), .tup (p.chans.map dCh), .tup (p.states.map dSt), .tup (p.rules.map dRl)]
def R_mkp (ds xs : List D) : Prop := ∃ (p : Pg) (rl : List Rl), ds = [.lst (p.names.map D.str), .lst (p.chans.map dCh), .lst (p.states.map dSt), .lst (rl.map dRl)] ∧ p.rules = sortR rl ∧ xs = dPgF p
theorem ok_mkp {ci Pt : Addr} {nm : Nat → Nat → PySem.Str} (Bl : Blt mg) (C : PgC K mg CP) (F : MkCC K CP "Program.__init__" s_Program_init ["self", "names", "channels", "states", "rules"] ci) (TB : LamX.TabB base mg ci Pt) (hmem : (Pt, nm) ∈ T) (hu : ∀ p ∈ T, p.1 = Pt → p.2 = nm) (hnm : ∀ a b, nm a b = "Program.__init__.<locals>.<lambda>") :
    MkCal P w K mg base T 1 CP ["names", "channels", "states", "rules"] ["self", "names", "channels", "states", "rules"] R_mkp := by
  refine mk_DC F sc_Program_init (fun ds xs h => ?_) fun f A outer s H G H0 x E ds xs hr h => ?_
  · obtain ⟨p, rl, rfl, _⟩ := h; rfl
  · obtain ⟨p, rl, rfl, hs, rfl⟩ := h
    refine ⟨[.ow (insK K CP x (["names", "channels", "states", "rules"] : List PySem.Str) (dPgF p)), .da (.lst (p.names.map D.str)), .da (.lst (p.chans.map dCh)), .da (.lst (p.states.map dSt)), .da (.lst (rl.map dRl))], rfl, ?_⟩
    have nd := sc_Program_init.nd
    refine jss_cons (js_fset (a0 := x) (ns := []) (ds := []) 0 rfl C.own.cls C.a1 (by decide) (by decide) (je_tupP (xs := p.names.map D.str) rfl Bl.tuple (PE_r (je_var 1 rfl)))) ?_
    refine jss_cons (js_fset (a0 := x) 0 rfl C.own.cls C.a2 (by decide) (by decide) (je_tupL (xs := p.chans.map dCh) rfl Bl.tuple (PE_r (je_var 2 rfl)))) ?_
    refine jss_cons (js_fset (a0 := x) 0 rfl C.own.cls C.a3 (by decide) (by decide) (je_tupL (xs := p.states.map dSt) rfl Bl.tuple (PE_r (je_var 3 rfl)))) ?_
    refine jss_cons (js_fset (a0 := x) 0 rfl C.own.cls C.a4 (by decide) (by decide) (je_tupL (xs := (sortR rl).map dRl) rfl Bl.tuple (PE_r (je_sortedCut (k := rk3) TB rfl hmem (hnm _ _) hu hr rfl Bl.sorted (fun b _ => ⟨_, _, rfl⟩) (PE_r (je_var 4 rfl)))))) ?_
    unfold dPgF
    rw [hs]
    exact jss_nil
end MM
end
section
set_option Elab.async false
set_option linter.all false
set_option maxRecDepth 100000
set_option maxHeartbeats 4000000
namespace MM
open PySem PySem.Spec PyProof.Rows L2 NdefX DL
variable {P : Program} {w : World} {K : PySem.W.Frag} {mg : PySem.Str → Option Value} {base : Heap} {T : List NTab} {CS CP CT : Addr}
/-! ### the store written: its object at x, its list at l, both out of the ground -/
def hdel (H : Hp) (a : Addr) : Hp := fun b => if b = a then none else H b
theorem hdel_ne {H : Hp} {a b : Addr} (h : b ≠ a) : hdel H a b = H b := if_neg h
theorem hdel_same {H : Hp} {a : Addr} : hdel H a a = none := if_pos rfl
theorem hdel_some {H : Hp} {a b : Addr} {o : HO} (h : hdel H a b = some o) : b ≠ a ∧ H b = some o := by
  by_cases z : b = a
  · subst z; rw [hdel_same] at h; cases h
  · exact ⟨z, by rw [hdel_ne z] at h; exact h⟩
def cut2 (H : Hp) (x l : Addr) : Hp := hdel (hdel H x) l
theorem cut2_some {H : Hp} {x l b : Addr} {o : HO} (h : cut2 H x l b = some o) : b ≠ x ∧ b ≠ l ∧ H b = some o := by
  obtain ⟨h1, h2⟩ := hdel_some h
  obtain ⟨h3, h4⟩ := hdel_some h2
  exact ⟨h3, h1, h4⟩
theorem cut2_ne {H : Hp} {x l b : Addr} (h1 : b ≠ x) (h2 : b ≠ l) : cut2 H x l b = H b := by unfold cut2; rw [hdel_ne h2, hdel_ne h1]
theorem cut2_sub {H : Hp} {x l : Addr} : Same (cut2 H x l) H := fun a o h => (cut2_some h).2.2
theorem tabs_cut {T : List NTab} {H : Hp} {x l : Addr} {ox ol : HO} (h : TabsN T H) (hx : H x = some ox) (hl : H l = some ol) (nx : ∀ ps, ox ≠ .tbl ps) (nl : ∀ ps, ol ≠ .tbl ps) (cx : ∀ c q, ox ≠ LamX.CodeO c q) (cl : ∀ c q, ol ≠ LamX.CodeO c q) : TabsN T (cut2 H x l) := fun p hp => by
  obtain ⟨ps, h1, h2, h3⟩ := h p hp
  have n : ∀ {b : Addr} {o : HO}, H b = some o → o ≠ ox → o ≠ ol → cut2 H x l b = some o := fun {b o} e e1 e2 => by
    rw [cut2_ne]
    · exact e
    · intro z; rw [z, hx] at e; exact e1 (Option.some.inj e).symm
    · intro z; rw [z, hl] at e; exact e2 (Option.some.inj e).symm
  refine ⟨ps, n h1 (fun z => nx _ z.symm) (fun z => nl _ z.symm), h2, fun pos cv hc => ?_⟩
  obtain ⟨c, e1, e2⟩ := h3 pos cv hc
  exact ⟨c, e1, n e2 (fun z => cx _ _ z.symm) (fun z => cl _ _ z.symm)⟩
theorem ins_nc {C dx : Addr} {fs : List (PySem.Str × V)} (c : Addr) (q : PySem.Str) : HO.ins C dx fs ≠ LamX.CodeO c q := fun z => by unfold LamX.CodeO at z; cases z
structure StoreAt (K : PySem.W.Frag) (T : List NTab) (CS CP : Addr) (G H : Hp) (x l : Addr) (es : List Ent) : Prop where
  base : Base T G (cut2 H x l)
  hx : ∃ dx, H x = some (.ins CS dx [("_entries", .ref l)])
  hl : ∃ us, H l = some (.lst us) ∧ RepAll K G us (es.map (dEnt CP))
section
variable {G H G' H' : Hp} {x l : Addr} {es : List Ent}
theorem StoreAt.gx (S : StoreAt K T CS CP G H x l es) : G x = none := by
  cases z : G x with
  | none => rfl
  | some o => exact absurd rfl (cut2_some (S.base.sub _ _ z)).1
theorem StoreAt.gl (S : StoreAt K T CS CP G H x l es) : G l = none := by
  cases z : G l with
  | none => rfl
  | some o => exact absurd rfl (cut2_some (S.base.sub _ _ z)).2.1
theorem StoreAt.ne (S : StoreAt K T CS CP G H x l es) : x ≠ l := fun z => by
  obtain ⟨dx, h1⟩ := S.hx
  obtain ⟨us, h2, _⟩ := S.hl
  rw [z, h2] at h1
  cases h1
/-- the store as data, for a while -/
def fz (G : Hp) (x l : Addr) (H : Hp) : Hp := fun b => if b = x ∨ b = l then H b else G b
theorem StoreAt.fzle (S : StoreAt K T CS CP G H x l es) : Same G (fz G x l H) := fun b o e => by
  unfold fz
  rw [if_neg]
  · exact e
  · rintro (z | z)
    · rw [z, S.gx] at e; cases e
    · rw [z, S.gl] at e; cases e
theorem StoreAt.fzb (S : StoreAt K T CS CP G H x l es) : Base T (fz G x l H) H := by
  obtain ⟨dx, h1⟩ := S.hx
  obtain ⟨us, h2, _⟩ := S.hl
  refine ⟨fun b o e => ?_, fun b ps e => ?_, S.base.tabs.ext cut2_sub⟩
  · unfold fz at e
    split at e
    · exact e
    · exact (cut2_some (S.base.sub _ _ e)).2.2
  · unfold fz at e
    split at e
    · next z =>
      rcases z with z | z
      · rw [z, h1] at e; cases e
      · rw [z, h2] at e; cases e
    · exact S.base.nt _ _ e
theorem StoreAt.fzr (S : StoreAt K T CS CP G H x l es) : Rep K (fz G x l H) (.ref x) (dStore CS CP es) := by
  obtain ⟨dx, h1⟩ := S.hx
  obtain ⟨us, h2, r⟩ := S.hl
  refine .ins (fs := [("_entries", .ref l)]) (dx := dx) ?_ rfl rfl (.one (.lst (xs := us) ?_ (r.up S.fzle)))
  · unfold fz; rw [if_pos (.inl rfl)]; exact h1
  · unfold fz; rw [if_pos (.inr rfl)]; exact h2
/-- the heap has grown, the store stands as it was -/
theorem StoreAt.stay (S : StoreAt K T CS CP G H x l es) (keep : LamX.ExtN H H') (tabs : TabsN T H') : StoreAt K T CS CP G H' x l es := by
  obtain ⟨dx, h1⟩ := S.hx
  obtain ⟨us, h2, r⟩ := S.hl
  have h1' := keep _ _ h1 (fun ps z => nomatch z)
  have h2' := keep _ _ h2 (fun ps z => nomatch z)
  refine ⟨⟨fun b o e => ?_, S.base.nt, tabs_cut tabs h1' h2' (fun _ z => nomatch z) (fun _ z => nomatch z) ins_nc (lst_nc _)⟩, ⟨dx, h1'⟩, us, h2', r⟩
  obtain ⟨n1, n2, e1⟩ := cut2_some (S.base.sub _ _ e)
  rw [cut2_ne n1 n2]
  exact keep _ _ e1 (fun ps z => S.base.nt _ ps (by rw [e, z]))
/-- .. so it is a growth of all else -/
theorem StoreAt.grow (S : StoreAt K T CS CP G H x l es) (S' : StoreAt K T CS CP G H' x l es') (keep : ∀ b o, b ≠ x → b ≠ l → H b = some o → (∀ ps, o ≠ .tbl ps) → H' b = some o) (nn : ∀ b, b ≠ x → b ≠ l → H' b = none → H b = none) : Grow T G (cut2 H x l) G (cut2 H' x l) where
  le := Same.refl _
  sub := S'.base.sub
  nt := S.base.nt
  keep := fun b o e n => by
    obtain ⟨n1, n2, e1⟩ := cut2_some e
    rw [cut2_ne n1 n2]
    exact keep b o n1 n2 e1 n
  tabs := S'.base.tabs
  nn := fun b e => by
    by_cases n1 : b = x
    · cases z : cut2 H x l b with
      | none => rfl
      | some o => exact absurd n1 (cut2_some z).1
    by_cases n2 : b = l
    · cases z : cut2 H x l b with
      | none => rfl
      | some o => exact absurd n2 (cut2_some z).2.1
    rw [cut2_ne n1 n2] at e ⊢
    exact nn b n1 n2 e
  new := fun _ _ e => .inl e
end
theorem ent_ref {G : Hp} {v : V} {e : Ent} (r : Rep K G v (dEnt CP e)) : ∃ b, v = .ref b := by
  cases e with
  | pg p => cases r; exact ⟨_, rfl⟩
  | mg a b c => cases r; exact ⟨_, rfl⟩
/-- the store gets an entry -/
def spPut (K : PySem.W.Frag) (T : List NTab) (CS CP : Addr) (vs : List V) (G : Hp) (x : Addr) (l : Addr) (es : List Ent) (e : Ent) (H : Hp) (Q : VK) : Prop :=
  StoreAt K T CS CP G H x l es ∧ es.length < 100 ∧ ∀ G' H', Grow T G (cut2 H x l) G' (cut2 H' x l) → StoreAt K T CS CP G' H' x l (es ++ [e]) → Q (.int es.length) H'
def spAdd (K : PySem.W.Frag) (T : List NTab) (CS CP : Addr) : Sp := fun vs H Q E => ∃ G x l es v e, vs = [.ref x, v] ∧ Rep K G v (dEnt CP e) ∧ spPut K T CS CP vs G x l es e H Q
/-- data pinned by its address, read as what stands there from the start -/
theorem je_adr {X : Cx} {B : Bs} {ρ : List Sl} {e : Expr} {a : Addr} {d : D} (r : Rep X.K B.G0 (.ref a) d) (h : PE X e (tD X.K B ρ (.adr a))) : PE X e (tD X.K B ρ d) :=
  pe_mono h fun σ H Q ⟨G, en, q⟩ => ⟨G, en, fun v G' H' g rv => by
    cases rv
    exact q _ G' H' g (r.up (en.grow.le.trans g.le))⟩
/-- a statement of data, then a rest of another kind -/
theorem jss_raw {X : Cx} {B : Bs} {E : XK} {ρ ρ1 : List Sl} {st : Stmt} {rest : List Stmt} {t2 : TS} (h1 : PS X st (tS X.K B E ρ (.nx ρ1))) (h2 : PSs X rest t2) : PSs X (st :: rest) (fun D σ H => ∃ G, B.En X.K G ρ σ H ∧ ∀ σ' G' H', Same G G' → B.En X.K G' ρ1 σ' H' → t2 D σ' H') :=
  pss_mono (pss_cons h1 h2) fun D σ H ⟨G, en, q⟩ => ⟨G, en, q⟩

structure MCalR (P : Program) (w : World) (K : PySem.W.Frag) (mg : PySem.Str → Option Value) (base : Heap) (k : Nat) (C : Addr) (m : PySem.Str) (ps : List PySem.Str) (sp : Sp) : Prop where
  ex : ∃ (f : Addr) (fd : FuncData), FnOk P w K mg base CX0 k f fd ps sp ∧ Meth K C m f ∧ Binds K fd ps []
theorem ok_add (Bl : Blt mg) (S : StC K mg CS) (hM : mostI mg "MOST_COMMITS" 100) (F : Mth K CS "_add" "Store._add" s_Store_add ["self", "entry"]) : MCalR P w K mg base 1 CS "_add" ["self", "entry"] (spAdd K T CS CP) := by
  obtain ⟨f, fd, F, hm, hb⟩ := F.ex
  obtain ⟨mt, hM⟩ := hM
  refine ⟨f, fd, F.ok sc_Store_add (fun vs H Q E h => ?_) (fun cdv A outer s H vs Q E hr h => ?_), hm, hb⟩
  · obtain ⟨G, x, l, es, v, e, rfl, _⟩ := h; rfl
  obtain ⟨G, x, l, es, v, e, rfl, rv, St, hlen, q⟩ := h
  obtain ⟨b, rfl⟩ := ent_ref rv
  have h1 : PS (cxOf CX0 P w K mg base N_Store_add "Store._add" (defScope s_Store_add) f cdv A outer s H E).nox ((defBody s_Store_add).getD 0 (.Pass ⟨0, 0, 0, 0⟩)) (tS K ⟨T, fz G x l H, H⟩ E0 (env0 N_Store_add.length [.adr x, .adr b]) (.nx (env0 N_Store_add.length [.adr x, .adr b]))) :=
    js_if (k := decide ((es.length : Int) = 100)) (jt_eqI (PE_eq (je_lenL rfl Bl.len (PE_r (je_fld (d := .lst (es.map (dEnt CP))) S.own.cls S.a1 (je_adr St.fzr (je_var 0 rfl)) rfl))) (by rw [List.length_map])) (je_globI rfl hM ⟨mt, rfl⟩)) (fun z => by have := of_decide_eq_true z; omega) (fun _ => jss_nil)
  have h2 : PS (cxOf CX0 P w K mg base N_Store_add "Store._add" (defScope s_Store_add) f cdv A outer s H E).nox ((defBody s_Store_add).getD 1 (.Pass ⟨0, 0, 0, 0⟩)) (tDrop (tBM K "list" rAppend (tFld K (tVar 0) "_entries") (tCons (tVar 1) tNil))) :=
    ps_expr (pe_bm PySem.F.plainAttrs_list PySem.F.slot_list_append PySem.F.type_list_append mt_append (pe_fld (pe_var (i := 0) rfl (.inl rfl)) rfl) (pa_cons (pe_var (i := 1) rfl (.inl rfl)) pa_nil))
  have h3 : ∀ z : {z : (Hp × Hp) × List Ent // Rep K z.1.1 (.ref x) (dStore CS CP z.2)}, PS (cxOf CX0 P w K mg base N_Store_add "Store._add" (defScope s_Store_add) f cdv A outer s H E).nox ((defBody s_Store_add).getD 2 (.Pass ⟨0, 0, 0, 0⟩)) (tS K ⟨T, z.1.1.1, z.1.1.2⟩ E0 (env0 N_Store_add.length [.adr x, .adr b]) (.rt (.int ((z.1.2.length : Int) - 1)))) := fun ⟨⟨⟨G3, H3⟩, es3⟩, r3⟩ =>
    js_ret (je_sub (PE_eq (je_lenL rfl Bl.len (PE_r (je_fld (d := .lst (es3.map (dEnt CP))) S.own.cls S.a1 (je_adr r3 (je_var 0 rfl)) rfl))) (by rw [List.length_map])) je_int)
  refine ⟨_, jss_raw h1 (pss_cons h2 (pss_fam fun z => jss_one (h3 z))), fz G x l H, en_start St.fzb (.cons (.adr x) (.one (.adr b))), fun σ1 G1 H1 le1 en1 => ?_⟩
  obtain ⟨v0, s0, r0⟩ := en1.da (i := 0) (d := .adr x) rfl
  obtain ⟨v1, s1, r1⟩ := en1.da (i := 1) (d := .adr b) rfl
  cases r0
  cases r1
  have S1 := St.stay en1.grow.keep en1.grow.tabs
  obtain ⟨dx, hx1⟩ := S1.hx
  obtain ⟨us, hl1, rus⟩ := S1.hl
  have hul : us.length = es.length := by rw [rus.length, List.length_map]
  refine ⟨.ref x, s0, x, CS, dx, _, .ref l, rfl, hx1, S.own.cls, S.a1, rfl, .inl ⟨rfl, _, SqL.of hl1⟩, .ref b, s1, l, us, .ref b, rfl, rfl, hl1, by rw [hul]; show es.length < 2 ^ 24; omega, ?_⟩
  have ne := S1.ne
  have S3 : StoreAt K T CS CP G (upd H1 l (.lst (us ++ [.ref b]))) x l (es ++ [e]) := by
    refine ⟨?_, ⟨dx, by rw [upd_ne ne]; exact hx1⟩, us ++ [.ref b], upd_same, by rw [List.map_append]; exact rus.append (.one rv)⟩
    have e1 : cut2 (upd H1 l (.lst (us ++ [.ref b]))) x l = cut2 H1 x l := by
      funext c
      by_cases n2 : c = l
      · subst n2; unfold cut2; rw [hdel_same, hdel_same]
      · unfold cut2
        rw [hdel_ne n2, hdel_ne n2]
        by_cases n1 : c = x
        · subst n1; rw [hdel_same, hdel_same]
        · rw [hdel_ne n1, hdel_ne n1, upd_ne n2]
    rw [e1]
    exact S1.base
  refine ⟨⟨((fz G x l (upd H1 l (.lst (us ++ [.ref b]))), upd H1 l (.lst (us ++ [.ref b]))), es ++ [e]), S3.fzr⟩, fz G x l (upd H1 l (.lst (us ++ [.ref b]))), ?_, fun v4 G4 H4 le4 g4 r4 => ?_⟩
  · refine ⟨S3.fzb.refl, en1.len, fun i sl hs => ?_, fun i j k k' a hne z1 => ?_⟩
    · match i, hs with
      | 0, hs => cases hs; exact ⟨_, s0, .adr x⟩
      | 1, hs => cases hs; exact ⟨_, s1, .adr b⟩
      | i + 2, hs => simp [env0] at hs
    · match i, z1 with
      | 0, z1 => cases z1
      | 1, z1 => cases z1
      | i + 2, z1 => simp [env0] at z1
  · cases r4
    have g4 : Grow T (fz G x l (upd H1 l (.lst (us ++ [.ref b])))) (upd H1 l (.lst (us ++ [.ref b]))) G4 H4 := g4
    have S4 := S3.stay g4.keep g4.tabs
    have := q G H4 (St.grow S4 (fun c o n1 n2 e n => ?_) (fun c n1 n2 e => ?_)) S4
    · rw [List.length_append] at *
      rw [show (((es.length + [e].length : Nat) : Int) - 1) = (es.length : Int) by show (((es.length + 1 : Nat) : Int) - 1) = _; omega]
      exact this
    · exact g4.keep _ _ (by rw [upd_ne n2]; exact en1.grow.keep _ _ e n) n
    · have e3 := g4.nn _ e
      rw [upd_ne n2] at e3
      exact en1.grow.nn _ e3
end MM
end
section
set_option Elab.async false
set_option linter.all false
set_option maxRecDepth 100000
set_option maxHeartbeats 4000000
namespace MM
open PySem PySem.Spec PyProof.Rows L2 NdefX DL
variable {P : Program} {w : World} {K : PySem.W.Frag} {mg : PySem.Str → Option Value} {base : Heap} {T : List NTab} {CS CP CT : Addr}
/-! ### commit -/
structure CommitOk (es : List Ent) (p : Pg) : Prop where
  few : (es.filter Ent.isPg).length < 12
  fc : ∀ p0 rest, es.filter Ent.isPg = .pg p0 :: rest → FaceOk p0 ∧ dFace p = dFace p0
  fp : FaceOk p
def spCommit (K : PySem.W.Frag) (T : List NTab) (CS CP : Addr) : Sp := fun vs H Q E => ∃ G x l es v p, vs = [.ref x, v] ∧ Rep K G v (dPg CP p) ∧ CommitOk es p ∧ spPut K T CS CP vs G x l es (.pg p) H Q
theorem ok_commit (Bl : Blt mg) (Cp : PgC K mg CP) (S : StC K mg CS) (hM : mostI mg "MOST_PROGRAMS" 12) (F : Mth K CS "commit" "Store.commit" s_Store_commit ["self", "program"]) (cf : Cal P w K mg base T 1 "face" ["program"] (R_face CP)) (ca : MCalR P w K mg base 1 CS "_add" ["self", "entry"] (spAdd K T CS CP)) : MCalR P w K mg base 2 CS "commit" ["self", "program"] (spCommit K T CS CP) := by
  obtain ⟨f, fd, F, hm, hb⟩ := F.ex
  obtain ⟨mt, hM⟩ := hM
  obtain ⟨fa, fda, Fa, hma, hba⟩ := ca.ex
  refine ⟨f, fd, F.ok sc_Store_commit (fun vs H Q E h => ?_) (fun cdv A outer s H vs Q E hr h => ?_), hm, hb⟩
  · obtain ⟨G, x, l, es, v, e, rfl, _⟩ := h; rfl
  obtain ⟨G, x, l, es, v, p, rfl, rv, O, St, hlen, q⟩ := h
  obtain ⟨b, rfl⟩ := ent_ref (e := .pg p) rv
  have rb : Rep K (fz G x l H) (.ref b) (dPg CP p) := rv.up St.fzle
  let X := (cxOf CX0 P w K mg base N_Store_commit "Store.commit" (defScope s_Store_commit) f cdv A outer s H E).nox
  let ρ0 : List Sl := [.da (.adr x), .da (.adr b), .un, .un]
  let ρ1 : List Sl := [.da (.adr x), .da (.adr b), .da (.lst ((es.filter Ent.isPg).map (dEnt CP))), .un]
  have h0 : PS X ((defBody s_Store_commit).getD 0 (.Pass ⟨0, 0, 0, 0⟩)) (tS K ⟨T, fz G x l H, H⟩ E0 ρ0 (.nx ρ1)) :=
    js_setLc (xs := es) (em := dEnt CP) (own := [("entry", 3)]) 2 Ent.isPg (dEnt CP) rfl sc_Store_commit.nd (ji_list (je_fld (d := .lst (es.map (dEnt CP))) S.own.cls S.a1 (je_adr St.fzr (je_var 0 rfl)) rfl)) (blkOk_by (N := N_Store_commit) (sc := defScope s_Store_commit) (by decide +kernel)) (gok_name 3) (by simp) (fun _ _ => trivial) (by show _ ≤ 2 ^ 24; omega)
      (fun s H C cl fp => pg_name (i := 3) sc_Store_commit.nd rfl (.inl rfl)) (fun k e he s H C cl fp => jts_one (jt_val (je_isPg (en := e) rfl Bl.isinstance rfl Cp (je_var 3 rfl)))) (fun k e he hp s H C cl fp => je_var 3 rfl) (sw_true rfl rfl rfl (by decide +kernel))
  have h1 : PS X ((defBody s_Store_commit).getD 1 (.Pass ⟨0, 0, 0, 0⟩)) (tS K ⟨T, fz G x l H, H⟩ E0 ρ1 (.nx ρ1)) := by
    cases ef : es.filter Ent.isPg with
    | nil =>
      refine js_if (k := (!((es.filter Ent.isPg).map (dEnt CP)).isEmpty) && true) (PW.pt (jw_and (jt_truthL (PE_r (je_var 2 rfl))) (fun z => ?_))) (fun z => ?_) (fun _ => jss_nil)
      · rw [ef] at z; cases z
      · rw [ef] at z; cases z
    | cons e0 rest =>
      have he0 : e0.isPg = true := (List.mem_filter.mp (by rw [ef]; exact List.mem_cons_self (a := e0) (l := rest))).2
      cases e0 with
      | mg _ _ _ => cases he0
      | pg p0 =>
        obtain ⟨fp0, fe⟩ := O.fc p0 rest ef
        refine js_if (k := (!((es.filter Ent.isPg).map (dEnt CP)).isEmpty) && !(dFace p0).eqb (dFace p)) (PW.pt (jw_and (jt_truthL (PE_r (je_var 2 rfl))) (fun z => jw_and1 (jt_neD (n := 4) hr.units (PE_r (je_fn cf hr (by decide) rfl ⟨p0, rfl, rfl⟩ (ja_one (je_ixL (PE_r (je_var 2 rfl)) je_int (by rw [ef]; exact atI_nat (k := 0) rfl))))) (PE_r (je_fn cf hr (by decide) rfl ⟨p, rfl, rfl⟩ (ja_one (je_adr rb (je_var 1 rfl))))) (pl_face fp0) (pl_face O.fp))))) (fun z => ?_) (fun _ => jss_nil)
        rw [fe, D.eqb_refl (pl_face fp0), Bool.not_true, Bool.and_false] at z
        cases z
  have few := O.few
  have h2 : PS X ((defBody s_Store_commit).getD 2 (.Pass ⟨0, 0, 0, 0⟩)) (tS K ⟨T, fz G x l H, H⟩ E0 ρ1 (.nx ρ1)) :=
    js_if (k := decide (((es.filter Ent.isPg).length : Int) = 12)) (jt_eqI (PE_eq (je_lenL rfl Bl.len (PE_r (je_var 2 rfl))) (by rw [List.length_map])) (je_globI rfl hM ⟨mt, rfl⟩)) (fun z => by have := of_decide_eq_true z; omega) (fun _ => jss_nil)
  have h3 : PS X ((defBody s_Store_commit).getD 3 (.Pass ⟨0, 0, 0, 0⟩)) (tRet (tMeth CS "_add" (spAdd K T CS CP) [] E0 (tVar 0) (tCons (tVar 1) tNil))) :=
    ps_ret (pe_meth (pe_var (i := 0) rfl (.inl rfl)) S.own.cls hma Fa hr hba .nil pass0 (pa_cons (pe_var (i := 1) rfl (.inl rfl)) pa_nil))
  refine ⟨_, jss_raw h0 (jss_raw h1 (jss_raw h2 (pss_one h3))), fz G x l H, en_start (N := N_Store_commit) (ds := [.adr x, .adr b]) St.fzb (.cons (.adr x) (.one (.adr b))), fun σ1 G1 H1 le1 en1 => ⟨G1, en1, fun σ2 G2 H2 le2 en2 => ⟨G2, en2, fun σ3 G3 H3 le3 en3 => ?_⟩⟩⟩
  obtain ⟨v0, s0, r0⟩ := en3.da (i := 0) (d := .adr x) rfl
  obtain ⟨v1, s1, r1⟩ := en3.da (i := 1) (d := .adr b) rfl
  cases r0
  cases r1
  have S3 := St.stay en3.grow.keep en3.grow.tabs
  obtain ⟨dx, hx3⟩ := S3.hx
  have g3 := St.grow S3 (fun c o n1 n2 e n => en3.grow.keep _ _ e n) (fun c n1 n2 e => en3.grow.nn _ e)
  exact ⟨.ref x, s0, x, dx, _, rfl, hx3, rfl, .ref b, s1, G, x, l, es, .ref b, .pg p, rfl, rv, S3, hlen, fun G' H' g S' => q G' H' (g3.trans g) S'⟩

/-! ### merge -/
def spMerge (K : PySem.W.Frag) (T : List NTab) (CS CP : Addr) : Sp := fun vs H Q E => ∃ G x l es a b c, vs = [.ref x, .int a, .int b, .int c] ∧ ((0 ≤ a ∧ a < es.length) ∧ (0 ≤ b ∧ b < es.length) ∧ 0 ≤ c ∧ c < es.length) ∧ spPut K T CS CP vs G x l es (.mg a b c) H Q
theorem ok_merge (S : StC K mg CS) (F : Mth K CS "merge" "Store.merge" s_Store_merge ["self", "base", "one", "other"]) (ck : Cal P w K mg base T 3 "known" ["store", "number"] (R_known CS CP)) (ca : MCalR P w K mg base 1 CS "_add" ["self", "entry"] (spAdd K T CS CP)) : MCalR P w K mg base 4 CS "merge" ["self", "base", "one", "other"] (spMerge K T CS CP) := by
  obtain ⟨f, fd, F, hm, hb⟩ := F.ex
  obtain ⟨fa, fda, Fa, hma, hba⟩ := ca.ex
  refine ⟨f, fd, F.ok sc_Store_merge (fun vs H Q E h => ?_) (fun cdv A outer s H vs Q E hr h => ?_), hm, hb⟩
  · obtain ⟨G, x, l, es, a, b, c, rfl, _⟩ := h; rfl
  obtain ⟨G, x, l, es, a, b, c, rfl, bd, St, hlen, q⟩ := h
  let X := (cxOf CX0 P w K mg base N_Store_merge "Store.merge" (defScope s_Store_merge) f cdv A outer s H E).nox
  let ρ0 : List Sl := [.da (.adr x), .da (.int a), .da (.int b), .da (.int c), .un]
  have h0 : PS X ((defBody s_Store_merge).getD 0 (.Pass ⟨0, 0, 0, 0⟩)) (tS K ⟨T, fz G x l H, H⟩ E0 ρ0 (.nx ρ0)) := by
    refine js_forF (S := Unit) (xs := [a, b, c]) (em := D.int) (fun _ => ρ0) (fun _ _ => ()) (fun _ _ => True) () PassesOwn.never rfl (ji_tup (je_tp (ja_cons (je_var 1 rfl) (ja_cons (je_var 2 rfl) (ja_one (je_var 3 rfl)))))) (gok_name 4) (pg_name (i := 4) sc_Store_merge.nd rfl (.inl rfl)) (fun _ _ => trivial) trivial (fun _ _ _ _ _ => trivial) (fun j z n hj _ => ?_)
    have hn : 0 ≤ n ∧ n < es.length := by
      have := List.mem_of_getElem? hj
      simp only [List.mem_cons, List.not_mem_nil, or_false] at this
      rcases this with rfl | rfl | rfl
      · exact bd.1
      · exact bd.2.1
      · exact bd.2.2
    exact jss_weak (.same (.same (.same (.same (.un .nil))))) (jss_one (js_expr (je_fn ck hr (by decide) rfl ⟨es, n, hn.1, hn.2, rfl, rfl⟩ (ja_cons (je_adr St.fzr (je_var 0 rfl)) (ja_one (je_var 4 rfl))))))
  have h3 : PS X ((defBody s_Store_merge).getD 1 (.Pass ⟨0, 0, 0, 0⟩)) (tRet (tMeth CS "_add" (spAdd K T CS CP) [] E0 (tVar 0) (tCons (tTup (tCons (tVar 1) (tCons (tVar 2) (tCons (tVar 3) tNil)))) tNil))) :=
    ps_ret (pe_meth (pe_var (i := 0) rfl (.inl rfl)) S.own.cls hma Fa (hr.mono (by decide)) hba .nil pass0 (pa_cons (pe_tup (pa_cons (pe_var (i := 1) rfl (.inl rfl)) (pa_cons (pe_var (i := 2) rfl (.inl rfl)) (pa_cons (pe_var (i := 3) rfl (.inl rfl)) pa_nil)))) pa_nil))
  refine ⟨_, jss_raw h0 (pss_one h3), fz G x l H, en_start (N := N_Store_merge) (ds := [.adr x, .int a, .int b, .int c]) St.fzb (.cons (.adr x) (.cons (.int a) (.cons (.int b) (.one (.int c))))), fun σ3 G3 H3 le3 en3 => ?_⟩
  obtain ⟨v0, s0, r0⟩ := en3.da (i := 0) (d := .adr x) rfl
  obtain ⟨v1, s1, r1⟩ := en3.da (i := 1) (d := .int a) rfl
  obtain ⟨v2, s2, r2⟩ := en3.da (i := 2) (d := .int b) rfl
  obtain ⟨v3, s3, r3⟩ := en3.da (i := 3) (d := .int c) rfl
  cases r0
  cases r1
  cases r2
  cases r3
  have S3 := St.stay en3.grow.keep en3.grow.tabs
  obtain ⟨dx, hx3⟩ := S3.hx
  have g3 := St.grow S3 (fun c o n1 n2 e n => en3.grow.keep _ _ e n) (fun c n1 n2 e => en3.grow.nn _ e)
  refine ⟨.ref x, s0, x, dx, _, rfl, hx3, rfl, .int a, s1, .int b, s2, .int c, s3, (show 3 ≤ 2 ^ 24 by decide), fun p hp => ?_⟩
  have px : p ≠ x := fun z => by rw [z, hx3] at hp; cases hp
  obtain ⟨us, hl3, rus⟩ := S3.hl
  have pl : p ≠ l := fun z => by rw [z, hl3] at hp; cases hp
  have hpc : cut2 H3 x l p = none := by rw [cut2_ne px pl]; exact hp
  have g4 := g3.base.lay (o := .tup [.int a, .int b, .int c]) hpc (fun ps z => nomatch z)
  have e4 : upd (cut2 H3 x l) p (.tup [.int a, .int b, .int c]) = cut2 (upd H3 p (.tup [.int a, .int b, .int c])) x l := by
    funext y
    by_cases h1 : y = p
    · subst h1; rw [upd_same, cut2_ne px pl, upd_same]
    · rw [upd_ne h1]
      by_cases h2 : y = l
      · subst h2; unfold cut2; rw [hdel_same, hdel_same]
      · by_cases h3 : y = x
        · subst h3; unfold cut2; rw [hdel_ne h2, hdel_ne h2, hdel_same, hdel_same]
        · rw [cut2_ne h3 h2, cut2_ne h3 h2, upd_ne h1]
  rw [e4] at g4
  have S4 : StoreAt K T CS CP (upd G p (.tup [.int a, .int b, .int c])) (upd H3 p (.tup [.int a, .int b, .int c])) x l es :=
    ⟨g4.base, ⟨dx, by rw [upd_ne (Ne.symm px)]; exact hx3⟩, us, by rw [upd_ne (Ne.symm pl)]; exact hl3, rus.up g4.le⟩
  exact ⟨_, x, l, es, .ref p, .mg a b c, rfl, .tup upd_same (.cons (.int a) (.cons (.int b) (.one (.int c)))), S4, hlen, fun G' H' g S' => q G' H' ((g3.trans g4).trans g) S'⟩
end MM
end
section
set_option Elab.async false
set_option linter.all false
set_option maxRecDepth 100000
set_option maxHeartbeats 4000000
namespace MM
open PySem PySem.Spec PyProof.Rows L2 NdefX DL
variable {P : Program} {w : World} {K : PySem.W.Frag} {mg : PySem.Str → Option Value} {base : Heap} {T : List NTab} {CS CP CT : Addr}
/-! ### the law's plans -/
def dPl (p : Pg) : D := .lst [.tup (p.names.map D.str), .tup (p.chans.map dCh), .tup (p.states.map dSt), .tup (p.rules.map dRl)]
def dLe : Ent → D
  | .pg p => dPl p
  | .mg a b c => .tup [.int a, .int b, .int c]
/-- its rules lie in the order that the program sorts them in -/
def PgSorted (p : Pg) : Prop := sortR p.rules.reverse = p.rules
def R_law_program (CP : Addr) (ds : List D) (d : D) : Prop := ∃ p : Pg, PgSorted p ∧ ds = [dPl p] ∧ d = dPg CP p
theorem ok_law_program (Bl : Blt mg) (Cp : PgC K mg CP) (F : Dfn K mg "_law_program" s_law_program ["_law_plan_here"]) (cm : MkCal P w K mg base T 1 CP ["names", "channels", "states", "rules"] ["self", "names", "channels", "states", "rules"] R_mkp) : Cal P w K mg base T 3 "_law_program" ["_law_plan_here"] (R_law_program CP) := by
  refine cal_D F sc_law_program (fun ds d h => ?_) fun f cdv A outer s H G E ds d hr h => ?_
  · obtain ⟨p, _, rfl, _⟩ := h; rfl
  · obtain ⟨p, hs, rfl, rfl⟩ := h
    have ix : ∀ {i : Int} {d : D}, L2.atI [.tup (p.names.map D.str), .tup (p.chans.map dCh), .tup (p.states.map dSt), .tup (p.rules.map dRl)] i = some d → L2.atI [.tup (p.names.map D.str), .tup (p.chans.map dCh), .tup (p.states.map dSt), .tup (p.rules.map dRl)] i = some d := fun h => h
    refine jss_one (js_ret (je_mk (k := 1) (ds := [.lst (p.names.map D.str), .lst (p.chans.map dCh), .lst (p.states.map dSt), .lst (p.rules.reverse.map dRl)]) cm hr (by decide) rfl Cp.mgp ⟨p, p.rules.reverse, rfl, hs.symm, rfl⟩
      (ja_cons (je_listT rfl Bl.list (PE_r (je_ixL (PE_r (je_var 0 rfl)) je_int (atI_nat (k := 0) rfl)))) (ja_cons (je_listT rfl Bl.list (PE_r (je_ixL (PE_r (je_var 0 rfl)) je_int (atI_nat (k := 1) rfl)))) (ja_cons (je_listT rfl Bl.list (PE_r (je_ixL (PE_r (je_var 0 rfl)) je_int (atI_nat (k := 2) rfl))))
      (ja_one (PE_eq (je_revL (xs := p.rules.map dRl) (PE_r (je_listT rfl Bl.list (PE_r (je_ixL (PE_r (je_var 0 rfl)) je_int (atI_nat (k := 3) rfl)))))) (by rw [List.map_reverse]))))))))
/-! ### Store() -/
structure StMk (K : PySem.W.Frag) (CS : Addr) : Prop where
  ex : ∃ (f : Addr) (fd : FuncData), Fun K "__init__" "Store.__init__" s_Store_init f fd ∧ Mk K CS f ∧ Binds K fd ["self"] []
def spSInit (CS : Addr) : Sp := fun vs H Q E => ∃ x dx, vs = [.ref x] ∧ H x = some (.ins CS dx []) ∧ ∀ l, H l = none → Q .non (upd (upd H l (.lst [])) x (.ins CS dx [("_entries", .ref l)]))
/-- a new store -/
def tNewS (T : List NTab) (K : PySem.W.Frag) (CS CP : Addr) : TE := fun σ H Q => ∃ G, Base T G H ∧ ∀ x l H', H x = none → H l = none → Grow T G H G H' → StoreAt K T CS CP G H' x l [] → Q (.ref x) H'
theorem pe_newS {X : Cx} {p pos : Pos} {k : Nat} (S : StC X.K X.mg CS) (F : StMk X.K CS) (hr : Room (k + 2) X.A) (hg : Gl X "Store") : PE X (.Call (.Name "Store" p) [] [] pos) (tNewS T X.K CS CP) := by
  obtain ⟨f, fd, F, M, hb⟩ := F.ex
  have ok : FnOk X.prog X.w X.K X.mg X.base CX0 1 f fd ["self"] (spSInit CS) := F.ok sc_Store_init (fun vs H Q E h => by obtain ⟨x, dx, rfl, _⟩ := h; rfl) (fun cdv A outer s H vs Q E hr h => by
    obtain ⟨x, dx, rfl, hx, q⟩ := h
    refine ⟨_, pss_one (ps_fld (pe_var (i := 0) rfl (.inl rfl)) (pe_lst pa_nil) rfl), by decide, fun l hl => ?_⟩
    have ne : x ≠ l := fun z => by rw [z, hl] at hx; cases hx
    exact ⟨.ref x, rfl, x, CS, dx, [], rfl, by rw [upd_ne ne]; exact hx, S.own.cls, S.a1, by decide, q l hl⟩)
  refine pe_mono (pe_make0 M ok (hr.mono (by omega)) hg S.mgs hb .nil pass0) fun σ H Q ⟨G, b, q⟩ x dx hx hdx hne => ?_
  have hdx2 : upd H dx (.own x) x = none := by rw [upd_ne (Ne.symm hne)]; exact hx
  refine ⟨x, dx, rfl, upd_same, fun l hl => ⟨rfl, ?_⟩⟩
  have hlx : l ≠ x := fun z => by rw [z, upd_same] at hl; cases hl
  rw [upd_ne hlx] at hl
  have hld : l ≠ dx := fun z => by rw [z, upd_same] at hl; cases hl
  rw [upd_ne hld] at hl
  have H' : ∀ c o, H c = some o → upd (upd (upd (upd H dx (.own x)) x (.ins CS dx [])) l (.lst [])) x (.ins CS dx [("_entries", .ref l)]) c = some o := fun c o e => by
    rw [upd_ne (ne_of_none e hx), upd_ne (ne_of_none e hl), upd_ne (ne_of_none e hx), upd_ne (ne_of_none e hdx)]
    exact e
  have nn : ∀ c, upd (upd (upd (upd H dx (.own x)) x (.ins CS dx [])) l (.lst [])) x (.ins CS dx [("_entries", .ref l)]) c = none → H c = none := fun c e => upd_nn _ (upd_nn _ (upd_nn _ (upd_nn _ e)))
  have g : Grow T G H G _ := b.same H' nn
  refine q x l _ hx hl g ⟨⟨fun c o e => ?_, b.nt, tabs_cut (ox := .ins CS dx [("_entries", .ref l)]) (ol := .lst []) g.tabs upd_same (by rw [upd_ne hlx, upd_same]) (fun _ z => nomatch z) (fun _ z => nomatch z) ins_nc (lst_nc _)⟩, ⟨dx, upd_same⟩, [], by rw [upd_ne hlx, upd_same], .nil⟩
  have e1 := b.sub _ _ e
  rw [cut2_ne (ne_of_none e1 hx) (ne_of_none e1 hl)]
  exact g.sub _ _ e

/-! ### the law's store -/
section
variable {G H G' H' G0 H0 : Hp} {x l : Addr} {es es' : List Ent}
theorem StoreAt.out (S : StoreAt K T CS CP G H x l es) (g : Grow T G H G' H') : G' x = none ∧ G' l = none := by
  obtain ⟨dx, h1⟩ := S.hx
  obtain ⟨us, h2, _⟩ := S.hl
  constructor
  · cases z : G' x with
    | none => rfl
    | some o =>
      rcases g.new _ _ z with y | y | ⟨c, q, y⟩
      · rw [S.gx] at y; cases y
      · rw [h1] at y; cases y
      · have := g.sub _ _ z
        rw [g.keep _ _ h1 (fun ps z => nomatch z), y] at this
        exact absurd (Option.some.inj this) (ins_nc _ _)
  · cases z : G' l with
    | none => rfl
    | some o =>
      rcases g.new _ _ z with y | y | ⟨c, q, y⟩
      · rw [S.gl] at y; cases y
      · rw [h2] at y; cases y
      · have := g.sub _ _ z
        rw [g.keep _ _ h2 (fun ps z => nomatch z), y] at this
        exact absurd (Option.some.inj this) (lst_nc _ _ _)
theorem StoreAt.up (S : StoreAt K T CS CP G H x l es) (g : Grow T G H G' H') : StoreAt K T CS CP G' H' x l es := by
  obtain ⟨o1, o2⟩ := S.out g
  have S1 := S.stay g.keep g.tabs
  obtain ⟨us, h2, r⟩ := S1.hl
  refine ⟨⟨fun b o e => ?_, g.nt, S1.base.tabs⟩, S1.hx, us, h2, r.up g.le⟩
  rw [cut2_ne (fun z => by rw [z, o1] at e; cases e) (fun z => by rw [z, o2] at e; cases e)]
  exact g.sub _ _ e
/-- the growth of all but the store, seen from before the store was -/
theorem grow_over (g : Grow T G0 H0 G H) (g' : Grow T G (cut2 H x l) G' (cut2 H' x l)) (hx : H0 x = none) (hl : H0 l = none) : Grow T G0 H0 G' H' where
  le := g.le.trans g'.le
  sub := g'.sub.trans cut2_sub
  nt := g'.nt
  keep := fun b o e n => by
    have e1 := g.keep _ _ e n
    have n1 : b ≠ x := fun z => by rw [z, hx] at e; cases e
    have n2 : b ≠ l := fun z => by rw [z, hl] at e; cases e
    have e2 := g'.keep b o (by rw [cut2_ne n1 n2]; exact e1) n
    exact (cut2_some e2).2.2
  tabs := g'.tabs.ext cut2_sub
  nn := fun b e => by
    by_cases n1 : b = x
    · rw [n1]; exact hx
    by_cases n2 : b = l
    · rw [n2]; exact hl
    have := g'.nn b (by rw [cut2_ne n1 n2]; exact e)
    rw [cut2_ne n1 n2] at this
    exact g.nn _ this
  new := fun b o e => by
    rcases g'.new b o e with z | z | z
    · exact g.new b o z
    · by_cases n1 : b = x
      · rw [n1]; exact .inr (.inl hx)
      by_cases n2 : b = l
      · rw [n2]; exact .inr (.inl hl)
      rw [cut2_ne n1 n2] at z
      exact .inr (.inl (g.nn _ z))
    · exact .inr (.inr z)
theorem En.over {ρ : List Sl} {σ : L2.St} (e : En K T G0 H0 G ρ σ H) (no : ∀ (i : Nat) (k : OwK), ρ[i]? ≠ some (.ow k)) (g' : Grow T G (cut2 H x l) G' (cut2 H' x l)) (hx : H0 x = none) (hl : H0 l = none) : En K T G0 H0 G' ρ σ H' where
  grow := grow_over e.grow g' hx hl
  len := e.len
  sl := fun i s h => by
    have q := e.sl i s h
    cases s with
    | un => trivial
    | da d => obtain ⟨v, h1, h2⟩ := q; exact ⟨v, h1, h2.up g'.le⟩
    | ow k => exact absurd h (no i k)
  apart := fun i j k k' a _ h => absurd h (no i k)
end
structure StOk (es : List Ent) : Prop where
  len : es.length ≤ 100
  pg : ∀ (k : Nat) p, es[k]? = some (.pg p) → PgSorted p ∧ CommitOk (es.take k) p
  mg : ∀ (k : Nat) a b c, es[k]? = some (.mg a b c) → (0 ≤ a ∧ a < k) ∧ (0 ≤ b ∧ b < k) ∧ 0 ≤ c ∧ c < k
def R_law_store (CS CP : Addr) (ds : List D) (d : D) : Prop := ∃ es : List Ent, StOk es ∧ ds = [.lst (es.map dLe)] ∧ d = dStore CS CP es
/-- for .. in ..: .. with something more that every turn changes -/
theorem ps_forI {X : Cx} {B : Bs} {ρ : List Sl} {tg iter : Expr} {body : List Stmt} {pos : Pos} {items : List D} {g : TG} {is : List Nat} {put : List Sl → D → List Sl} {ok : D → Prop} {I : Nat → Hp → Hp → Prop} (hp : PassesOwn (model X.prog X.w) X.A X.env X.xe) (hc : X.calm = true) (hi : PI X tg iter (tI X.K B ρ items)) (gok : GOk X.K g is put ok)
    (hg : PG X tg g) (hok : ∀ d ∈ items, ok d) (up : ∀ k G H G' H', I k G H → Grow B.T G H G' H' → I k G' H')
    (hb : ∀ (k : Nat) (d : D), items[k]? = some d → PSs X body (fun D σ H => ∃ G, B.En X.K G (put ρ d) σ H ∧ I k G H ∧ ∀ σ' G' H', Same G G' → B.En X.K G' ρ σ' H' → I (k + 1) G' H' → D.nx σ' H')) (hs : ∀ x, foldedSetIterable iter X.env x = pure x := by intro _; rfl) :
    PS X (.For tg iter body [] pos) (fun D σ H => ∃ G, B.En X.K G ρ σ H ∧ I 0 G H ∧ ∀ σ' G' H', Same G G' → B.En X.K G' ρ σ' H' → I items.length G' H' → D.nx σ' H') := by
  have hf := pss_fam (body := body) (ι := {p : Nat × D // items[p.1]? = some p.2}) (t := fun z => (fun D σ H => ∃ G, B.En X.K G (put ρ z.1.2) σ H ∧ I z.1.1 G H ∧ ∀ σ' G' H', Same G G' → B.En X.K G' ρ σ' H' → I (z.1.1 + 1) G' H' → D.nx σ' H')) fun z => hb z.1.1 z.1.2 z.2
  refine ps_mono (ps_for (pos := pos) hp hc hi hg hf hs) fun D σ H ⟨G, en, i0, q⟩ => ⟨G, en, fun J G1 H1 g1 W => ?_⟩
  refine ⟨fun i m σ' H' => m = items.length - i ∧ i ≤ items.length ∧ ∃ G', Same G1 G' ∧ B.En X.K G' ρ σ' H' ∧ I i G' H', ⟨_, rfl, Nat.zero_le _, G1, Same.refl _, en.up g1, up _ _ _ _ _ i0 g1⟩, ?_⟩
  rintro i m σ' H' ⟨rfl, hi', G', s', en', i1⟩
  by_cases hlt : i < items.length
  · have hd : items[i]? = some items[i] := List.getElem?_eq_getElem hlt
    obtain ⟨hgo, hy⟩ := W.go i _ G' H' hd s' en'.base
    refine .inr ⟨hgo, fun σ2 H2 => ∃ G2, Same G1 G2 ∧ B.En X.K G2 ρ σ2 H2 ∧ I (i + 1) G2 H2, fun σ2 H2 ⟨G2, s2, en2, i2⟩ => ⟨_, by omega, rfl, hlt, G2, s2, en2, i2⟩, fun x H2 y => ?_⟩
    obtain ⟨G2, g2, rx⟩ := hy x H2 y
    refine gok.go B ρ σ' G2 H2 x _ _ (en'.up g2) rx (hok _ (List.getElem_mem hlt)) fun σ3 en3 _ _ => ?_
    exact ⟨⟨(i, items[i]), hd⟩, G2, en3, up _ _ _ _ _ i1 g2, fun σ4 G4 H4 s4 en4 i4 => ⟨G4, (s'.trans g2.le).trans s4, en4, i4⟩⟩
  · have e : i = items.length := by omega
    subst e
    exact .inl ⟨W.stop _ G' H' (Nat.le_refl _) s' en'.base, q σ' G' H' (g1.le.trans s') en' i1⟩
theorem ps_ifT {X : Cx} {B : Bs} {ρ : List Sl} {c : Expr} {a b : List Stmt} {pos : Pos} {t2 : TS} (hc : PT X c (tT X.K B ρ true)) (ha : PSs X a t2) : PS X (.If c a b pos) (fun D σ H => ∃ G, B.En X.K G ρ σ H ∧ ∀ G' H', Grow B.T G H G' H' → t2 D σ H') :=
  ps_mono (ps_if hc ha pss_never) fun D σ H ⟨G, en, q⟩ => ⟨G, en, fun G1 H1 g1 => by
    show (if true = true then _ else _)
    rw [if_pos rfl]; exact q G1 H1 g1⟩
theorem ps_ifF {X : Cx} {B : Bs} {ρ : List Sl} {c : Expr} {a b : List Stmt} {pos : Pos} {t2 : TS} (hc : PT X c (tT X.K B ρ false)) (hb : PSs X b t2) : PS X (.If c a b pos) (fun D σ H => ∃ G, B.En X.K G ρ σ H ∧ ∀ G' H', Grow B.T G H G' H' → t2 D σ H') :=
  ps_mono (ps_if hc pss_never hb) fun D σ H ⟨G, en, q⟩ => ⟨G, en, fun G1 H1 g1 => by
    show (if false = true then _ else _)
    rw [if_neg Bool.false_ne_true]; exact q G1 H1 g1⟩

theorem ok_law_store (Bl : Blt mg) (Cp : PgC K mg CP) (S : StC K mg CS) (F : Dfn K mg "_law_store" s_law_store ["_law_entries_here"]) (M : StMk K CS) (cp : Cal P w K mg base T 3 "_law_program" ["_law_plan_here"] (R_law_program CP)) (cc : MCalR P w K mg base 2 CS "commit" ["self", "program"] (spCommit K T CS CP)) (cg : MCalR P w K mg base 4 CS "merge" ["self", "base", "one", "other"] (spMerge K T CS CP)) :
    Cal P w K mg base T 5 "_law_store" ["_law_entries_here"] (R_law_store CS CP) := by
  obtain ⟨f, fd, F, hm, hb⟩ := F.ex
  obtain ⟨fc, fdc, Fc, hmc, hbc⟩ := cc.ex
  obtain ⟨fg, fdg, Fg, hmg, hbg⟩ := cg.ex
  refine ⟨f, fd, F.ok sc_law_store (fun vs H Q E h => ?_) (fun cdv A outer s H vs Q E hr h => ?_), hm, F.kp, hb⟩
  · obtain ⟨G, ds, d, b, r, ⟨es, O, rfl, rfl⟩, q⟩ := h
    rw [r.length]
    rfl
  obtain ⟨G, ds, d, b, r, ⟨es, O, rfl, rfl⟩, q⟩ := h
  have ol := O.len
  let X := (cxOf CX0 P w K mg base N_law_store "_law_store" (defScope s_law_store) f cdv A outer s H E).nox
  let ρ : Addr → List Sl := fun x => [.da (.lst (es.map dLe)), .da (.adr x), .un]
  let ρk : Addr → Ent → List Sl := fun x e => [.da (.lst (es.map dLe)), .da (.adr x), .da (dLe e)]
  have hput : ∀ (z : Addr × Addr), H z.1 = none → H z.2 = none → ∀ (G1 G2 H1 H2 : Hp) (k : Nat) (e : Ent) (σ : L2.St), es[k]? = some e → (Bs.En ⟨T, G, H⟩ K G1 (ρk z.1 e) σ H1) → StoreAt K T CS CP G1 H1 z.1 z.2 (es.take k) → Grow T G1 (cut2 H1 z.1 z.2) G2 (cut2 H2 z.1 z.2) → StoreAt K T CS CP G2 H2 z.1 z.2 (es.take k ++ [e]) →
      (Bs.En ⟨T, G, H⟩ K G2 (ρ z.1) σ H2) ∧ StoreAt K T CS CP G2 H2 z.1 z.2 (es.take (k + 1)) := fun z hx hl G1 G2 H1 H2 k e σ he en St g S2 => by
    refine ⟨(En.over (en.weak (.same (.same (.un .nil)))) (fun i k h => ?_) g hx hl), ?_⟩
    · match i, h with
      | 0, h => cases h
      | 1, h => cases h
      | 2, h => cases h
      | i + 3, h => simp [ρ] at h
    · rw [List.take_succ, he]
      exact S2
  refine ⟨_, pss_cons (ps_set sc_law_store.nd (i := 1) rfl (.inl rfl) (pe_newS (T := T) (CP := CP) (X := X) (k := 2) S M hr rfl)) (pss_fam (ι := {z : Addr × Addr // H z.1 = none ∧ H z.2 = none}) fun z =>
    pss_cons (ps_forI (B := ⟨T, G, H⟩) (ρ := ρ z.1.1) (items := es.map dLe) (I := fun k G1 H1 => StoreAt K T CS CP G1 H1 z.1.1 z.1.2 (es.take k)) PassesOwn.never rfl (ji_list (je_var 0 rfl)) (gok_name 2) (pg_name (i := 2) sc_law_store.nd rfl (.inl rfl)) (fun _ _ => trivial) (fun k G1 H1 G2 H2 S g => S.up g) (fun k d hd => ?body)) (pss_one (ps_ret (pe_var (i := 1) rfl (.inl rfl))))), ?final⟩
  case body =>
    rw [List.getElem?_map] at hd
    cases he : es[k]? with
    | none => rw [he] at hd; cases hd
    | some e =>
      rw [he] at hd
      cases hd
      have hk := (List.getElem?_eq_some_iff.mp he).1
      have hlen : (es.take k).length < 100 := by rw [List.length_take]; omega
      cases e with
      | mg a b c =>
        refine pss_mono (pss_one (ps_ifT (ρ := ρk z.1.1 (.mg a b c)) (jt_val (je_isi (d := .tup [.int a, .int b, .int c]) rfl Bl.isinstance (je_var 2 rfl) (pe_tyT rfl Bl.tuple boot_tuple) (.ty "tuple") trivial (kit_ty (by decide +kernel)))) (pss_one (ps_expr (pe_meth (pe_var (i := 1) rfl (.inl rfl)) S.own.cls hmg Fg hr hbg .nil pass0
          (ja_cons (B := ⟨T, G, H⟩) (ρ := ρk z.1.1 (.mg a b c)) (je_ixT (xs := [.int a, .int b, .int c]) (je_var 2 rfl) je_int rfl) (ja_cons (je_ixT (xs := [.int a, .int b, .int c]) (je_var 2 rfl) je_int rfl) (ja_one (je_ixT (xs := [.int a, .int b, .int c]) (je_var 2 rfl) je_int rfl))))))))) fun D σ H1 ⟨G1, en, St, q⟩ => ⟨G1, en, fun G2 H2 g2 => ?_⟩
        have en2 := en.up g2
        have St2 := St.up g2
        obtain ⟨v0, s0, r0⟩ := en2.da (i := 1) (d := .adr z.1.1) rfl
        cases r0
        obtain ⟨dx, hx2⟩ := St2.hx
        refine ⟨.ref z.1.1, s0, z.1.1, dx, _, rfl, hx2, rfl, G2, en2, fun vs G3 H3 g3 rs => ?_⟩
        have en3 := en2.up g3
        have St3 := St2.up g3
        cases rs with | cons r1 rs => cases rs with | cons r2 rs => cases rs with | cons r3 rs =>
        cases r1; cases r2; cases r3; cases rs
        have hb := O.mg k a b c he
        refine ⟨G3, z.1.1, z.1.2, es.take k, a, b, c, rfl, ?_, St3, hlen, fun G4 H4 g4 S4 => ?_⟩
        · rw [List.length_take]; omega
        · obtain ⟨e4, S5⟩ := hput z.1 z.2.1 z.2.2 G3 G4 H3 H4 k _ σ he en3 St3 g4 S4
          exact q σ G4 H4 (g2.le.trans (g3.le.trans g4.le)) e4 S5
      | pg p =>
        obtain ⟨hs, hc⟩ := O.pg k p he
        refine pss_mono (pss_one (ps_ifF (ρ := ρk z.1.1 (.pg p)) (jt_val (je_isi (d := dPl p) rfl Bl.isinstance (je_var 2 rfl) (pe_tyT rfl Bl.tuple boot_tuple) (.ty "tuple") trivial (kit_ty (by decide +kernel)))) (pss_one (ps_expr (pe_meth (pe_var (i := 1) rfl (.inl rfl)) S.own.cls hmc Fc (hr.mono (by decide)) hbc .nil pass0
          (ja_one (B := ⟨T, G, H⟩) (ρ := ρk z.1.1 (.pg p)) (je_fn cp hr (by decide) rfl ⟨p, hs, rfl, rfl⟩ (ja_one (je_var 2 rfl))))))))) fun D σ H1 ⟨G1, en, St, q⟩ => ⟨G1, en, fun G2 H2 g2 => ?_⟩
        have en2 := en.up g2
        have St2 := St.up g2
        obtain ⟨v0, s0, r0⟩ := en2.da (i := 1) (d := .adr z.1.1) rfl
        cases r0
        obtain ⟨dx, hx2⟩ := St2.hx
        refine ⟨.ref z.1.1, s0, z.1.1, dx, _, rfl, hx2, rfl, G2, en2, fun vs G3 H3 g3 rs => ?_⟩
        have en3 := en2.up g3
        have St3 := St2.up g3
        cases rs with | cons r1 rs =>
        cases rs
        refine ⟨G3, z.1.1, z.1.2, es.take k, _, p, rfl, r1, hc, St3, hlen, fun G4 H4 g4 S4 => ?_⟩
        obtain ⟨e4, S5⟩ := hput z.1 z.2.1 z.2.2 G3 G4 H3 H4 k _ σ he en3 St3 g4 S4
        exact q σ G4 H4 (g2.le.trans (g3.le.trans g4.le)) e4 S5
  case final =>
    refine ⟨G, b, fun x l H1 hx hl g1 St => ?_⟩
    have en1 : Bs.En ⟨T, G, H⟩ K G (ρ x) ((L2.start N_law_store vs).set 1 (some (.ref x))) H1 := En.setD (i := 1) ((en_start (N := N_law_store) b r).up g1) (.adr x)
    refine ⟨⟨(x, l), hx, hl⟩, G, en1, St, fun σ2 G2 H2 le2 en2 S2 => ?_⟩
    obtain ⟨v0, s0, r0⟩ := en2.da (i := 1) (d := .adr x) rfl
    cases r0
    have S2 : StoreAt K T CS CP G2 H2 x l es := by
      have := S2
      rw [List.length_map, List.take_length] at this
      exact this
    refine ⟨.ref x, s0, q _ (fz G2 x l H2) H2 ⟨en2.grow.le.trans S2.fzle, S2.fzb.sub, S2.fzb.nt, en2.grow.keep, en2.grow.tabs, en2.grow.nn, fun c o e => ?_⟩ S2.fzr⟩
    unfold fz at e
    split at e
    · next z =>
      rcases z with z | z
      · rw [z]; exact .inr (.inl hx)
      · rw [z]; exact .inr (.inl hl)
    · exact en2.grow.new c o e
end MM
end
section
set_option Elab.async false
set_option linter.all false
set_option maxRecDepth 100000
set_option maxHeartbeats 4000000
namespace MM
open PySem PySem.Spec PyProof.Rows L2 NdefX DL
variable {P : Program} {w : World} {K : PySem.W.Frag} {mg : PySem.Str → Option Value} {base : Heap} {T : List NTab} {CS CP CT : Addr}
/-! ### the script's cells -/
section
variable {X : Cx} {B : Bs} {ρ : List Sl} {e a b : Expr} {pos : Pos} {ns : List Int} {i n : Int}
theorem Rep.scr_inv {K : PySem.W.Frag} {T : List NTab} {G H : Hp} {v : V} (h : Rep K G v (.scr ns)) (bs : Base T G H) : ∃ p, v = .ref p ∧ SqL K H p (ns.map V.int) := by
  cases h with
  | scr h => exact ⟨_, rfl, bs.sub.seq h⟩
theorem je_lenSc {p : Pos} (hg : Gl X "len") (hm : X.mg "len" = none) (ha : PE X e (tD X.K B ρ (.scr ns))) (hs : starEach [e] X.env = (false, eval e X.env) :: starEach [] X.env := by rfl) : PE X (.Call (.Name "len" p) [e] [] pos) (tD X.K B ρ (.int ns.length)) :=
  je_callBr call_len_seq hg hm PySem.boot_len (PE_r ha) (fun G H v Q bs r q => by
    obtain ⟨p, rfl, hp⟩ := Rep.scr_inv (r.scal (fun _ z => nomatch z)) bs
    exact ⟨p, _, rfl, .inl hp, q _ G H bs.refl (by rw [List.length_map]; exact .int _)⟩) (by decide) (by decide) hs rfl
theorem je_ixSc (ha : PE X a (tD X.K B ρ (.scr ns))) (hb : PE X b (tD X.K B ρ (.int i))) (h : L2.atI ns i = some n) (hs : PlainIx b := by exact fun _ _ => rfl) : PE X (.Subscript a b pos) (tD X.K B ρ (.int n)) :=
  je_ix ix_list hs (PE_r ha) (PE_r hb) fun G H x y Q bs rx ry q => by
    obtain ⟨p, rfl, hp⟩ := Rep.scr_inv (rx.scal (fun _ z => nomatch z)) bs
    have e := (ry.scal (fun _ z => nomatch z)).int_inv
    refine ⟨p, _, i, .int n, rfl, e, hp, ?_, q _ G H bs.refl (.int n)⟩
    unfold L2.atI at h ⊢
    rw [List.length_map]
    cases ek : ixN ns.length i with
    | none => rw [ek] at h; cases h
    | some k =>
      rw [ek] at h
      have h : ns[k]? = some n := h
      show (ns.map V.int)[k]? = _
      rw [List.getElem?_map, h]
      rfl
end
def cellV (ns : List Int) (k : Nat) : Int := if k < ns.length then ns.getD k 0 else 0
def R_law_cell (ds : List D) (d : D) : Prop := ∃ (ns : List Int) (k : Nat), ds = [.scr ns, .int (k : Int)] ∧ d = .int (cellV ns k)
theorem ok_law_cell (Bl : Blt mg) (F : Dfn K mg "_law_cell" s_law_cell ["_law_script", "_law_k"]) : Cal P w K mg base T 1 "_law_cell" ["_law_script", "_law_k"] R_law_cell := by
  refine cal_D F sc_law_cell (fun ds d h => ?_) fun f cdv A outer s H G E ds d hr h => ?_
  · obtain ⟨ns, k, rfl, _⟩ := h; rfl
  · obtain ⟨ns, k, rfl, rfl⟩ := h
    unfold cellV
    refine jss_ifr (k := decide ((k : Int) < ns.length)) rfl (jt_lt (je_var 1 rfl) (je_lenSc rfl Bl.len (je_var 0 rfl))) (fun z => ?_) (fun z => ?_)
    · have hk : k < ns.length := by have := of_decide_eq_true z; omega
      rw [if_pos hk]
      exact jss_one (js_ret (je_ixSc (je_var 0 rfl) (je_var 1 rfl) (atI_nat (by rw [List.getElem?_eq_getElem hk, List.getD_eq_getElem?_getD, List.getElem?_eq_getElem hk]; rfl))))
    · have hk : ¬ k < ns.length := by have := of_decide_eq_false z; omega
      rw [if_neg hk]
      exact jss_one (js_ret je_int)
def rowF (c : Int) (z : List Int × Int × Int) (k : Nat) : List Int × Int × Int :=
  if 10 ^ 18 ≤ c then (z.1 ++ [z.2.1 % 840], z.2.1 / 840, z.2.2) else (z.1 ++ [(z.2.2 * 48271 + k) % 2147483647 * 69621 % 2147483629 / 7 % 840], z.2.1, (z.2.2 * 48271 + k) % 2147483647)
def rowV (c : Int) (n : Nat) : List Int := ((List.range n).foldl (rowF c) ([], c, c % 2147483629 + 1)).1
theorem rowF_len (c : Int) (z : List Int × Int × Int) (k : Nat) : (rowF c z k).1.length = z.1.length + 1 := by
  unfold rowF
  split <;> rw [List.length_append] <;> rfl
def R_law_row (ds : List D) (d : D) : Prop := ∃ (c : Int) (n : Nat), n ≤ 1000 ∧ ds = [.int c, .int (n : Int)] ∧ d = dRow (rowV c n)
theorem ok_law_row (Bl : Blt mg) (F : Dfn K mg "_law_row" s_law_row ["_law_cell_here", "_law_count"]) : Cal P w K mg base T 1 "_law_row" ["_law_cell_here", "_law_count"] R_law_row := by
  refine cal_D F sc_law_row (fun ds d h => ?_) fun f cdv A outer s H G E ds d hr h => ?_
  · obtain ⟨c, n, _, rfl, _⟩ := h; rfl
  · obtain ⟨c, n, hn, rfl, rfl⟩ := h
    refine jss_cons (js_setL 2 (Nat.zero_le _) ja_nil sc_law_row.nd) ?_
    refine jss_cons (js_set 3 (je_var 0 rfl) sc_law_row.nd) ?_
    refine jss_cons (js_set 4 (je_add (je_mod (by decide) (je_int1 rfl Bl.int (je_var 0 rfl)) je_int) je_int) sc_law_row.nd) ?_
    refine jss_cons (js_forF (xs := List.range n) (em := fun i : Nat => D.int (i : Int)) (fun z : List Int × Int × Int => [.da (.int c), .da (.int (n : Int)), .ow (lstK K (z.1.map D.int)), .da (.int z.2.1), .da (.int z.2.2), .un]) (rowF c) (fun k z => z.1.length = k) ([], c, c % 2147483629 + 1) PassesOwn.never rfl
      (ji_range (n := n) (by omega) rfl Bl.range (je_var 1 rfl)) (gok_name 5) (pg_name (i := 5) sc_law_row.nd rfl (.inl rfl)) (fun _ _ => trivial) rfl (fun k z x hx h1 => by rw [rowF_len, h1]) (fun k z i hk h1 => ?_)) ?_
    · have hkn := (List.getElem?_eq_some_iff.mp hk).1
      rw [List.length_range] at hkn
      have hik : i = k := by rw [List.getElem?_range hkn] at hk; exact (Option.some.inj hk).symm
      subst hik
      have hz : (z.1.map D.int).length < sizeLine := by rw [List.length_map, h1]; show i < 2 ^ 24; omega
      refine jss_one (js_if (k := decide ((10 : Int) ^ 18 ≤ c)) (jt_ge (je_var 0 rfl) (je_pow (i := 10) (j := 18) ⟨by decide, by decide, by decide⟩ je_int je_int)) (fun hc => ?_) (fun hc => ?_))
      · have hc := of_decide_eq_true hc
        unfold rowF
        rw [if_pos hc]
        have e : (z.1 ++ [z.2.1 % 840]).map D.int = z.1.map D.int ++ [.int (z.2.1 % 840)] := by rw [List.map_append]; rfl
        show PSs _ _ (tS _ _ _ _ (.nx [_, _, .ow (lstK K ((z.1 ++ [z.2.1 % 840]).map D.int)), _, _, _]))
        rw [e]
        refine jss_cons (js_app 2 rfl hz (je_mod (by decide) (je_int1 rfl Bl.int (je_var 3 rfl)) je_int)) ?_
        exact jss_weak (.same (.same (.same (.same (.same (.un .nil)))))) (jss_one (js_set 3 (je_fdiv ⟨by decide, by decide⟩ (je_var 3 rfl) je_int) sc_law_row.nd))
      · have hc := of_decide_eq_false hc
        unfold rowF
        rw [if_neg hc]
        have e : (z.1 ++ [(z.2.2 * 48271 + i) % 2147483647 * 69621 % 2147483629 / 7 % 840]).map D.int = z.1.map D.int ++ [.int ((z.2.2 * 48271 + i) % 2147483647 * 69621 % 2147483629 / 7 % 840)] := by rw [List.map_append]; rfl
        show PSs _ _ (tS _ _ _ _ (.nx [_, _, .ow (lstK K ((z.1 ++ [(z.2.2 * 48271 + i) % 2147483647 * 69621 % 2147483629 / 7 % 840]).map D.int)), _, _, _]))
        rw [e]
        refine jss_cons (js_set 4 (je_mod (by decide) (je_int1 rfl Bl.int (je_add (je_mul (cmul (by decide) (by decide)) (je_var 4 rfl) je_int) (je_var 5 rfl))) je_int) sc_law_row.nd) ?_
        exact jss_weak (.same (.same (.same (.same (.same (.un .nil)))))) (jss_one (js_app 2 rfl hz (je_mod (by decide) (je_fdiv ⟨by decide, by decide⟩ (je_mod (by decide) (je_int1 rfl Bl.int (je_mul (cmul (by decide) (by decide)) (je_var 4 rfl) je_int)) je_int) je_int) je_int)))
    · exact jss_freeze 2 rfl (jss_one (js_ret (je_var 2 rfl)))
end MM
end
section
set_option Elab.async false
set_option linter.all false
set_option maxRecDepth 100000
set_option maxHeartbeats 4000000
namespace MM
open PySem PySem.Spec PyProof.Rows L2 NdefX DL
variable {P : Program} {w : World} {K : PySem.W.Frag} {mg : PySem.Str → Option Value} {base : Heap} {T : List NTab} {CS CP CT : Addr}
/-! ### the law's words -/
def lettersV : St := "abcdefghijklmnopqrstuvwxyz"
def ltV (n : Int) : St := ⟨#[97 + (n % 26).toNat]⟩
theorem letters_at (n : Int) : L2.atI lettersV.cps.toList (n % 26) = some (97 + (n % 26).toNat) := by
  have h0 : 0 ≤ n % 26 := Int.emod_nonneg _ (by decide)
  have h1 : n % 26 < 26 := Int.emod_lt_of_pos _ (by decide)
  obtain ⟨k, hk⟩ : ∃ k : Nat, n % 26 = k := ⟨(n % 26).toNat, by omega⟩
  rw [hk]
  refine atI_nat ?_
  have hk2 : k < 26 := by omega
  have all : ∀ k : Fin 26, lettersV.cps.toList[k.1]? = some (97 + k.1) := by decide +kernel
  have := all ⟨k, hk2⟩
  rw [this]
  rfl
def word1 (n : Int) : St := if 0 < n / 26 % 3 then ltV n ++ ltV (n / 3) else ltV n
def wordV (n : Int) : St := if n / 26 % 3 = 2 then word1 n ++ ltV (n / 5) ++ ltV (n / 11) ++ ltV (n / 2) else word1 n
theorem ltV_len (n : Int) : (ltV n).length = 1 := rfl
theorem str_app_len (x y : St) : (x ++ y).length = x.length + y.length := by
  show (x.cps ++ y.cps).size = _
  rw [Array.size_append]
  rfl
theorem word1_len (n : Int) : (word1 n).length ≤ 2 := by
  unfold word1
  split
  · rw [str_app_len, ltV_len, ltV_len]
    exact Nat.le_refl _
  · rw [ltV_len]; decide
theorem wordV_len (n : Int) : (wordV n).length ≤ 5 := by
  have := word1_len n
  unfold wordV
  split
  · rw [str_app_len, str_app_len, str_app_len, ltV_len, ltV_len, ltV_len]
    omega
  · omega
def R_law_word (ds : List D) (d : D) : Prop := ∃ n : Int, ds = [.int n] ∧ d = .str (wordV n)
theorem ok_law_word (F : Dfn K mg "_law_word" s_law_word ["_law_number"]) : Cal P w K mg base T 1 "_law_word" ["_law_number"] R_law_word := by
  refine cal_D F sc_law_word (fun ds d h => ?_) fun f cdv A outer s H G E ds d hr h => ?_
  · obtain ⟨n, rfl, _⟩ := h; rfl
  · obtain ⟨n, rfl, rfl⟩ := h
    have w1 := word1_len n
    have sl : ∀ a : Nat, a < 100 → a ≤ sizeLine := fun a ha => by show a ≤ 2 ^ 24; omega
    refine jss_cons (js_set 1 (d := .str lettersV) je_str sc_law_word.nd) ?_
    refine jss_cons (js_set 2 (je_ixS (je_var 1 rfl) (je_mod (by decide) (je_var 0 rfl) je_int) (sl _ (by decide)) (letters_at n)) sc_law_word.nd) ?_
    refine jss_cons (js_if (o := .nx [.da (.int n), .da (.str lettersV), .da (.str (word1 n))]) (k := decide (0 < n / 26 % 3)) (jt_gt (je_mod (by decide) (je_fdiv ⟨by decide, by decide⟩ (je_var 0 rfl) je_int) je_int) je_int) (fun z => ?_) (fun z => ?_)) ?_
    · have z := of_decide_eq_true z
      unfold word1
      rw [if_pos z]
      exact jss_one (js_set 2 (je_cat (x := ltV n) (y := ltV (n / 3)) (sl _ (by rw [ltV_len, ltV_len]; decide)) (je_var 2 rfl) (je_ixS (je_var 1 rfl) (je_mod (by decide) (je_fdiv ⟨by decide, by decide⟩ (je_var 0 rfl) je_int) je_int) (sl _ (by decide)) (letters_at _))) sc_law_word.nd)
    · have z := of_decide_eq_false z
      unfold word1
      rw [if_neg z]
      exact jss_nil
    refine jss_cons (js_if (o := .nx [.da (.int n), .da (.str lettersV), .da (.str (wordV n))]) (k := decide (n / 26 % 3 = 2)) (jt_eqI (je_mod (by decide) (je_fdiv ⟨by decide, by decide⟩ (je_var 0 rfl) je_int) je_int) je_int) (fun z => ?_) (fun z => ?_)) (jss_one (js_ret (je_var 2 rfl)))
    · have z := of_decide_eq_true z
      unfold wordV
      rw [if_pos z]
      refine jss_one (js_set 2 (je_cat (x := word1 n ++ ltV (n / 5) ++ ltV (n / 11)) (y := ltV (n / 2)) (sl _ (by rw [str_app_len, str_app_len, ltV_len, ltV_len, ltV_len]; omega)) (je_cat (x := word1 n ++ ltV (n / 5)) (y := ltV (n / 11)) (sl _ (by rw [str_app_len, ltV_len, ltV_len]; omega)) (je_cat (x := word1 n) (y := ltV (n / 5)) (sl _ (by rw [ltV_len]; omega)) (je_var 2 rfl)
        (je_ixS (je_var 1 rfl) (je_mod (by decide) (je_fdiv ⟨by decide, by decide⟩ (je_var 0 rfl) je_int) je_int) (sl _ (by decide)) (letters_at _))) (je_ixS (je_var 1 rfl) (je_mod (by decide) (je_fdiv ⟨by decide, by decide⟩ (je_var 0 rfl) je_int) je_int) (sl _ (by decide)) (letters_at _))) (je_ixS (je_var 1 rfl) (je_mod (by decide) (je_fdiv ⟨by decide, by decide⟩ (je_var 0 rfl) je_int) je_int) (sl _ (by decide)) (letters_at _))) sc_law_word.nd)
    · have z := of_decide_eq_false z
      unfold wordV
      rw [if_neg z]
      exact jss_nil

/-! ### names -/
def dqF (acc : List St) (x : St) (_ : Nat) : St := if x ∈ acc then x ++ "q" else x
def dqV (acc : List St) (x : St) : St := (List.range 3).foldl (dqF acc) x
def argsV (r : List Int) : List Int := [gi r 0, gi r 1, gi r 0 + gi r 1, gi r 1 + 7]
def namesF (r : List Int) (acc : List St) (k : Nat) : List St := acc ++ [dqV acc (wordV (gi (argsV r) (k : Int)))]
def namesT : List Int := [1, 2, 1, 3, 2, 4, 1, 2]
def namesN (r : List Int) : Nat := (gi namesT (gi r 2 % 8)).toNat
def namesV (r : List Int) : List St := (List.range (namesN r)).foldl (namesF r) []
theorem namesN_bd (r : List Int) : 1 ≤ namesN r ∧ namesN r ≤ 4 ∧ ((namesN r : Nat) : Int) = gi namesT (gi r 2 % 8) := by
  have h0 : 0 ≤ gi r 2 % 8 := Int.emod_nonneg _ (by decide)
  have h1 : gi r 2 % 8 < 8 := Int.emod_lt_of_pos _ (by decide)
  have hm := gi_mem (xs := namesT) h0 (by show _ < (8 : Int); exact h1)
  have all : ∀ x ∈ namesT, 1 ≤ x ∧ x ≤ 4 := by decide
  have := all _ hm
  unfold namesN
  omega
theorem dqF_len {acc : List St} {x : St} {k n : Nat} (h : x.length ≤ n) : (dqF acc x k).length ≤ n + 1 := by
  unfold dqF
  split
  · rw [str_app_len]
    have : (("q" : St)).length = 1 := by decide
    omega
  · omega
def R_law_names (ds : List D) (d : D) : Prop := ∃ r : List Int, r.length = 3 ∧ ds = [dRow r] ∧ d = .lst ((namesV r).map D.str)
theorem ok_law_names (Bl : Blt mg) (F : Dfn K mg "_law_names" s_law_names ["_law_row_here"]) (c1 : Cal P w K mg base T 1 "_law_word" ["_law_number"] R_law_word) : Cal P w K mg base T 2 "_law_names" ["_law_row_here"] R_law_names := by
  refine cal_D F sc_law_names (fun ds d h => ?_) fun f cdv A outer s H G E ds d hr h => ?_
  · obtain ⟨r, _, rfl, _⟩ := h; rfl
  · obtain ⟨r, hl, rfl, rfl⟩ := h
    obtain ⟨n0, n1, en⟩ := namesN_bd r
    have h0 : 0 ≤ gi r 2 % 8 := Int.emod_nonneg _ (by decide)
    have h1 : gi r 2 % 8 < 8 := Int.emod_lt_of_pos _ (by decide)
    have rx : ∀ {X : Cx} {B : Bs} {ρ : List Sl} {a b : Expr} {pos : Pos} {k : Int}, 0 ≤ k → k < 3 → PE X a (tD X.K B ρ (dRow r)) → PE X b (tD X.K B ρ (.int k)) → PlainIx b → PE X (.Subscript a b pos) (tD X.K B ρ (.int (gi r k))) := fun k0 k1 ha hb hs => je_ixL (PE_r ha) hb (atI_gi (em := D.int) k0 (by omega)) hs
    refine jss_cons (js_setL 1 (Nat.zero_le _) ja_nil sc_law_names.nd) ?_
    refine jss_cons (js_forF (xs := List.range (namesN r)) (em := fun i : Nat => D.int (i : Int)) (fun z : List St => [.da (dRow r), .ow (lstK K (z.map D.str)), .un, .un, .un]) (namesF r) (fun k z => z.length = k) [] PassesOwn.never rfl
      (ji_range (n := namesN r) (by omega) rfl Bl.range (PE_eq (je_ixL (d := .int (gi namesT (gi r 2 % 8))) (PE_r (je_ls (ds := namesT.map D.int) (ja_cons je_int (ja_cons je_int (ja_cons je_int (ja_cons je_int (ja_cons je_int (ja_cons je_int (ja_cons je_int (ja_one je_int)))))))))) (je_mod (by decide) (rx (by decide) (by decide) (je_var 0 rfl) je_int (fun _ _ => rfl)) je_int) (atI_gi (em := D.int) h0 (by show _ < (8 : Int); exact h1))) (by rw [en]))) (gok_name 2) (pg_name (i := 2) sc_law_names.nd rfl (.inl rfl)) (fun _ _ => trivial) rfl (fun k z x hx h1 => by unfold namesF; rw [List.length_append, h1]; rfl) (fun k z i hk h1 => ?_)) ?_
    · have hkn := (List.getElem?_eq_some_iff.mp hk).1
      rw [List.length_range] at hkn
      have hik : i = k := by rw [List.getElem?_range hkn] at hk; exact (Option.some.inj hk).symm
      subst hik
      refine jss_cons (js_set 3 (je_fn c1 hr (by decide) rfl ⟨gi (argsV r) (i : Int), rfl, rfl⟩ (ja_one (je_ixT (xs := (argsV r).map D.int) (je_tp (ja_cons (rx (by decide) (by decide) (je_var 0 rfl) je_int (fun _ _ => rfl)) (ja_cons (rx (by decide) (by decide) (je_var 0 rfl) je_int (fun _ _ => rfl)) (ja_cons (je_add (rx (by decide) (by decide) (je_var 0 rfl) je_int (fun _ _ => rfl)) (rx (by decide) (by decide) (je_var 0 rfl) je_int (fun _ _ => rfl)))
        (ja_one (je_add (rx (by decide) (by decide) (je_var 0 rfl) je_int (fun _ _ => rfl)) je_int)))))) (je_var 2 rfl) (atI_gi (em := D.int) (by omega) (by show (i : Int) < 4; omega))))) sc_law_names.nd) ?_
      refine jss_cons (js_forF (xs := List.range 3) (em := fun i : Nat => D.int (i : Int)) (fun x : St => [.da (dRow r), .ow (lstK K (z.map D.str)), .da (.int (i : Int)), .da (.str x), .un]) (dqF z) (fun j x => x.length ≤ 5 + j) (wordV (gi (argsV r) (i : Int))) PassesOwn.never rfl
        (ji_range (n := 3) (by decide) rfl Bl.range je_int) (gok_name 4) (pg_name (i := 4) sc_law_names.nd rfl (.inl rfl)) (fun _ _ => trivial) (wordV_len _) (fun j x y hy hx => dqF_len hx) (fun j x y hy hx => ?_)) ?_
      · have hj := (List.getElem?_eq_some_iff.mp hy).1
        rw [List.length_range] at hj
        refine jss_one (js_if (k := decide (x ∈ z)) (jt_inLS (je_var 3 rfl) (jr_own 1 rfl)) (fun hd => ?_) (fun hd => ?_))
        · unfold dqF
          rw [if_pos (of_decide_eq_true hd)]
          have hz : x.length + (("q" : St)).length ≤ sizeLine := by
            have : (("q" : St)).length = 1 := by decide
            rw [this]
            show _ ≤ 2 ^ 24
            omega
          exact jss_weak (.same (.same (.same (.same (.un .nil))))) (jss_one (js_set 3 (je_cat (x := x) (y := "q") hz (je_var 3 rfl) je_str) sc_law_names.nd))
        · unfold dqF
          rw [if_neg (of_decide_eq_false hd)]
          exact jss_weak (.same (.same (.same (.same (.un .nil))))) jss_nil
      · unfold namesF
        have e : (z ++ [dqV z (wordV (gi (argsV r) (i : Int)))]).map D.str = z.map D.str ++ [.str (dqV z (wordV (gi (argsV r) (i : Int))))] := by rw [List.map_append]; rfl
        show PSs _ _ (tS _ _ _ _ (.nx [_, .ow (lstK K ((z ++ [dqV z (wordV (gi (argsV r) (i : Int)))]).map D.str)), _, _, _]))
        rw [e]
        exact jss_weak (.same (.same (.un (.un (.un .nil))))) (jss_one (js_app 1 rfl (by rw [List.length_map, h1]; show i < 2 ^ 24; omega) (je_var 3 rfl)))
    · exact jss_freeze 1 rfl (jss_one (js_ret (je_var 1 rfl)))
end MM
end
section
set_option Elab.async false
set_option linter.all false
set_option maxRecDepth 100000
set_option maxHeartbeats 4000000
namespace MM
open PySem PySem.Spec PyProof.Rows L2 NdefX DL
variable {P : Program} {w : World} {K : PySem.W.Frag} {mg : PySem.Str → Option Value} {base : Heap} {T : List NTab} {CS CP CT : Addr}
/-! ### channels, picks -/
theorem cutD_take {α : Type} (xs : List α) (u : Int) (h0 : 0 ≤ u) : DL.cutD xs none (some u) = xs.take u.toNat := by
  unfold DL.cutD
  have e0 : HT.sIx xs.length 0 none = 0 := rfl
  have e1 : HT.sIx xs.length xs.length (some u) = min u.toNat xs.length := by
    unfold HT.sIx
    show (if u < 0 then _ else _) = _
    rw [if_neg (by omega)]
  rw [e0, e1, List.drop_zero, Nat.sub_zero]
  rcases Nat.le_total u.toNat xs.length with h | h
  · rw [Nat.min_eq_left h]
  · rw [Nat.min_eq_right h, List.take_length, List.take_of_length_le h]
theorem cutD_drop {α : Type} (xs : List α) (u : Int) (h0 : 0 ≤ u) : DL.cutD xs (some u) none = xs.drop u.toNat := by
  unfold DL.cutD
  have e0 : HT.sIx xs.length xs.length none = xs.length := rfl
  have e1 : HT.sIx xs.length 0 (some u) = min u.toNat xs.length := by
    unfold HT.sIx
    show (if u < 0 then _ else _) = _
    rw [if_neg (by omega)]
  rw [e0, e1]
  rcases Nat.le_total u.toNat xs.length with h | h
  · rw [Nat.min_eq_left h, List.take_of_length_le (by rw [List.length_drop]; omega)]
  · rw [Nat.min_eq_right h, List.drop_length, List.drop_of_length_le h, List.take_nil]
def chansT : List (St × List St) := [("out", ["x", "y"]), ("more", ["y"]), ("last", ["z", "x", "y"])]
def chansN (names : List St) : Int := 1 + (((gi names 0).length : Int) + names.length) % 3
def chansV (names : List St) : List (St × List St) := chansT.take (chansN names).toNat
def R_law_channels (ds : List D) (d : D) : Prop := ∃ names : List St, 0 < names.length ∧ (∀ x ∈ names, x.length ≤ 100) ∧ ds = [.lst (names.map D.str)] ∧ d = .tup ((chansV names).map dCh)
theorem ok_law_channels (Bl : Blt mg) (F : Dfn K mg "_law_channels" s_law_channels ["_law_names_here"]) : Cal P w K mg base T 1 "_law_channels" ["_law_names_here"] R_law_channels := by
  refine cal_D F sc_law_channels (fun ds d h => ?_) fun f cdv A outer s H G E ds d hr h => ?_
  · obtain ⟨names, _, _, rfl, _⟩ := h; rfl
  · obtain ⟨names, h0, hx, rfl, rfl⟩ := h
    have hl0 : (gi names 0).length ≤ sizeLine := by
      have := hx _ (gi_mem (xs := names) (i := 0) (by decide) (by omega))
      show _ ≤ 2 ^ 24
      omega
    refine jss_cons (js_set 1 (d := .tup (chansT.map dCh)) (je_tp (ja_cons (je_tp (ja_cons je_str (ja_one (je_tp (ja_cons je_str (ja_one je_str)))))) (ja_cons (je_tp (ja_cons je_str (ja_one (je_tp (ja_one je_str))))) (ja_one (je_tp (ja_cons je_str (ja_one (je_tp (ja_cons je_str (ja_cons je_str (ja_one je_str))))))))))) sc_law_channels.nd) ?_
    refine jss_one (js_ret (PE_eq (je_slT (u := some (chansN names)) (je_var 1 rfl) jo_none (jo_some (je_add je_int (je_mod (by decide) (je_add (je_lenS hl0 rfl Bl.len (je_ixL (PE_r (je_var 0 rfl)) je_int (atI_gi (em := D.str) (by decide) (by omega)))) (PE_eq (je_lenL rfl Bl.len (PE_r (je_var 0 rfl))) (by rw [List.length_map]))) je_int)))) ?_))
    have hn : 0 ≤ chansN names := by unfold chansN; omega
    rw [cutD_take _ _ hn]
    unfold chansV
    rw [List.map_take]

def rgI (n : Nat) : List Int := (List.range n).map fun i : Nat => (i : Int)
theorem rngD_rgI (n : Nat) : rngD n = (rgI n).map D.int := by unfold rngD rgI; rw [List.map_map]; rfl
def picksA (num : Int) (acc : List Int) (k : Nat) : Int := num / (1 + 5 * k) % acc.length
def picksF (num : Int) (acc : List Int) (k : Nat) : List Int := acc.take (picksA num acc k).toNat ++ acc.drop ((picksA num acc k).toNat + 1)
def picksV (known count : Nat) (num : Int) : List Int := (List.range (known - count)).foldl (picksF num) (rgI known)
theorem picksA_bd {num : Int} {acc : List Int} {k : Nat} (h : 0 < acc.length) : 0 ≤ picksA num acc k ∧ (picksA num acc k).toNat < acc.length := by
  unfold picksA
  have h0 : 0 ≤ num / (1 + 5 * (k : Int)) % (acc.length : Int) := Int.emod_nonneg _ (by omega)
  have h1 : num / (1 + 5 * (k : Int)) % (acc.length : Int) < acc.length := Int.emod_lt_of_pos _ (by omega)
  omega
theorem picksF_len {num : Int} {acc : List Int} {k : Nat} (h : 0 < acc.length) : (picksF num acc k).length = acc.length - 1 := by
  obtain ⟨a, b⟩ := picksA_bd (num := num) (k := k) h
  unfold picksF
  rw [List.length_append, List.length_take, List.length_drop]
  omega
def R_law_picks (ds : List D) (d : D) : Prop := ∃ (known count : Nat) (num : Int), count ≤ known ∧ known ≤ 100 ∧ ds = [.int (known : Int), .int (count : Int), .int num] ∧ d = dI (picksV known count num)
theorem ok_law_picks (Bl : Blt mg) (F : Dfn K mg "_law_picks" s_law_picks ["_law_known", "_law_count", "_law_number"]) : Cal P w K mg base T 1 "_law_picks" ["_law_known", "_law_count", "_law_number"] R_law_picks := by
  refine cal_D F sc_law_picks (fun ds d h => ?_) fun f cdv A outer s H G E ds d hr h => ?_
  · obtain ⟨known, count, num, _, _, rfl, _⟩ := h; rfl
  · obtain ⟨known, count, num, hc, hk, rfl, rfl⟩ := h
    refine jss_cons (js_set 3 (d := .lst ((rgI known).map D.int)) (PE_eq (je_listRg (n := known) (by omega) rfl rfl Bl.list rfl Bl.range (je_var 0 rfl)) (by rw [rngD_rgI])) sc_law_picks.nd) ?_
    refine jss_cons (js_forF (xs := List.range (known - count)) (em := fun i : Nat => D.int (i : Int)) (fun z : List Int => [.da (.int (known : Int)), .da (.int (count : Int)), .da (.int num), .da (.lst (z.map D.int)), .un, .un]) (picksF num) (fun k z => k ≤ known - count ∧ z.length = known - k) (rgI known) PassesOwn.never rfl
      (ji_range (n := known - count) (by omega) rfl Bl.range (PE_eq (je_sub (je_var 0 rfl) (je_var 1 rfl)) (congrArg D.int (by omega)))) (gok_name 4) (pg_name (i := 4) sc_law_picks.nd rfl (.inl rfl)) (fun _ _ => trivial) ⟨Nat.zero_le _, by unfold rgI; rw [List.length_map, List.length_range]; rfl⟩ (fun k z x hx ⟨h1, h2⟩ => ?_) (fun k z i hki ⟨h1, h2⟩ => ?_)) ?_
    · have hkn := (List.getElem?_eq_some_iff.mp hx).1
      rw [List.length_range] at hkn
      exact ⟨hkn, by rw [picksF_len (by omega)]; omega⟩
    · have hkn := (List.getElem?_eq_some_iff.mp hki).1
      rw [List.length_range] at hkn
      have hik : i = k := by rw [List.getElem?_range hkn] at hki; exact (Option.some.inj hki).symm
      subst hik
      obtain ⟨a, b⟩ := picksA_bd (num := num) (acc := z) (k := i) (by omega)
      refine jss_cons (js_set 5 (d := .int (picksA num z i)) (PE_eq (je_mod (by omega) (je_fdiv (j := 1 + 5 * (i : Int)) ⟨by omega, by omega⟩ (je_var 2 rfl) (je_add je_int (je_mul (cmull (by decide) (by decide)) je_int (je_var 4 rfl)))) (PE_eq (d' := .int (z.length : Int)) (je_lenL rfl Bl.len (PE_r (je_var 3 rfl))) (by rw [List.length_map]))) rfl) sc_law_picks.nd) ?_
      refine jss_weak (.same (.same (.same (.same (.un (.un .nil)))))) (jss_one (js_set 3 (PE_eq (je_catL (xs := (z.map D.int).take (picksA num z i).toNat) (ys := (z.map D.int).drop ((picksA num z i).toNat + 1)) ?_ (PE_r (PE_eq (je_slL (PE_r (je_var 3 rfl)) jo_none (jo_some (je_var 5 rfl))) (by rw [cutD_take _ _ a]))) (PE_r (PE_eq (je_slL (PE_r (je_var 3 rfl)) (jo_some (je_add (je_var 5 rfl) je_int)) jo_none) (by rw [cutD_drop _ _ (by omega), show (picksA num z i + 1).toNat = (picksA num z i).toNat + 1 by omega])))) ?_) sc_law_picks.nd))
      · rw [List.length_take, List.length_drop, List.length_map]
        show _ ≤ 2 ^ 24
        omega
      · unfold picksF
        rw [List.map_append, List.map_take, List.map_drop]
    · exact jss_one (js_ret (je_tupL rfl Bl.tuple (PE_r (je_var 3 rfl))))

/-! ### outputs -/
def outT : List Int := [0, 1, 1, 0, 2, 3, 1]
def outN (num : Int) : Nat := (gi outT (num % 7)).toNat
def outA (chans : List (St × List St)) (num : Int) (k : Nat) : Int := (num / 7 + k) % chans.length
def outS (chans : List (St × List St)) (num : Int) (k : Nat) : St := gi (gi chans (outA chans num k)).2 ((num / 21 + k) % (gi chans (outA chans num k)).2.length)
def outF (chans : List (St × List St)) (known num more : Int) (acc : List (Int × St × Int)) (k : Nat) : List (Int × St × Int) := acc ++ [(outA chans num k, outS chans num k, (more + k) % known)]
def outsV (chans : List (St × List St)) (known num more : Int) : List (Int × St × Int) := (List.range (outN num)).foldl (outF chans known num more) []
theorem outN_bd (num : Int) : outN num ≤ 3 ∧ ((outN num : Nat) : Int) = gi outT (num % 7) := by
  have h0 : 0 ≤ num % 7 := Int.emod_nonneg _ (by decide)
  have h1 : num % 7 < 7 := Int.emod_lt_of_pos _ (by decide)
  have hm := gi_mem (xs := outT) h0 (by show _ < (7 : Int); exact h1)
  have all : ∀ x ∈ outT, 0 ≤ x ∧ x ≤ 3 := by decide
  have := all _ hm
  unfold outN
  omega
def ChOk (chans : List (St × List St)) : Prop := 0 < chans.length ∧ ∀ c ∈ chans, 0 < c.2.length
def R_law_outputs (ds : List D) (d : D) : Prop := ∃ (chans : List (St × List St)) (known num more : Int), ChOk chans ∧ 0 < known ∧ ds = [.tup (chans.map dCh), .int known, .int num, .int more] ∧ d = .tup ((outsV chans known num more).map dO)
theorem ok_law_outputs (Bl : Blt mg) (F : Dfn K mg "_law_outputs" s_law_outputs ["_law_channels_here", "_law_known", "_law_number", "_law_more"]) : Cal P w K mg base T 1 "_law_outputs" ["_law_channels_here", "_law_known", "_law_number", "_law_more"] R_law_outputs := by
  refine cal_D F sc_law_outputs (fun ds d h => ?_) fun f cdv A outer s H G E ds d hr h => ?_
  · obtain ⟨chans, known, num, more, _, _, rfl, _⟩ := h; rfl
  · obtain ⟨chans, known, num, more, hc, hk_, rfl, rfl⟩ := h
    obtain ⟨n1, en⟩ := outN_bd num
    have h0 : 0 ≤ num % 7 := Int.emod_nonneg _ (by decide)
    have h1 : num % 7 < 7 := Int.emod_lt_of_pos _ (by decide)
    refine jss_cons (js_setL 4 (Nat.zero_le _) ja_nil sc_law_outputs.nd) ?_
    refine jss_cons (js_forF (xs := List.range (outN num)) (em := fun i : Nat => D.int (i : Int)) (fun z : List (Int × St × Int) => [.da (.tup (chans.map dCh)), .da (.int known), .da (.int num), .da (.int more), .ow (lstK K (z.map dO)), .un, .un, .un]) (outF chans known num more) (fun k z => z.length = k) [] PassesOwn.never rfl
      (ji_range (n := outN num) (by omega) rfl Bl.range (PE_eq (je_ixL (d := .int (gi outT (num % 7))) (PE_r (je_ls (ds := outT.map D.int) (ja_cons je_int (ja_cons je_int (ja_cons je_int (ja_cons je_int (ja_cons je_int (ja_cons je_int (ja_one je_int))))))))) (je_mod (by decide) (je_var 2 rfl) je_int) (atI_gi (em := D.int) h0 (by show _ < (7 : Int); exact h1))) (by rw [en]))) (gok_name 5) (pg_name (i := 5) sc_law_outputs.nd rfl (.inl rfl)) (fun _ _ => trivial) rfl (fun k z x hx h1 => by unfold outF; rw [List.length_append, h1]; rfl) (fun k z i hk h1 => ?_)) ?_
    · have hkn := (List.getElem?_eq_some_iff.mp hk).1
      rw [List.length_range] at hkn
      have hik : i = k := by rw [List.getElem?_range hkn] at hk; exact (Option.some.inj hk).symm
      subst hik
      have hcl := hc.1
      have a0 : 0 ≤ outA chans num i := Int.emod_nonneg _ (by omega)
      have a1 : outA chans num i < chans.length := Int.emod_lt_of_pos _ (by omega)
      have sg := hc.2 _ (gi_mem a0 a1)
      have s0 : 0 ≤ (num / 21 + i) % ((gi chans (outA chans num i)).2.length : Int) := Int.emod_nonneg _ (by omega)
      have s1 : (num / 21 + i) % ((gi chans (outA chans num i)).2.length : Int) < (gi chans (outA chans num i)).2.length := Int.emod_lt_of_pos _ (by omega)
      refine jss_cons (js_set 6 (d := .int (outA chans num i)) (PE_eq (je_mod (j := (chans.length : Int)) (by omega) (je_add (je_fdiv ⟨by decide, by decide⟩ (je_var 2 rfl) je_int) (je_var 5 rfl)) (PE_eq (je_lenT rfl Bl.len (PE_r (je_var 0 rfl))) (by rw [List.length_map]))) rfl) sc_law_outputs.nd) ?_
      refine jss_cons (js_set 7 (d := .tup ((gi chans (outA chans num i)).2.map D.str)) (je_ixT (xs := [.str (gi chans (outA chans num i)).1, .tup ((gi chans (outA chans num i)).2.map D.str)]) (je_ixT (je_var 0 rfl) (je_var 6 rfl) (atI_gi (em := dCh) a0 a1)) je_int rfl) sc_law_outputs.nd) ?_
      unfold outF
      have e : (z ++ [(outA chans num i, outS chans num i, (more + i) % known)]).map dO = z.map dO ++ [dO (outA chans num i, outS chans num i, (more + i) % known)] := by rw [List.map_append]; rfl
      show PSs _ _ (tS _ _ _ _ (.nx [_, _, _, _, .ow (lstK K ((z ++ [(outA chans num i, outS chans num i, (more + i) % known)]).map dO)), _, _, _]))
      rw [e]
      exact jss_weak (.same (.same (.same (.same (.same (.un (.un (.un .nil)))))))) (jss_one (js_app 4 rfl (by rw [List.length_map, h1]; show i < 2 ^ 24; omega) (je_tp (ja_cons (je_var 6 rfl) (ja_cons (je_ixT (d := .str (outS chans num i)) (je_var 7 rfl) (je_mod (j := ((gi chans (outA chans num i)).2.length : Int)) (by omega) (je_add (je_fdiv ⟨by decide, by decide⟩ (je_var 2 rfl) je_int) (je_var 5 rfl)) (PE_eq (je_lenT rfl Bl.len (PE_r (je_var 7 rfl))) (by rw [List.length_map]))) (atI_gi (em := D.str) s0 s1))
        (ja_one (je_mod hk_ (je_add (je_var 3 rfl) (je_var 5 rfl)) (je_var 1 rfl))))))))
    · exact jss_one (js_ret (je_tupL rfl Bl.tuple (jr_own 4 rfl)))
end MM
end
section
set_option Elab.async false
set_option linter.all false
set_option maxRecDepth 100000
set_option maxHeartbeats 4000000
namespace MM
open PySem PySem.Spec PyProof.Rows L2 NdefX DL
variable {P : Program} {w : World} {K : PySem.W.Frag} {mg : PySem.Str → Option Value} {base : Heap} {T : List NTab} {CS CP CT : Addr}
/-! ### rules -/
abbrev Ky := Int × Int × Int
def dKy (k : Ky) : D := .tup [.int k.1, .int k.2.1, .int k.2.2]
def knownV (states : List (St × Int)) (k : Ky) : Int := (gi states k.1).2 + 1 - k.2.2 % 2
def targetsV (states : List (St × Int)) (k : Ky) : List Int := (rgI states.length).filter fun j => decide ((gi states j).2 ≤ knownV states k)
def targetV (states : List (St × Int)) (k : Ky) (d0 : Int) : Int := gi (targetsV states k) (d0 % (targetsV states k).length)
def ruleV (k : Ky) (states : List (St × Int)) (chans : List (St × List St)) (d0 d1 : Int) : Rl :=
  ⟨k.1, k.2.1, k.2.2, targetV states k d0, picksV (knownV states k).toNat (gi states (targetV states k d0)).2.toNat (d0 / 3), outsV chans (knownV states k) d1 (d1 / 84)⟩
structure RuleOk (k : Ky) (states : List (St × Int)) : Prop where
  i0 : 0 ≤ k.1
  i1 : k.1 < states.length
  sl : states.length ≤ 100
  pos : 0 < knownV states k
  few : knownV states k ≤ 100
  st : ∀ s ∈ states, 0 ≤ s.2
  tg : 0 < (targetsV states k).length
theorem target_mem {k : Ky} {states : List (St × Int)} (O : RuleOk k states) (d0 : Int) : targetV states k d0 ∈ targetsV states k := by
  have h0 : 0 ≤ d0 % ((targetsV states k).length : Int) := Int.emod_nonneg _ (by have := O.tg; omega)
  have h1 : d0 % ((targetsV states k).length : Int) < (targetsV states k).length := Int.emod_lt_of_pos _ (by have := O.tg; omega)
  exact gi_mem h0 h1
theorem target_bd {k : Ky} {states : List (St × Int)} (O : RuleOk k states) (d0 : Int) : 0 ≤ targetV states k d0 ∧ targetV states k d0 < states.length ∧ (gi states (targetV states k d0)).2 ≤ knownV states k := by
  have h := target_mem O d0
  unfold targetsV at h
  obtain ⟨h1, h2⟩ := List.mem_filter.mp h
  unfold rgI at h1
  obtain ⟨j, hj, e⟩ := List.mem_map.mp h1
  have := List.mem_range.mp hj
  refine ⟨by omega, by omega, of_decide_eq_true h2⟩
theorem rg_bd {n m : Nat} {j : Int} (h : (rgI n)[m]? = some j) : 0 ≤ j ∧ j < n := by
  have := List.mem_of_getElem? h
  unfold rgI at this
  obtain ⟨i, hi, e⟩ := List.mem_map.mp this
  have := List.mem_range.mp hi
  omega
def R_law_rule (ds : List D) (d : D) : Prop := ∃ (k : Ky) (states : List (St × Int)) (chans : List (St × List St)) (d0 d1 : Int), RuleOk k states ∧ ChOk chans ∧ ds = [dKy k, .lst (states.map dSt), .tup (chans.map dCh), dRow [d0, d1]] ∧ d = dRl (ruleV k states chans d0 d1)
theorem ok_law_rule (Bl : Blt mg) (F : Dfn K mg "_law_rule" s_law_rule ["_law_key", "_law_states", "_law_channels_here", "_law_digits"]) (c1 : Cal P w K mg base T 1 "_law_picks" ["_law_known", "_law_count", "_law_number"] R_law_picks) (c2 : Cal P w K mg base T 1 "_law_outputs" ["_law_channels_here", "_law_known", "_law_number", "_law_more"] R_law_outputs) :
    Cal P w K mg base T 2 "_law_rule" ["_law_key", "_law_states", "_law_channels_here", "_law_digits"] R_law_rule := by
  refine cal_D F sc_law_rule (fun ds d h => ?_) fun f cdv A outer s H G E ds d hr h => ?_
  · obtain ⟨k, states, chans, d0, d1, _, _, rfl, _⟩ := h; rfl
  · obtain ⟨k, states, chans, d0, d1, O, hc, rfl, rfl⟩ := h
    obtain ⟨t0, t1, t2⟩ := target_bd O d0
    have i0 := O.i0
    have i1 := O.i1
    have pos := O.pos
    have few := O.few
    have sl := O.sl
    have tg := O.tg
    have sp := O.st _ (gi_mem t0 t1)
    have st1 : ∀ {X : Cx} {B : Bs} {ρ : List Sl} {a b : Expr} {p1 p2 p3 : Pos} {j : Int} {jj : Nat}, 0 ≤ j → j < states.length → PE X a (tD X.K B ρ (.lst (states.map dSt))) → PE X b (tD X.K B ρ (.int j)) → PlainIx b → PE X (.Subscript (.Subscript a b p1) (.Constant (.int 1) jj p2) p3) (tD X.K B ρ (.int (gi states j).2)) := fun j0 j1 ha hb hs =>
      je_ixT (xs := [.str (gi states _).1, .int (gi states _).2]) (je_ixL (PE_r ha) hb (atI_gi (em := dSt) j0 j1) hs) je_int rfl
    have dg : ∀ {X : Cx} {B : Bs} {ρ : List Sl} {a b : Expr} {p : Pos} {j : Int} {d : Int}, PE X a (tD X.K B ρ (dRow [d0, d1])) → PE X b (tD X.K B ρ (.int j)) → L2.atI [D.int d0, D.int d1] j = some (.int d) → PlainIx b → PE X (.Subscript a b p) (tD X.K B ρ (.int d)) := fun ha hb h hs => je_ixL (PE_r ha) hb h hs
    refine jss_cons (js_asg (d := dKy k) (gok_tup [4, 5, 6]) ⟨_, rfl, rfl⟩ (je_var 0 rfl) (pgT3 4 5 6 rfl sc_law_rule.nd)) ?_
    refine jss_cons (js_set 7 (d := .int (knownV states k)) (PE_eq (je_sub (je_add (st1 i0 i1 (je_var 1 rfl) (je_var 4 rfl) (fun _ _ => rfl)) je_int) (je_mod (by decide) (je_var 6 rfl) je_int)) rfl) sc_law_rule.nd) ?_
    refine jss_cons (js_setLc (xs := rgI states.length) (em := D.int) (own := [("_law_k", 11)]) 8 (fun j => decide ((gi states j).2 ≤ knownV states k)) D.int rfl sc_law_rule.nd (by rw [← rngD_rgI]; exact ji_range (n := states.length) (by omega) rfl Bl.range (PE_eq (je_lenL rfl Bl.len (PE_r (je_var 1 rfl))) (by rw [List.length_map]))) (blkOk_by (N := N_law_rule) (sc := defScope s_law_rule) (by decide +kernel)) (gok_name 11) (by simp) (fun _ _ => trivial) (by unfold rgI; rw [List.length_map, List.length_range]; show _ ≤ 2 ^ 24; omega)
      (fun s H C cl fp => pg_name (i := 11) sc_law_rule.nd rfl (.inl rfl)) (fun n j hj s H C cl fp => jts_one (jt_le (st1 (rg_bd hj).1 (rg_bd hj).2 (je_var 1 rfl) (je_var 11 rfl) (fun _ _ => rfl)) (je_var 7 rfl))) (fun n j hj hp s H C cl fp => je_var 11 rfl) (sw_true rfl rfl rfl (by decide +kernel))) ?_
    refine jss_cons (js_set 9 (d := .int (targetV states k d0)) (je_ixL (PE_r (je_var 8 rfl)) (je_mod (j := ((targetsV states k).length : Int)) (by omega) (dg (je_var 3 rfl) je_int rfl (fun _ _ => rfl)) (PE_eq (je_lenL rfl Bl.len (PE_r (je_var 8 rfl))) (by rw [List.length_map]; rfl))) (atI_gi (em := D.int) (Int.emod_nonneg _ (by omega)) (Int.emod_lt_of_pos _ (by omega)))) sc_law_rule.nd) ?_
    refine jss_cons (js_set 10 (d := dI (picksV (knownV states k).toNat (gi states (targetV states k d0)).2.toNat (d0 / 3))) (je_fn c1 hr (by decide) rfl ⟨(knownV states k).toNat, (gi states (targetV states k d0)).2.toNat, d0 / 3, by omega, by omega, by rw [Int.toNat_of_nonneg (by omega), Int.toNat_of_nonneg sp], rfl⟩ (ja_cons (je_var 7 rfl) (ja_cons (st1 t0 t1 (je_var 1 rfl) (je_var 9 rfl) (fun _ _ => rfl)) (ja_one (je_fdiv ⟨by decide, by decide⟩ (dg (je_var 3 rfl) je_int rfl (fun _ _ => rfl)) je_int))))) sc_law_rule.nd) ?_
    exact jss_one (js_ret (je_tp (ja_cons (je_var 4 rfl) (ja_cons (je_var 5 rfl) (ja_cons (je_var 6 rfl) (ja_cons (je_var 9 rfl) (ja_cons (je_var 10 rfl) (ja_one (je_fn c2 hr (by decide) rfl ⟨chans, knownV states k, d1, d1 / 84, hc, pos, rfl, rfl⟩ (ja_cons (je_var 2 rfl) (ja_cons (je_var 7 rfl) (ja_cons (dg (je_var 3 rfl) je_int rfl (fun _ _ => rfl)) (ja_one (je_fdiv ⟨by decide, by decide⟩ (dg (je_var 3 rfl) je_int rfl (fun _ _ => rfl)) je_int))))))))))))))

/-! ### keys -/
def keyRow (states : List (St × Int)) (s nm : Nat) : List Ky := (rgI (2 * (gi states (s : Int)).2 + 1).toNat).map fun p => ((s : Int), (nm : Int), p)
def keysG (states : List (St × Int)) (s : Nat) (acc : List Ky) (nm : Nat) : List Ky := acc ++ keyRow states s nm
def keysF (n : Nat) (states : List (St × Int)) (acc : List Ky) (s : Nat) : List Ky := (List.range n).foldl (keysG states s) acc
def keysV (n : Nat) (states : List (St × Int)) : List Ky := (List.range states.length).foldl (keysF n states) []
theorem keyRow_len {states : List (St × Int)} {s nm : Nat} (h : (gi states (s : Int)).2 ≤ 10) : (keyRow states s nm).length ≤ 21 := by
  unfold keyRow rgI
  rw [List.length_map, List.length_map, List.length_range]
  omega
def R_law_keys (ds : List D) (d : D) : Prop := ∃ (names : List St) (states : List (St × Int)), names.length ≤ 100 ∧ states.length ≤ 100 ∧ (∀ s ∈ states, 0 ≤ s.2 ∧ s.2 ≤ 10) ∧ ds = [.lst (names.map D.str), .lst (states.map dSt)] ∧ d = .lst ((keysV names.length states).map dKy)
theorem ok_law_keys (Bl : Blt mg) (F : Dfn K mg "_law_keys" s_law_keys ["_law_names_here", "_law_states"]) : Cal P w K mg base T 1 "_law_keys" ["_law_names_here", "_law_states"] R_law_keys := by
  refine cal_D F sc_law_keys (fun ds d h => ?_) fun f cdv A outer s H G E ds d hr h => ?_
  · obtain ⟨names, states, _, _, _, rfl, _⟩ := h; rfl
  · obtain ⟨names, states, hn, hs, hb, rfl, rfl⟩ := h
    have st1 : ∀ {X : Cx} {B : Bs} {ρ : List Sl} {a b : Expr} {p1 p2 p3 : Pos} {j : Int} {jj : Nat}, 0 ≤ j → j < states.length → PE X a (tD X.K B ρ (.lst (states.map dSt))) → PE X b (tD X.K B ρ (.int j)) → PlainIx b → PE X (.Subscript (.Subscript a b p1) (.Constant (.int 1) jj p2) p3) (tD X.K B ρ (.int (gi states j).2)) := fun j0 j1 ha hb hs =>
      je_ixT (xs := [.str (gi states _).1, .int (gi states _).2]) (je_ixL (PE_r ha) hb (atI_gi (em := dSt) j0 j1) hs) je_int rfl
    refine jss_cons (js_set 2 (je_ls ja_nil) sc_law_keys.nd) ?_
    refine jss_cons (js_forF (xs := List.range states.length) (em := fun i : Nat => D.int (i : Int)) (fun z : List Ky => [.da (.lst (names.map D.str)), .da (.lst (states.map dSt)), .da (.lst (z.map dKy)), .un, .un, .un]) (keysF names.length states) (fun k z => z.length ≤ k * 2100) [] PassesOwn.never rfl
      (ji_range (n := states.length) (by omega) rfl Bl.range (PE_eq (je_lenL rfl Bl.len (PE_r (je_var 1 rfl))) (by rw [List.length_map]))) (gok_name 3) (pg_name (i := 3) sc_law_keys.nd rfl (.inr rfl)) (fun _ _ => trivial) (Nat.zero_le _) (fun k z x hx h1 => ?_) (fun k z i hk h1 => ?_)) ?_
    · have hkn := (List.getElem?_eq_some_iff.mp hx).1
      rw [List.length_range] at hkn
      have hik : x = k := by rw [List.getElem?_range hkn] at hx; exact (Option.some.inj hx).symm
      subst hik
      have hb2 := hb _ (gi_mem (xs := states) (i := (x : Int)) (by omega) (by omega))
      have all : ∀ (l : List Nat) (z : List Ky), (l.foldl (keysG states x) z).length ≤ z.length + l.length * 21 := by
        intro l
        induction l with
        | nil => intro z; exact Nat.le_add_right _ _
        | cons a l ih =>
          intro z
          rw [List.foldl_cons]
          refine Nat.le_trans (ih _) ?_
          unfold keysG
          have := keyRow_len (states := states) (s := x) (nm := a) hb2.2
          rw [List.length_append, List.length_cons]
          omega
      have := all (List.range names.length) z
      rw [List.length_range] at this
      unfold keysF
      omega
    · have hkn := (List.getElem?_eq_some_iff.mp hk).1
      rw [List.length_range] at hkn
      have hik : i = k := by rw [List.getElem?_range hkn] at hk; exact (Option.some.inj hk).symm
      subst hik
      have hb2 := hb _ (gi_mem (xs := states) (i := (i : Int)) (by omega) (by omega))
      refine jss_weak (ρ1 := [.da (.lst (names.map D.str)), .da (.lst (states.map dSt)), .da (.lst ((keysF names.length states z i).map dKy)), .da (.int (i : Int)), .un, .un]) (.same (.same (.same (.un (.un (.un .nil)))))) (jss_one ?_)
      refine js_forF (xs := List.range names.length) (em := fun i : Nat => D.int (i : Int)) (fun y : List Ky => [.da (.lst (names.map D.str)), .da (.lst (states.map dSt)), .da (.lst (y.map dKy)), .da (.int (i : Int)), .un, .un]) (keysG states i) (fun m y => y.length ≤ z.length + m * 21) z PassesOwn.never rfl
        (ji_range (n := names.length) (by omega) rfl Bl.range (PE_eq (je_lenL rfl Bl.len (PE_r (je_var 0 rfl))) (by rw [List.length_map]))) (gok_name 4) (pg_name (i := 4) sc_law_keys.nd rfl (.inr rfl)) (fun _ _ => trivial) (by omega) (fun m y x hx hy => ?_) (fun m y x hx hy => ?_)
      · have := keyRow_len (states := states) (s := i) (nm := x) hb2.2
        unfold keysG
        rw [List.length_append]
        omega
      · have hm := (List.getElem?_eq_some_iff.mp hx).1
        rw [List.length_range] at hm
        have kl := keyRow_len (states := states) (s := i) (nm := x) hb2.2
        unfold keysG
        rw [List.map_append]
        refine jss_weak (.same (.same (.same (.same (.un (.un .nil)))))) (jss_one (js_set 2 (je_catL (xs := y.map dKy) (ys := (keyRow states i x).map dKy) (by rw [List.length_map, List.length_map]; show _ ≤ 2 ^ 24; omega) (PE_r (je_var 2 rfl)) (PE_r (PE_eq (je_lc0 (xs := rgI (2 * (gi states (i : Int)).2 + 1).toNat) (em := D.int) (own := [("_law_position_here", 5)]) (fun p => dKy ((i : Int), (x : Int), p)) rfl sc_law_keys.nd
          (by rw [← rngD_rgI]; exact ji_range (n := (2 * (gi states (i : Int)).2 + 1).toNat) (by omega) rfl Bl.range (PE_eq (je_add (je_mul (cmull (by decide) (by decide)) je_int (st1 (by omega) (by omega) (je_var 1 rfl) (je_var 3 rfl) (fun _ _ => rfl))) je_int) (congrArg D.int (by omega)))) (blkOk_by (N := N_law_keys) (sc := defScope s_law_keys) (by decide +kernel)) (gok_name 5) (by simp) (fun _ _ => trivial) (by unfold rgI; rw [List.length_map, List.length_range]; show _ ≤ 2 ^ 24; omega)
          (fun s H C cl fp => pg_name (i := 5) sc_law_keys.nd rfl (.inl rfl)) (fun n j hj s H C cl fp => je_tp (ja_cons (je_var 3 rfl) (ja_cons (je_var 4 rfl) (ja_one (je_var 5 rfl)))))) (by unfold keyRow; rw [List.map_map]; rfl)))) sc_law_keys.nd))
    · exact jss_one (js_ret (je_var 2 rfl))
end MM
end
section
set_option Elab.async false
set_option linter.all false
set_option maxRecDepth 100000
set_option maxHeartbeats 4000000
namespace MM
open PySem PySem.Spec PyProof.Rows L2 NdefX DL
variable {P : Program} {w : World} {K : PySem.W.Frag} {mg : PySem.Str → Option Value} {base : Heap} {T : List NTab} {CS CP CT : Addr}
/-! ### plans: plain facts -/
theorem rowV_len (c : Int) (n : Nat) : (rowV c n).length = n := by
  have all : ∀ (l : List Nat) (z : List Int × Int × Int), (l.foldl (rowF c) z).1.length = z.1.length + l.length := by
    intro l
    induction l with
    | nil => intro z; rfl
    | cons a l ih =>
      intro z
      rw [List.foldl_cons, ih, rowF_len, List.length_cons]
      omega
  unfold rowV
  rw [all, List.length_range]
  exact Nat.zero_add n
theorem rowV_bd (c : Int) (n : Nat) : ∀ x ∈ rowV c n, 0 ≤ x ∧ x < 840 := by
  have all : ∀ (l : List Nat) (z : List Int × Int × Int), (∀ x ∈ z.1, 0 ≤ x ∧ x < 840) → ∀ x ∈ (l.foldl (rowF c) z).1, 0 ≤ x ∧ x < 840 := by
    intro l
    induction l with
    | nil => intro z hz; exact hz
    | cons a l ih =>
      intro z hz
      rw [List.foldl_cons]
      refine ih _ fun x hx => ?_
      unfold rowF at hx
      split at hx
      · rcases List.mem_append.mp hx with h | h
        · exact hz x h
        · rw [List.mem_singleton] at h; subst h; omega
      · rcases List.mem_append.mp hx with h | h
        · exact hz x h
        · rw [List.mem_singleton] at h; subst h; omega
  exact all _ _ (fun x hx => absurd hx (by simp))
def KyOk (n : Nat) (states : List (St × Int)) (k : Ky) : Prop := (0 ≤ k.1 ∧ k.1 < states.length) ∧ (0 ≤ k.2.1 ∧ k.2.1 < n) ∧ 0 ≤ k.2.2 ∧ k.2.2 < 2 * (gi states k.1).2 + 1
theorem keyRow_ok {states : List (St × Int)} {n s nm : Nat} (hs : s < states.length) (hn : nm < n) : ∀ k ∈ keyRow states s nm, KyOk n states k := by
  intro k hk
  unfold keyRow rgI at hk
  rw [List.map_map] at hk
  obtain ⟨p, hp, rfl⟩ := List.mem_map.mp hk
  have := List.mem_range.mp hp
  refine ⟨⟨?_, ?_⟩, ⟨?_, ?_⟩, ?_, ?_⟩ <;> simp only [Function.comp] <;> omega
theorem keysV_ok {n : Nat} {states : List (St × Int)} : ∀ k ∈ keysV n states, KyOk n states k := by
  have inner : ∀ (s : Nat), s < states.length → ∀ (l : List Nat) (z : List Ky), (∀ m ∈ l, m < n) → (∀ k ∈ z, KyOk n states k) → ∀ k ∈ l.foldl (keysG states s) z, KyOk n states k := by
    intro s hs l
    induction l with
    | nil => intro z _ hz; exact hz
    | cons a l ih =>
      intro z hl hz
      rw [List.foldl_cons]
      refine ih _ (fun m hm => hl m (List.mem_cons_of_mem _ hm)) fun k hk => ?_
      unfold keysG at hk
      rcases List.mem_append.mp hk with h | h
      · exact hz k h
      · exact keyRow_ok hs (hl a List.mem_cons_self) k h
  have outer : ∀ (l : List Nat) (z : List Ky), (∀ s ∈ l, s < states.length) → (∀ k ∈ z, KyOk n states k) → ∀ k ∈ l.foldl (keysF n states) z, KyOk n states k := by
    intro l
    induction l with
    | nil => intro z _ hz; exact hz
    | cons a l ih =>
      intro z hl hz
      rw [List.foldl_cons]
      refine ih _ (fun m hm => hl m (List.mem_cons_of_mem _ hm)) ?_
      exact inner a (hl a List.mem_cons_self) _ _ (fun m hm => List.mem_range.mp hm) hz
  exact outer _ _ (fun s hs => List.mem_range.mp hs) (fun k hk => absurd hk (by simp))

def keyW (s : St × Int) : Nat := (2 * s.2 + 1).toNat
theorem keysV_len {n : Nat} {states : List (St × Int)} : (keysV n states).length = n * (states.map keyW).sum := by
  have inner : ∀ (s : Nat) (l : List Nat) (z : List Ky), (l.foldl (keysG states s) z).length = z.length + l.length * keyW (gi states (s : Int)) := by
    intro s l
    induction l with
    | nil => intro z; simp
    | cons a l ih =>
      intro z
      rw [List.foldl_cons, ih, List.length_cons]
      unfold keysG keyRow rgI
      rw [List.length_append, List.length_map, List.length_map, List.length_range, Nat.succ_mul]
      show z.length + keyW (gi states (s : Int)) + _ = _
      omega
  have outer : ∀ (k : Nat), k ≤ states.length → ((List.range k).foldl (keysF n states) []).length = n * ((states.take k).map keyW).sum := by
    intro k
    induction k with
    | zero => intro _; simp
    | succ k ih =>
      intro hk
      have hk' : k < states.length := hk
      rw [List.range_succ, List.foldl_append]
      have e1 : ∀ z, (keysF n states z k).length = z.length + n * keyW (gi states (k : Int)) := fun z => by
        unfold keysF
        rw [inner, List.length_range]
      show (keysF n states _ k).length = _
      rw [e1, ih (Nat.le_of_lt hk'), List.take_succ, List.getElem?_eq_getElem hk', List.map_append, List.sum_append, Nat.mul_add]
      have : gi states (k : Int) = states[k] := gi_nat (List.getElem?_eq_getElem hk')
      rw [this]
      simp
  have := outer states.length (Nat.le_refl _)
  rw [List.take_length] at this
  exact this
/-- what a plan's states are -/
def statesV (r : List Int) (n : Nat) : List (St × Int) := [(("p" : St), (0 : Int)), ("q1", gi r 0 % 3), ("r", gi r 1 % 3)].take (1 + gi r 2 % gi [3, 2, 2, 2] ((n : Int) - 1)).toNat
theorem statesV_ok (r : List Int) {n : Nat} (h1 : 1 ≤ n) (h4 : n ≤ 4) : (1 ≤ (statesV r n).length ∧ (statesV r n).length ≤ 3) ∧ (∀ s ∈ statesV r n, 0 ≤ s.2 ∧ s.2 ≤ 2) ∧ gi (statesV r n) 0 = (("p" : St), (0 : Int)) ∧ (keysV n (statesV r n)).length ≤ 24 ∧ 0 ≤ gi r 2 % gi [3, 2, 2, 2] ((n : Int) - 1) ∧ 0 < gi [(3 : Int), 2, 2, 2] ((n : Int) - 1) := by
  have a0 : 0 ≤ gi r 0 % 3 := Int.emod_nonneg _ (by decide)
  have a1 : gi r 0 % 3 < 3 := Int.emod_lt_of_pos _ (by decide)
  have b0 : 0 ≤ gi r 1 % 3 := Int.emod_nonneg _ (by decide)
  have b1 : gi r 1 % 3 < 3 := Int.emod_lt_of_pos _ (by decide)
  have key : ∀ c : Nat, 1 ≤ c → ((n = 1 ∧ c ≤ 3) ∨ c ≤ 2) → let st := [(("p" : St), (0 : Int)), ("q1", gi r 0 % 3), ("r", gi r 1 % 3)].take c; (1 ≤ st.length ∧ st.length ≤ 3) ∧ (∀ s ∈ st, 0 ≤ s.2 ∧ s.2 ≤ 2) ∧ gi st 0 = (("p" : St), (0 : Int)) ∧ (keysV n st).length ≤ 24 := by
    intro c c1 hc
    have w0 : keyW (("p" : St), (0 : Int)) = 1 := rfl
    have w1 : keyW (("q1" : St), gi r 0 % 3) ≤ 5 := by unfold keyW; simp only []; omega
    have w2 : keyW (("r" : St), gi r 1 % 3) ≤ 5 := by unfold keyW; simp only []; omega
    obtain rfl | rfl | ⟨rfl, rfl⟩ : c = 1 ∨ c = 2 ∨ (c = 3 ∧ n = 1) := by omega
    · refine ⟨⟨by simp, by simp⟩, fun s hs => ?_, rfl, ?_⟩
      · simp at hs; subst hs; simp
      · rw [keysV_len]
        simp only [List.take, List.map, List.sum_cons, List.sum_nil, w0]
        omega
    · refine ⟨⟨by simp, by simp⟩, fun s hs => ?_, rfl, ?_⟩
      · simp at hs; rcases hs with rfl | rfl <;> simp <;> omega
      · rw [keysV_len]
        simp only [List.take, List.map, List.sum_cons, List.sum_nil, w0]
        have : n * (1 + (keyW (("q1" : St), gi r 0 % 3) + 0)) ≤ 4 * 6 := Nat.mul_le_mul h4 (by omega)
        omega
    · refine ⟨⟨by simp, by simp⟩, fun s hs => ?_, rfl, ?_⟩
      · simp at hs; rcases hs with rfl | rfl | rfl <;> simp <;> omega
      · rw [keysV_len]
        simp only [List.take, List.map, List.sum_cons, List.sum_nil, w0]
        omega
  have cases4 : n = 1 ∨ n = 2 ∨ n = 3 ∨ n = 4 := by omega
  have hd : (n = 1 ∧ gi [(3 : Int), 2, 2, 2] ((n : Int) - 1) = 3) ∨ gi [(3 : Int), 2, 2, 2] ((n : Int) - 1) = 2 := by
    rcases cases4 with rfl | rfl | rfl | rfl
    · exact .inl ⟨rfl, rfl⟩
    · exact .inr rfl
    · exact .inr rfl
    · exact .inr rfl
  have hp : 0 < gi [(3 : Int), 2, 2, 2] ((n : Int) - 1) := by omega
  have q0 : 0 ≤ gi r 2 % gi [(3 : Int), 2, 2, 2] ((n : Int) - 1) := Int.emod_nonneg _ (by omega)
  have q1 : gi r 2 % gi [(3 : Int), 2, 2, 2] ((n : Int) - 1) < gi [(3 : Int), 2, 2, 2] ((n : Int) - 1) := Int.emod_lt_of_pos _ hp
  obtain ⟨k1, k2, k3, k4⟩ := key (1 + gi r 2 % gi [3, 2, 2, 2] ((n : Int) - 1)).toNat (by omega) (by omega)
  exact ⟨k1, k2, k3, k4, q0, hp⟩

/-! ### law_plan -/
def planK (c : Int) (names : List St) : List Ky := keysV names.length (statesV (rowV c 52) names.length)
def planR (c : Int) (names : List St) (k : Int) : Rl := ruleV (gi (planK c names) k) (statesV (rowV c 52) names.length) (chansV names) (gi (rowV c 52) (4 + 2 * k)) (gi (rowV c 52) (4 + 2 * k + 1))
def planV (c : Int) (names : List St) : Pg := ⟨names, chansV names, statesV (rowV c 52) names.length, (rgI (planK c names).length).map (planR c names)⟩
structure NmOk (names : List St) : Prop where
  h1 : 1 ≤ names.length
  h4 : names.length ≤ 4
  ln : ∀ x ∈ names, x.length ≤ 100
theorem chansV_ok {names : List St} : ChOk (chansV names) := by
  have h0 : 0 ≤ (((gi names 0).length : Int) + names.length) % 3 := Int.emod_nonneg _ (by decide)
  have h1 : (((gi names 0).length : Int) + names.length) % 3 < 3 := Int.emod_lt_of_pos _ (by decide)
  have all : ∀ n : Nat, 1 ≤ n → n ≤ 3 → ChOk (chansT.take n) := by
    intro n a b
    have : n = 1 ∨ n = 2 ∨ n = 3 := by omega
    rcases this with rfl | rfl | rfl <;> exact ⟨by decide, by decide⟩
  unfold chansV chansN
  exact all _ (by omega) (by omega)
theorem ruleOk_of {n : Nat} {states : List (St × Int)} {k : Ky} (h1 : 1 ≤ states.length) (h2 : states.length ≤ 3) (hb : ∀ s ∈ states, 0 ≤ s.2 ∧ s.2 ≤ 2) (hp : gi states 0 = (("p" : St), (0 : Int))) (hk : KyOk n states k) : RuleOk k states := by
  obtain ⟨⟨a0, a1⟩, _, c0, c1⟩ := hk
  have hs := hb _ (gi_mem a0 a1)
  have pos : 0 < knownV states k := by unfold knownV; omega
  refine ⟨a0, a1, by omega, pos, by unfold knownV; omega, fun s hs => (hb s hs).1, ?_⟩
  have hm : (0 : Int) ∈ targetsV states k := by
    unfold targetsV
    refine List.mem_filter.mpr ⟨?_, ?_⟩
    · unfold rgI
      exact List.mem_map.mpr ⟨0, List.mem_range.mpr (by omega), rfl⟩
    · rw [hp]
      exact decide_eq_true (by show (0 : Int) ≤ _; omega)
  exact List.length_pos_of_mem hm
theorem cutD_two {xs : List Int} {a : Int} (h0 : 0 ≤ a) (h1 : a + 2 ≤ xs.length) : DL.cutD (xs.map D.int) (some a) (some (a + 2)) = [gi xs a, gi xs (a + 1)].map D.int := by
  obtain ⟨k, rfl⟩ : ∃ k : Nat, a = k := ⟨a.toNat, by omega⟩
  unfold DL.cutD
  have e0 : HT.sIx (xs.map D.int).length 0 (some (k : Int)) = k := by
    unfold HT.sIx
    show (if (k : Int) < 0 then _ else _) = _
    rw [if_neg (by omega), List.length_map, Int.toNat_natCast, Nat.min_eq_left (by omega)]
  have e1 : HT.sIx (xs.map D.int).length (xs.map D.int).length (some ((k : Int) + 2)) = k + 2 := by
    unfold HT.sIx
    show (if (k : Int) + 2 < 0 then _ else _) = _
    rw [if_neg (by omega), List.length_map, show ((k : Int) + 2).toNat = k + 2 by omega, Nat.min_eq_left (by omega)]
  rw [e0, e1, show k + 2 - k = 2 by omega, ← List.map_drop, ← List.map_take]
  congr 1
  have k0 : k < xs.length := by omega
  have k1 : k + 1 < xs.length := by omega
  rw [gi_nat (List.getElem?_eq_getElem k0), show (k : Int) + 1 = ((k + 1 : Nat) : Int) by omega, gi_nat (List.getElem?_eq_getElem k1), List.drop_eq_getElem_cons k0, List.drop_eq_getElem_cons k1]
  rfl

def R_law_plan (ds : List D) (d : D) : Prop := ∃ (c : Int) (names : List St), NmOk names ∧ ds = [.int c, .lst (names.map D.str)] ∧ d = dPl (planV c names)
theorem ok_law_plan (Bl : Blt mg) (F : Dfn K mg "_law_plan" s_law_plan ["_law_cell_here", "_law_names_here"]) (c1 : Cal P w K mg base T 1 "_law_row" ["_law_cell_here", "_law_count"] R_law_row) (c2 : Cal P w K mg base T 1 "_law_keys" ["_law_names_here", "_law_states"] R_law_keys) (c3 : Cal P w K mg base T 1 "_law_channels" ["_law_names_here"] R_law_channels)
    (c4 : Cal P w K mg base T 2 "_law_rule" ["_law_key", "_law_states", "_law_channels_here", "_law_digits"] R_law_rule) : Cal P w K mg base T 3 "_law_plan" ["_law_cell_here", "_law_names_here"] R_law_plan := by
  refine cal_D F sc_law_plan (fun ds d h => ?_) fun f cdv A outer s H G E ds d hr h => ?_
  · obtain ⟨c, names, _, rfl, _⟩ := h; rfl
  · obtain ⟨c, names, O, rfl, rfl⟩ := h
    obtain ⟨⟨s1, s3⟩, sb, sp, kl, q0, qp⟩ := statesV_ok (rowV c 52) O.h1 O.h4
    have h1 := O.h1
    have h4 := O.h4
    have rl := rowV_len c 52
    have rx : ∀ {X : Cx} {B : Bs} {ρ : List Sl} {a b : Expr} {pos : Pos} {k : Int}, 0 ≤ k → k < 52 → PE X a (tD X.K B ρ (dRow (rowV c 52))) → PE X b (tD X.K B ρ (.int k)) → PlainIx b → PE X (.Subscript a b pos) (tD X.K B ρ (.int (gi (rowV c 52) k))) := fun k0 k1 ha hb hs => je_ixL (PE_r ha) hb (atI_gi (em := D.int) k0 (by omega)) hs
    refine jss_cons (js_set 2 (je_fn c1 hr (by decide) rfl ⟨c, 52, by decide, rfl, rfl⟩ (ja_cons (je_var 0 rfl) (ja_one je_int))) sc_law_plan.nd) ?_
    refine jss_cons (js_set 3 (d := .int (1 + gi (rowV c 52) 2 % gi [3, 2, 2, 2] ((names.length : Int) - 1))) (je_add je_int (je_mod qp (rx (by decide) (by decide) (je_var 2 rfl) je_int (fun _ _ => rfl)) (je_ixL (PE_r (je_ls (ds := [(3 : Int), 2, 2, 2].map D.int) (ja_cons je_int (ja_cons je_int (ja_cons je_int (ja_one je_int)))))) (je_sub (PE_eq (je_lenL rfl Bl.len (PE_r (je_var 1 rfl))) (by rw [List.length_map])) je_int) (atI_gi (em := D.int) (by omega) (by show _ < (4 : Int); omega))))) sc_law_plan.nd) ?_
    refine jss_cons (js_set 4 (d := .lst ((statesV (rowV c 52) names.length).map dSt)) (PE_eq (je_slL (PE_r (je_ls (ds := [(("p" : St), (0 : Int)), ("q1", gi (rowV c 52) 0 % 3), ("r", gi (rowV c 52) 1 % 3)].map dSt) (ja_cons (je_tp (ja_cons je_str (ja_one je_int))) (ja_cons (je_tp (ja_cons je_str (ja_one (je_mod (by decide) (rx (by decide) (by decide) (je_var 2 rfl) je_int (fun _ _ => rfl)) je_int)))) (ja_one (je_tp (ja_cons je_str (ja_one (je_mod (by decide) (rx (by decide) (by decide) (je_var 2 rfl) je_int (fun _ _ => rfl)) je_int))))))))) jo_none (jo_some (je_var 3 rfl))) (by
      rw [cutD_take _ _ (by omega), ← List.map_take]; rfl)) sc_law_plan.nd) ?_
    refine jss_cons (js_set 5 (d := .lst ((planK c names).map dKy)) (je_fn c2 hr (by decide) rfl ⟨names, statesV (rowV c 52) names.length, by omega, by omega, fun s hs => ⟨(sb s hs).1, by have := (sb s hs).2; omega⟩, rfl, rfl⟩ (ja_cons (je_var 1 rfl) (ja_one (je_var 4 rfl)))) sc_law_plan.nd) ?_
    refine jss_cons (js_set 6 (d := .tup ((chansV names).map dCh)) (je_fn c3 hr (by decide) rfl ⟨names, by omega, O.ln, rfl, rfl⟩ (ja_one (je_var 1 rfl))) sc_law_plan.nd) ?_
    have kl : (planK c names).length ≤ 24 := kl
    refine jss_cons (js_setLc0 (xs := rgI (planK c names).length) (em := D.int) (own := [("_law_k", 8)]) 7 (fun k => dRl (planR c names k)) rfl sc_law_plan.nd (by rw [← rngD_rgI]; exact ji_range (n := (planK c names).length) (by omega) rfl Bl.range (PE_eq (je_lenL rfl Bl.len (PE_r (je_var 5 rfl))) (by rw [List.length_map]))) (blkOk_by (N := N_law_plan) (sc := defScope s_law_plan) (by decide +kernel)) (gok_name 8) (by simp) (fun _ _ => trivial) (by unfold rgI; rw [List.length_map, List.length_range]; show _ ≤ 2 ^ 24; omega)
      (fun s H C cl fp => pg_name (i := 8) sc_law_plan.nd rfl (.inl rfl)) (fun n j hj s H C cl fp => ?_) (sw_true rfl rfl rfl (by decide +kernel))) ?_
    · obtain ⟨j0, j1⟩ := rg_bd hj
      have hk := keysV_ok (n := names.length) (states := statesV (rowV c 52) names.length) _ (gi_mem (xs := planK c names) j0 j1)
      refine je_fn c4 hr (by decide) rfl ⟨gi (planK c names) j, statesV (rowV c 52) names.length, chansV names, gi (rowV c 52) (4 + 2 * j), gi (rowV c 52) (4 + 2 * j + 1), ruleOk_of s1 s3 sb sp hk, chansV_ok, rfl, rfl⟩ (ja_cons (je_ixL (PE_r (je_var 5 rfl)) (je_var 8 rfl) (atI_gi (em := dKy) j0 j1)) (ja_cons (je_var 4 rfl) (ja_cons (je_var 6 rfl) (ja_one (PE_eq (je_slL (l := some (4 + 2 * j)) (u := some (4 + 2 * j + 2)) (PE_r (je_var 2 rfl)) (jo_some (je_add je_int (je_mul (cmull (by decide) (by decide)) je_int (je_var 8 rfl)))) (jo_some (PE_eq (je_add je_int (je_mul (cmull (by decide) (by decide)) je_int (je_var 8 rfl))) (congrArg D.int (by omega))))) (by
        rw [cutD_two (by omega) (by omega)]; rfl))))))
    · refine jss_one (js_ret (PE_eq (je_ls (ja_cons (je_tupL rfl Bl.tuple (PE_r (je_var 1 rfl))) (ja_cons (je_var 6 rfl) (ja_cons (je_tupL rfl Bl.tuple (PE_r (je_var 4 rfl))) (ja_one (je_tupL rfl Bl.tuple (PE_r (je_var 7 rfl)))))))) ?_))
      unfold dPl planV
      simp only [List.map_map]
      rfl
end MM
end
section
set_option Elab.async false
set_option linter.all false
set_option maxRecDepth 100000
set_option maxHeartbeats 4000000
namespace MM
open PySem PySem.Spec PyProof.Rows L2 NdefX DL
variable {P : Program} {w : World} {K : PySem.W.Frag} {mg : PySem.Str → Option Value} {base : Heap} {T : List NTab} {CS CP CT : Addr}
section
variable {X : Cx} {pos p1 p2 p3 p4 p5 p6 : Pos} {k : Nat}
theorem pgT6 (i1 i2 i3 i4 i5 i6 : Nat) {x1 x2 x3 x4 x5 x6 : St} (hc : X.calm = true) (hN : X.N.Nodup) (h1 : X.N[i1]? = some x1 := by rfl) (h2 : X.N[i2]? = some x2 := by rfl) (h3 : X.N[i3]? = some x3 := by rfl) (h4 : X.N[i4]? = some x4 := by rfl) (h5 : X.N[i5]? = some x5 := by rfl) (h6 : X.N[i6]? = some x6 := by rfl)
    (l1 : Loc X.env.scope x1 := by first | exact Or.inl rfl | exact Or.inr rfl) (l2 : Loc X.env.scope x2 := by first | exact Or.inl rfl | exact Or.inr rfl) (l3 : Loc X.env.scope x3 := by first | exact Or.inl rfl | exact Or.inr rfl) (l4 : Loc X.env.scope x4 := by first | exact Or.inl rfl | exact Or.inr rfl) (l5 : Loc X.env.scope x5 := by first | exact Or.inl rfl | exact Or.inr rfl) (l6 : Loc X.env.scope x6 := by first | exact Or.inl rfl | exact Or.inr rfl)
    (f1 : X.fn x1 = true ∨ X.env.scope.names.lookup x1 = some .local := by first | exact .inl rfl | exact .inr rfl) (f2 : X.fn x2 = true ∨ X.env.scope.names.lookup x2 = some .local := by first | exact .inl rfl | exact .inr rfl) (f3 : X.fn x3 = true ∨ X.env.scope.names.lookup x3 = some .local := by first | exact .inl rfl | exact .inr rfl) (f4 : X.fn x4 = true ∨ X.env.scope.names.lookup x4 = some .local := by first | exact .inl rfl | exact .inr rfl) (f5 : X.fn x5 = true ∨ X.env.scope.names.lookup x5 = some .local := by first | exact .inl rfl | exact .inr rfl) (f6 : X.fn x6 = true ∨ X.env.scope.names.lookup x6 = some .local := by first | exact .inl rfl | exact .inr rfl)
    (hs1 : (assignEach [.Name x1 p1, .Name x2 p2, .Name x3 p3, .Name x4 p4, .Name x5 p5, .Name x6 p6] X.env).map (·.2) = assign (.Name x1 p1) X.env :: (assignEach [.Name x2 p2, .Name x3 p3, .Name x4 p4, .Name x5 p5, .Name x6 p6] X.env).map (·.2) := by rfl)
    (hs2 : (assignEach [.Name x2 p2, .Name x3 p3, .Name x4 p4, .Name x5 p5, .Name x6 p6] X.env).map (·.2) = assign (.Name x2 p2) X.env :: (assignEach [.Name x3 p3, .Name x4 p4, .Name x5 p5, .Name x6 p6] X.env).map (·.2) := by rfl)
    (hs3 : (assignEach [.Name x3 p3, .Name x4 p4, .Name x5 p5, .Name x6 p6] X.env).map (·.2) = assign (.Name x3 p3) X.env :: (assignEach [.Name x4 p4, .Name x5 p5, .Name x6 p6] X.env).map (·.2) := by rfl)
    (hs4 : (assignEach [.Name x4 p4, .Name x5 p5, .Name x6 p6] X.env).map (·.2) = assign (.Name x4 p4) X.env :: (assignEach [.Name x5 p5, .Name x6 p6] X.env).map (·.2) := by rfl)
    (hs5 : (assignEach [.Name x5 p5, .Name x6 p6] X.env).map (·.2) = assign (.Name x5 p5) X.env :: (assignEach [.Name x6 p6] X.env).map (·.2) := by rfl)
    (hs6 : (assignEach [.Name x6 p6] X.env).map (·.2) = assign (.Name x6 p6) X.env :: (assignEach [] X.env).map (·.2) := by rfl)
    (hn : (assignEach [.Name x1 p1, .Name x2 p2, .Name x3 p3, .Name x4 p4, .Name x5 p5, .Name x6 p6] X.env).length = 6 := by rfl) (hst : (assignEach [.Name x1 p1, .Name x2 p2, .Name x3 p3, .Name x4 p4, .Name x5 p5, .Name x6 p6] X.env).findIdx? (·.1) = none := by rfl) :
    PG X (.Tuple [.Name x1 p1, .Name x2 p2, .Name x3 p3, .Name x4 p4, .Name x5 p5, .Name x6 p6] k pos) (gTup X.K [i1, i2, i3, i4, i5, i6].length (gNs [i1, i2, i3, i4, i5, i6])) :=
  pg_tup hc (pgs_cons (pg_name hN h1 l1 f1) (pgs_cons (pg_name hN h2 l2 f2) (pgs_cons (pg_name hN h3 l3 f3) (pgs_cons (pg_name hN h4 l4 f4) (pgs_cons (pg_name hN h5 l5 f5) (pgs_cons (pg_name hN h6 l6 f6) pgs_nil hs6) hs5) hs4) hs3) hs2) hs1) hn hst
end
section
variable {X : Cx} {B : Bs} {ρ : List Sl} {E : XK} {e : Expr} {ds : List D} {pos : Pos}
/-- x = list(a tuple), a list of one's own -/
theorem js_setLT (i : Nat) {x : PySem.Str} {p p1 p2 : Pos} (hg : Gl X "list") (hm : X.mg "list" = none) (h : PE X e (tR X.K B ρ (.tup ds))) (hN : X.N.Nodup) (hi : X.N[i]? = some x := by rfl) (hx : Loc X.env.scope x := by first | exact Or.inl rfl | exact Or.inr rfl)
    (hs : swapsWith (.Call (.Name "list" p1) [e] [] p2) (some (.Name x p)) pos.line X.env = pure false := by rfl) (hf : X.fn x = true ∨ X.env.scope.names.lookup x = some .local := by first | exact .inl rfl | exact .inr rfl)
    (hst : starEach [e] X.env = (false, eval e X.env) :: starEach [] X.env := by rfl) :
    PS X (.Assign [.Name x p] (.Call (.Name "list" p1) [e] [] p2) pos) (tS X.K B E ρ (.nx (ρ.set i (.ow (lstK X.K ds))))) :=
  ps_mono (ps_set hN hi hx (pe_callTy call_list_of hg hm boot_list (ja_r1 h hst) (by decide) (by decide) hst rfl) hs hf) fun D σ H ⟨G, en, q⟩ => ⟨G, en, fun v G1 H1 g1 r => by
    obtain ⟨a, vs, rfl, hp, r1⟩ := r.tup g1.base
    exact ⟨a, vs, rfl, .inr (SqT.of hp), fun l hl => q _ G1 _ g1.le ((en.up g1).setO hl ⟨vs, rfl, r1⟩)⟩⟩
end
theorem ixN_nat' {n : Nat} {i : Int} (h0 : 0 ≤ i) (h1 : i < n) : ixN n i = some i.toNat := by
  unfold ixN
  rw [if_pos h0, if_pos h1]
/-! ### law_side -/
def ruKy (r : Rl) : Ky := (r.st, r.nm, r.ps)
def sideR (p : Pg) (acc : List Rl) (num : Int) : Rl := { gi acc (num % acc.length) with out := outsV p.chans (knownV p.states (ruKy (gi acc (num % acc.length)))) (num / 7) (num / 3) }
def sideF (p : Pg) (acc : List Rl) (num : Int) : List Rl := acc.set (num % acc.length).toNat (sideR p acc num)
def sideV (p : Pg) (c : Int) : Pg := ⟨p.names, p.chans, p.states, (rowV c (1 + c % 2).toNat).foldl (sideF p) p.rules⟩
def SdR (p : Pg) (r : Rl) : Prop := (0 ≤ r.st ∧ r.st < p.states.length) ∧ 0 < knownV p.states (ruKy r)
structure SideOk (p : Pg) : Prop where
  h0 : 0 < p.rules.length
  hl : p.rules.length ≤ 1000
  ch : ChOk p.chans
  ru : ∀ r ∈ p.rules, SdR p r
theorem at_bd {α : Type} {xs : List α} (num : Int) (h : 0 < xs.length) : 0 ≤ num % (xs.length : Int) ∧ num % (xs.length : Int) < xs.length := ⟨Int.emod_nonneg _ (by omega), Int.emod_lt_of_pos _ (by omega)⟩
theorem sideF_ok {p : Pg} {acc : List Rl} (num : Int) (h0 : 0 < acc.length) (h : ∀ r ∈ acc, SdR p r) : ∀ r ∈ sideF p acc num, SdR p r := by
  intro r hr
  unfold sideF at hr
  rcases List.mem_or_eq_of_mem_set hr with h1 | rfl
  · exact h r h1
  · obtain ⟨a, b⟩ := at_bd (xs := acc) num h0
    exact h (gi acc (num % (acc.length : Int))) (gi_mem a b)
theorem sideF_len {p : Pg} {acc : List Rl} (num : Int) : (sideF p acc num).length = acc.length := by unfold sideF; rw [List.length_set]
def R_law_side (ds : List D) (d : D) : Prop := ∃ (p : Pg) (c : Int), SideOk p ∧ ds = [dPl p, .int c] ∧ d = dPl (sideV p c)
theorem ok_law_side (Bl : Blt mg) (F : Dfn K mg "_law_side" s_law_side ["_law_plan_here", "_law_cell_here"]) (c1 : Cal P w K mg base T 1 "_law_row" ["_law_cell_here", "_law_count"] R_law_row) (c2 : Cal P w K mg base T 1 "_law_outputs" ["_law_channels_here", "_law_known", "_law_number", "_law_more"] R_law_outputs) :
    Cal P w K mg base T 2 "_law_side" ["_law_plan_here", "_law_cell_here"] R_law_side := by
  refine cal_D F sc_law_side (fun ds d h => ?_) fun f cdv A outer s H G E ds d hr h => ?_
  · obtain ⟨p, c, _, rfl, _⟩ := h; rfl
  · obtain ⟨p, c, O, rfl, rfl⟩ := h
    have o0 := O.h0
    have ol := O.hl
    have c0 : 0 ≤ c % 2 := Int.emod_nonneg _ (by decide)
    have c2' : c % 2 < 2 := Int.emod_lt_of_pos _ (by decide)
    have rl := rowV_len c (1 + c % 2).toNat
    refine jss_cons (js_setLT 2 (ds := p.rules.map dRl) rfl Bl.list (PE_r (je_ixL (PE_r (je_var 0 rfl)) je_int (atI_nat (k := 3) rfl))) sc_law_side.nd) ?_
    refine jss_cons (js_forF (xs := rowV c (1 + c % 2).toNat) (em := D.int) (fun z : List Rl => [.da (dPl p), .da (.int c), .ow (lstK K (z.map dRl)), .un, .un, .un, .un, .un, .un, .un, .un, .un]) (sideF p) (fun k z => z.length = p.rules.length ∧ ∀ r ∈ z, SdR p r) p.rules PassesOwn.never rfl
      (ji_list (je_fn c1 hr (by decide) rfl ⟨c, (1 + c % 2).toNat, by omega, rfl, rfl⟩ (ja_cons (je_var 1 rfl) (ja_one (PE_eq (je_add je_int (je_mod (by decide) (je_int1 rfl Bl.int (je_var 1 rfl)) je_int)) (congrArg D.int (by omega))))))) (gok_name 3) (pg_name (i := 3) sc_law_side.nd rfl (.inl rfl)) (fun _ _ => trivial) ⟨rfl, O.ru⟩ (fun k z x hx ⟨h1, h2⟩ => ⟨by rw [sideF_len, h1], sideF_ok x (by omega) h2⟩) (fun k z num hk ⟨h1, h2⟩ => ?_)) ?_
    · obtain ⟨a0, a1⟩ := at_bd (xs := z) num (by omega)
      obtain ⟨⟨s0, s1⟩, kp⟩ := h2 _ (gi_mem a0 a1)
      refine jss_cons (js_set 4 (d := .int (num % (z.length : Int))) (je_mod (by omega) (je_var 3 rfl) (PE_eq (je_lenL rfl Bl.len (jr_own 2 rfl)) (by rw [List.length_map]))) sc_law_side.nd) ?_
      refine jss_cons (js_asg (d := dRl (gi z (num % (z.length : Int)))) (gok_tup [5, 6, 7, 8, 9, 10]) ⟨_, rfl, rfl⟩ (je_ixL (jr_own 2 rfl) (je_var 4 rfl) (atI_gi (em := dRl) a0 a1)) (pgT6 5 6 7 8 9 10 rfl sc_law_side.nd)) ?_
      refine jss_cons (js_set 11 (d := .int (knownV p.states (ruKy (gi z (num % (z.length : Int)))))) (PE_eq (je_sub (je_add (je_ixT (xs := [.str (gi p.states (gi z (num % (z.length : Int))).st).1, .int (gi p.states (gi z (num % (z.length : Int))).st).2]) (je_ixT (xs := p.states.map dSt) (je_ixL (PE_r (je_var 0 rfl)) je_int (atI_nat (k := 2) rfl)) (je_var 5 rfl) (atI_gi (em := dSt) s0 s1)) je_int rfl) je_int) (je_mod (by decide) (je_var 7 rfl) je_int)) rfl) sc_law_side.nd) ?_
      have e : (sideF p z num).map dRl = (z.map dRl).set (num % (z.length : Int)).toNat (dRl (sideR p z num)) := by unfold sideF; rw [List.map_set]
      show PSs _ _ (tS _ _ _ _ (.nx [_, _, .ow (lstK K ((sideF p z num).map dRl)), _, _, _, _, _, _, _, _, _]))
      rw [e]
      refine jss_weak (.same (.same (.same (.un (.un (.un (.un (.un (.un (.un (.un (.un .nil)))))))))))) (jss_one (js_setIx 2 (j := num % (z.length : Int)) rfl ?_ ?_ (je_var 4 rfl)))
      · rw [List.length_map]
        exact ixN_nat' a0 a1
      · exact je_tp (ja_cons (je_var 5 rfl) (ja_cons (je_var 6 rfl) (ja_cons (je_var 7 rfl) (ja_cons (je_var 8 rfl) (ja_cons (je_var 9 rfl) (ja_one (je_fn c2 hr (by decide) rfl ⟨p.chans, knownV p.states (ruKy (gi z (num % (z.length : Int)))), num / 7, num / 3, O.ch, kp, rfl, rfl⟩ (ja_cons (je_ixL (PE_r (je_var 0 rfl)) je_int (atI_nat (k := 1) rfl)) (ja_cons (je_var 11 rfl) (ja_cons (je_fdiv ⟨by decide, by decide⟩ (je_var 3 rfl) je_int) (ja_one (je_fdiv ⟨by decide, by decide⟩ (je_var 3 rfl) je_int))))))))))))
    · exact jss_one (js_ret (je_ls (ja_cons (je_ixL (PE_r (je_var 0 rfl)) je_int (atI_nat (k := 0) rfl)) (ja_cons (je_ixL (PE_r (je_var 0 rfl)) je_int (atI_nat (k := 1) rfl)) (ja_cons (je_ixL (PE_r (je_var 0 rfl)) je_int (atI_nat (k := 2) rfl)) (ja_one (je_tupL rfl Bl.tuple (jr_own 2 rfl))))))))

/-! ### law_position -/
def posL (num : Int) (ks : List Int) : Int := 2 * ((ks.filter fun v => decide (v < num)).length : Int) + ((ks.filter fun v => decide (v = num)).length : Int)
def R_law_position (ds : List D) (d : D) : Prop := ∃ (num : Int) (ks : List Int), ks.length < 1000 ∧ ds = [.int num, dI ks] ∧ d = .int (posL num ks)
theorem ok_law_position (Bl : Blt mg) (F : Dfn K mg "_law_position" s_law_position ["_law_number", "_law_kept"]) : Cal P w K mg base T 1 "_law_position" ["_law_number", "_law_kept"] R_law_position := by
  refine cal_D F sc_law_position (fun ds d h => ?_) fun f cdv A outer s H G E ds d hr h => ?_
  · obtain ⟨num, ks, _, rfl, _⟩ := h; rfl
  · obtain ⟨num, ks, hl, rfl, rfl⟩ := h
    refine jss_cons (js_set 2 (d := .int ((ks.filter fun v => decide (v < num)).length : Int)) (PE_eq (je_lenL rfl Bl.len (PE_r (je_lc (xs := ks) (em := D.int) (own := [("_law_value", 3)]) (fun v => decide (v < num)) D.int rfl sc_law_position.nd (ji_tup (je_var 1 rfl)) (blkOk_by (N := N_law_position) (sc := defScope s_law_position) (by decide +kernel)) (gok_name 3) (by simp) (fun _ _ => trivial) (sz24 hl)
      (fun s H C cl fp => pg_name (i := 3) sc_law_position.nd rfl (.inl rfl)) (fun n j hj s H C cl fp => jts_one (jt_lt (je_var 3 rfl) (je_var 0 rfl))) (fun n j hj hp s H C cl fp => je_var 3 rfl)))) (by rw [List.length_map])) sc_law_position.nd) ?_
    exact jss_one (js_ret (je_add (je_mul (cmull (by decide) (by decide)) je_int (je_var 2 rfl)) (PE_eq (je_lenL rfl Bl.len (PE_r (je_lc (xs := ks) (em := D.int) (own := [("_law_value", 3)]) (fun v => decide (v = num)) D.int rfl sc_law_position.nd (ji_tup (je_var 1 rfl)) (blkOk_by (N := N_law_position) (sc := defScope s_law_position) (by decide +kernel)) (gok_name 3) (by simp) (fun _ _ => trivial) (sz24 hl)
      (fun s H C cl fp => pg_name (i := 3) sc_law_position.nd rfl (.inl rfl)) (fun n j hj s H C cl fp => jts_one (jt_eqI (je_var 3 rfl) (je_var 0 rfl))) (fun n j hj hp s H C cl fp => je_var 3 rfl)))) (by rw [List.length_map]))))

/-! ### law_step -/
def knL (c : Conf) (m : Msg) : List Int := srt (c.2 ++ [m.2].take (1 - posL m.2 c.2 % 2).toNat)
def hitL (p : Pg) (c : Conf) (m : Msg) (r : Rl) : Bool := decide (r.st = c.1) && (decide (gi p.names r.nm = m.1) && decide (r.ps = posL m.2 c.2))
def stepL (p : Pg) (c : Conf) (m : Msg) (r : Rl) : Conf × List O3 := ((r.tg, r.pk.map (gi (knL c m))), stepO p (knL c m) r)
structure StepLOk (p : Pg) (c : Conf) (m : Msg) (n : Nat) : Prop where
  kl : c.2.length < 1000
  hn : n < p.rules.length
  hit : hitL p c m (gi p.rules (n : Int)) = true
  no : ∀ k : Nat, k < n → hitL p c m (gi p.rules (k : Int)) = false
  nm : ∀ r ∈ p.rules, 0 ≤ r.nm ∧ r.nm < p.names.length
  pl : (gi p.rules (n : Int)).pk.length < 1000
  ol : (gi p.rules (n : Int)).out.length < 1000
  pk : ∀ i ∈ (gi p.rules (n : Int)).pk, 0 ≤ i ∧ i < (knL c m).length
  out : ∀ o ∈ (gi p.rules (n : Int)).out, (0 ≤ o.1 ∧ o.1 < p.chans.length) ∧ 0 ≤ o.2.2 ∧ o.2.2 < (knL c m).length
def dResL (r : Conf × List O3) : D := .lst [dCf r.1, dOu r.2]
def R_law_step (ds : List D) (d : D) : Prop := ∃ (p : Pg) (c : Conf) (m : Msg) (n : Nat), StepLOk p c m n ∧ ds = [dPl p, dCf c, dMs m] ∧ d = dResL (stepL p c m (gi p.rules (n : Int)))
theorem ok_law_step (Bl : Blt mg) (F : Dfn K mg "_law_step" s_law_step ["_law_plan_here", "_law_place", "_law_message"]) (c1 : Cal P w K mg base T 1 "_law_position" ["_law_number", "_law_kept"] R_law_position) :
    Cal P w K mg base T 2 "_law_step" ["_law_plan_here", "_law_place", "_law_message"] R_law_step := by
  refine cal_D F sc_law_step (fun ds d h => ?_) fun f cdv A outer s H G E ds d hr h => ?_
  · obtain ⟨p, c, m, n, _, rfl, _⟩ := h; rfl
  · obtain ⟨p, c, m, n, S, rfl, rfl⟩ := h
    obtain ⟨st, ks⟩ := c
    obtain ⟨nm, nu⟩ := m
    have kl : ks.length < 1000 := S.kl
    have hn := S.hn
    have hmod : 0 ≤ posL nu ks % 2 ∧ posL nu ks % 2 < 2 := ⟨Int.emod_nonneg _ (by decide), Int.emod_lt_of_pos _ (by decide)⟩
    have pl : ∀ {X : Cx} {B : Bs} {ρ : List Sl} {a : Expr}, PE X a (tD X.K B ρ (dCf (st, ks))) → ∀ {p1 p2 : Pos} {jj : Nat}, PE X (.Subscript a (.Constant (.int 1) jj p1) p2) (tD X.K B ρ (dI ks)) := fun h => je_ixT (xs := [.int st, dI ks]) h je_int rfl
    have ms1 : ∀ {X : Cx} {B : Bs} {ρ : List Sl} {a : Expr}, PE X a (tD X.K B ρ (dMs (nm, nu))) → ∀ {p1 p2 : Pos} {jj : Nat}, PE X (.Subscript a (.Constant (.int 1) jj p1) p2) (tD X.K B ρ (.int nu)) := fun h => je_ixT (xs := [.str nm, .int nu]) h je_int rfl
    refine jss_cons (js_set 3 (d := .int (posL nu ks)) (je_fn c1 hr (by decide) rfl ⟨nu, ks, kl, rfl, rfl⟩ (ja_cons (ms1 (je_var 2 rfl)) (ja_one (pl (je_var 1 rfl))))) sc_law_step.nd) ?_
    refine jss_cons (js_set 4 (d := .lst ((knL (st, ks) (nm, nu)).map D.int)) (je_sortedI rfl Bl.sorted (PE_r (PE_eq (je_catL (xs := ks.map D.int) (ys := ([nu].take (1 - posL nu ks % 2).toNat).map D.int) ?_ (PE_r (je_listT rfl Bl.list (PE_r (pl (je_var 1 rfl))))) (PE_r (PE_eq (je_slL (u := some (1 - posL nu ks % 2)) (PE_r (je_ls (ja_one (ms1 (je_var 2 rfl))))) jo_none (jo_some (je_sub je_int (je_mod (by decide) (je_var 3 rfl) je_int)))) ?_))) ?_))) sc_law_step.nd) ?_
    · rw [List.length_map, List.length_map, List.length_take]
      show ks.length + min _ 1 ≤ 2 ^ 24
      omega
    · rw [cutD_take _ _ (by omega), List.map_take]
      rfl
    · rw [← List.map_append]
    have gn : ∀ (k : Nat) (d : D), (p.rules.map dRl)[k]? = some d → d = dRl (gi p.rules (k : Int)) ∧ gi p.rules (k : Int) ∈ p.rules := fun k d hd => by
      rw [List.getElem?_map] at hd
      cases e : p.rules[k]? with
      | none => rw [e] at hd; cases hd
      | some r =>
        rw [e] at hd
        rw [gi_nat e]
        exact ⟨(Option.some.inj hd).symm, List.mem_of_getElem? e⟩
    refine jss_out rfl (js_forx (items := p.rules.map dRl) (o := .rt (dResL (stepL p (st, ks) (nm, nu) (gi p.rules (n : Int))))) (fun _ => [.da (dPl p), .da (dCf (st, ks)), .da (dMs (nm, nu)), .da (.int (posL nu ks)), .da (.lst ((knL (st, ks) (nm, nu)).map D.int)), .un, .un, .un, .un]) n PassesOwn.never rfl
      (ji_tup (je_ixL (PE_r (je_var 0 rfl)) je_int (atI_nat (k := 3) rfl))) (gok_name 5) (pg_name (i := 5) sc_law_step.nd rfl (.inl rfl)) (fun _ _ => trivial) rfl (by rw [List.length_map]; exact hn) (fun k d hd hk => ?_) (fun d hd => ?_))
    · obtain ⟨rfl, hm⟩ := gn k d hd
      obtain ⟨n0, n1⟩ := S.nm _ hm
      have hf := S.no k hk
      generalize gi p.rules (k : Int) = r at hf n0 n1 hm ⊢
      refine jss_weak (ρ1 := [.da (dPl p), .da (dCf (st, ks)), .da (dMs (nm, nu)), .da (.int (posL nu ks)), .da (.lst ((knL (st, ks) (nm, nu)).map D.int)), .da (dRl r), .un, .un, .un]) (.same (.same (.same (.same (.same (.un (.un (.un (.un .nil))))))))) (jss_one (js_if (k := hitL p (st, ks) (nm, nu) r) ?_ (fun h => by rw [hf] at h; cases h) (fun _ => jss_nil)))
      exact (jw_and (jt_eqI (je_ixT (je_var 5 rfl) je_int rfl) (je_ixT (xs := [.int st, dI ks]) (je_var 1 rfl) je_int rfl)) fun _ => jw_and (jt_eqS (je_ixT (je_ixL (PE_r (je_var 0 rfl)) je_int (atI_nat (k := 0) rfl)) (je_ixT (d := .int r.nm) (je_var 5 rfl) je_int rfl) (atI_gi (em := D.str) n0 n1)) (je_ixT (xs := [.str nm, .int nu]) (je_var 2 rfl) je_int rfl)) fun _ => jw_and1 (jt_eqI (je_ixT (je_var 5 rfl) je_int rfl) (je_var 3 rfl))).pt
    · obtain ⟨rfl, hm⟩ := gn n d hd
      obtain ⟨n0, n1⟩ := S.nm _ hm
      have hf := S.hit
      have So := S.out
      have Sp := S.pk
      have ol := S.ol
      have pl' := S.pl
      generalize gi p.rules (n : Int) = r at hf n0 n1 hm So Sp ol pl' ⊢
      refine jss_ifr (k := hitL p (st, ks) (nm, nu) r) rfl ?_ (fun _ => ?_) (fun h => by rw [hf] at h; cases h)
      · exact (jw_and (jt_eqI (je_ixT (je_var 5 rfl) je_int rfl) (je_ixT (xs := [.int st, dI ks]) (je_var 1 rfl) je_int rfl)) fun _ => jw_and (jt_eqS (je_ixT (je_ixL (PE_r (je_var 0 rfl)) je_int (atI_nat (k := 0) rfl)) (je_ixT (d := .int r.nm) (je_var 5 rfl) je_int rfl) (atI_gi (em := D.str) n0 n1)) (je_ixT (xs := [.str nm, .int nu]) (je_var 2 rfl) je_int rfl)) fun _ => jw_and1 (jt_eqI (je_ixT (je_var 5 rfl) je_int rfl) (je_var 3 rfl))).pt
      refine jss_cons (js_set 6 (d := dOu (stepO p (knL (st, ks) (nm, nu)) r)) (je_tupL rfl Bl.tuple (PE_r (PE_eq (je_lc0 (xs := r.out) (em := dO) (own := [("_law_triple", 7)]) (fun o => dO3 ((gi p.chans o.1).1, o.2.1, gi (knL (st, ks) (nm, nu)) o.2.2)) rfl sc_law_step.nd (ji_tup (je_ixT (je_var 5 rfl) je_int rfl)) (blkOk_by (N := N_law_step) (sc := defScope s_law_step) (by decide +kernel)) (gok_name 7) (by simp) (fun _ _ => trivial) (sz24 ol)
        (fun s H C cl fp => pg_name (i := 7) sc_law_step.nd rfl (.inl rfl)) (fun k o hk s H C cl fp => ?_)) ?_))) sc_law_step.nd) ?_
      · obtain ⟨⟨a0, a1⟩, b0, b1⟩ := So o (List.mem_of_getElem? hk)
        exact je_tp (ja_cons (je_ixT (d := .str (gi p.chans o.1).1) (xs := [.str (gi p.chans o.1).1, .tup ((gi p.chans o.1).2.map D.str)]) (je_ixT (je_ixL (PE_r (je_var 0 rfl)) je_int (atI_nat (k := 1) rfl)) (je_ixT (d := .int o.1) (xs := [.int o.1, .str o.2.1, .int o.2.2]) (je_var 7 rfl) je_int rfl) (atI_gi (em := dCh) a0 a1)) je_int rfl) (ja_cons (je_ixT (d := .str o.2.1) (xs := [.int o.1, .str o.2.1, .int o.2.2]) (je_var 7 rfl) je_int rfl) (ja_one (je_ixL (PE_r (je_var 4 rfl)) (je_ixT (d := .int o.2.2) (xs := [.int o.1, .str o.2.1, .int o.2.2]) (je_var 7 rfl) je_int rfl) (atI_gi (em := D.int) b0 b1)))))
      · unfold stepO
        rw [List.map_map]
        rfl
      refine jss_one (js_ret (PE_eq (je_ls (ja_cons (je_tp (ja_cons (je_ixT (d := .int r.tg) (je_var 5 rfl) je_int rfl) (ja_one (je_tupL rfl Bl.tuple (PE_r (je_lc0 (xs := r.pk) (em := D.int) (own := [("_law_k", 8)]) (fun i => D.int (gi (knL (st, ks) (nm, nu)) i)) rfl sc_law_step.nd (ji_tup (je_ixT (je_var 5 rfl) je_int rfl)) (blkOk_by (N := N_law_step) (sc := defScope s_law_step) (by decide +kernel)) (gok_name 8) (by simp) (fun _ _ => trivial) (sz24 pl')
        (fun s H C cl fp => pg_name (i := 8) sc_law_step.nd rfl (.inl rfl)) (fun k i hk s H C cl fp => je_ixL (PE_r (je_var 4 rfl)) (je_var 8 rfl) (atI_gi (em := D.int) (Sp i (List.mem_of_getElem? hk)).1 (Sp i (List.mem_of_getElem? hk)).2)))))))) (ja_one (je_var 6 rfl)))) ?_))
      unfold stepL dResL dCf dI
      rw [List.map_map]
      rfl
end MM
end
section
set_option Elab.async false
set_option linter.all false
set_option maxRecDepth 100000
set_option maxHeartbeats 4000000
namespace MM
open PySem PySem.Spec PyProof.Rows L2 NdefX DL
variable {P : Program} {w : World} {K : PySem.W.Frag} {mg : PySem.Str → Option Value} {base : Heap} {T : List NTab} {CS CP CT : Addr}
/-! ### plain helpers -/
theorem foldI {S α : Type} {f : S → α → S} {xs : List α} (I : Nat → S → Prop) {z0 : S} (h0 : I 0 z0) (hs : ∀ (k : Nat) (z : S) (x : α), xs[k]? = some x → I k z → I (k + 1) (f z x)) : I xs.length (xs.foldl f z0) := by
  have inv : ∀ k, k ≤ xs.length → I k ((xs.take k).foldl f z0) := by
    intro k
    induction k with
    | zero => intro _; exact h0
    | succ k ih =>
      intro hk
      have hx : xs[k]? = some xs[k] := List.getElem?_eq_getElem hk
      rw [foldl_take hx]
      exact hs k _ _ hx (ih (Nat.le_of_lt hk))
  have := inv xs.length (Nat.le_refl _)
  rwa [List.take_length] at this
theorem rng_at {n k i : Nat} (h : (List.range n)[k]? = some i) : i = k ∧ k < n := by
  have hkn := (List.getElem?_eq_some_iff.mp h).1
  rw [List.length_range] at hkn
  rw [List.getElem?_range hkn] at h
  exact ⟨(Option.some.inj h).symm, hkn⟩
theorem atI_giE {α : Type} [Inhabited α] {xs : List α} {em : α → D} {i : Int} {x : α} (h0 : 0 ≤ i) (h1 : i < xs.length) (h : gi xs i = x) : L2.atI (xs.map em) i = some (em x) := by rw [← h]; exact atI_gi h0 h1
/-- isinstance(entry, tuple) -/
theorem je_isT {X : Cx} {B : Bs} {ρ : List Sl} {a : Expr} {pos p p2 : Pos} {en : Ent} (hg : Gl X "isinstance") (hm : X.mg "isinstance" = none) (hg2 : Gl X "tuple") (hm2 : X.mg "tuple" = none) (ha : PE X a (tD X.K B ρ (dLe en)))
    (hs : starEach [a, .Name "tuple" p2] X.env = (false, eval a X.env) :: starEach [.Name "tuple" p2] X.env := by rfl) (hs2 : starEach [.Name "tuple" p2] X.env = (false, eval (.Name "tuple" p2) X.env) :: starEach [] X.env := by rfl) (hpl : (backTo pos (starEach [.Name "tuple" p2] X.env)).any (·.1) = false := by rfl) :
    PE X (.Call (.Name "isinstance" p) [a, .Name "tuple" p2] [] pos) (tD X.K B ρ (.bl (!en.isPg))) := by
  cases en with
  | pg q => exact je_isi (k := false) (d := dPl q) hg hm ha (pe_tyT hg2 hm2 boot_tuple) (.ty "tuple") trivial (kit_ty (by decide +kernel)) hs hs2 hpl
  | mg a b c => exact je_isi (k := true) (d := .tup [.int a, .int b, .int c]) hg hm ha (pe_tyT hg2 hm2 boot_tuple) (.ty "tuple") trivial (kit_ty (by decide +kernel)) hs hs2 hpl
/-! ### law_same_face -/
def sameV (p b : Pg) : Pg := ⟨b.names, b.chans, p.states, p.rules⟩
def R_law_same_face (ds : List D) (d : D) : Prop := ∃ p b : Pg, ds = [dPl p, dPl b] ∧ d = dPl (sameV p b)
theorem ok_law_same_face (F : Dfn K mg "_law_same_face" s_law_same_face ["_law_plan_here", "_law_base"]) : Cal P w K mg base T 1 "_law_same_face" ["_law_plan_here", "_law_base"] R_law_same_face := by
  refine cal_D F sc_law_same_face (fun ds d h => ?_) fun f cdv A outer s H G E ds d hr h => ?_
  · obtain ⟨p, b, rfl, _⟩ := h; rfl
  · obtain ⟨p, b, rfl, rfl⟩ := h
    exact jss_one (js_ret (je_ls (ja_cons (je_ixL (PE_r (je_var 1 rfl)) je_int (atI_nat (k := 0) rfl)) (ja_cons (je_ixL (PE_r (je_var 1 rfl)) je_int (atI_nat (k := 1) rfl)) (ja_cons (je_ixL (PE_r (je_var 0 rfl)) je_int (atI_nat (k := 2) rfl)) (ja_one (je_ixL (PE_r (je_var 0 rfl)) je_int (atI_nat (k := 3) rfl))))))))
/-! ### law_merged -/
theorem ok_law_merged (F : Dfn K mg "_law_merged" s_law_merged ["_law_base", "_law_one", "_law_other"]) : Cal P w K mg base T 1 "_law_merged" ["_law_base", "_law_one", "_law_other"] R_merged := by
  refine cal_D F sc_law_merged (fun ds d h => ?_) fun f cdv A outer s H G E ds d hr h => ?_
  · obtain ⟨b, o, t, _, _, _, rfl, _⟩ := h; rfl
  · obtain ⟨b, o, t, hb, ho, ht, rfl, rfl⟩ := h
    unfold mergedV
    refine jss_ifr (k := b.isNone || (o.isNone || t.isNone)) rfl (PT_eq (PW.pt (jw_or (jt_isN (PE_r (je_var 0 rfl))) fun _ => jw_or (jt_isN (PE_r (je_var 1 rfl))) fun _ => jw_or1 (jt_isN (PE_r (je_var 2 rfl))))) (by rw [isNon_dVal, isNon_dVal, isNon_dVal])) (fun hd => ?_) (fun hd => ?_)
    · rw [if_pos hd]
      exact jss_one (js_ret je_non)
    rw [if_neg (by rw [hd]; exact Bool.false_ne_true)]
    refine jss_ifr (k := decide (o = b)) rfl (PT_eq (jt_eqD hr.units (PE_r (je_var 1 rfl)) (PE_r (je_var 0 rfl)) (pl_dVal ho) (pl_dVal hb)) (eqb_dVal o b)) (fun hd => ?_) (fun hd => ?_)
    · rw [if_pos (of_decide_eq_true hd)]
      exact jss_one (js_ret (je_var 2 rfl))
    rw [if_neg (of_decide_eq_false hd)]
    refine jss_ifr (k := decide (t = b)) rfl (PT_eq (jt_eqD hr.units (PE_r (je_var 2 rfl)) (PE_r (je_var 0 rfl)) (pl_dVal ht) (pl_dVal hb)) (eqb_dVal t b)) (fun hd => ?_) (fun hd => ?_)
    · rw [if_pos (.inl (of_decide_eq_true hd))]
      exact jss_one (js_ret (je_var 1 rfl))
    have n1 := of_decide_eq_false hd
    refine jss_ifr (k := decide (o = t)) rfl (PT_eq (jt_eqD hr.units (PE_r (je_var 1 rfl)) (PE_r (je_var 2 rfl)) (pl_dVal ho) (pl_dVal ht)) (eqb_dVal o t)) (fun hd => ?_) (fun hd => ?_)
    · rw [if_pos (.inr (of_decide_eq_true hd))]
      exact jss_one (js_ret (je_var 1 rfl))
    · rw [if_neg (by rintro (h | h); exact n1 h; exact of_decide_eq_false hd h)]
      exact jss_one (js_ret je_non)
/-! ### law_made_of -/
theorem rgI_pw (n : Nat) : (rgI n).Pairwise (· < ·) := by
  unfold rgI
  rw [List.pairwise_map]
  exact List.Pairwise.imp (fun h => by omega) List.pairwise_lt_range
theorem mem_rgI {n : Nat} {x : Int} : x ∈ rgI n ↔ 0 ≤ x ∧ x < n := by
  unfold rgI
  rw [List.mem_map]
  constructor
  · rintro ⟨i, hi, rfl⟩
    have := List.mem_range.mp hi
    omega
  · rintro ⟨h0, h1⟩
    exact ⟨x.toNat, List.mem_range.mpr (by omega), by omega⟩
theorem filt_asc {L : List Int} {k : Nat} (h : ∀ x ∈ L, 0 ≤ x ∧ x < (k : Int)) : (rgI k).filter (fun x => decide (x ∈ L)) = asc L := by
  refine asc_of ((rgI_pw k).filter _) fun z => ?_
  rw [List.mem_filter, mem_rgI, decide_eq_true_iff]
  exact ⟨fun q => q.2, fun q => ⟨h z q, q⟩⟩
def R_law_made_of (ds : List D) (d : D) : Prop := ∃ (es : List Ent) (n : Nat), PartsOk es ∧ n < es.length ∧ ds = [.lst (es.map dLe), .int (n : Int)] ∧ d = dRow (partsV es n)
theorem partsR_succ (es : List Ent) (k : Nat) : partsR es (k + 1) = partsF es (partsR es k) k := by unfold partsR; rw [List.range_succ, List.foldl_append]; rfl
theorem partsR_len (es : List Ent) : ∀ k, (partsR es k).length = k
  | 0 => rfl
  | k + 1 => by rw [partsR_succ, partsF_len, partsR_len es k]
theorem partsR_bd {es : List Ent} (O : PartsOk es) : ∀ k, k ≤ es.length → ∀ (j : Nat) r, (partsR es k)[j]? = some r → ∀ x ∈ r, 0 ≤ x ∧ x ≤ (j : Int)
  | 0, _, j, r, h => by cases h
  | k + 1, hk, j, r, h => by
    have ih := partsR_bd O k (Nat.le_of_lt hk)
    have ln := partsR_len es k
    have old : ∀ {a : Int}, 0 ≤ a → a < k → ∀ x ∈ gi (partsR es k) a, 0 ≤ x ∧ x ≤ a := by
      intro a a0 a1 x hx
      obtain ⟨i, rfl⟩ : ∃ i : Nat, a = i := ⟨a.toNat, by omega⟩
      have hi : i < (partsR es k).length := by omega
      rw [gi_nat (List.getElem?_eq_getElem hi)] at hx
      exact ih i _ (List.getElem?_eq_getElem hi) x hx
    rw [partsR_succ] at h
    unfold partsF at h
    have hb := O.b k
    cases he : gi es (k : Int) with
    | pg p =>
      rw [he] at h
      have h : (partsR es k ++ [[(k : Int)]])[j]? = some r := h
      rcases Nat.lt_or_ge j k with z | z
      · rw [List.getElem?_append_left (by omega)] at h
        exact ih j r h
      · rw [List.getElem?_append_right (by omega)] at h
        obtain ⟨e1, e2⟩ := List.getElem?_eq_some_iff.mp h
        simp only [List.length_singleton] at e1
        intro x hx
        have : r = [(k : Int)] := by rw [← e2]; simp
        rw [this, List.mem_singleton] at hx
        omega
    | mg a b c =>
      obtain ⟨⟨a0, a1⟩, ⟨b0, b1⟩, c0, c1⟩ := hb a b c hk he
      rw [he] at h
      have h : (partsR es k ++ [asc (gi (partsR es k) a ++ gi (partsR es k) b ++ gi (partsR es k) c)])[j]? = some r := h
      rcases Nat.lt_or_ge j k with z | z
      · rw [List.getElem?_append_left (by omega)] at h
        exact ih j r h
      · rw [List.getElem?_append_right (by omega)] at h
        obtain ⟨e1, e2⟩ := List.getElem?_eq_some_iff.mp h
        simp only [List.length_singleton] at e1
        intro x hx
        have : r = asc (gi (partsR es k) a ++ gi (partsR es k) b ++ gi (partsR es k) c) := by rw [← e2]; simp
        rw [this, mem_asc, List.mem_append, List.mem_append] at hx
        rcases hx with (hx | hx) | hx
        · have := old a0 a1 x hx; omega
        · have := old b0 b1 x hx; omega
        · have := old c0 c1 x hx; omega
theorem ok_law_made_of (Bl : Blt mg) (F : Dfn K mg "_law_made_of" s_law_made_of ["_law_entries_here", "_law_number"]) : Cal P w K mg base T 1 "_law_made_of" ["_law_entries_here", "_law_number"] R_law_made_of := by
  refine cal_D F sc_law_made_of (fun ds d h => ?_) fun f cdv A outer s H G E ds d hr h => ?_
  · obtain ⟨es, n, _, _, rfl, _⟩ := h; rfl
  · obtain ⟨es, n, O, hn, rfl, rfl⟩ := h
    have ol := O.l
    refine jss_cons (js_setL 2 (Nat.zero_le _) ja_nil sc_law_made_of.nd) ?_
    refine jss_cons (js_forF (xs := List.range (n + 1)) (em := fun i : Nat => D.int (i : Int)) (fun z : List (List Int) => [.da (.lst (es.map dLe)), .da (.int (n : Int)), .ow (lstK K (z.map dRow)), .un, .un, .un]) (partsF es) (fun k z => z = partsR es k ∧ z.length = k) [] PassesOwn.never rfl
      (ji_range (n := n + 1) (by omega) rfl Bl.range (PE_eq (je_add (je_var 1 rfl) je_int) (congrArg D.int (by omega)))) (gok_name 3) (pg_name (i := 3) sc_law_made_of.nd rfl (.inl rfl)) (fun _ _ => trivial) ⟨rfl, rfl⟩ (fun k z x hx ⟨h1, h2⟩ => ?_) (fun k z i hk ⟨h1, h2⟩ => ?_)) ?_
    · obtain ⟨rfl, _⟩ := rng_at hx
      subst h1
      exact ⟨(partsR_succ es x).symm, by rw [partsF_len, h2]⟩
    · obtain ⟨rfl, hkn⟩ := rng_at hk
      show PSs _ _ (tS _ _ _ _ (.nx [_, _, .ow (lstK K ((partsF es z i).map dRow)), _, _, _]))
      unfold partsF
      have hb := O.b i
      have hs := O.s i
      have hbd := partsR_bd O i (by omega)
      rw [← h1] at hbd
      cases he : gi es (i : Int) with
      | pg p =>
        refine jss_one (js_if (k := false) (jt_val (PE_eq (je_isT (en := gi es (i : Int)) rfl Bl.isinstance rfl Bl.tuple (je_ixL (PE_r (je_var 0 rfl)) (je_var 3 rfl) (atI_gi (em := dLe) (by omega) (by omega)))) (by rw [he]; rfl))) (fun z => nomatch z) (fun _ => ?_))
        have e : (z ++ [[(i : Int)]]).map dRow = z.map dRow ++ [dRow [(i : Int)]] := by rw [List.map_append]; rfl
        show PSs _ _ (tS _ _ _ _ (.nx [_, _, .ow (lstK K ((z ++ [[(i : Int)]]).map dRow)), _, _, _]))
        rw [e]
        exact jss_weak (.same (.same (.same (.un (.un (.un .nil)))))) (jss_one (js_app 2 rfl (by rw [List.length_map, h2]; show i < 2 ^ 24; omega) (je_ls (ja_one (je_var 3 rfl)))))
      | mg a b c =>
        obtain ⟨⟨a0, a1⟩, ⟨b0, b1⟩, c0, c1'⟩ := hb a b c (by omega) he
        have hs := hs a b c (by omega) he
        rw [← h1] at hs
        have old : ∀ {a : Int}, 0 ≤ a → a < i → ∀ x ∈ gi z a, 0 ≤ x ∧ x < (i : Int) := by
          intro a a0 a1 x hx
          obtain ⟨j, rfl⟩ : ∃ j : Nat, a = j := ⟨a.toNat, by omega⟩
          have hj : j < z.length := by omega
          rw [gi_nat (List.getElem?_eq_getElem hj)] at hx
          have := hbd j _ (List.getElem?_eq_getElem hj) x hx
          omega
        refine jss_one (js_if (k := true) (jt_val (PE_eq (je_isT (en := gi es (i : Int)) rfl Bl.isinstance rfl Bl.tuple (je_ixL (PE_r (je_var 0 rfl)) (je_var 3 rfl) (atI_gi (em := dLe) (by omega) (by omega)))) (by rw [he]; rfl))) (fun _ => ?_) (fun z => nomatch z))
        have e : (z ++ [asc (gi z a ++ gi z b ++ gi z c)]).map dRow = z.map dRow ++ [dRow (asc (gi z a ++ gi z b ++ gi z c))] := by rw [List.map_append]; rfl
        show PSs _ _ (tS _ _ _ _ (.nx [_, _, .ow (lstK K ((z ++ [asc (gi z a ++ gi z b ++ gi z c)]).map dRow)), _, _, _]))
        rw [e]
        have sl : ∀ n : Nat, n < 64 → n ≤ sizeLine := fun n hn => by show n ≤ 2 ^ 24; omega
        refine jss_cons (js_set 4 (d := .lst ((gi z a ++ gi z b ++ gi z c).map D.int)) ?_ sc_law_made_of.nd) ?_
        · rw [List.map_append, List.map_append]
          exact je_catL (by rw [List.length_append, List.length_map, List.length_map, List.length_map]; exact sl _ hs) (PE_r (je_catL (by rw [List.length_map, List.length_map]; exact sl _ (by omega)) (PE_r (je_ixL (jr_own 2 rfl) (je_ixT (d := .int a) (xs := [.int a, .int b, .int c]) (je_ixL (PE_r (je_var 0 rfl)) (je_var 3 rfl) (atI_giE (em := dLe) (by omega) (by omega) he)) je_int rfl) (atI_gi (em := dRow) a0 (by omega)))) (PE_r (je_ixL (jr_own 2 rfl) (je_ixT (d := .int b) (xs := [.int a, .int b, .int c]) (je_ixL (PE_r (je_var 0 rfl)) (je_var 3 rfl) (atI_giE (em := dLe) (by omega) (by omega) he)) je_int rfl) (atI_gi (em := dRow) b0 (by omega)))))) (PE_r (je_ixL (jr_own 2 rfl) (je_ixT (d := .int c) (xs := [.int a, .int b, .int c]) (je_ixL (PE_r (je_var 0 rfl)) (je_var 3 rfl) (atI_giE (em := dLe) (by omega) (by omega) he)) je_int rfl) (atI_gi (em := dRow) c0 (by omega))))
        have hL : ∀ x ∈ gi z a ++ gi z b ++ gi z c, 0 ≤ x ∧ x < (i : Int) := by
          intro x hx
          rw [List.mem_append, List.mem_append] at hx
          rcases hx with (hx | hx) | hx
          · exact old a0 a1 x hx
          · exact old b0 b1 x hx
          · exact old c0 c1' x hx
        refine jss_weak (.same (.same (.same (.un (.un (.un .nil)))))) (jss_one (js_app 2 rfl (by rw [List.length_map, h2]; show i < 2 ^ 24; omega) (PE_eq (je_lc (xs := rgI i) (em := D.int) (own := [("_law_part", 5)]) (fun x => decide (x ∈ gi z a ++ gi z b ++ gi z c)) D.int rfl sc_law_made_of.nd (by rw [← rngD_rgI]; exact ji_range (n := i) (by omega) rfl Bl.range (je_var 3 rfl)) (blkOk_by (N := N_law_made_of) (sc := defScope s_law_made_of) (by decide +kernel)) (gok_name 5) (by simp) (fun _ _ => trivial) (by unfold rgI; rw [List.length_map, List.length_range]; show _ ≤ 2 ^ 24; omega)
          (fun s H C cl fp => pg_name (i := 5) sc_law_made_of.nd rfl (.inl rfl)) (fun n j hj s H C cl fp => jts_one (jt_inL (je_var 5 rfl) (PE_r (je_var 4 rfl)))) (fun n j hj hp s H C cl fp => je_var 5 rfl)) (by rw [filt_asc hL]; rfl))))
    · have hlen : ((List.range (n + 1)).foldl (partsF es) []).length = n + 1 := partsR_len es (n + 1)
      exact jss_one (js_ret (je_ixL (jr_own 2 rfl) (je_var 1 rfl) (atI_gi (em := dRow) (by omega) (by omega))))
end MM
end
section
set_option Elab.async false
set_option linter.all false
set_option maxRecDepth 100000
set_option maxHeartbeats 4000000
namespace MM
open PySem PySem.Spec PyProof.Rows L2 NdefX DL
variable {P : Program} {w : World} {K : PySem.W.Frag} {mg : PySem.Str → Option Value} {base : Heap} {T : List NTab} {CS CP CT : Addr}
/-! ### law_ranked_places -/
def numF (acc : List Int) (c : Conf) : List Int := acc ++ c.2.filter fun n => !decide (n ∈ acc)
def numsL (cs : List Conf) : List Int := cs.foldl numF []
def NumI (cs : List Conf) (k : Nat) (z : List Int) : Prop := z.Nodup ∧ (∀ x, x ∈ z ↔ x ∈ nums (cs.take k)) ∧ z.length ≤ (nums (cs.take k)).length
theorem nums_take {cs : List Conf} {k : Nat} {c : Conf} (h : cs[k]? = some c) : nums (cs.take (k + 1)) = nums (cs.take k) ++ c.2 := by
  unfold nums
  rw [List.take_succ, h, List.flatMap_append]
  simp
theorem numI_step {cs : List Conf} (hd : ∀ c ∈ cs, c.2.Nodup) (k : Nat) (z : List Int) (c : Conf) (h : cs[k]? = some c) (I : NumI cs k z) : NumI cs (k + 1) (numF z c) := by
  obtain ⟨h1, h2, h3⟩ := I
  have hc := hd c (List.mem_of_getElem? h)
  refine ⟨?_, fun x => ?_, ?_⟩
  · unfold numF
    refine List.nodup_append.mpr ⟨h1, hc.filter _, fun a ha b hb e => ?_⟩
    subst e
    have := (List.mem_filter.mp hb).2
    simp at this
    exact this ha
  · rw [nums_take h]
    unfold numF
    rw [List.mem_append, List.mem_append, List.mem_filter, ← h2]
    constructor
    · rintro (a | a)
      · exact .inl a
      · exact .inr a.1
    · rintro (a | a)
      · exact .inl a
      · by_cases q : x ∈ z
        · exact .inl q
        · exact .inr ⟨a, by simp [q]⟩
  · rw [nums_take h]
    unfold numF
    rw [List.length_append, List.length_append]
    have := List.length_filter_le (fun n => !decide (n ∈ z)) c.2
    omega
theorem numI_all {cs : List Conf} (hd : ∀ c ∈ cs, c.2.Nodup) : NumI cs cs.length (numsL cs) :=
  foldI (NumI cs) ⟨List.nodup_nil, fun x => Iff.rfl, Nat.le_refl _⟩ (fun k z c h I => numI_step hd k z c h I)
theorem numsL_perm {cs : List Conf} (hd : ∀ c ∈ cs, c.2.Nodup) : (numsL cs).Perm (asc (nums cs)) := by
  obtain ⟨h1, h2, _⟩ := numI_all hd
  rw [List.take_length] at h2
  refine (List.perm_ext_iff_of_nodup h1 ((asc_pw _).imp (fun h => by omega))).mpr fun x => ?_
  rw [h2, mem_asc]
theorem numsL_len {cs : List Conf} (hd : ∀ c ∈ cs, c.2.Nodup) : (numsL cs).length = (asc (nums cs)).length := (numsL_perm hd).length_eq
theorem rankL_eq {cs : List Conf} (hd : ∀ c ∈ cs, c.2.Nodup) (n : Int) : (((numsL cs).filter fun m => decide (m < n)).length : Int) = rk (nums cs) n := by
  unfold rk
  rw [((numsL_perm hd).filter _).length_eq]
def R_law_ranked_places (ds : List D) (d : D) : Prop := ∃ cs : List Conf, cs.length < 1000 ∧ (nums cs).length < 64 ∧ (∀ c ∈ cs, c.2.Nodup) ∧ ds = [.lst (cs.map dCf)] ∧ d = dSp (rspot cs)
theorem ok_law_ranked_places (Bl : Blt mg) (F : Dfn K mg "_law_ranked_places" s_law_ranked_places ["_law_places"]) : Cal P w K mg base T 1 "_law_ranked_places" ["_law_places"] R_law_ranked_places := by
  refine cal_D F sc_law_ranked_places (fun ds d h => ?_) fun f cdv A outer s H G E ds d hr h => ?_
  · obtain ⟨cs, _, _, _, rfl, _⟩ := h; rfl
  · obtain ⟨cs, hl, hn, hd, rfl, rfl⟩ := h
    have cl : ∀ c ∈ cs, c.2.length < 64 := fun c hc => by have := len_in hc; omega
    have tl : ∀ k, (nums (cs.take k)).length ≤ (nums cs).length := fun k => by
      conv => rhs; rw [← List.take_append_drop k cs]
      unfold nums
      rw [List.flatMap_append, List.length_append]
      omega
    refine jss_cons (js_set 1 (je_ls ja_nil) sc_law_ranked_places.nd) ?_
    refine jss_cons (js_forF (xs := cs) (em := dCf) (fun z : List Int => [.da (.lst (cs.map dCf)), .da (.lst (z.map D.int)), .un, .un, .un, .un]) numF (NumI cs) [] PassesOwn.never rfl
      (ji_list (je_var 0 rfl)) (gok_name 2) (pg_name (i := 2) sc_law_ranked_places.nd rfl (by first | exact .inl rfl | exact .inr rfl)) (fun _ _ => trivial) ⟨List.nodup_nil, fun x => Iff.rfl, Nat.le_refl _⟩ (fun k z c h I => numI_step hd k z c h I) (fun k z c hk I => ?_)) ?_
    · have hc := List.mem_of_getElem? hk
      have c64 := cl c hc
      have zl := I.2.2
      have t1 := tl k
      show PSs _ _ (tS _ _ _ _ (.nx [_, .da (.lst ((numF z c).map D.int)), _, _, _, _]))
      unfold numF
      refine jss_weak (.same (.same (.un (.un (.un (.un .nil)))))) (jss_one (js_set 1 (PE_eq (je_catL (xs := z.map D.int) (ys := (c.2.filter fun n => !decide (n ∈ z)).map D.int) ?_ (PE_r (je_var 1 rfl)) (PE_r (je_lc (xs := c.2) (em := D.int) (own := [("_law_number", 4)]) (fun n => !decide (n ∈ z)) D.int rfl sc_law_ranked_places.nd (ji_tup (je_ixT (xs := [.int c.1, dI c.2]) (je_var 2 rfl) je_int rfl)) (blkOk_by (N := N_law_ranked_places) (sc := defScope s_law_ranked_places) (by decide +kernel)) (gok_name 4) (by simp) (fun _ _ => trivial) (sz24 (by omega))
        (fun s H C cl fp => pg_name (i := 4) sc_law_ranked_places.nd rfl (by first | exact .inl rfl | exact .inr rfl)) (fun n j hj s H C cl fp => jts_one (jt_ninL (je_var 4 rfl) (PE_r (je_var 1 rfl)))) (fun n j hj hp s H C cl fp => je_var 4 rfl)))) (by rw [List.map_append])) sc_law_ranked_places.nd))
      rw [List.length_map, List.length_map]
      have := List.length_filter_le (fun n => !decide (n ∈ z)) c.2
      show _ ≤ 2 ^ 24
      omega
    obtain ⟨_, _, nl⟩ := numI_all hd
    rw [List.take_length] at nl
    change PSs _ _ (tS _ _ _ [_, .da (.lst ((numsL cs).map D.int)), _, _, _, _] _)
    refine jss_cons (js_setL 3 (Nat.zero_le _) ja_nil sc_law_ranked_places.nd) ?_
    refine jss_cons (js_forF (xs := cs) (em := dCf) (fun z : List Conf => [.da (.lst (cs.map dCf)), .da (.lst ((numsL cs).map D.int)), .un, .ow (lstK K (z.map dCf)), .un, .un]) (fun z c => z ++ [(c.1, c.2.map (rk (nums cs)))]) (fun k z => z.length = k) [] PassesOwn.never rfl
      (ji_list (je_var 0 rfl)) (gok_name 2) (pg_name (i := 2) sc_law_ranked_places.nd rfl (by first | exact .inl rfl | exact .inr rfl)) (fun _ _ => trivial) rfl (fun k z c h I => by rw [List.length_append, I]; rfl) (fun k z c hk I => ?_)) ?_
    · have hc := List.mem_of_getElem? hk
      have c64 := cl c hc
      have kl := (List.getElem?_eq_some_iff.mp hk).1
      have e : (z ++ [(c.1, c.2.map (rk (nums cs)))]).map dCf = z.map dCf ++ [dCf (c.1, c.2.map (rk (nums cs)))] := by rw [List.map_append]; rfl
      show PSs _ _ (tS _ _ _ _ (.nx [_, _, _, .ow (lstK K ((z ++ [(c.1, c.2.map (rk (nums cs)))]).map dCf)), _, _]))
      rw [e]
      refine jss_weak (.same (.same (.un (.same (.un (.un .nil)))))) (jss_one (js_app 3 rfl (by rw [List.length_map, I]; show k < 2 ^ 24; omega) (je_tp (ja_cons (je_ixT (xs := [.int c.1, dI c.2]) (je_var 2 rfl) je_int rfl) (ja_one (je_tupL rfl Bl.tuple (PE_r (PE_eq (je_lc0 (xs := c.2) (em := D.int) (own := [("_law_number", 4)]) (fun n => .int (rk (nums cs) n)) rfl sc_law_ranked_places.nd (ji_tup (je_ixT (xs := [.int c.1, dI c.2]) (je_var 2 rfl) je_int rfl)) (blkOk_by (N := N_law_ranked_places) (sc := defScope s_law_ranked_places) (by decide +kernel)) (gok_name 4) (by simp) (fun _ _ => trivial) (sz24 (by omega))
        (fun s H C cl fp => pg_name (i := 4) sc_law_ranked_places.nd rfl (by first | exact .inl rfl | exact .inr rfl)) (fun m n hn' s H C cl fp => ?_)) (by rw [List.map_map]; rfl)))))))))
      refine PE_eq (je_lenL rfl Bl.len (PE_r (je_lc (xs := numsL cs) (em := D.int) (own := [("_law_n", 5)]) (fun x => decide (x < n)) D.int rfl sc_law_ranked_places.nd (ji_list (je_var 1 rfl)) (blkOk_by (by kernel_rfl)) (gok_name 5) (by simp) (fun _ _ => trivial) (sz24 (by omega))
        (fun s H C cl fp => pg_name (i := 5) sc_law_ranked_places.nd rfl (by first | exact .inl rfl | exact .inr rfl)) (fun n j hj s H C cl fp => jts_one (jt_lt (je_var 5 rfl) (je_var 4 rfl))) (fun n j hj hp s H C cl fp => je_var 5 rfl)))) ?_
      rw [List.length_map, rankL_eq hd]
    · have ef : ∀ (os : List Conf) (z : List Conf), os.foldl (fun z c => z ++ [(c.1, c.2.map (rk (nums cs)))]) z = z ++ os.map fun c => (c.1, c.2.map (rk (nums cs))) := by
        intro os
        induction os with
        | nil => intro z; simp
        | cons o os ih => intro z; rw [List.foldl_cons, ih, List.map_cons, List.append_assoc]; rfl
      rw [ef]
      exact jss_one (js_ret (je_tupL rfl Bl.tuple (jr_own 3 rfl)))

/-! ### law_steps -/
def stepRow (nm : St) (n : Nat) : List Msg := (List.range n).map fun i : Nat => (nm, (i : Int))
def R_law_steps (ds : List D) (d : D) : Prop := ∃ (names : List St) (sp : List Conf), names.length ≤ 100 ∧ sp.length < 1000 ∧ (nums sp).length < 64 ∧ (∀ c ∈ sp, c.2.Nodup) ∧ ds = [.lst (names.map D.str), dSp sp] ∧ d = .lst ((stepsV names sp).map dMs)
theorem ok_law_steps (Bl : Blt mg) (F : Dfn K mg "_law_steps" s_law_steps ["_law_names_here", "_law_spot"]) : Cal P w K mg base T 1 "_law_steps" ["_law_names_here", "_law_spot"] R_law_steps := by
  refine cal_D F sc_law_steps (fun ds d h => ?_) fun f cdv A outer s H G E ds d hr h => ?_
  · obtain ⟨names, cs, _, _, _, _, rfl, _⟩ := h; rfl
  · obtain ⟨names, cs, nl0, hl, hn, hd, rfl, rfl⟩ := h
    have cl : ∀ c ∈ cs, c.2.length < 64 := fun c hc => by have := len_in hc; omega
    have tl : ∀ k, (nums (cs.take k)).length ≤ (nums cs).length := fun k => by
      conv => rhs; rw [← List.take_append_drop k cs]
      unfold nums
      rw [List.flatMap_append, List.length_append]
      omega
    refine jss_cons (js_set 2 (je_ls ja_nil) sc_law_steps.nd) ?_
    refine jss_cons (js_forF (xs := cs) (em := dCf) (fun z : List Int => [.da (.lst (names.map D.str)), .da (dSp cs), .da (.lst (z.map D.int)), .un, .un, .un, .un, .un]) numF (NumI cs) [] PassesOwn.never rfl
      (ji_tup (je_var 1 rfl)) (gok_name 3) (pg_name (i := 3) sc_law_steps.nd rfl (by first | exact .inl rfl | exact .inr rfl)) (fun _ _ => trivial) ⟨List.nodup_nil, fun x => Iff.rfl, Nat.le_refl _⟩ (fun k z c h I => numI_step hd k z c h I) (fun k z c hk I => ?_)) ?_
    · have hc := List.mem_of_getElem? hk
      have c64 := cl c hc
      have zl := I.2.2
      have t1 := tl k
      show PSs _ _ (tS _ _ _ _ (.nx [_, _, .da (.lst ((numF z c).map D.int)), _, _, _, _, _]))
      unfold numF
      refine jss_weak (.same (.same (.same (.un (.un (.un (.un (.un .nil)))))))) (jss_one (js_set 2 (PE_eq (je_catL (xs := z.map D.int) (ys := (c.2.filter fun n => !decide (n ∈ z)).map D.int) ?_ (PE_r (je_var 2 rfl)) (PE_r (je_lc (xs := c.2) (em := D.int) (own := [("_law_rank", 6)]) (fun n => !decide (n ∈ z)) D.int rfl sc_law_steps.nd (ji_tup (je_ixT (xs := [.int c.1, dI c.2]) (je_var 3 rfl) je_int rfl)) (blkOk_by (N := N_law_steps) (sc := defScope s_law_steps) (by decide +kernel)) (gok_name 6) (by simp) (fun _ _ => trivial) (sz24 (by omega))
        (fun s H C cl fp => pg_name (i := 6) sc_law_steps.nd rfl (by first | exact .inl rfl | exact .inr rfl)) (fun n j hj s H C cl fp => jts_one (jt_ninL (je_var 6 rfl) (PE_r (je_var 2 rfl)))) (fun n j hj hp s H C cl fp => je_var 6 rfl)))) (by rw [List.map_append])) sc_law_steps.nd))
      rw [List.length_map, List.length_map]
      have := List.length_filter_le (fun n => !decide (n ∈ z)) c.2
      show _ ≤ 2 ^ 24
      omega
    have ln := numsL_len hd
    obtain ⟨_, _, nl⟩ := numI_all hd
    rw [List.take_length] at nl
    change PSs _ _ (tS _ _ _ [_, _, .da (.lst ((numsL cs).map D.int)), _, _, _, _, _] _)
    refine jss_cons (js_set 4 (je_ls ja_nil) sc_law_steps.nd) ?_
    refine jss_cons (js_forF (xs := names) (em := D.str) (fun z : List Msg => [.da (.lst (names.map D.str)), .da (dSp cs), .da (.lst ((numsL cs).map D.int)), .un, .da (.lst (z.map dMs)), .un, .un, .un]) (fun z nm => z ++ stepRow nm (2 * (asc (nums cs)).length + 1)) (fun k z => z.length = k * (2 * (asc (nums cs)).length + 1)) [] PassesOwn.never rfl
      (ji_list (je_var 0 rfl)) (gok_name 5) (pg_name (i := 5) sc_law_steps.nd rfl (by first | exact .inl rfl | exact .inr rfl)) (fun _ _ => trivial) (by simp) (fun k z nm h I => by rw [List.length_append, I]; unfold stepRow; rw [List.length_map, List.length_range]; exact (Nat.succ_mul k _).symm) (fun k z nm hk I => ?_)) ?_
    · have kl := (List.getElem?_eq_some_iff.mp hk).1
      have bd : k * (2 * (asc (nums cs)).length + 1) ≤ 100 * 129 := Nat.mul_le_mul (by omega) (by omega)
      refine jss_weak (.same (.same (.same (.un (.same (.un (.un (.un .nil)))))))) (jss_one (js_set 4 (PE_eq (je_catL (xs := z.map dMs) (ys := (stepRow nm (2 * (asc (nums cs)).length + 1)).map dMs) ?_ (PE_r (je_var 4 rfl)) (PE_r (PE_eq (je_lc0 (xs := rgI (2 * (asc (nums cs)).length + 1)) (em := D.int) (own := [("_law_position_here", 7)]) (fun p => dMs (nm, p)) rfl sc_law_steps.nd
        (by rw [← rngD_rgI]; exact ji_range (n := 2 * (asc (nums cs)).length + 1) (by omega) rfl Bl.range (PE_eq (je_add (je_mul (cmull (by decide) (by decide)) je_int (PE_eq (je_lenL rfl Bl.len (PE_r (je_var 2 rfl))) (by rw [List.length_map, ln]))) je_int) (congrArg D.int (by omega)))) (blkOk_by (N := N_law_steps) (sc := defScope s_law_steps) (by decide +kernel)) (gok_name 7) (by simp) (fun _ _ => trivial) (by unfold rgI; rw [List.length_map, List.length_range]; show _ ≤ 2 ^ 24; omega)
        (fun s H C cl fp => pg_name (i := 7) sc_law_steps.nd rfl (by first | exact .inl rfl | exact .inr rfl)) (fun n j hj s H C cl fp => je_tp (ja_cons (je_var 5 rfl) (ja_one (je_var 7 rfl))))) ?_))) (by rw [List.map_append])) sc_law_steps.nd))
      · rw [List.length_map, List.length_map, I]
        unfold stepRow
        rw [List.length_map, List.length_range]
        show _ ≤ 2 ^ 24
        omega
      · unfold rgI stepRow
        rw [List.map_map, List.map_map]
        rfl
    · refine jss_one (js_ret (PE_eq (je_var 4 rfl) ?_))
      have ef : ∀ (os : List St) (z : List Msg), os.foldl (fun z nm => z ++ stepRow nm (2 * (asc (nums cs)).length + 1)) z = z ++ os.flatMap fun nm => stepRow nm (2 * (asc (nums cs)).length + 1) := by
        intro os
        induction os with
        | nil => intro z; simp
        | cons o os ih => intro z; rw [List.foldl_cons, ih, List.flatMap_cons, List.append_assoc]
      rw [ef, List.nil_append]
      rfl

/-! ### law_meaning -/
theorem lk_zip {sm : List Int} {os : List (List O3)} (hp : sm.Pairwise (· < ·)) (hl : sm.length = os.length) {k : Int} (h : k ∈ sm) : lk (sm.zip os) k = gi os (((sm.filter fun m => decide (m < k)).length : Nat) : Int) ∧ (sm.filter fun m => decide (m < k)).length < os.length := by
  obtain ⟨j, hj⟩ := List.mem_iff_getElem?.mp h
  have h1 := less_at hp hj
  have j1 := (List.getElem?_eq_some_iff.mp hj).1
  have j2 : j < os.length := by omega
  rw [h1]
  refine ⟨?_, j2⟩
  rw [gi_nat (List.getElem?_eq_getElem j2)]
  have hz : (sm.zip os)[j]? = some (k, os[j]) := by
    rw [List.getElem?_zip_eq_some]
    exact ⟨hj, List.getElem?_eq_getElem j2⟩
  have hn : ((sm.zip os).map (·.1)).Nodup := by
    rw [List.map_fst_zip (by omega)]
    exact hp.imp (fun h => by omega)
  exact lk_at hn _ (List.mem_of_getElem? hz)
theorem lk_zipno {sm : List Int} {os : List (List O3)} {k : Int} (h : k ∉ sm) : lk (sm.zip os) k = [] := by
  refine lk_no fun z => h ?_
  obtain ⟨q, hq, rfl⟩ := List.mem_map.mp z
  exact (List.of_mem_zip hq).1
structure LMeanOk (es : List Ent) (sm : List Int) (os : List (List O3)) : Prop where
  mo : MeanOk es (sm.zip os)
  pw : sm.Pairwise (· < ·)
  le : sm.length = os.length
  sl : sm.length < 1000
def R_law_meaning (ds : List D) (d : D) : Prop := ∃ (es : List Ent) (sm : List Int) (os : List (List O3)) (n : Nat), LMeanOk es sm os ∧ n < es.length ∧ ds = [.lst (es.map dLe), .int (n : Int), dRow sm, .lst (os.map dOu)] ∧ d = dVal (meanV es (sm.zip os) n)
theorem valsR_succ (es : List Ent) (qs : List (Int × List O3)) (k : Nat) : valsR es qs (k + 1) = valsF es qs (valsR es qs k) k := by unfold valsR; rw [List.range_succ, List.foldl_append]; rfl
theorem ok_law_meaning (Bl : Blt mg) (F : Dfn K mg "_law_meaning" s_law_meaning ["_law_entries_here", "_law_number", "_law_some", "_law_outputs_here"]) (c2 : Cal P w K mg base T 1 "_law_merged" ["_law_base", "_law_one", "_law_other"] R_merged) : Cal P w K mg base T 2 "_law_meaning" ["_law_entries_here", "_law_number", "_law_some", "_law_outputs_here"] R_law_meaning := by
  refine cal_D F sc_law_meaning (fun ds d h => ?_) fun f cdv A outer s H G E ds d hr h => ?_
  · obtain ⟨es, sm, os, n, _, _, rfl, _⟩ := h; rfl
  · obtain ⟨es, sm, os, n, L, hn, rfl, rfl⟩ := h
    have O := L.mo
    have ol := O.l
    refine jss_cons (js_setL 4 (Nat.zero_le _) ja_nil sc_law_meaning.nd) ?_
    refine jss_cons (js_forF (xs := List.range (n + 1)) (em := fun i : Nat => D.int (i : Int)) (fun z : List Val => [.da (.lst (es.map dLe)), .da (.int (n : Int)), .da (dRow sm), .da (.lst (os.map dOu)), .ow (lstK K (z.map dVal)), .un, .un]) (valsF es (sm.zip os)) (fun k z => z = valsR es (sm.zip os) k) [] PassesOwn.never rfl
      (ji_range (n := n + 1) (by omega) rfl Bl.range (PE_eq (je_add (je_var 1 rfl) je_int) (congrArg D.int (by omega)))) (gok_name 5) (pg_name (i := 5) sc_law_meaning.nd rfl (by first | exact .inl rfl | exact .inr rfl)) (fun _ _ => trivial) rfl (fun k z x hx h1 => ?_) (fun k z i hk h1 => ?_)) ?_
    · obtain ⟨rfl, _⟩ := rng_at hx
      subst h1
      exact (valsR_succ es _ x).symm
    · obtain ⟨rfl, hkn⟩ := rng_at hk
      obtain ⟨h2, h3⟩ := vals_ok O i (by omega)
      rw [← h1] at h2 h3
      show PSs _ _ (tS _ _ _ _ (.nx [_, _, _, _, .ow (lstK K ((valsF es (sm.zip os) z i).map dVal)), _, _]))
      unfold valsF
      have hb := O.b i
      have hz : (z.map dVal).length < sizeLine := by rw [List.length_map, h2]; show i < 2 ^ 24; omega
      cases he : gi es (i : Int) with
      | pg p =>
        refine jss_one (js_if (k := false) (jt_val (PE_eq (je_isT (en := gi es (i : Int)) rfl Bl.isinstance rfl Bl.tuple (je_ixL (PE_r (je_var 0 rfl)) (je_var 5 rfl) (atI_gi (em := dLe) (by omega) (by omega)))) (by rw [he]; rfl))) (fun z => nomatch z) (fun _ => ?_))
        have e : (z ++ [some (lk (sm.zip os) (i : Int))]).map dVal = z.map dVal ++ [dOu (lk (sm.zip os) (i : Int))] := by rw [List.map_append]; rfl
        show PSs _ _ (tS _ _ _ _ (.nx [_, _, _, _, .ow (lstK K ((z ++ [some (lk (sm.zip os) (i : Int))]).map dVal)), _, _]))
        rw [e]
        refine jss_weak (ρ1 := [.da (.lst (es.map dLe)), .da (.int (n : Int)), .da (dRow sm), .da (.lst (os.map dOu)), .ow (lstK K (z.map dVal ++ [dOu (lk (sm.zip os) (i : Int))])), .da (.int (i : Int)), .un]) (.same (.same (.same (.same (.same (.un (.un .nil))))))) (jss_one (js_if (k := decide ((i : Int) ∈ sm)) (jt_inL (je_var 5 rfl) (PE_r (je_var 2 rfl))) (fun hm => ?_) (fun hm => ?_)))
        · have hm := of_decide_eq_true hm
          obtain ⟨e1, e2⟩ := lk_zip L.pw L.le hm
          rw [e1]
          exact jss_one (js_app 4 rfl hz (je_ixL (PE_r (je_var 3 rfl)) (PE_eq (je_lenL rfl Bl.len (PE_r (je_lc (xs := sm) (em := D.int) (own := [("_law_part", 6)]) (fun x => decide (x < (i : Int))) D.int rfl sc_law_meaning.nd (ji_list (je_var 2 rfl)) (blkOk_by (N := N_law_meaning) (sc := defScope s_law_meaning) (by decide +kernel)) (gok_name 6) (by simp) (fun _ _ => trivial) (sz24 L.sl)
            (fun s H C cl fp => pg_name (i := 6) sc_law_meaning.nd rfl (by first | exact .inl rfl | exact .inr rfl)) (fun n j hj s H C cl fp => jts_one (jt_lt (je_var 6 rfl) (je_var 5 rfl))) (fun n j hj hp s H C cl fp => je_var 6 rfl)))) (by rw [List.length_map])) (atI_gi (em := dOu) (by omega) (by omega))))
        · have hm := of_decide_eq_false hm
          rw [lk_zipno hm]
          exact jss_one (js_app 4 rfl hz (je_tp ja_nil))
      | mg a b c =>
        obtain ⟨⟨a0, a1⟩, ⟨b0, b1⟩, c0, c1'⟩ := hb a b c (by omega) he
        refine jss_one (js_if (k := true) (jt_val (PE_eq (je_isT (en := gi es (i : Int)) rfl Bl.isinstance rfl Bl.tuple (je_ixL (PE_r (je_var 0 rfl)) (je_var 5 rfl) (atI_gi (em := dLe) (by omega) (by omega)))) (by rw [he]; rfl))) (fun _ => ?_) (fun z => nomatch z))
        have e : (z ++ [mergedV (gi z a) (gi z b) (gi z c)]).map dVal = z.map dVal ++ [dVal (mergedV (gi z a) (gi z b) (gi z c))] := by rw [List.map_append]; rfl
        show PSs _ _ (tS _ _ _ _ (.nx [_, _, _, _, .ow (lstK K ((z ++ [mergedV (gi z a) (gi z b) (gi z c)]).map dVal)), _, _]))
        rw [e]
        refine jss_weak (.same (.same (.same (.same (.same (.un (.un .nil))))))) (jss_one (js_app 4 rfl hz (je_fn c2 hr (by decide) rfl ⟨gi z a, gi z b, gi z c, h3 _ (gi_mem a0 (by omega)), h3 _ (gi_mem b0 (by omega)), h3 _ (gi_mem c0 (by omega)), rfl, rfl⟩
          (ja_cons (je_ixL (jr_own 4 rfl) (je_ixT (d := .int a) (xs := [.int a, .int b, .int c]) (je_ixL (PE_r (je_var 0 rfl)) (je_var 5 rfl) (atI_giE (em := dLe) (by omega) (by omega) he)) je_int rfl) (atI_gi (em := dVal) a0 (by omega))) (ja_cons (je_ixL (jr_own 4 rfl) (je_ixT (d := .int b) (xs := [.int a, .int b, .int c]) (je_ixL (PE_r (je_var 0 rfl)) (je_var 5 rfl) (atI_giE (em := dLe) (by omega) (by omega) he)) je_int rfl) (atI_gi (em := dVal) b0 (by omega))) (ja_one (je_ixL (jr_own 4 rfl) (je_ixT (d := .int c) (xs := [.int a, .int b, .int c]) (je_ixL (PE_r (je_var 0 rfl)) (je_var 5 rfl) (atI_giE (em := dLe) (by omega) (by omega) he)) je_int rfl) (atI_gi (em := dVal) c0 (by omega)))))))))
    · have hlen : ((List.range (n + 1)).foldl (valsF es (sm.zip os)) []).length = n + 1 := (vals_ok O (n + 1) hn).1
      exact jss_one (js_ret (je_ixL (jr_own 4 rfl) (je_var 1 rfl) (atI_gi (em := dVal) (by omega) (by omega))))

/-! ### law_marked -/
def R_law_marked (ds : List D) (d : D) : Prop := ∃ (es : List Ent) (sm : List Int) (os : List (List O3)) (n o : Nat), LMeanOk es sm os ∧ n < es.length ∧ o < es.length ∧ ds = [.lst (es.map dLe), .int (n : Int), .int (o : Int), dRow sm, .lst (os.map dOu)] ∧ d = .bl (markP es n o sm os)
theorem ok_law_marked (F : Dfn K mg "_law_marked" s_law_marked ["_law_entries_here", "_law_number", "_law_other", "_law_some", "_law_outputs_here"]) (c1 : Cal P w K mg base T 2 "_law_meaning" ["_law_entries_here", "_law_number", "_law_some", "_law_outputs_here"] R_law_meaning) :
    Cal P w K mg base T 3 "_law_marked" ["_law_entries_here", "_law_number", "_law_other", "_law_some", "_law_outputs_here"] R_law_marked := by
  refine cal_D F sc_law_marked (fun ds d h => ?_) fun f cdv A outer s H G E ds d hr h => ?_
  · obtain ⟨es, sm, os, n, o, _, _, _, rfl, _⟩ := h; rfl
  · obtain ⟨es, sm, os, n, o, L, hn, ho, rfl, rfl⟩ := h
    have v1 := pl_dVal (mean_ok L.mo hn)
    have v2 := pl_dVal (mean_ok L.mo ho)
    refine jss_cons (js_set 5 (d := dVal (meanV es (sm.zip os) n)) (je_fn c1 hr (by decide) rfl ⟨es, sm, os, n, L, hn, rfl, rfl⟩ (ja_cons (je_var 0 rfl) (ja_cons (je_var 1 rfl) (ja_cons (je_var 3 rfl) (ja_one (je_var 4 rfl)))))) sc_law_marked.nd) ?_
    refine jss_ifr (k := decide ((o : Int) < 0)) rfl (jt_lt (je_var 2 rfl) je_int) (fun z => ?_) (fun _ => ?_)
    · have := of_decide_eq_true z; omega
    · refine jss_one (js_ret (PE_eq (je_neD hr.units (PE_r (je_var 5 rfl)) (PE_r (je_fn (d := dVal (meanV es (sm.zip os) o)) c1 hr (by decide) rfl ⟨es, sm, os, o, L, ho, rfl, rfl⟩ (ja_cons (je_var 0 rfl) (ja_cons (je_var 2 rfl) (ja_cons (je_var 3 rfl) (ja_one (je_var 4 rfl))))))) v1 v2) ?_))
      rw [eqb_dVal]
      rfl
end MM
end
section
set_option Elab.async false
set_option linter.all false
set_option maxRecDepth 100000
set_option maxHeartbeats 4000000
namespace MM
open PySem PySem.Spec PyProof.Rows L2 NdefX DL
variable {P : Program} {w : World} {K : PySem.W.Frag} {mg : PySem.Str → Option Value} {base : Heap} {T : List NTab} {CS CP CT : Addr}
/-! ### a list unpacked -/
def isLst (n : Nat) (d : D) : Prop := ∃ ds, d = .lst ds ∧ ds.length = n
def putNL (is : List Nat) : List Sl → D → List Sl := fun ρ d => match d with
  | .lst ds => putAll is ρ ds
  | _ => ρ
theorem gok_lstU {K : PySem.W.Frag} (is : List Nat) : GOk K (gUnl K is.length (gNs is)) is (putNL is) (isLst is.length) := fun B ρ σ G H v d Q en r ⟨ds, e, hl⟩ q => by
  subst e
  cases r with
  | @lst a xs _ h rs => exact ⟨a, xs, rfl, SqL.of (en.base.sub _ _ h), by rw [rs.length]; exact hl, gok_all is ρ σ xs ds rs hl q⟩
section
variable {X : Cx} {pos p1 p2 : Pos} {k : Nat}
theorem pgL2 (i j : Nat) {x y : St} (hc : X.calm = true) (hN : X.N.Nodup) (h1 : X.N[i]? = some x := by rfl) (h2 : X.N[j]? = some y := by rfl) (l1 : Loc X.env.scope x := by first | exact Or.inl rfl | exact Or.inr rfl) (l2 : Loc X.env.scope y := by first | exact Or.inl rfl | exact Or.inr rfl)
    (f1 : X.fn x = true ∨ X.env.scope.names.lookup x = some .local := by first | exact .inl rfl | exact .inr rfl) (f2 : X.fn y = true ∨ X.env.scope.names.lookup y = some .local := by first | exact .inl rfl | exact .inr rfl)
    (hs1 : (assignEach [.Name x p1, .Name y p2] X.env).map (·.2) = assign (.Name x p1) X.env :: (assignEach [.Name y p2] X.env).map (·.2) := by rfl) (hs2 : (assignEach [.Name y p2] X.env).map (·.2) = assign (.Name y p2) X.env :: (assignEach [] X.env).map (·.2) := by rfl)
    (hn : (assignEach [.Name x p1, .Name y p2] X.env).length = 2 := by rfl) (hst : (assignEach [.Name x p1, .Name y p2] X.env).findIdx? (·.1) = none := by rfl) : PG X (.Tuple [.Name x p1, .Name y p2] k pos) (gUnl X.K [i, j].length (gNs [i, j])) :=
  pg_unl hc (pgs_cons (pg_name hN h1 l1 f1) (pgs_cons (pg_name hN h2 l2 f2) pgs_nil hs2) hs1) hn hst
end
/-! ### law_spot_after -/
def StepEq (p : Pg) (c : Conf) (m : Msg) : Prop := ∃ n : Nat, StepLOk p c m n ∧ stepL p c m (gi p.rules (n : Int)) = stepV p c m
def lnN (tk : Msg) : Int := 2 * (tk.2 / 2) - 1 + tk.2 % 2
def saResN (ps : List Pg) (sp : List Conf) (nm : St) (n : Int) : List (Conf × List O3) := (ps.zip (dbl sp)).map fun q => stepV q.1 q.2 (nm, n)
def saOutN (sp : List Conf) (n : Int) (r : Conf × List O3) : List O3 := r.2.map fun o => (o.1, o.2.1, posIn (asc (saKs sp ++ [n])) o.2.2)
def safterN (ps : List Pg) (sp : List Conf) (nm : St) (n : Int) : List Conf × List (List O3) := (rspot ((saResN ps sp nm n).map (·.1)), (saResN ps sp nm n).map (saOutN sp n))
def dSaL (r : List Conf × List (List O3)) : D := .lst [dSp r.1, .lst (r.2.map dOu)]
structure SaLOk (ps : List Pg) (sp : List Conf) (tk : Msg) : Prop where
  pl : ps.length < 1000
  pe : sp.length = ps.length
  rb : ∀ c ∈ sp, ∀ r ∈ c.2, 0 ≤ r ∧ r < 1000
  nl : (nums (dbl sp)).length < 63
  nd : ∀ c ∈ sp, c.2.Nodup
  od : tk.2 % 2 = 1 → lnN tk ∈ saKs sp
  ev : tk.2 % 2 = 0 → lnN tk ∉ saKs sp
  so : ∀ q ∈ ps.zip (dbl sp), StepEq q.1 q.2 (tk.1, lnN tk) ∧ (stepV q.1 q.2 (tk.1, lnN tk)).2.length < 1000
  rl : (nums ((saResN ps sp tk.1 (lnN tk)).map (·.1))).length < 64
  rd : ∀ c ∈ (saResN ps sp tk.1 (lnN tk)).map (·.1), c.2.Nodup
theorem srt_nums {cs : List Conf} (hd : ∀ c ∈ cs, c.2.Nodup) : srt (numsL cs) = asc (nums cs) := (srt_of (numsL_perm hd).symm ((asc_pw _).imp (fun h => by omega))).symm
theorem known_eq {ks : List Int} {n : Int} {b : Int} (hp : ks.Pairwise (· < ·)) (h0 : 0 ≤ b) (h1 : b < 2) (od : b = 1 → n ∈ ks) (ev : b = 0 → n ∉ ks) : srt (ks ++ [n].take (1 - b).toNat) = asc (ks ++ [n]) := by
  rcases (by omega : b = 0 ∨ b = 1) with rfl | rfl
  · have hn := ev rfl
    show srt (ks ++ [n]) = _
    refine (srt_of ?_ ((asc_pw _).imp (fun h => by omega))).symm
    refine (List.perm_ext_iff_of_nodup ((asc_pw _).imp (fun h => by omega)) ?_).mpr fun x => mem_asc
    refine List.nodup_append.mpr ⟨hp.imp (fun h => by omega), by simp, fun a ha c hc e => ?_⟩
    rw [List.mem_singleton] at hc
    subst hc e
    exact hn ha
  · have hn := od rfl
    show srt (ks ++ []) = _
    rw [List.append_nil, ← srt_of (List.Perm.refl ks) (hp.imp (fun h => by omega))]
    refine asc_of hp fun z => ?_
    rw [List.mem_append, List.mem_singleton]
    exact ⟨.inl, fun q => q.elim id fun e => e ▸ hn⟩
theorem foldl_snoc {α β : Type} (g : α → β) : ∀ (os : List α) (z : List β), os.foldl (fun z o => z ++ [g o]) z = z ++ os.map g
  | [], z => by simp
  | o :: os, z => by rw [List.foldl_cons, foldl_snoc g os, List.map_cons, List.append_assoc]; rfl
theorem range_zip {ps : List Pg} {cs : List Conf} (h : cs.length = ps.length) {β : Type} (g : Pg → Conf → β) : (List.range ps.length).map (fun k : Nat => g (gi ps (k : Int)) (gi cs (k : Int))) = (ps.zip cs).map fun q => g q.1 q.2 := by
  refine List.ext_getElem? fun k => ?_
  rw [List.getElem?_map, List.getElem?_map]
  by_cases hk : k < ps.length
  · have hk2 : k < cs.length := by omega
    rw [List.getElem?_range hk, show (ps.zip cs)[k]? = some (ps[k], cs[k]) by rw [List.getElem?_zip_eq_some]; exact ⟨List.getElem?_eq_getElem hk, List.getElem?_eq_getElem hk2⟩]
    show some (g _ _) = some (g _ _)
    rw [gi_nat (List.getElem?_eq_getElem hk), gi_nat (List.getElem?_eq_getElem hk2)]
  · rw [List.getElem?_eq_none (by rw [List.length_range]; omega), List.getElem?_eq_none (by rw [List.length_zip]; omega)]
    rfl
theorem dbl_gi {sp : List Conf} {k : Nat} (h : k < sp.length) : gi (dbl sp) (k : Int) = ((gi sp (k : Int)).1, (gi sp (k : Int)).2.map fun r => 2 * r) := by
  have e : (dbl sp)[k]? = some (sp[k].1, sp[k].2.map fun r => 2 * r) := by unfold dbl; rw [List.getElem?_map, List.getElem?_eq_getElem h]; rfl
  rw [gi_nat e, gi_nat (List.getElem?_eq_getElem h)]
def R_law_spot_after (ds : List D) (d : D) : Prop := ∃ (ps : List Pg) (sp : List Conf) (tk : Msg), SaLOk ps sp tk ∧ ds = [.lst (ps.map dPl), dSp sp, dMs tk] ∧ d = dSaL (safterN ps sp tk.1 (lnN tk))
theorem ok_law_spot_after (Bl : Blt mg) (F : Dfn K mg "_law_spot_after" s_law_spot_after ["_law_several", "_law_spot", "_law_taken"]) (c1 : Cal P w K mg base T 2 "_law_step" ["_law_plan_here", "_law_place", "_law_message"] R_law_step) (c2 : Cal P w K mg base T 1 "_law_ranked_places" ["_law_places"] R_law_ranked_places) :
    Cal P w K mg base T 3 "_law_spot_after" ["_law_several", "_law_spot", "_law_taken"] R_law_spot_after := by
  refine cal_D F sc_law_spot_after (fun ds d h => ?_) fun f cdv A outer s H G E ds d hr h => ?_
  · obtain ⟨ps, sp, tk, _, rfl, _⟩ := h; rfl
  · obtain ⟨ps, sp, tk, S, rfl, rfl⟩ := h
    have pl := S.pl
    have pe := S.pe
    have nl := S.nl
    have dl : (dbl sp).length = sp.length := by unfold dbl; rw [List.length_map]
    have hdb : ∀ c ∈ dbl sp, c.2.Nodup := by
      intro c hc
      unfold dbl at hc
      obtain ⟨c0, h0, rfl⟩ := List.mem_map.mp hc
      exact List.pairwise_map.mpr ((S.nd c0 h0).imp fun ne e => ne (by omega))
    have cl : ∀ c ∈ sp, c.2.length < 63 := fun c hc => by
      have h1 := len_in (show (c.1, c.2.map fun r => 2 * r) ∈ dbl sp from List.mem_map.mpr ⟨c, hc, rfl⟩)
      rw [List.length_map] at h1
      omega
    have tl : ∀ k, (nums ((dbl sp).take k)).length ≤ (nums (dbl sp)).length := fun k => by
      conv => rhs; rw [← List.take_append_drop k (dbl sp)]
      unfold nums
      rw [List.flatMap_append, List.length_append]
      omega
    have tm : ∀ {X : Cx} {B : Bs} {ρ : List Sl} {a : Expr}, PE X a (tD X.K B ρ (dMs tk)) → ∀ {p1 p2 : Pos} {jj : Nat}, PE X (.Subscript a (.Constant (.int 1) jj p1) p2) (tD X.K B ρ (.int tk.2)) := fun h => je_ixT (xs := [.str tk.1, .int tk.2]) h je_int rfl
    refine jss_cons (js_set 3 (je_ls ja_nil) sc_law_spot_after.nd) ?_
    refine jss_cons (js_forF (xs := sp) (em := dCf) (fun z : List Int => [.da (.lst (ps.map dPl)), .da (dSp sp), .da (dMs tk), .da (.lst (z.map D.int)), .un, .un, .un, .un, .un, .un, .un, .un, .un, .un]) (fun z c => numF z (c.1, c.2.map fun r => 2 * r)) (NumI (dbl sp)) [] PassesOwn.never rfl
      (ji_tup (je_var 1 rfl)) (gok_name 4) (pg_name (i := 4) sc_law_spot_after.nd rfl (by first | exact .inl rfl | exact .inr rfl)) (fun _ _ => trivial) ⟨List.nodup_nil, fun x => Iff.rfl, Nat.le_refl _⟩ (fun k z c h I => numI_step hdb k z _ (by unfold dbl; rw [List.getElem?_map, h]; rfl) I) (fun k z c hk I => ?_)) ?_
    · have hc := List.mem_of_getElem? hk
      have c64 := cl c hc
      have zl := I.2.2
      have t1 := tl k
      unfold numF
      refine jss_weak (.same (.same (.same (.same (.un (.un (.un (.un (.un (.un (.un (.un (.un (.un .nil)))))))))))))) (jss_one (js_set 3 (PE_eq (je_catL (xs := z.map D.int) (ys := (c.2.filter fun r => !decide (2 * r ∈ z)).map fun r => D.int (2 * r)) ?_ (PE_r (je_var 3 rfl)) (PE_r (je_lc (xs := c.2) (em := D.int) (own := [("_law_rank", 11)]) (fun r => !decide (2 * r ∈ z)) (fun r => D.int (2 * r)) rfl sc_law_spot_after.nd (ji_tup (je_ixT (xs := [.int c.1, dI c.2]) (je_var 4 rfl) je_int rfl)) (blkOk_by (N := N_law_spot_after) (sc := defScope s_law_spot_after) (by decide +kernel)) (gok_name 11) (by simp) (fun _ _ => trivial) (sz24 (by omega))
        (fun s H C cl fp => pg_name (i := 11) sc_law_spot_after.nd rfl (by first | exact .inl rfl | exact .inr rfl)) (fun n j hj s H C cl fp => jts_one (jt_ninL (je_mul (cmull (by decide) (by decide)) je_int (je_var 11 rfl)) (PE_r (je_var 3 rfl)))) (fun n j hj hp s H C cl fp => je_mul (cmull (by decide) (by decide)) je_int (je_var 11 rfl))))) ?_) sc_law_spot_after.nd))
      · rw [List.length_map, List.length_map]
        have := List.length_filter_le (fun r => !decide (2 * r ∈ z)) c.2
        show _ ≤ 2 ^ 24
        omega
      · rw [List.map_append, List.filter_map, List.map_map]
        rfl
    rw [show sp.foldl (fun z c => numF z (c.1, c.2.map fun r => 2 * r)) [] = numsL (dbl sp) by unfold numsL dbl; rw [List.foldl_map]]
    have ksl : (saKs sp).length < 63 := Nat.lt_of_le_of_lt (asc_len_le _) nl
    refine jss_cons (js_set 3 (d := .lst ((saKs sp).map D.int)) (PE_eq (je_sortedI rfl Bl.sorted (PE_r (je_var 3 rfl))) (by rw [srt_nums hdb]; rfl)) sc_law_spot_after.nd) ?_
    refine jss_cons (js_set 5 (d := .int (lnN tk)) (je_add (je_sub (je_mul (cmull (by decide) (by decide)) je_int (je_fdiv ⟨by decide, by decide⟩ (tm (je_var 2 rfl)) je_int)) je_int) (je_mod (by decide) (tm (je_var 2 rfl)) je_int)) sc_law_spot_after.nd) ?_
    have m0 : 0 ≤ tk.2 % 2 := Int.emod_nonneg _ (by decide)
    have m1 : tk.2 % 2 < 2 := Int.emod_lt_of_pos _ (by decide)
    refine jss_cons (js_set 6 (d := .lst ((asc (saKs sp ++ [lnN tk])).map D.int)) (PE_eq (je_sortedI (ns := saKs sp ++ [lnN tk].take (1 - tk.2 % 2).toNat) rfl Bl.sorted (PE_r (PE_eq (je_catL (xs := (saKs sp).map D.int) (ys := ([lnN tk].take (1 - tk.2 % 2).toNat).map D.int) ?_ (PE_r (je_var 3 rfl)) (PE_r (PE_eq (je_slL (u := some (1 - tk.2 % 2)) (PE_r (je_ls (ja_one (je_var 5 rfl)))) jo_none (jo_some (je_sub je_int (je_mod (by decide) (tm (je_var 2 rfl)) je_int)))) ?_))) ?_))) (by rw [known_eq (ks := saKs sp) (asc_pw _) m0 m1 S.od S.ev])) sc_law_spot_after.nd) ?_
    · rw [List.length_map, List.length_map, List.length_take]
      show (saKs sp).length + min _ 1 ≤ 2 ^ 24
      omega
    · rw [cutD_take _ _ (by omega), List.map_take]
      rfl
    · rw [← List.map_append]
    refine jss_cons (js_setL 7 (Nat.zero_le _) ja_nil sc_law_spot_after.nd) ?_
    refine jss_cons (js_setL 8 (Nat.zero_le _) ja_nil sc_law_spot_after.nd) ?_
    have knl : (asc (saKs sp ++ [lnN tk])).length < 1000 := by
      have := asc_len_le (saKs sp ++ [lnN tk])
      rw [List.length_append] at this
      have e : [lnN tk].length = 1 := rfl
      omega
    refine jss_cons (js_forF (xs := List.range ps.length) (em := fun i : Nat => D.int (i : Int)) (fun z : List (Conf × List O3) => [.da (.lst (ps.map dPl)), .da (dSp sp), .da (dMs tk), .da (.lst ((saKs sp).map D.int)), .un, .da (.int (lnN tk)), .da (.lst ((asc (saKs sp ++ [lnN tk])).map D.int)), .ow (lstK K ((z.map (·.1)).map dCf)), .ow (lstK K ((z.map (saOutN sp (lnN tk))).map dOu)), .un, .un, .un, .un, .un])
      (fun z (k : Nat) => z ++ [stepV (gi ps (k : Int)) (gi (dbl sp) (k : Int)) (tk.1, lnN tk)]) (fun k z => z.length = k) [] PassesOwn.never rfl (ji_range (n := ps.length) (by omega) rfl Bl.range (PE_eq (je_lenL rfl Bl.len (PE_r (je_var 0 rfl))) (by rw [List.length_map]))) (gok_name 9) (pg_name (i := 9) sc_law_spot_after.nd rfl (by first | exact .inl rfl | exact .inr rfl)) (fun _ _ => trivial) rfl (fun k z x hx hz => by rw [List.length_append, hz]; rfl) (fun k z i hk hz => ?_)) ?_
    · obtain ⟨rfl, hkn⟩ := rng_at hk
      have hi2 : i < sp.length := by omega
      have hq : (gi ps (i : Int), gi (dbl sp) (i : Int)) ∈ ps.zip (dbl sp) := by
        have h2 : i < (dbl sp).length := by omega
        rw [gi_nat (List.getElem?_eq_getElem hkn), gi_nat (List.getElem?_eq_getElem h2)]
        exact List.mem_of_getElem? (i := i) (by rw [List.getElem?_zip_eq_some]; exact ⟨List.getElem?_eq_getElem hkn, List.getElem?_eq_getElem h2⟩)
      obtain ⟨⟨n, so, es⟩, ol⟩ := S.so _ hq
      simp only [] at so es ol
      have dg := dbl_gi hi2
      have hcm := gi_mem (xs := sp) (i := (i : Int)) (by omega) (by omega)
      have c64 := cl _ hcm
      have spk : ∀ {X : Cx} {B : Bs} {ρ : List Sl} {a b : Expr} {p1 : Pos}, PE X a (tD X.K B ρ (dSp sp)) → PE X b (tD X.K B ρ (.int (i : Int))) → PlainIx b → PE X (.Subscript a b p1) (tD X.K B ρ (dCf (gi sp (i : Int)))) := fun ha hb hs => je_ixT ha hb (atI_gi (em := dCf) (by omega) (by omega)) hs
      refine jss_cons (js_asg (d := dResL (stepV (gi ps (i : Int)) (gi (dbl sp) (i : Int)) (tk.1, lnN tk))) (gok_lstU [4, 10]) ⟨_, rfl, rfl⟩ (PE_eq (je_fn c1 hr (by decide) rfl ⟨gi ps (i : Int), gi (dbl sp) (i : Int), (tk.1, lnN tk), n, so, rfl, rfl⟩ (ja_cons (je_ixL (PE_r (je_var 0 rfl)) (je_var 9 rfl) (atI_gi (em := dPl) (by omega) (by omega))) (ja_cons (PE_eq (d := dCf ((gi sp (i : Int)).1, (gi sp (i : Int)).2.map fun r => 2 * r)) (je_tp (ja_cons (je_ixT (xs := [.int (gi sp (i : Int)).1, dI (gi sp (i : Int)).2]) (spk (je_var 1 rfl) (je_var 9 rfl) (fun _ _ => rfl)) je_int rfl) (ja_one (je_tupL rfl Bl.tuple (PE_r (PE_eq (je_lc0 (xs := (gi sp (i : Int)).2) (em := D.int) (own := [("_law_rank", 11)]) (fun r => .int (2 * r)) rfl sc_law_spot_after.nd (ji_tup (je_ixT (xs := [.int (gi sp (i : Int)).1, dI (gi sp (i : Int)).2]) (spk (je_var 1 rfl) (je_var 9 rfl) (fun _ _ => rfl)) je_int rfl)) (blkOk_by (N := N_law_spot_after) (sc := defScope s_law_spot_after) (by decide +kernel)) (gok_name 11) (by simp) (fun _ _ => trivial) (sz24 (by omega))
        (fun s H C cl fp => pg_name (i := 11) sc_law_spot_after.nd rfl (by first | exact .inl rfl | exact .inr rfl)) (fun n j hj s H C cl fp => je_mul (cmull (by decide) (by decide)) je_int (je_var 11 rfl))) (by rw [List.map_map]; rfl))))))) (by rw [dg])) (ja_one (je_tp (ja_cons (je_ixT (xs := [.str tk.1, .int tk.2]) (je_var 2 rfl) je_int rfl) (ja_one (je_var 5 rfl)))))))) (by rw [es])) (pgL2 4 10 rfl sc_law_spot_after.nd)) ?_
      generalize stepV (gi ps (i : Int)) (gi (dbl sp) (i : Int)) (tk.1, lnN tk) = r at ol ⊢
      have e1 : ((z ++ [r]).map (·.1)).map dCf = (z.map (·.1)).map dCf ++ [dCf r.1] := by rw [List.map_append, List.map_append]; rfl
      have e2 : ((z ++ [r]).map (saOutN sp (lnN tk))).map dOu = (z.map (saOutN sp (lnN tk))).map dOu ++ [dOu (saOutN sp (lnN tk) r)] := by rw [List.map_append, List.map_append]; rfl
      show PSs _ _ (tS _ _ _ _ (.nx [_, _, _, _, _, _, _, .ow (lstK K (((z ++ [r]).map (·.1)).map dCf)), .ow (lstK K (((z ++ [r]).map (saOutN sp (lnN tk))).map dOu)), _, _, _, _, _]))
      rw [e1, e2]
      refine jss_cons (js_app 7 rfl (by rw [List.length_map, List.length_map, hz]; show i < 2 ^ 24; omega) (je_var 4 rfl)) ?_
      refine jss_weak (.same (.same (.same (.same (.un (.same (.same (.same (.same (.un (.un (.un (.un (.un .nil)))))))))))))) (jss_one (js_app 8 rfl (by rw [List.length_map, List.length_map, hz]; show i < 2 ^ 24; omega) (je_tupL rfl Bl.tuple (PE_r (PE_eq (je_lc0 (xs := r.2) (em := dO3) (own := [("_law_t", 12)]) (fun o => dO3 (o.1, o.2.1, posIn (asc (saKs sp ++ [lnN tk])) o.2.2)) rfl sc_law_spot_after.nd (ji_tup (je_var 10 rfl)) (blkOk_by (N := N_law_spot_after) (sc := defScope s_law_spot_after) (by decide +kernel)) (gok_name 12) (by simp) (fun _ _ => trivial) (sz24 ol)
        (fun s H C cl fp => pg_name (i := 12) sc_law_spot_after.nd rfl (by first | exact .inl rfl | exact .inr rfl)) (fun m o ho s H C cl fp => ?_)) (by unfold saOutN; rw [List.map_map]; rfl))))))
      refine je_tp (ja_cons (je_ixT (d := .str o.1) (xs := [.str o.1, .str o.2.1, .int o.2.2]) (je_var 12 rfl) je_int rfl) (ja_cons (je_ixT (d := .str o.2.1) (xs := [.str o.1, .str o.2.1, .int o.2.2]) (je_var 12 rfl) je_int rfl) (ja_one (PE_eq (je_lenL rfl Bl.len (PE_r (je_lc (xs := asc (saKs sp ++ [lnN tk])) (em := D.int) (own := [("_law_n", 13)]) (fun x => decide (x < o.2.2)) D.int rfl sc_law_spot_after.nd (ji_list (je_var 6 rfl)) (blkOk_by (by kernel_rfl)) (gok_name 13) (by simp) (fun _ _ => trivial) (sz24 knl)
        (fun s H C cl fp => pg_name (i := 13) sc_law_spot_after.nd rfl (by first | exact .inl rfl | exact .inr rfl)) (fun n j hj s H C cl fp => jts_one (jt_lt (je_var 13 rfl) (je_ixT (d := .int o.2.2) (xs := [.str o.1, .str o.2.1, .int o.2.2]) (je_var 12 rfl) je_int rfl))) (fun n j hj hp s H C cl fp => je_var 13 rfl)))) (by rw [List.length_map]; rfl)))))
    · rw [foldl_snoc (fun k : Nat => stepV (gi ps (k : Int)) (gi (dbl sp) (k : Int)) (tk.1, lnN tk)), List.nil_append, range_zip (by omega) (fun p c => stepV p c (tk.1, lnN tk))]
      change PSs _ _ (tS _ _ _ [_, _, _, _, _, _, _, .ow (lstK K (((saResN ps sp tk.1 (lnN tk)).map (·.1)).map dCf)), .ow (lstK K (((saResN ps sp tk.1 (lnN tk)).map (saOutN sp (lnN tk))).map dOu)), _, _, _, _, _] _)
      refine jss_freeze 7 rfl (jss_freeze 8 rfl (jss_one (js_ret (je_ls (ja_cons (je_fn c2 hr (by decide) rfl ⟨(saResN ps sp tk.1 (lnN tk)).map (·.1), ?_, S.rl, S.rd, rfl, rfl⟩ (ja_one (je_var 7 rfl))) (ja_one (je_var 8 rfl)))))))
      unfold saResN
      rw [List.length_map, List.length_map, List.length_zip]
      omega
end MM
end
section
set_option Elab.async false
set_option linter.all false
set_option maxRecDepth 100000
set_option maxHeartbeats 4000000
namespace MM
open PySem PySem.Spec PyProof.Rows L2 NdefX DL
variable {P : Program} {w : World} {K : PySem.W.Frag} {mg : PySem.Str → Option Value} {base : Heap} {T : List NTab} {CS CP CT : Addr}
/-! ### law_entries -/
def eRow (ns : List Int) : List Int := rowV (cellV ns 1) 40
def eBase (ns : List Int) (names : List St) : Pg := planV (cellV ns 2) names
def ePg (ns : List Int) (names : List St) (k : Nat) : Pg := if gi (eRow ns) (1 + (k : Int)) % 4 = 0 then sameV (planV (cellV ns 3 + k) names) (eBase ns names) else sideV (eBase ns names) (cellV ns 3 / (1 + 840 * (k : Int)) + 7 * k)
def eN1 (ns : List Int) : Nat := (1 + gi (eRow ns) 0 % 3).toNat
def eN2 (ns : List Int) : Nat := (1 + gi (eRow ns) 5 % 3).toNat
def entA (ns : List Int) (names : List St) : List Ent := (List.range (eN1 ns)).foldl (fun z k => z ++ [Ent.pg (ePg ns names k)]) [Ent.pg (eBase ns names)]
def mgT (r : List Int) (k : Nat) (s : Nat) : Int × Int × Int := (gi r (6 + 3 * (k : Int)) % s, gi r (7 + 3 * (k : Int)) % s, gi r (8 + 3 * (k : Int)) % s)
def mgV (r : List Int) (k : Nat) (s : Nat) : Int × Int × Int := if 0 < gi r (20 + (k : Int)) % 3 ∧ 2 < (s : Int) then (0, 1, 2 + gi r (8 + 3 * (k : Int)) % ((s : Int) - 2)) else mgT r k s
def entM (t : Int × Int × Int) : Ent := .mg t.1 t.2.1 t.2.2
def entB (r : List Int) (z : List Ent) (k : Nat) : List Ent := z ++ [entM (mgV r k z.length)]
def entV (ns : List Int) (names : List St) : List Ent := (List.range (eN2 ns)).foldl (entB (eRow ns)) (entA ns names)
def d3 (t : Int × Int × Int) : D := .tup [.int t.1, .int t.2.1, .int t.2.2]
def R_law_entries (ds : List D) (d : D) : Prop := ∃ (ns : List Int) (names : List St), NmOk names ∧ SideOk (eBase ns names) ∧ ds = [.scr ns, .lst (names.map D.str)] ∧ d = .lst ((entV ns names).map dLe)
theorem ok_law_entries (Bl : Blt mg) (F : Dfn K mg "_law_entries" s_law_entries ["_law_script", "_law_names_here"]) (c1 : Cal P w K mg base T 1 "_law_cell" ["_law_script", "_law_k"] R_law_cell) (c2 : Cal P w K mg base T 1 "_law_row" ["_law_cell_here", "_law_count"] R_law_row) (c3 : Cal P w K mg base T 3 "_law_plan" ["_law_cell_here", "_law_names_here"] R_law_plan)
    (c4 : Cal P w K mg base T 1 "_law_same_face" ["_law_plan_here", "_law_base"] R_law_same_face) (c5 : Cal P w K mg base T 2 "_law_side" ["_law_plan_here", "_law_cell_here"] R_law_side) : Cal P w K mg base T 4 "_law_entries" ["_law_script", "_law_names_here"] R_law_entries := by
  refine cal_D F sc_law_entries (fun ds d h => ?_) fun f cdv A outer s H G E ds d hr h => ?_
  · obtain ⟨ns, names, _, _, rfl, _⟩ := h; rfl
  · obtain ⟨ns, names, O, Sd, rfl, rfl⟩ := h
    have rl : (eRow ns).length = 40 := rowV_len _ _
    have m3 : ∀ x : Int, 0 ≤ x % 3 ∧ x % 3 < 3 := fun x => ⟨Int.emod_nonneg _ (by decide), Int.emod_lt_of_pos _ (by decide)⟩
    have g0 := m3 (gi (eRow ns) 0)
    have g5 := m3 (gi (eRow ns) 5)
    have n1 : ((eN1 ns : Nat) : Int) = 1 + gi (eRow ns) 0 % 3 := by unfold eN1; omega
    have n2 : ((eN2 ns : Nat) : Int) = 1 + gi (eRow ns) 5 % 3 := by unfold eN2; omega
    have rx : ∀ {X : Cx} {B : Bs} {ρ : List Sl} {a b : Expr} {pos : Pos} {k : Int}, 0 ≤ k → k < 40 → PE X a (tD X.K B ρ (dRow (eRow ns))) → PE X b (tD X.K B ρ (.int k)) → PlainIx b → PE X (.Subscript a b pos) (tD X.K B ρ (.int (gi (eRow ns) k))) := fun k0 k1 ha hb hs => je_ixL (PE_r ha) hb (atI_gi (em := D.int) k0 (by omega)) hs
    refine jss_cons (js_set 2 (d := dRow (eRow ns)) (je_fn c2 hr (by decide) rfl ⟨cellV ns 1, 40, by decide, rfl, rfl⟩ (ja_cons (je_fn c1 hr (by decide) rfl ⟨ns, 1, rfl, rfl⟩ (ja_cons (je_var 0 rfl) (ja_one je_int))) (ja_one je_int))) sc_law_entries.nd) ?_
    refine jss_cons (js_set 3 (d := dPl (eBase ns names)) (je_fn c3 hr (by decide) rfl ⟨cellV ns 2, names, O, rfl, rfl⟩ (ja_cons (je_fn c1 hr (by decide) rfl ⟨ns, 2, rfl, rfl⟩ (ja_cons (je_var 0 rfl) (ja_one je_int))) (ja_one (je_var 1 rfl)))) sc_law_entries.nd) ?_
    refine jss_cons (js_setL 4 (ds := [dPl (eBase ns names)]) (Nat.le_of_ble_eq_true rfl) (ja_one (je_var 3 rfl)) sc_law_entries.nd) ?_
    refine jss_cons (js_forF (xs := List.range (eN1 ns)) (em := fun i : Nat => D.int (i : Int)) (fun z : List Ent => [.da (.scr ns), .da (.lst (names.map D.str)), .da (dRow (eRow ns)), .da (dPl (eBase ns names)), .ow (lstK K (z.map dLe)), .un, .un, .un]) (fun z k => z ++ [Ent.pg (ePg ns names k)]) (fun k z => z.length = 1 + k) [Ent.pg (eBase ns names)] PassesOwn.never rfl
      (ji_range (n := eN1 ns) (by omega) rfl Bl.range (PE_eq (je_add je_int (je_mod (by decide) (rx (by decide) (by decide) (je_var 2 rfl) je_int (fun _ _ => rfl)) je_int)) (by rw [n1]))) (gok_name 5) (pg_name (i := 5) sc_law_entries.nd rfl (by first | exact .inl rfl | exact .inr rfl)) (fun _ _ => trivial) rfl (fun k z x hx h1 => by rw [List.length_append, h1]; rfl) (fun k z i hk h1 => ?_)) ?_
    · obtain ⟨rfl, hkn⟩ := rng_at hk
      have e : (z ++ [Ent.pg (ePg ns names i)]).map dLe = z.map dLe ++ [dPl (ePg ns names i)] := by rw [List.map_append]; rfl
      show PSs _ _ (tS _ _ _ _ (.nx [_, _, _, _, .ow (lstK K ((z ++ [Ent.pg (ePg ns names i)]).map dLe)), _, _, _]))
      rw [e]
      have hz : (z.map dLe).length < sizeLine := by rw [List.length_map, h1]; show 1 + i < 2 ^ 24; omega
      refine jss_weak (ρ1 := [.da (.scr ns), .da (.lst (names.map D.str)), .da (dRow (eRow ns)), .da (dPl (eBase ns names)), .ow (lstK K (z.map dLe ++ [dPl (ePg ns names i)])), .da (.int (i : Int)), .un, .un]) (.same (.same (.same (.same (.same (.un (.un (.un .nil)))))))) (jss_one (js_if (k := decide (gi (eRow ns) (1 + (i : Int)) % 4 = 0)) (jt_eqI (je_mod (by decide) (rx (by omega) (by omega) (je_var 2 rfl) (je_add je_int (je_var 5 rfl)) (fun _ _ => rfl)) je_int) je_int) (fun hc => ?_) (fun hc => ?_)))
      · have hc := of_decide_eq_true hc
        unfold ePg
        rw [if_pos hc]
        exact jss_one (js_app 4 rfl hz (je_fn c4 hr (by decide) rfl ⟨planV (cellV ns 3 + i) names, eBase ns names, rfl, rfl⟩ (ja_cons (je_fn c3 hr (by decide) rfl ⟨cellV ns 3 + i, names, O, rfl, rfl⟩ (ja_cons (je_add (je_fn c1 hr (by decide) rfl ⟨ns, 3, rfl, rfl⟩ (ja_cons (je_var 0 rfl) (ja_one je_int))) (je_var 5 rfl)) (ja_one (je_var 1 rfl)))) (ja_one (je_var 3 rfl)))))
      · have hc := of_decide_eq_false hc
        unfold ePg
        rw [if_neg hc]
        exact jss_one (js_app 4 rfl hz (je_fn c5 hr (by decide) rfl ⟨eBase ns names, cellV ns 3 / (1 + 840 * (i : Int)) + 7 * i, Sd, rfl, rfl⟩ (ja_cons (je_var 3 rfl) (ja_one (je_add (je_fdiv (j := 1 + 840 * (i : Int)) ⟨by omega, by omega⟩ (je_fn c1 hr (by decide) rfl ⟨ns, 3, rfl, rfl⟩ (ja_cons (je_var 0 rfl) (ja_one je_int))) (je_add je_int (je_mul (cmull (by decide) (by decide)) je_int (je_var 5 rfl)))) (je_mul (cmull (by decide) (by decide)) je_int (je_var 5 rfl)))))))
    have la : (entA ns names).length = 1 + eN1 ns := by
      unfold entA
      rw [foldl_snoc (fun k => Ent.pg (ePg ns names k)), List.length_append, List.length_map, List.length_range]
      rfl
    change PSs _ _ (tS _ _ _ [_, _, _, _, .ow (lstK K ((entA ns names).map dLe)), _, _, _] _)
    refine jss_cons (js_forF (xs := List.range (eN2 ns)) (em := fun i : Nat => D.int (i : Int)) (fun z : List Ent => [.da (.scr ns), .da (.lst (names.map D.str)), .da (dRow (eRow ns)), .da (dPl (eBase ns names)), .ow (lstK K (z.map dLe)), .un, .un, .un]) (entB (eRow ns)) (fun k z => z.length = 1 + eN1 ns + k) (entA ns names) PassesOwn.never rfl
      (ji_range (n := eN2 ns) (by omega) rfl Bl.range (PE_eq (je_add je_int (je_mod (by decide) (rx (by decide) (by decide) (je_var 2 rfl) je_int (fun _ _ => rfl)) je_int)) (by rw [n2]))) (gok_name 5) (pg_name (i := 5) sc_law_entries.nd rfl (by first | exact .inl rfl | exact .inr rfl)) (fun _ _ => trivial) la (fun k z x hx h1 => by unfold entB; rw [List.length_append, h1]; rfl) (fun k z i hk h1 => ?_)) ?_
    · obtain ⟨rfl, hkn⟩ := rng_at hk
      have e : (entB (eRow ns) z i).map dLe = z.map dLe ++ [d3 (mgV (eRow ns) i z.length)] := by unfold entB; rw [List.map_append]; rfl
      show PSs _ _ (tS _ _ _ _ (.nx [_, _, _, _, .ow (lstK K ((entB (eRow ns) z i).map dLe)), _, _, _]))
      rw [e]
      have hz : (z.map dLe).length < sizeLine := by rw [List.length_map, h1]; show _ < 2 ^ 24; omega
      have zp : 0 < (z.length : Int) := by omega
      have ix : ∀ {X : Cx} {B : Bs} {ρ : List Sl} {a b : Expr} {pos : Pos} {m : Int}, 0 ≤ m → m ≤ 20 → PE X a (tD X.K B ρ (dRow (eRow ns))) → PE X b (tD X.K B ρ (.int (m + 3 * (i : Int)))) → PlainIx b → PE X (.Subscript a b pos) (tD X.K B ρ (.int (gi (eRow ns) (m + 3 * (i : Int))))) := fun m0 m1 ha hb hs => rx (by omega) (by omega) ha hb hs
      refine jss_cons (js_set 6 (d := .int (z.length : Int)) (PE_eq (je_lenL rfl Bl.len (jr_own 4 rfl)) (by rw [List.length_map])) sc_law_entries.nd) ?_
      refine jss_cons (js_set 7 (d := d3 (mgT (eRow ns) i z.length)) (je_tp (ja_cons (je_mod zp (ix (by decide) (by decide) (je_var 2 rfl) (je_add je_int (je_mul (cmull (by decide) (by decide)) je_int (je_var 5 rfl))) (fun _ _ => rfl)) (je_var 6 rfl)) (ja_cons (je_mod zp (ix (by decide) (by decide) (je_var 2 rfl) (je_add je_int (je_mul (cmull (by decide) (by decide)) je_int (je_var 5 rfl))) (fun _ _ => rfl)) (je_var 6 rfl)) (ja_one (je_mod zp (ix (by decide) (by decide) (je_var 2 rfl) (je_add je_int (je_mul (cmull (by decide) (by decide)) je_int (je_var 5 rfl))) (fun _ _ => rfl)) (je_var 6 rfl)))))) sc_law_entries.nd) ?_
      refine jss_ife (ρ1 := [.da (.scr ns), .da (.lst (names.map D.str)), .da (dRow (eRow ns)), .da (dPl (eBase ns names)), .ow (lstK K (z.map dLe)), .da (.int (i : Int)), .da (.int (z.length : Int)), .da (d3 (mgV (eRow ns) i z.length))]) (k := decide (0 < gi (eRow ns) (20 + (i : Int)) % 3) && decide (2 < (z.length : Int)))
        (jw_and (jt_gt (je_mod (by decide) (rx (by omega) (by omega) (je_var 2 rfl) (je_add je_int (je_var 5 rfl)) (fun _ _ => rfl)) je_int) je_int) fun _ => jw_and1 (jt_gt (je_var 6 rfl) je_int)).pt (fun hc => ?_) (fun hc => ?_) ?_
      · have hc : 0 < gi (eRow ns) (20 + (i : Int)) % 3 ∧ 2 < (z.length : Int) := by simpa using hc
        unfold mgV
        rw [if_pos hc]
        exact jss_one (js_set 7 (d := d3 (0, 1, 2 + gi (eRow ns) (8 + 3 * (i : Int)) % ((z.length : Int) - 2))) (je_tp (ja_cons je_int (ja_cons je_int (ja_one (je_add je_int (je_mod (by omega) (ix (by decide) (by decide) (je_var 2 rfl) (je_add je_int (je_mul (cmull (by decide) (by decide)) je_int (je_var 5 rfl))) (fun _ _ => rfl)) (je_sub (je_var 6 rfl) je_int))))))) sc_law_entries.nd)
      · have hc : ¬ (0 < gi (eRow ns) (20 + (i : Int)) % 3 ∧ 2 < (z.length : Int)) := by
          rintro ⟨a, b⟩
          rw [decide_eq_true a, decide_eq_true b] at hc
          cases hc
        unfold mgV
        rw [if_neg hc]
        exact jss_nil
      · exact jss_weak (.same (.same (.same (.same (.same (.un (.un (.un .nil)))))))) (jss_one (js_app 4 rfl hz (je_var 7 rfl)))
    · exact jss_freeze 4 rfl (jss_one (js_ret (je_var 4 rfl)))
end MM
end
section
set_option Elab.async false
set_option linter.all false
set_option maxRecDepth 100000
set_option maxHeartbeats 4000000
namespace MM
open PySem PySem.Spec PyProof.Rows L2 NdefX DL
variable {P : Program} {w : World} {K : PySem.W.Frag} {mg : PySem.Str → Option Value} {base : Heap} {T : List NTab} {CS CP CT : Addr}
/-! ### law_search -/
abbrev LE := List Conf × List Msg
def dLK (e : LE) : D := .lst [dSp e.1, .tup (e.2.map dMs)]
def extLF (ps : List Pg) (e : LE) (kept : List LE) (tk : Msg) : List LE := if (safterV ps e.1 tk).1 ∈ kept.map (·.1) then kept else kept ++ [((safterV ps e.1 tk).1, e.2 ++ [tk])]
def extL (ps : List Pg) (e : LE) (kept : List LE) (tks : List Msg) : List LE := tks.foldl (extLF ps e) kept
abbrev SRes := List LE ⊕ (List Msg × Nat)
def trnL (ps : List Pg) (names : List St) (mark : List (List O3) → Bool) (z : List LE) (a : Nat) : SRes :=
  if a < z.length then
    match (stepsV names (gi z (a : Int)).1).find? fun tk => mark (safterV ps (gi z (a : Int)).1 tk).2 with
    | some tk => .inr ((gi z (a : Int)).2 ++ [tk], z.length)
    | none => .inl (extL ps (gi z (a : Int)) z (stepsV names (gi z (a : Int)).1))
  else .inl z
def runE {S R α : Type} (stp : S → α → S ⊕ R) : S → List α → S ⊕ R
  | z, [] => .inl z
  | z, x :: xs => match stp z x with
    | .inl z' => runE stp z' xs
    | .inr o => .inr o
def srchL (ps : List Pg) (names : List St) (mark : List (List O3) → Bool) (most : Nat) : SRes := runE (trnL ps names mark) [(firstS ps, [])] (List.range most)
def dFnd (r : List Msg × Nat) : D := .lst [.bl true, .tup (r.1.map dMs), .int (r.2 : Int)]
def dLS (most : Nat) : SRes → D
  | .inl z => .lst [.bl (decide ((z.length : Int) ≤ (most : Int))), .non, .int (z.length : Int)]
  | .inr r => dFnd r
def outS' : SRes → List LE ⊕ Out
  | .inl z => .inl z
  | .inr r => .inr (.rt (dFnd r))
theorem runL_runE (stp : List LE → Nat → SRes) : ∀ (xs : List Nat) (z : List LE), runL (fun z x => outS' (stp z x)) z xs = outS' (runE stp z xs)
  | [], z => rfl
  | x :: xs, z => by
    rw [runL_cons]
    unfold runE
    cases stp z x with
    | inl z' => exact runL_runE stp xs z'
    | inr o => rfl
structure TurnLOk (es : List Ent) (sm : List Int) (ps : List Pg) (names : List St) (sp : List Conf) : Prop where
  sl : sp.length < 1000
  nn : (nums sp).length < 64
  nd : ∀ c ∈ sp, c.2.Nodup
  sa : ∀ tk ∈ stepsV names sp, SaLOk ps sp tk ∧ safterN ps sp tk.1 (lnN tk) = safterV ps sp tk ∧ LMeanOk es sm (safterV ps sp tk).2
structure LSrchOk (es : List Ent) (n o : Nat) (sm : List Int) (ps : List Pg) (names : List St) (Gd : List Conf → Prop) : Prop where
  sml : sm.length < 1000
  ib : ∀ k ∈ sm, 0 ≤ k ∧ k < es.length
  pg : sm.map (gi es) = ps.map Ent.pg
  nl : names.length ≤ 100
  hn : n < es.length
  ho : o < es.length
  g0 : Gd (firstS ps)
  gt : ∀ sp, Gd sp → TurnLOk es sm ps names sp
  gs : ∀ sp tk, Gd sp → tk ∈ stepsV names sp → Gd (safterV ps sp tk).1
theorem mem_spotsL {sp : List Conf} {ks : List LE} : decide ((dSp sp).nk ∈ (ks.map fun k => dSp k.1).map D.nk) = decide (sp ∈ ks.map (·.1)) := by
  rw [Bool.eq_iff_iff]
  simp only [decide_eq_true_eq, List.map_map]
  constructor
  · intro z
    obtain ⟨k, hk, e⟩ := List.mem_map.mp z
    exact List.mem_map.mpr ⟨k, hk, nk_spot e⟩
  · intro z
    obtain ⟨k, hk, e⟩ := List.mem_map.mp z
    exact List.mem_map.mpr ⟨k, hk, by rw [← e]; rfl⟩
def KpI (Gd : List Conf → Prop) (m l : Nat) (z : List LE) : Prop := z.length ≤ m ∧ ∀ e ∈ z, Gd e.1 ∧ e.2.length ≤ l
theorem extLF_ok {ps : List Pg} {names : List St} {Gd : List Conf → Prop} (gs : ∀ sp tk, Gd sp → tk ∈ stepsV names sp → Gd (safterV ps sp tk).1) {e : LE} (he : Gd e.1) {m l : Nat} (hl : e.2.length < l) {z : List LE} (h : KpI Gd m l z) {tk : Msg} (ht : tk ∈ stepsV names e.1) : KpI Gd (m + 1) l (extLF ps e z tk) := by
  unfold extLF
  split
  · exact ⟨Nat.le_succ_of_le h.1, h.2⟩
  · refine ⟨by rw [List.length_append]; exact Nat.succ_le_succ h.1, fun x hx => ?_⟩
    rcases List.mem_append.mp hx with hx | hx
    · exact h.2 x hx
    · rw [List.mem_singleton] at hx
      subst hx
      refine ⟨gs _ _ he ht, ?_⟩
      show (e.2 ++ [tk]).length ≤ l
      rw [List.length_append]
      exact hl
theorem extL_ok {ps : List Pg} {names : List St} {Gd : List Conf → Prop} (gs : ∀ sp tk, Gd sp → tk ∈ stepsV names sp → Gd (safterV ps sp tk).1) {e : LE} (he : Gd e.1) {m l : Nat} (hl : e.2.length < l) {z : List LE} (h : KpI Gd m l z) : KpI Gd (m + (stepsV names e.1).length) l (extL ps e z (stepsV names e.1)) :=
  foldI (f := extLF ps e) (fun k z => KpI Gd (m + k) l z) h fun k z tk hk hz => extLF_ok gs he hl hz (List.mem_of_getElem? hk)
theorem KpI.up {Gd : List Conf → Prop} {m l m' l' : Nat} {z : List LE} (h : KpI Gd m l z) (hm : m ≤ m') (hl : l ≤ l') : KpI Gd m' l' z := ⟨Nat.le_trans h.1 hm, fun e he => ⟨(h.2 e he).1, Nat.le_trans (h.2 e he).2 hl⟩⟩
theorem steps_few {names : List St} {sp : List Conf} (h1 : names.length ≤ 100) (h2 : (nums sp).length < 64) : (stepsV names sp).length ≤ 12900 := by
  have al := asc_len_le (nums sp)
  refine Nat.le_trans (flat_len_le (n := 129) fun x _ => ?_) (Nat.mul_le_mul_right 129 h1)
  rw [List.length_map, List.length_range]
  omega
theorem trnL_ok {es : List Ent} {n o : Nat} {sm : List Int} {ps : List Pg} {names : List St} {Gd : List Conf → Prop} (S : LSrchOk es n o sm ps names Gd) {mark : List (List O3) → Bool} {k : Nat} {z z' : List LE} (h : KpI Gd (1 + k * 12900) k z) (e : trnL ps names mark z k = .inl z') : KpI Gd (1 + (k + 1) * 12900) (k + 1) z' := by
  unfold trnL at e
  split at e
  · next hk =>
    have hm := gi_mem (xs := z) (i := (k : Int)) (by omega) (by omega)
    obtain ⟨g1, g2⟩ := h.2 _ hm
    have sf := steps_few S.nl (S.gt _ g1).nn
    split at e
    · cases e
    · cases e
      exact (extL_ok S.gs g1 (Nat.lt_succ_of_le g2) (h.up (Nat.le_refl _) (Nat.le_succ k))).up (by rw [Nat.succ_mul]; omega) (Nat.le_refl _)
  · cases e
    exact h.up (by rw [Nat.succ_mul]; omega) (Nat.le_succ k)
theorem find_at {α : Type} {p : α → Bool} : ∀ {xs : List α} {x : α}, xs.find? p = some x → ∃ j : Nat, xs[j]? = some x ∧ p x = true ∧ ∀ (i : Nat) (y : α), i < j → xs[i]? = some y → p y = false
  | [], x, h => by cases h
  | a :: xs, x, h => by
    rw [List.find?_cons] at h
    cases ha : p a with
    | true =>
      rw [ha] at h
      cases h
      exact ⟨0, rfl, ha, fun i y hi => absurd hi (Nat.not_lt_zero i)⟩
    | false =>
      rw [ha] at h
      obtain ⟨j, h1, h2, h3⟩ := find_at h
      refine ⟨j + 1, h1, h2, fun i y hi hy => ?_⟩
      cases i with
      | zero => cases hy; exact ha
      | succ i => exact h3 i y (Nat.lt_of_succ_lt_succ hi) hy
theorem zip_item {α : Type} {xs : List α} {i : Nat} {d : D} (hd : (xs.zipIdx.map fun q => D.int (q.2 : Int))[i]? = some d) : ∃ q, q ∈ xs.zipIdx ∧ xs[i]? = some q.1 ∧ d = D.int (q.2 : Int) := by
  rw [List.getElem?_map] at hd
  cases hq : xs.zipIdx[i]? with
  | none => rw [hq] at hd; cases hd
  | some q =>
    rw [hq] at hd
    cases hd
    refine ⟨q, List.mem_of_getElem? hq, ?_, rfl⟩
    rw [List.getElem?_zipIdx] at hq
    cases hx : xs[i]? with
    | none => rw [hx] at hq; cases hq
    | some x => rw [hx] at hq; cases hq; rfl
def foBody (st : Stmt) (i : Nat) : List Stmt := match stAt st i with
  | .For _ _ b _ _ => b
  | _ => []
def ifBody (st : Stmt) : List Stmt := match st with
  | .If _ b _ _ => b
  | _ => []
def lsBody : List Stmt := ifBody ((foBody s_law_search 4).getD 0 (.Pass ⟨0, 0, 0, 0⟩))
def R_law_search (ds : List D) (d : D) : Prop := ∃ (es : List Ent) (n o : Nat) (sm : List Int) (ps : List Pg) (names : List St) (Gd : List Conf → Prop), LSrchOk es n o sm ps names Gd ∧ ds = [.lst (es.map dLe), .lst [.int (n : Int), .int (o : Int)], dRow sm, .lst (names.map D.str), .int ((24 : Nat) : Int)] ∧ d = dLS 24 (srchL ps names (markP es n o sm) 24)
theorem ok_law_search (Bl : Blt mg) (F : Dfn K mg "_law_search" s_law_search ["_law_entries_here", "_law_pair", "_law_some", "_law_names_here", "_law_most"]) (c1 : Cal P w K mg base T 1 "_law_steps" ["_law_names_here", "_law_spot"] R_law_steps) (c2 : Cal P w K mg base T 3 "_law_spot_after" ["_law_several", "_law_spot", "_law_taken"] R_law_spot_after)
    (c3 : Cal P w K mg base T 3 "_law_marked" ["_law_entries_here", "_law_number", "_law_other", "_law_some", "_law_outputs_here"] R_law_marked) : Cal P w K mg base T 4 "_law_search" ["_law_entries_here", "_law_pair", "_law_some", "_law_names_here", "_law_most"] R_law_search := by
  refine cal_D F sc_law_search (fun ds d h => ?_) fun f cdv A outer s H G E ds d hr h => ?_
  · obtain ⟨es, n, o, sm, ps, names, Gd, _, rfl, _⟩ := h; rfl
  obtain ⟨es, n, o, sm, ps, names, Gd, S, rfl, rfl⟩ := h
  have sml := S.sml
  have psl : sm.length = ps.length := by have := congrArg List.length S.pg; rwa [List.length_map, List.length_map] at this
  have e5 : sm.map (fun k => dLe (gi es k)) = ps.map dPl := by
    have := congrArg (List.map dLe) S.pg
    rw [List.map_map, List.map_map] at this
    exact this
  have e6 : sm.map (fun _ => dCf (0, [])) = (firstS ps).map dCf := by
    have := congrArg (List.map fun _ => dCf (0, [])) S.pg
    rw [List.map_map, List.map_map] at this
    unfold firstS
    rw [List.map_map]
    exact this
  let X := (cxOf CX0 P w K mg base N_law_search "_law_search" (defScope s_law_search) f cdv A outer s H E).nox
  let ρs : List LE → List Sl := fun z => [.da (.lst (es.map dLe)), .da (.lst [.int (n : Int), .int (o : Int)]), .da (dRow sm), .da (.lst (names.map D.str)), .da (.int ((24 : Nat) : Int)), .da (.lst (ps.map dPl)), .da (dSp (firstS ps)), .ow (lstK K (z.map dLK)), .ow (ndK K P w (z.map fun e => dSp e.1)), .un, .un, .un, .un, .un, .un]
  let ρa : List LE → Nat → List Sl := fun z a => [.da (.lst (es.map dLe)), .da (.lst [.int (n : Int), .int (o : Int)]), .da (dRow sm), .da (.lst (names.map D.str)), .da (.int ((24 : Nat) : Int)), .da (.lst (ps.map dPl)), .da (dSp (firstS ps)), .ow (lstK K (z.map dLK)), .ow (ndK K P w (z.map fun e => dSp e.1)), .da (.int (a : Int)), .un, .un, .un, .un, .un]
  let ρ9 : List Conf → List LE → Nat → List Sl := fun sp z a => [.da (.lst (es.map dLe)), .da (.lst [.int (n : Int), .int (o : Int)]), .da (dRow sm), .da (.lst (names.map D.str)), .da (.int ((24 : Nat) : Int)), .da (.lst (ps.map dPl)), .da (dSp (firstS ps)), .ow (lstK K (z.map dLK)), .ow (ndK K P w (z.map fun e => dSp e.1)), .da (.int (a : Int)),
    .da (.lst ((stepsV names sp).map dMs)), .da (.lst ((stepsV names sp).map fun tk => dSaL (safterV ps sp tk))), .un, .un, .un]
  have ck : ∀ {X : Cx} {B : Bs} {ρ : List Sl} {e : LE} {a : Expr} {p1 p2 : Pos} {jj : Nat}, PE X a (tD X.K B ρ (dLK e)) → PE X (.Subscript a (.Constant (.int 0) jj p1) p2) (tD X.K B ρ (dSp e.1)) := fun h => je_ixL (PE_r h) je_int rfl
  have ck1 : ∀ {X : Cx} {B : Bs} {ρ : List Sl} {e : LE} {a : Expr} {p1 p2 : Pos} {jj : Nat}, PE X a (tD X.K B ρ (dLK e)) → PE X (.Subscript a (.Constant (.int 1) jj p1) p2) (tD X.K B ρ (.tup (e.2.map dMs))) := fun h => je_ixL (PE_r h) je_int rfl
  -- a turn up to the loops
  have head : ∀ (z : List LE) (a : Nat) (oo : Out), a < z.length → TurnLOk es sm ps names (gi z (a : Int)).1 →
      PSs X (lsBody.drop 2) (tS K ⟨T, G, H⟩ E0 (ρ9 (gi z (a : Int)).1 z a) oo) → PSs X lsBody (tS K ⟨T, G, H⟩ E0 (ρa z a) oo) := by
    intro z a oo ha t hrest
    have sf := steps_few S.nl t.nn
    refine jss_cons (js_set 10 (d := .lst ((stepsV names (gi z (a : Int)).1).map dMs)) (je_fn c1 hr (by decide) rfl ⟨names, (gi z (a : Int)).1, S.nl, t.sl, t.nn, t.nd, rfl, rfl⟩ (ja_cons (je_var 3 rfl) (ja_one (ck (je_ixL (jr_own 7 rfl) (je_var 9 rfl) (atI_gi (em := dLK) (by omega) (by omega))))))) sc_law_search.nd) ?_
    refine jss_cons (js_setLc0 (xs := stepsV names (gi z (a : Int)).1) (em := dMs) (own := [("_law_taken", 14)]) 11 (fun tk => dSaL (safterV ps (gi z (a : Int)).1 tk)) rfl sc_law_search.nd (ji_list (je_var 10 rfl)) (blkOk_by (N := N_law_search) (sc := defScope s_law_search) (by decide +kernel)) (gok_name 14) (by simp) (fun _ _ => trivial) (by show _ ≤ 2 ^ 24; omega)
      (fun s H C cl fp => pg_name (i := 14) sc_law_search.nd rfl (by first | exact .inl rfl | exact .inr rfl)) (fun j tk hj s H C cl fp => ?_) (sw_true rfl rfl rfl (by decide +kernel))) ?_
    · obtain ⟨sa1, sa2, _⟩ := t.sa tk (List.mem_of_getElem? hj)
      rw [← sa2]
      exact je_fn c2 hr (by decide) rfl ⟨ps, (gi z (a : Int)).1, tk, sa1, rfl, rfl⟩ (ja_cons (je_var 5 rfl) (ja_cons (ck (je_ixL (jr_own 7 rfl) (je_var 9 rfl) (atI_gi (em := dLK) (by omega) (by omega)))) (ja_one (je_var 14 rfl))))
    · exact hrest
  have at9 : ∀ {X : Cx} {B : Bs} {ρ : List Sl} {sp : List Conf} {q : Msg × Nat} {e1 e2 : Expr} {po : Pos}, q ∈ (stepsV names sp).zipIdx → PE X e1 (tD X.K B ρ (.lst ((stepsV names sp).map fun tk => dSaL (safterV ps sp tk)))) → PE X e2 (tD X.K B ρ (.int (q.2 : Int))) → PlainIx e2 → PE X (.Subscript e1 e2 po) (tD X.K B ρ (dSaL (safterV ps sp q.1))) :=
    fun hq h1 h2 hs => je_ixL (PE_r h1) h2 (atI_nat (by rw [List.getElem?_map, mem_zipIdx hq]; rfl)) hs
  have iter : ∀ {sp : List Conf} {z : List LE} {a : Nat}, TurnLOk es sm ps names sp → ∀ {tg : Expr} {p1 p2 p3 p4 p5 : Pos}, PI X tg (.Call (.Name "range" p1) [.Call (.Name "len" p2) [.Name "_law_steps_here" p3] [] p4] [] p5) (tI K ⟨T, G, H⟩ (ρ9 sp z a) ((stepsV names sp).zipIdx.map fun q => D.int (q.2 : Int))) := by
    intro sp z a t tg p1 p2 p3 p4 p5
    rw [← rng_zip]
    exact ji_range (by have := steps_few S.nl t.nn; omega) rfl Bl.range (PE_eq (je_lenL rfl Bl.len (PE_r (je_var 10 rfl))) (by rw [List.length_map]))
  -- the test of the first loop
  have test : ∀ {sp : List Conf} {z : List LE} {a : Nat} {q : Msg × Nat}, TurnLOk es sm ps names sp → q ∈ (stepsV names sp).zipIdx → ∀ {p1 p2 p3 p4 p5 p6 p7 p8 p9 q1 q2 q3 q4 q5 q6 : Pos} {j1 j2 j3 : Nat},
      PE X (.Call (.Name "_law_marked" p1) [.Name "_law_entries_here" p2, .Subscript (.Name "_law_pair" p3) (.Constant (.int 0) j1 p4) p5, .Subscript (.Name "_law_pair" p6) (.Constant (.int 1) j2 p7) p8, .Name "_law_some" p9, .Subscript (.Subscript (.Name "_law_behind" q1) (.Name "_law_k" q2) q3) (.Constant (.int 1) j3 q4) q5] [] q6) (tD K ⟨T, G, H⟩ ((ρ9 sp z a).set 12 (.da (.int (q.2 : Int)))) (.bl (markP es n o sm (safterV ps sp q.1).2))) := by
    intro sp z a q t hqm p1 p2 p3 p4 p5 p6 p7 p8 p9 q1 q2 q3 q4 q5 q6 j1 j2 j3
    have htm : q.1 ∈ stepsV names sp := List.mem_of_getElem? (mem_zipIdx hqm)
    obtain ⟨_, _, sa3⟩ := t.sa q.1 htm
    exact je_fn (X := X) c3 hr (by decide) rfl ⟨es, sm, (safterV ps sp q.1).2, n, o, sa3, S.hn, S.ho, rfl, rfl⟩ (ja_cons (je_var 0 rfl) (ja_cons (je_ixL (PE_r (je_var 1 rfl)) je_int rfl) (ja_cons (je_ixL (PE_r (je_var 1 rfl)) je_int rfl) (ja_cons (je_var 2 rfl) (ja_one (je_ixL (PE_r (at9 hqm (je_var 11 rfl) (je_var 12 rfl) (fun _ _ => rfl))) je_int rfl))))))
  have quiet : ∀ (z : List LE) (a : Nat) (oo : Out), TurnLOk es sm ps names (gi z (a : Int)).1 → (∀ tk ∈ stepsV names (gi z (a : Int)).1, markP es n o sm (safterV ps (gi z (a : Int)).1 tk).2 = false) →
      PSs X (lsBody.drop 3) (tS K ⟨T, G, H⟩ E0 (ρ9 (gi z (a : Int)).1 z a) oo) → PSs X (lsBody.drop 2) (tS K ⟨T, G, H⟩ E0 (ρ9 (gi z (a : Int)).1 z a) oo) := by
    intro z a oo t hq hrest
    refine jss_cons (js_forF (S := Unit) (xs := (stepsV names (gi z (a : Int)).1).zipIdx) (em := fun q => D.int (q.2 : Int)) (fun _ => ρ9 (gi z (a : Int)).1 z a) (fun _ _ => ()) (fun _ _ => True) () PassesOwn.never rfl (iter t) (gok_name 12) (pg_name (i := 12) sc_law_search.nd rfl (by first | exact .inl rfl | exact .inr rfl)) (fun _ _ => trivial) trivial (fun _ _ _ _ _ => trivial) (fun j z' q hj _ => ?_)) hrest
    have hqm := List.mem_of_getElem? hj
    have htm : q.1 ∈ stepsV names (gi z (a : Int)).1 := List.mem_of_getElem? (mem_zipIdx hqm)
    refine jss_weak (ρ1 := (ρ9 (gi z (a : Int)).1 z a).set 12 (.da (.int (q.2 : Int)))) (.same (.same (.same (.same (.same (.same (.same (.same (.same (.same (.same (.same (.un (.un (.un .nil))))))))))))))) (jss_one (js_if (k := markP es n o sm (safterV ps (gi z (a : Int)).1 q.1).2) (jt_val (test t hqm)) (fun y => ?_) (fun _ => jss_nil)))
    rw [hq q.1 htm] at y
    cases y
  -- the second loop
  have widen : ∀ (z : List LE) (a : Nat), a < z.length → TurnLOk es sm ps names (gi z (a : Int)).1 → z.length ≤ 400000 → (gi z (a : Int)).2.length ≤ 1000 →
      PS X (lsBody.getD 3 (.Pass ⟨0, 0, 0, 0⟩)) (tS K ⟨T, G, H⟩ E0 (ρ9 (gi z (a : Int)).1 z a) (.nx (ρ9 (gi z (a : Int)).1 (extL ps (gi z (a : Int)) z (stepsV names (gi z (a : Int)).1)) a))) := by
    intro z a ha t hl hpl
    have sf := steps_few S.nl t.nn
    have efold : extL ps (gi z (a : Int)) z (stepsV names (gi z (a : Int)).1) = (stepsV names (gi z (a : Int)).1).zipIdx.foldl (fun z' q => extLF ps (gi z (a : Int)) z' q.1) z := by
      have := List.foldl_map (f := fun q : Msg × Nat => q.1) (g := extLF ps (gi z (a : Int))) (l := (stepsV names (gi z (a : Int)).1).zipIdx) (init := z)
      rw [show (stepsV names (gi z (a : Int)).1).zipIdx.map (fun q : Msg × Nat => q.1) = stepsV names (gi z (a : Int)).1 from List.zipIdx_map_fst 0 _] at this
      exact this
    rw [efold]
    refine js_forF (S := List LE) (xs := (stepsV names (gi z (a : Int)).1).zipIdx) (em := fun q => D.int (q.2 : Int)) (fun z' => ρ9 (gi z (a : Int)).1 z' a) (fun z' q => extLF ps (gi z (a : Int)) z' q.1) (fun k z' => z'.length ≤ z.length + k ∧ ∃ r, z' = z ++ r) z PassesOwn.never rfl (iter t) (gok_name 12) (pg_name (i := 12) sc_law_search.nd rfl (by first | exact .inl rfl | exact .inr rfl)) (fun _ _ => trivial) ⟨Nat.le_refl _, [], by simp⟩ (fun j z' q hj ⟨i1, r, i2⟩ => ?_) (fun j z' q hj ⟨i1, r, i2⟩ => ?_)
    · unfold extLF
      split
      · exact ⟨by omega, r, i2⟩
      · refine ⟨by rw [List.length_append]; show z'.length + 1 ≤ _; omega, r ++ [_], by rw [i2, List.append_assoc]⟩
    · have hqm := List.mem_of_getElem? hj
      have hst := mem_zipIdx hqm
      have hjl := (List.getElem?_eq_some_iff.mp hj).1
      rw [List.length_zipIdx] at hjl
      have ga : gi z' (a : Int) = gi z (a : Int) := by
        rw [i2, gi_nat (List.getElem?_eq_getElem ha), gi_nat (x := z[a]) (by rw [List.getElem?_append_left ha]; exact List.getElem?_eq_getElem ha)]
      have hal : a < z'.length := by rw [i2, List.length_append]; omega
      have b0 : ∀ {X : Cx} {B : Bs} {ρ : List Sl} {e1 e2 : Expr} {po po2 : Pos} {jj : Nat} {p3 : Pos}, PE X e1 (tD X.K B ρ (.lst ((stepsV names (gi z (a : Int)).1).map fun tk => dSaL (safterV ps (gi z (a : Int)).1 tk)))) → PE X e2 (tD X.K B ρ (.int (q.2 : Int))) → PlainIx e2 →
          PE X (.Subscript (.Subscript e1 e2 po) (.Constant (.int 0) jj p3) po2) (tD X.K B ρ (dSp (safterV ps (gi z (a : Int)).1 q.1).1)) := fun h1 h2 hs => je_ixL (PE_r (at9 hqm h1 h2 hs)) je_int rfl
      refine jss_weak (ρ1 := (ρ9 (gi z (a : Int)).1 (extLF ps (gi z (a : Int)) z' q.1) a).set 12 (.da (.int (q.2 : Int)))) (.same (.same (.same (.same (.same (.same (.same (.same (.same (.same (.same (.same (.un (.un (.un .nil))))))))))))))) (jss_one (js_if (PT_eq (jt_ndnotin (ms := z'.map fun e => dSp e.1) 8 hr.units rfl (ky_spot _) ⟨_, rfl⟩ (b0 (je_var 11 rfl) (je_var 12 rfl) (fun _ _ => rfl))) (by rw [mem_spotsL])) (fun hd => ?_) (fun hd => ?_)))
      · have hd' : ¬ (safterV ps (gi z (a : Int)).1 q.1).1 ∈ z'.map (·.1) := by simpa using hd
        have ee : extLF ps (gi z (a : Int)) z' q.1 = z' ++ [((safterV ps (gi z (a : Int)).1 q.1).1, (gi z (a : Int)).2 ++ [q.1])] := by unfold extLF; rw [if_neg hd']
        rw [ee]
        refine jss_cons (js_ndput (ms := z'.map fun e => dSp e.1) (vv := .bl true) 8 hr.units rfl (by rw [List.length_map]; omega) ?_ (ky_spot _) ⟨_, rfl⟩ (b0 (je_var 11 rfl) (je_var 12 rfl) (fun _ _ => rfl)) pe_bl) ?_
        · intro hm
          have := mem_spotsL (sp := (safterV ps (gi z (a : Int)).1 q.1).1) (ks := z')
          rw [decide_eq_true hm] at this
          exact hd' (of_decide_eq_true this.symm)
        have e1 : (z' ++ [((safterV ps (gi z (a : Int)).1 q.1).1, (gi z (a : Int)).2 ++ [q.1])]).map dLK = z'.map dLK ++ [dLK ((safterV ps (gi z (a : Int)).1 q.1).1, (gi z (a : Int)).2 ++ [q.1])] := by rw [List.map_append]; rfl
        have e2 : (z' ++ [((safterV ps (gi z (a : Int)).1 q.1).1, (gi z (a : Int)).2 ++ [q.1])]).map (fun e => dSp e.1) = (z'.map fun e => dSp e.1) ++ [dSp (safterV ps (gi z (a : Int)).1 q.1).1] := by rw [List.map_append]; rfl
        show PSs _ _ (tS _ _ _ _ (.nx [_, _, _, _, _, _, _, .ow (lstK K ((z' ++ [((safterV ps (gi z (a : Int)).1 q.1).1, (gi z (a : Int)).2 ++ [q.1])]).map dLK)), .ow (ndK K P w ((z' ++ [((safterV ps (gi z (a : Int)).1 q.1).1, (gi z (a : Int)).2 ++ [q.1])]).map fun e => dSp e.1)), _, _, _, _, _, _]))
        rw [e1, e2]
        refine jss_one (js_app 7 rfl (by rw [List.length_map]; show z'.length < 2 ^ 24; omega) (je_ls (ja_cons (b0 (je_var 11 rfl) (je_var 12 rfl) (fun _ _ => rfl)) (ja_one (PE_eq (je_catT (xs := (gi z (a : Int)).2.map dMs) (ys := [dMs q.1]) ?_ (ck1 (je_ixL (jr_own 7 rfl) (je_var 9 rfl) (atI_giE (em := dLK) (by omega) (by omega) ga))) (je_tp (ja_one (je_ixL (PE_r (je_var 10 rfl)) (je_var 12 rfl) (atI_nat (by rw [List.getElem?_map, hst]; rfl)))))) (by rw [List.map_append]; rfl))))))
        rw [List.length_map]
        show _ + 1 ≤ 2 ^ 24
        omega
      · have hd' : (safterV ps (gi z (a : Int)).1 q.1).1 ∈ z'.map (·.1) := by simpa using hd
        have ee : extLF ps (gi z (a : Int)) z' q.1 = z' := by unfold extLF; rw [if_pos hd']
        rw [ee]
        exact jss_nil
  -- the start
  have z0 : KpI Gd (1 + 0 * 12900) 0 [(firstS ps, [])] := ⟨by simp, fun e he => by rw [List.mem_singleton] at he; subst he; exact ⟨S.g0, Nat.le_refl _⟩⟩
  refine jss_cons (js_set 5 (d := .lst (ps.map dPl)) (PE_eq (je_lc0 (xs := sm) (em := D.int) (own := [("_law_part", 13)]) (fun k => dLe (gi es k)) rfl sc_law_search.nd (ji_list (je_var 2 rfl)) (blkOk_by (N := N_law_search) (sc := defScope s_law_search) (by decide +kernel)) (gok_name 13) (by simp) (fun _ _ => trivial) (sz24 sml)
      (fun s H C cl fp => pg_name (i := 13) sc_law_search.nd rfl (by first | exact .inl rfl | exact .inr rfl)) (fun j k hj s H C cl fp => je_ixL (PE_r (je_var 0 rfl)) (je_var 13 rfl) (atI_gi (em := dLe) (S.ib k (List.mem_of_getElem? hj)).1 (S.ib k (List.mem_of_getElem? hj)).2))) (by rw [e5])) sc_law_search.nd) ?_
  refine jss_cons (js_set 6 (d := dSp (firstS ps)) (je_tupL rfl Bl.tuple (PE_r (PE_eq (je_lc0 (xs := sm) (em := D.int) (own := [("_law_part", 13)]) (fun _ => dCf (0, [])) rfl sc_law_search.nd (ji_list (je_var 2 rfl)) (blkOk_by (N := N_law_search) (sc := defScope s_law_search) (by decide +kernel)) (gok_name 13) (by simp) (fun _ _ => trivial) (sz24 sml)
      (fun s H C cl fp => pg_name (i := 13) sc_law_search.nd rfl (by first | exact .inl rfl | exact .inr rfl)) (fun j k hj s H C cl fp => je_tp (ja_cons je_int (ja_one (je_tp ja_nil))))) (by rw [e6])))) sc_law_search.nd) ?_
  refine jss_cons (js_setL 7 (ds := [dLK (firstS ps, [])]) (Nat.le_of_ble_eq_true rfl) (ja_one (je_ls (ja_cons (je_var 6 rfl) (ja_one (je_tp ja_nil))))) sc_law_search.nd) ?_
  refine jss_cons (js_nd1 (vv := .bl true) 8 hr.units (je_var 6 rfl) pe_bl (ky_spot _) ⟨_, rfl⟩ sc_law_search.nd) ?_
  have hfor : PS X (stAt s_law_search 4) (tS K ⟨T, G, H⟩ E0 (ρs [(firstS ps, [])]) (outOf ρs (outS' (srchL ps names (markP es n o sm) 24)))) := by
    unfold srchL
    rw [← runL_runE]
    refine js_forR (S := List LE) (xs := List.range 24) (em := fun i : Nat => D.int (i : Int)) ρs (fun z a => outS' (trnL ps names (markP es n o sm) z a)) (fun k z => KpI Gd (1 + k * 12900) k z) [(firstS ps, [])] PassesOwn.never rfl
      (ji_range (n := 24) (by decide) rfl Bl.range (je_var 4 rfl)) (gok_name 9) (pg_name (i := 9) sc_law_search.nd rfl (by first | exact .inl rfl | exact .inr rfl)) (fun _ _ => trivial) z0 (fun k z a z' hk I e => ?_) (fun z a oo e => ?_) (fun k z a hk I => ?_)
    · obtain ⟨rfl, _⟩ := rng_at hk
      cases h : trnL ps names (markP es n o sm) z a with
      | inl z2 => rw [h] at e; cases e; exact trnL_ok S I h
      | inr r => rw [h] at e; cases e
    · cases h : trnL ps names (markP es n o sm) z a with
      | inl z2 => rw [h] at e; cases e
      | inr r => rw [h] at e; cases e; rfl
    · obtain ⟨rfl, hk24⟩ := rng_at hk
      have zl : z.length ≤ 400000 := by have := I.1; omega
      by_cases ha : a < z.length
      · have hm := gi_mem (xs := z) (i := (a : Int)) (by omega) (by omega)
        obtain ⟨g1, g2⟩ := I.2 _ hm
        have t := S.gt _ g1
        have hai : (a : Int) < z.length := by omega
        cases hfd : (stepsV names (gi z (a : Int)).1).find? fun tk => markP es n o sm (safterV ps (gi z (a : Int)).1 tk).2 with
        | none =>
          have et : trnL ps names (markP es n o sm) z a = .inl (extL ps (gi z (a : Int)) z (stepsV names (gi z (a : Int)).1)) := by unfold trnL; rw [if_pos ha, hfd]
          rw [et]
          have hq : ∀ tk ∈ stepsV names (gi z (a : Int)).1, markP es n o sm (safterV ps (gi z (a : Int)).1 tk).2 = false := fun tk htk => by
            have := List.find?_eq_none.mp hfd tk htk
            simpa using this
          refine jss_weak (ρ1 := ρ9 (gi z (a : Int)).1 (extL ps (gi z (a : Int)) z (stepsV names (gi z (a : Int)).1)) a) (.same (.same (.same (.same (.same (.same (.same (.same (.same (.un (.un (.un (.un (.un (.un .nil))))))))))))))) (jss_one (js_if (k := decide ((a : Int) < z.length)) (jt_lt (je_var 9 rfl) (PE_eq (je_lenL rfl Bl.len (jr_own 7 rfl)) (by rw [List.length_map]))) (fun _ => ?_) (fun y => absurd hai (of_decide_eq_false y))))
          exact head z a _ ha t (quiet z a _ t hq (jss_one (widen z a ha t zl (by omega))))
        | some tk =>
          have et : trnL ps names (markP es n o sm) z a = .inr ((gi z (a : Int)).2 ++ [tk], z.length) := by unfold trnL; rw [if_pos ha, hfd]
          rw [et]
          refine jss_one (js_if (k := decide ((a : Int) < z.length)) (jt_lt (je_var 9 rfl) (PE_eq (je_lenL rfl Bl.len (jr_own 7 rfl)) (by rw [List.length_map]))) (fun _ => ?_) (fun y => absurd hai (of_decide_eq_false y)))
          refine head z a _ ha t ?_
          obtain ⟨j, hj, hjm, hjn⟩ := find_at hfd
          have hjl := (List.getElem?_eq_some_iff.mp hj).1
          refine jss_out rfl (js_forx (items := (stepsV names (gi z (a : Int)).1).zipIdx.map fun q => D.int (q.2 : Int)) (fun _ => ρ9 (gi z (a : Int)).1 z a) j PassesOwn.never rfl (iter t) (gok_name 12) (pg_name (i := 12) sc_law_search.nd rfl (by first | exact .inl rfl | exact .inr rfl)) (fun _ _ => trivial) rfl (by rw [List.length_map, List.length_zipIdx]; exact hjl) (fun i d hd hi => ?_) (fun d hd => ?_))
          · obtain ⟨q, hqm, hst, rfl⟩ := zip_item hd
            refine jss_weak (ρ1 := (ρ9 (gi z (a : Int)).1 z a).set 12 (.da (.int (q.2 : Int)))) (.same (.same (.same (.same (.same (.same (.same (.same (.same (.same (.same (.same (.un (.un (.un .nil))))))))))))))) (jss_one (js_if (k := markP es n o sm (safterV ps (gi z (a : Int)).1 q.1).2) (jt_val (test t hqm)) (fun y => ?_) (fun _ => jss_nil)))
            rw [hjn i q.1 hi hst] at y
            cases y
          · obtain ⟨q, hqm, hst, rfl⟩ := zip_item hd
            have hq1 : q.1 = tk := by rw [hj] at hst; exact (Option.some.inj hst).symm
            refine jss_one (js_if (k := markP es n o sm (safterV ps (gi z (a : Int)).1 q.1).2) (jt_val (test t hqm)) (fun y => ?_) (fun y => ?_))
            · refine jss_one (js_ret (je_ls (ja_cons je_bl (ja_cons (PE_eq (je_catT (xs := (gi z (a : Int)).2.map dMs) (ys := [dMs tk]) ?_ (ck1 (je_ixL (jr_own 7 rfl) (je_var 9 rfl) (atI_gi (em := dLK) (by omega) (by omega)))) (je_tp (ja_one (je_ixL (PE_r (je_var 10 rfl)) (je_var 12 rfl) (atI_nat (by rw [List.getElem?_map, mem_zipIdx hqm, hq1]; rfl)))))) (by rw [List.map_append]; rfl)) (ja_one (PE_eq (je_lenL rfl Bl.len (jr_own 7 rfl)) (by rw [List.length_map])))))))
              rw [List.length_map]
              show _ + 1 ≤ 2 ^ 24
              omega
            · rw [hq1, hjm] at y
              cases y
      · have et : trnL ps names (markP es n o sm) z a = .inl z := by unfold trnL; rw [if_neg ha]
        rw [et]
        refine jss_weak (ρ1 := ρa z a) (.same (.same (.same (.same (.same (.same (.same (.same (.same (.un (.un (.un (.un (.un (.un .nil))))))))))))))) (jss_one (js_if (k := decide ((a : Int) < z.length)) (jt_lt (je_var 9 rfl) (PE_eq (je_lenL rfl Bl.len (jr_own 7 rfl)) (by rw [List.length_map]))) (fun y => absurd (of_decide_eq_true y) (by omega)) (fun _ => jss_nil)))
  cases hres : srchL ps names (markP es n o sm) 24 with
  | inl z =>
    rw [hres] at hfor
    exact jss_cons hfor (jss_one (js_ret (je_ls (ja_cons (je_le (PE_eq (je_lenL rfl Bl.len (jr_own 7 rfl)) (by rw [List.length_map])) (je_var 4 rfl)) (ja_cons je_non (ja_one (PE_eq (je_lenL rfl Bl.len (jr_own 7 rfl)) (by rw [List.length_map]))))))))
  | inr r =>
    rw [hres] at hfor
    exact jss_out rfl hfor
end MM
end
section
set_option Elab.async false
set_option linter.all false
set_option maxRecDepth 100000
set_option maxHeartbeats 4000000
namespace MM
open PySem PySem.Spec PyProof.Rows L2 NdefX DL
variable {P : Program} {w : World} {K : PySem.W.Frag} {mg : PySem.Str → Option Value} {base : Heap} {T : List NTab} {CS CP CT : Addr}
/-! ### try: return [True, f(..)] except TooLarge: return [False, None] -/
section
variable {X : Cx} {B : Bs} {ρ : List Sl} {E : XK} {f : PySem.Str} {es : List Expr} {np fp cp q1 q2 q3 q4 q5 q6 q7 pos pos' : Pos} {j1 j2 j3 : Nat} {d : D}
theorem js_tryA (hs : X.stack = X.env :: X.outer) (hf : X.env.frame = some X.env.locals) (TL : TlC X.K X.mg CT) (hg : Gl X "TooLarge") (tk : Takes X (fun _ _ _ _ => False))
    (h : ∀ (pn : List (Addr × Obj)) (xe : Value → Shared → Prop) (W : WX), Takes (X.tr pn xe) W → PE (X.tr pn xe) (.Call (.Name f fp) es [] cp) (tD X.K B ρ d)) :
    PS X (.Try [.Return (some (.List [.Constant (.bool true) j1 q1, .Call (.Name f fp) es [] cp] q2)) q3] [.ExceptHandler (some (.Name "TooLarge" np)) none [.Return (some (.List [.Constant (.bool false) j2 q4, .Constant .none j3 q5] q6)) q7] pos'] [] [] pos) (tS X.K B E ρ (.rt (.lst [.bl true, d]))) :=
  ps_try_only (tb := fun _ => tS X.K B E ρ (.rt (.lst [.bl true, d]))) (ts := fun _ _ _ => tRet (tLst (tCons (tC (.bl false)) (tCons (tC .non) tNil)))) (Wout := fun _ _ _ _ => False) hs hf ⟨hg, by decide, .inl TL.mgt⟩ tk
    (fun W pn xe tk _ => jss_one (js_ret (X := X.tr pn xe) (je_ls (X := X.tr pn xe) (ja_cons (X := X.tr pn xe) je_bl (ja_one (X := X.tr pn xe) (h pn xe W tk))))))
    (fun _ _ _ _ _ _ _ => pss_one (ps_ret (pe_lst (pa_cons pe_bl (pa_cons pe_non pa_nil)))))
theorem js_tryX (hs : X.stack = X.env :: X.outer) (hf : X.env.frame = some X.env.locals) (TL : TlC X.K X.mg CT) (hg : Gl X "TooLarge") (tk : Takes X (fun _ _ _ _ => False))
    (h : ∀ (pn : List (Addr × Obj)) (xe : Value → Shared → Prop) (W : WX), Takes (X.tr pn xe) W → PE (X.tr pn xe) (.Call (.Name f fp) es [] cp) (tX X.K B ρ (fun cls d H => ∀ σ, W cls d σ H) CT)) :
    PS X (.Try [.Return (some (.List [.Constant (.bool true) j1 q1, .Call (.Name f fp) es [] cp] q2)) q3] [.ExceptHandler (some (.Name "TooLarge" np)) none [.Return (some (.List [.Constant (.bool false) j2 q4, .Constant .none j3 q5] q6)) q7] pos'] [] [] pos) (tS X.K B E ρ (.rt (.lst [.bl false, .non]))) := by
  refine ps_mono (ps_try_only (tb := fun W D σ H => ∃ G, B.En X.K G ρ σ H ∧ ∀ G' H', Same G G' → Grow B.T B.G0 B.H0 G' H' → ∀ σ', W (.ref CT) none σ' H') (ts := fun _ _ _ => tRet (tLst (tCons (tC (.bl false)) (tCons (tC .non) tNil)))) (Wout := fun _ _ _ _ => False) hs hf ⟨hg, by decide, .inl TL.mgt⟩ tk
    (fun W pn xe tk _ => ?_) (fun _ _ _ _ _ _ _ => pss_one (ps_ret (pe_lst (pa_cons pe_bl (pa_cons pe_non pa_nil)))))) fun D σ H ⟨G, en, q⟩ => ?_
  · refine pss_mono (pss_one (ps_ret (X := X.tr pn xe) (pe_lst (pa_cons (X := X.tr pn xe) pe_bl (pa_cons (X := X.tr pn xe) (h pn xe W tk) pa_nil))))) fun D σ H ⟨G, en, q⟩ => ?_
    exact ⟨G, en, fun G' H' s g σ' => q G' H' s g σ'⟩
  · refine ⟨G, en, fun G' H' s g σ' => ⟨true, TL.te, fun _ a ha => ?_, fun z => nomatch z⟩⟩
    refine ⟨by decide, fun p hp => ?_⟩
    have g2 := g.base.lay (o := .lst [.bl false, .non]) hp (fun ps z => nomatch z)
    exact q _ _ _ (s.trans g2.le) (g.trans g2) (.lst upd_same (.cons (.bl _) (.cons .non .nil)))
end
def resD (r : Bool × Option (List Msg)) : D := .lst [.bl r.1, match r.2 with
  | none => .non
  | some ms => .lst (ms.map dMs)]
def partR (ps : List Pg) : SEnd → Bool × Option (List Msg)
  | .none => (true, none)
  | .found tk l => (true, some (inputV ps (tk :: l).reverse))
  | .large => (false, none)
theorem fpA_res (ps : List Pg) (CT : Addr) (e : SEnd) : (∃ d, fpA ps CT e = .inl d ∧ resD (partR ps e) = .lst [.bl true, d]) ∨ (fpA ps CT e = .inr CT ∧ resD (partR ps e) = .lst [.bl false, .non]) := by
  cases e with
  | none => exact .inl ⟨_, rfl, rfl⟩
  | found tk l => exact .inl ⟨_, rfl, rfl⟩
  | large => exact .inr ⟨rfl, rfl⟩
theorem takesF {X : Cx} : Takes X (fun _ _ _ _ => False) := fun u s' ⟨_, _, _, _, _, _, _, _, _, _, _, _, _, _, _, _, w⟩ => w.elim
def R_law_parted (CS CP : Addr) (ds : List D) (d : D) : Prop := ∃ (es : List Ent) (n1 n2 : Nat) (ps : List Pg) (p0 : Pg) (n : Nat) (kp : Nat → List KE) (e : SEnd), FpOk es n1 n2 ps p0 n kp e ∧ ds = [dStore CS CP es, .int (n1 : Int), .int (n2 : Int)] ∧ d = resD (partR ps e)
theorem ok_law_parted (TL : TlC K mg CT) (F : Dfn K mg "_law_parted" s_law_parted ["_law_store_here", "_law_number", "_law_other"]) (c1 : CalX P w K mg base T 8 "first_parting" ["store", "number", "other"] (R_first_parting CS CP CT)) : Cal P w K mg base T 9 "_law_parted" ["_law_store_here", "_law_number", "_law_other"] (R_law_parted CS CP) := by
  refine cal_D F sc_law_parted (fun ds d h => ?_) fun f cdv A outer s H G E ds d hr h => ?_
  · obtain ⟨es, n1, n2, ps, p0, n, kp, e, _, rfl, _⟩ := h; rfl
  obtain ⟨es, n1, n2, ps, p0, n, kp, e, O, rfl, rfl⟩ := h
  let X := (cxOf CX0 P w K mg base N_law_parted "_law_parted" (defScope s_law_parted) f cdv A outer s H E).nox
  rcases fpA_res ps CT e with ⟨d, h1, h2⟩ | ⟨h1, h2⟩
  · rw [h2]
    refine jss_one (js_tryA (X := X) rfl rfl TL rfl takesF fun pn xe W tk => ?_)
    exact je_fnX (X := X.tr pn xe) (B := ⟨T, G, H⟩) c1 hr (by decide) rfl ⟨es, n1, n2, ps, p0, n, kp, e, O, rfl, h1.symm⟩ (ja_cons (je_var 0 rfl) (ja_cons (je_var 1 rfl) (ja_one (je_var 2 rfl))))
  · rw [h2]
    refine jss_one (js_tryX (X := X) rfl rfl TL rfl takesF fun pn xe W tk => ?_)
    exact je_fnXX (X := X.tr pn xe) (B := ⟨T, G, H⟩) c1 hr (by decide) rfl (passes_call tk fun cls d σ H h => h σ) ⟨es, n1, n2, ps, p0, n, kp, e, O, rfl, h1.symm⟩ (ja_cons (je_var 0 rfl) (ja_cons (je_var 1 rfl) (ja_one (je_var 2 rfl))))
def R_law_differs (CS CP : Addr) (ds : List D) (d : D) : Prop := ∃ (es : List Ent) (n1 : Nat) (q : Pg) (ps : List Pg) (p0 : Pg) (n : Nat) (kp : Nat → List KE) (e : SEnd), FdOk es n1 q ps p0 n kp e ∧ ds = [dStore CS CP es, .int (n1 : Int), dPg CP q] ∧ d = resD (partR (ps ++ [q]) e)
theorem ok_law_differs (TL : TlC K mg CT) (F : Dfn K mg "_law_differs" s_law_differs ["_law_store_here", "_law_number", "_law_program_here"]) (c1 : CalX P w K mg base T 8 "first_difference" ["store", "number", "program"] (R_first_difference CS CP CT)) : Cal P w K mg base T 9 "_law_differs" ["_law_store_here", "_law_number", "_law_program_here"] (R_law_differs CS CP) := by
  refine cal_D F sc_law_differs (fun ds d h => ?_) fun f cdv A outer s H G E ds d hr h => ?_
  · obtain ⟨es, n1, q, ps, p0, n, kp, e, _, rfl, _⟩ := h; rfl
  obtain ⟨es, n1, q, ps, p0, n, kp, e, O, rfl, rfl⟩ := h
  let X := (cxOf CX0 P w K mg base N_law_differs "_law_differs" (defScope s_law_differs) f cdv A outer s H E).nox
  rcases fpA_res (ps ++ [q]) CT e with ⟨d, h1, h2⟩ | ⟨h1, h2⟩
  · rw [h2]
    refine jss_one (js_tryA (X := X) rfl rfl TL rfl takesF fun pn xe W tk => ?_)
    exact je_fnX (X := X.tr pn xe) (B := ⟨T, G, H⟩) c1 hr (by decide) rfl ⟨es, n1, q, ps, p0, n, kp, e, O, rfl, h1.symm⟩ (ja_cons (je_var 0 rfl) (ja_cons (je_var 1 rfl) (ja_one (je_var 2 rfl))))
  · rw [h2]
    refine jss_one (js_tryX (X := X) rfl rfl TL rfl takesF fun pn xe W tk => ?_)
    exact je_fnXX (X := X.tr pn xe) (B := ⟨T, G, H⟩) c1 hr (by decide) rfl (passes_call tk fun cls d σ H h => h σ) ⟨es, n1, q, ps, p0, n, kp, e, O, rfl, h1.symm⟩ (ja_cons (je_var 0 rfl) (ja_cons (je_var 1 rfl) (ja_one (je_var 2 rfl))))

/-! ### law_due -/
def dueR (ps : List Pg) : SRes → Bool × Option (List Msg)
  | .inl z => if 400 < z.length then (false, none) else (true, none)
  | .inr r => if 400 < r.2 then (false, none) else (true, some (inputV ps r.1))
def DueOk (ps : List Pg) : SRes → Prop
  | .inl _ => True
  | .inr r => r.2 ≤ 400 → InputOk ps r.1
def R_law_due (CP : Addr) (ds : List D) (d : D) : Prop := ∃ (ps : List Pg) (r : SRes), DueOk ps r ∧ ds = [.lst (ps.map (dPg CP)), dLS 24 r] ∧ d = resD (dueR ps r)
theorem ok_law_due (F : Dfn K mg "_law_due" s_law_due ["_law_programs", "_law_found"]) (c1 : Cal P w K mg base T 4 "continued" ["programs", "messages", "step_taken"] (R_continued CP)) : Cal P w K mg base T 5 "_law_due" ["_law_programs", "_law_found"] (R_law_due CP) := by
  refine cal_D F sc_law_due (fun ds d h => ?_) fun f cdv A outer s H G E ds d hr h => ?_
  · obtain ⟨ps, r, _, rfl, _⟩ := h; rfl
  obtain ⟨ps, r, O, rfl, rfl⟩ := h
  cases r with
  | inl z =>
    rw [show dueR ps (.inl z) = if 400 < z.length then (false, none) else (true, none) from rfl]
    refine jss_ifr (k := decide ((400 : Int) < z.length)) rfl (jt_gt (je_ixL (d := .int (z.length : Int)) (PE_r (je_var 1 rfl)) je_int rfl) je_int) (fun hd => ?_) (fun hd => ?_)
    · rw [if_pos (by have := of_decide_eq_true hd; omega)]
      exact jss_one (js_ret (je_ls (ja_cons je_bl (ja_one je_non))))
    rw [if_neg (by have := of_decide_eq_false hd; omega)]
    refine jss_ifr (k := true) rfl (jt_isN (d := .non) (PE_r (je_ixL (PE_r (je_var 1 rfl)) je_int rfl))) (fun _ => ?_) (fun y => nomatch y)
    exact jss_one (js_ret (je_ls (ja_cons je_bl (ja_one je_non))))
  | inr r =>
    obtain ⟨path, n⟩ := r
    rw [show dueR ps (.inr (path, n)) = if 400 < n then (false, none) else (true, some (inputV ps path)) from rfl]
    refine jss_ifr (k := decide ((400 : Int) < n)) rfl (jt_gt (je_ixL (d := .int (n : Int)) (PE_r (je_var 1 rfl)) je_int rfl) je_int) (fun hd => ?_) (fun hd => ?_)
    · rw [if_pos (by have := of_decide_eq_true hd; show 400 < n; omega)]
      exact jss_one (js_ret (je_ls (ja_cons je_bl (ja_one je_non))))
    have hle : n ≤ 400 := by have := of_decide_eq_false hd; omega
    have O : InputOk ps path := O hle
    rw [if_neg (by show ¬ 400 < n; omega)]
    refine jss_ifr (k := false) rfl (jt_isN (d := .tup (path.map dMs)) (PE_r (je_ixL (PE_r (je_var 1 rfl)) je_int rfl))) (fun y => nomatch y) (fun _ => ?_)
    refine jss_cons (js_set 2 (je_ls ja_nil) sc_law_due.nd) ?_
    refine jss_cons (js_forF (xs := path) (em := dMs) (fun z : List Msg => [.da (.lst (ps.map (dPg CP))), .da (dLS 24 (.inr (path, n))), .da (.lst (z.map dMs)), .un]) (contV ps) (fun k z => z = inputV ps (path.take k)) [] PassesOwn.never rfl
      (ji_tup (je_ixL (PE_r (je_var 1 rfl)) je_int rfl)) (gok_name 3) (pg_name (i := 3) sc_law_due.nd rfl (by first | exact .inl rfl | exact .inr rfl)) (fun _ _ => trivial) rfl (fun k z tk hk hz => by subst hz; exact (foldl_take hk).symm) (fun k z tk hk hz => ?_)) ?_
    · subst hz
      exact jss_weak (.same (.same (.same (.un .nil)))) (jss_one (js_set 2 (je_fn c1 hr (by decide) rfl ⟨ps, _, tk, O.ok k tk hk, rfl, rfl⟩ (ja_cons (je_var 0 rfl) (ja_cons (je_var 2 rfl) (ja_one (je_var 3 rfl))))) sc_law_due.nd))
    · exact jss_one (js_ret (je_ls (ja_cons je_bl (ja_one (je_var 2 rfl)))))
end MM
end
section
set_option Elab.async false
set_option linter.all false
set_option maxRecDepth 100000
set_option maxHeartbeats 4000000
namespace MM
open PySem PySem.Spec PyProof.Rows L2 NdefX DL
variable {P : Program} {w : World} {K : PySem.W.Frag} {mg : PySem.Str → Option Value} {base : Heap} {T : List NTab} {CS CP CT : Addr}
/-! ### what is compared -/
theorem pl_msgs {n : Nat} : ∀ {ms : List Msg}, (∀ m ∈ ms, PyData.strOk m.1 = true) → plAll (n + 1) (ms.map dMs) = true
  | [], _ => by unfold plAll; rfl
  | m :: ms, h => by
    rw [List.map_cons]
    unfold plAll
    rw [pl_msgs fun x hx => h x (List.mem_cons_of_mem _ hx), Bool.and_true]
    unfold dMs D.pl
    simp only [plAll, D.pl, Bool.and_true]
    exact h m List.mem_cons_self
def ResOk (r : Bool × Option (List Msg)) : Prop := ∀ ms, r.2 = some ms → ∀ m ∈ ms, PyData.strOk m.1 = true
theorem pl_res {r : Bool × Option (List Msg)} (h : ResOk r) : (resD r).pl 4 = true := by
  obtain ⟨b, o⟩ := r
  cases o with
  | none => simp [resD, D.pl, plAll]
  | some ms =>
    have := pl_msgs (n := 1) (h ms rfl)
    unfold resD
    simp only [D.pl, plAll, Bool.and_true, Bool.true_and]
    exact pl_msgs (n := 1) (h ms rfl)
def foundB : SRes → Bool
  | .inl z => decide ((z.length : Int) ≤ ((24 : Nat) : Int))
  | .inr _ => true
def restD : SRes → List D
  | .inl z => [.non, .int (z.length : Int)]
  | .inr r => [.tup (r.1.map dMs), .int (r.2 : Int)]
theorem dLS_eq (r : SRes) : dLS 24 r = .lst (.bl (foundB r) :: restD r) := by cases r <;> rfl
def pgOf : Ent → Pg
  | .pg p => p
  | .mg _ _ _ => ⟨[], [], [], []⟩
theorem parts_bd {es : List Ent} (O : PartsOk es) {n : Nat} (hn : n < es.length) : ∀ x ∈ partsV es n, 0 ≤ x ∧ x < (es.length : Int) := by
  intro x hx
  have hl : n < (partsR es (n + 1)).length := by rw [partsR_len]; exact Nat.lt_succ_self n
  have := partsR_bd O (n + 1) hn n _ (List.getElem?_eq_getElem hl) x (by unfold partsV at hx; rwa [gi_nat (List.getElem?_eq_getElem hl)] at hx)
  omega
theorem mem_pgs {es : List Ent} {sm : List Int} {ps : List Pg} (h : sm.map (gi es) = ps.map Ent.pg) : ∀ k ∈ sm, ∃ p ∈ ps, gi es k = .pg p := by
  intro k hk
  have : gi es k ∈ ps.map Ent.pg := by rw [← h]; exact List.mem_map.mpr ⟨k, hk, rfl⟩
  obtain ⟨p, hp, e⟩ := List.mem_map.mp this
  exact ⟨p, hp, e.symm⟩
theorem pgs_eq {es : List Ent} {sm : List Int} {ps : List Pg} (h : sm.map (gi es) = ps.map Ent.pg) : sm.map (fun k => dPg CP (pgOf (gi es k))) = ps.map (dPg CP) := by
  have := congrArg (List.map fun e => dPg CP (pgOf e)) h
  rw [List.map_map, List.map_map] at this
  exact this
/-! ### law_partings_hold -/
structure PhOk (es : List Ent) (n1 n2 : Nat) (names : List St) (ps : List Pg) (Gd : List Conf → Prop) : Prop where
  po : PartsOk es
  l1 : n1 < es.length
  l2 : n2 < es.length
  sl : (partsV es n1).length + (partsV es n2).length < 1000
  so : LSrchOk es n1 n2 (togV es [n1, n2]) ps names Gd
  sr : ∀ p ∈ ps, PgSorted p
  en : foundB (srchL ps names (markP es n1 n2 (togV es [n1, n2])) 24) = true → DueOk ps (srchL ps names (markP es n1 n2 (togV es [n1, n2])) 24) ∧ ResOk (dueR ps (srchL ps names (markP es n1 n2 (togV es [n1, n2])) 24)) ∧
    ∃ (p0 : Pg) (n : Nat) (kp : Nat → List KE) (e : SEnd), FpOk es n1 n2 ps p0 n kp e ∧ partR ps e = dueR ps (srchL ps names (markP es n1 n2 (togV es [n1, n2])) 24)
def R_law_ph (CS CP : Addr) (ds : List D) (d : D) : Prop := ∃ (es : List Ent) (n1 n2 : Nat) (names : List St) (ps : List Pg) (Gd : List Conf → Prop), PhOk es n1 n2 names ps Gd ∧ ds = [.lst (es.map dLe), dStore CS CP es, .lst [.int (n1 : Int), .int (n2 : Int)], .lst (names.map D.str)] ∧ d = .bl true
theorem ok_law_partings_hold (Bl : Blt mg) (F : Dfn K mg "_law_partings_hold" s_law_partings_hold ["_law_entries_here", "_law_store_here", "_law_pair", "_law_names_here"]) (c1 : Cal P w K mg base T 1 "_law_made_of" ["_law_entries_here", "_law_number"] R_law_made_of) (c2 : Cal P w K mg base T 4 "_law_search" ["_law_entries_here", "_law_pair", "_law_some", "_law_names_here", "_law_most"] R_law_search)
    (c3 : Cal P w K mg base T 9 "_law_parted" ["_law_store_here", "_law_number", "_law_other"] (R_law_parted CS CP)) (c4 : Cal P w K mg base T 5 "_law_due" ["_law_programs", "_law_found"] (R_law_due CP)) (c5 : Cal P w K mg base T 3 "_law_program" ["_law_plan_here"] (R_law_program CP)) :
    Cal P w K mg base T 10 "_law_partings_hold" ["_law_entries_here", "_law_store_here", "_law_pair", "_law_names_here"] (R_law_ph CS CP) := by
  refine cal_D F sc_law_partings_hold (fun ds d h => ?_) fun f cdv A outer s H G E ds d hr h => ?_
  · obtain ⟨es, n1, n2, names, ps, Gd, _, rfl, _⟩ := h; rfl
  obtain ⟨es, n1, n2, names, ps, Gd, O, rfl, rfl⟩ := h
  have ol := O.po.l
  have b1 := parts_bd O.po O.l1
  have b2 := parts_bd O.po O.l2
  have sl := O.sl
  have hsm : (rgI es.length).filter (fun x => decide (x ∈ partsV es n1 ++ partsV es n2)) = togV es [n1, n2] := by
    rw [filt_asc fun x hx => (List.mem_append.mp hx).elim (b1 x) (b2 x)]
    unfold togV
    rw [List.flatMap_cons, List.flatMap_cons, List.flatMap_nil, List.append_nil]
  refine jss_cons (js_setLc (xs := rgI es.length) (em := D.int) (own := [("_law_part", 6)]) 4 (fun x => decide (x ∈ partsV es n1 ++ partsV es n2)) D.int rfl sc_law_partings_hold.nd (by rw [← rngD_rgI]; exact ji_range (n := es.length) (by omega) rfl Bl.range (PE_eq (je_lenL rfl Bl.len (PE_r (je_var 0 rfl))) (by rw [List.length_map]))) (blkOk_by (N := N_law_partings_hold) (sc := defScope s_law_partings_hold) (by decide +kernel)) (gok_name 6) (by simp) (fun _ _ => trivial) (by unfold rgI; rw [List.length_map, List.length_range]; show _ ≤ 2 ^ 24; omega)
    (fun s H C cl fp => pg_name (i := 6) sc_law_partings_hold.nd rfl (by first | exact .inl rfl | exact .inr rfl)) (fun n j hj s H C cl fp => jts_one (jt_inL (je_var 6 rfl) (PE_r (PE_eq (je_catL (xs := (partsV es n1).map D.int) (ys := (partsV es n2).map D.int) ?_ (PE_r (je_fn (d := dRow (partsV es n1)) c1 hr (by decide) rfl ⟨es, n1, O.po, O.l1, rfl, rfl⟩ (ja_cons (je_var 0 rfl) (ja_one (je_ixL (PE_r (je_var 2 rfl)) je_int rfl))))) (PE_r (je_fn (d := dRow (partsV es n2)) c1 hr (by decide) rfl ⟨es, n2, O.po, O.l2, rfl, rfl⟩ (ja_cons (je_var 0 rfl) (ja_one (je_ixL (PE_r (je_var 2 rfl)) je_int rfl)))))) (by rw [List.map_append]))))) (fun n j hj hp s H C cl fp => je_var 6 rfl) (sw_true rfl rfl rfl (by decide +kernel))) ?_
  · rw [List.length_map, List.length_map]
    show _ ≤ 2 ^ 24
    omega
  rw [hsm]
  refine jss_cons (js_set 5 (d := dLS 24 (srchL ps names (markP es n1 n2 (togV es [n1, n2])) 24)) (je_fn c2 hr (by decide) rfl ⟨es, n1, n2, togV es [n1, n2], ps, names, Gd, O.so, rfl, rfl⟩ (ja_cons (je_var 0 rfl) (ja_cons (je_var 2 rfl) (ja_cons (je_var 4 rfl) (ja_cons (je_var 3 rfl) (ja_one je_int)))))) sc_law_partings_hold.nd) ?_
  have en := O.en
  generalize hrr : srchL ps names (markP es n1 n2 (togV es [n1, n2])) 24 = rr at en ⊢
  refine jss_ifr (k := !foundB rr) rfl (jt_not (jt_val (je_ixL (d := .bl (foundB rr)) (PE_r (PE_eq (je_var 5 rfl) (dLS_eq rr))) je_int (atI_nat (k := 0) rfl)))) (fun _ => jss_one (js_ret je_bl)) (fun hf => ?_)
  have hf : foundB rr = true := by simpa using hf
  obtain ⟨hd, hres, p0, n, kp, e, hfp, heq⟩ := en hf
  refine jss_one (js_ret (PE_eq (je_eqD hr.units (PE_r (je_fn (d := resD (partR ps e)) c3 hr (by decide) rfl ⟨es, n1, n2, ps, p0, n, kp, e, hfp, rfl, rfl⟩ (ja_cons (je_var 1 rfl) (ja_cons (je_ixL (PE_r (je_var 2 rfl)) je_int rfl) (ja_one (je_ixL (PE_r (je_var 2 rfl)) je_int rfl)))))) (PE_r (je_fn (d := resD (dueR ps rr)) c4 hr (by decide) rfl ⟨ps, rr, hd, rfl, rfl⟩ (ja_cons (PE_eq (je_lc0 (xs := togV es [n1, n2]) (em := D.int) (own := [("_law_part", 6)]) (fun k => dPg CP (pgOf (gi es k))) rfl sc_law_partings_hold.nd (ji_list (je_var 4 rfl)) (blkOk_by (N := N_law_partings_hold) (sc := defScope s_law_partings_hold) (by decide +kernel)) (gok_name 6) (by simp) (fun _ _ => trivial) (sz24 O.so.sml)
    (fun s H C cl fp => pg_name (i := 6) sc_law_partings_hold.nd rfl (by first | exact .inl rfl | exact .inr rfl)) (fun j k hj s H C cl fp => ?_)) (by rw [pgs_eq O.so.pg])) (ja_one (je_var 5 rfl))))) (pl_res (heq ▸ hres)) (pl_res hres)) ?_))
  · have hk := List.mem_of_getElem? hj
    obtain ⟨p, hp, ep⟩ := mem_pgs O.so.pg k hk
    obtain ⟨k0, k1⟩ := O.so.ib k hk
    rw [ep]
    exact je_fn c5 hr (by decide) rfl ⟨p, O.sr p hp, rfl, rfl⟩ (ja_one (je_ixL (PE_r (je_var 0 rfl)) (je_var 6 rfl) (atI_giE (em := dLe) k0 k1 ep)))
  · rw [heq, D.eqb_refl (pl_res hres)]
end MM
end
section
set_option Elab.async false
set_option linter.all false
set_option maxRecDepth 100000
set_option maxHeartbeats 4000000
namespace MM
open PySem PySem.Spec PyProof.Rows L2 NdefX DL
variable {P : Program} {w : World} {K : PySem.W.Frag} {mg : PySem.Str → Option Value} {base : Heap} {T : List NTab} {CS CP CT : Addr}
/-! ### law_differences_hold -/
structure DhOk (es : List Ent) (n1 : Nat) (q : Pg) (names : List St) (ps : List Pg) (Gd : List Conf → Prop) : Prop where
  po : PartsOk es
  l1 : n1 < es.length
  sr : ∀ p ∈ ps, PgSorted p
  sq : PgSorted q
  rest : (partsV es n1).length ≤ 3 → LSrchOk (es ++ [.pg q]) n1 es.length (partsV es n1 ++ [(es.length : Int)]) (ps ++ [q]) names Gd ∧
    (foundB (srchL (ps ++ [q]) names (markP (es ++ [.pg q]) n1 es.length (partsV es n1 ++ [(es.length : Int)])) 24) = true → DueOk (ps ++ [q]) (srchL (ps ++ [q]) names (markP (es ++ [.pg q]) n1 es.length (partsV es n1 ++ [(es.length : Int)])) 24) ∧ ResOk (dueR (ps ++ [q]) (srchL (ps ++ [q]) names (markP (es ++ [.pg q]) n1 es.length (partsV es n1 ++ [(es.length : Int)])) 24)) ∧
    ∃ (p0 : Pg) (n : Nat) (kp : Nat → List KE) (e : SEnd), FdOk es n1 q ps p0 n kp e ∧ partR (ps ++ [q]) e = dueR (ps ++ [q]) (srchL (ps ++ [q]) names (markP (es ++ [.pg q]) n1 es.length (partsV es n1 ++ [(es.length : Int)])) 24))
def R_law_dh (CS CP : Addr) (ds : List D) (d : D) : Prop := ∃ (es : List Ent) (n1 : Nat) (q : Pg) (names : List St) (ps : List Pg) (Gd : List Conf → Prop), DhOk es n1 q names ps Gd ∧ ds = [.lst (es.map dLe), dStore CS CP es, .int (n1 : Int), dPl q, .lst (names.map D.str)] ∧ d = .bl true
theorem mkR {es : List Ent} {n o : Nat} {sm : List Int} {ps : List Pg} {names : List St} {Gd : List Conf → Prop} (so : LSrchOk es n o sm ps names Gd) : R_law_search [.lst (es.map dLe), .lst [.int (n : Int), .int (o : Int)], dRow sm, .lst (names.map D.str), .int ((24 : Nat) : Int)] (dLS 24 (srchL ps names (markP es n o sm) 24)) := ⟨es, n, o, sm, ps, names, Gd, so, rfl, rfl⟩
theorem ok_law_differences_hold (Bl : Blt mg) (F : Dfn K mg "_law_differences_hold" s_law_differences_hold ["_law_entries_here", "_law_store_here", "_law_number", "_law_plan_here", "_law_names_here"]) (c1 : Cal P w K mg base T 1 "_law_made_of" ["_law_entries_here", "_law_number"] R_law_made_of) (c2 : Cal P w K mg base T 4 "_law_search" ["_law_entries_here", "_law_pair", "_law_some", "_law_names_here", "_law_most"] R_law_search)
    (c3 : Cal P w K mg base T 9 "_law_differs" ["_law_store_here", "_law_number", "_law_program_here"] (R_law_differs CS CP)) (c4 : Cal P w K mg base T 5 "_law_due" ["_law_programs", "_law_found"] (R_law_due CP)) (c5 : Cal P w K mg base T 3 "_law_program" ["_law_plan_here"] (R_law_program CP)) :
    Cal P w K mg base T 10 "_law_differences_hold" ["_law_entries_here", "_law_store_here", "_law_number", "_law_plan_here", "_law_names_here"] (R_law_dh CS CP) := by
  refine cal_D F sc_law_differences_hold (fun ds d h => ?_) fun f cdv A outer s H G E ds d hr h => ?_
  · obtain ⟨es, n1, q, names, ps, Gd, _, rfl, _⟩ := h; rfl
  obtain ⟨es, n1, q, names, ps, Gd, O, rfl, rfl⟩ := h
  have ol := O.po.l
  refine jss_cons (js_set 5 (d := dRow (partsV es n1)) (je_fn c1 hr (by decide) rfl ⟨es, n1, O.po, O.l1, rfl, rfl⟩ (ja_cons (je_var 0 rfl) (ja_one (je_var 2 rfl)))) sc_law_differences_hold.nd) ?_
  refine jss_ifr (k := decide ((3 : Int) < (partsV es n1).length)) rfl (jt_gt (PE_eq (je_lenL rfl Bl.len (PE_r (je_var 5 rfl))) (by rw [List.length_map])) je_int) (fun _ => jss_one (js_ret je_bl)) (fun h3 => ?_)
  have h3 : (partsV es n1).length ≤ 3 := by have := of_decide_eq_false h3; omega
  obtain ⟨so, en⟩ := O.rest h3
  refine jss_cons (js_set 6 (d := .lst ((es ++ [Ent.pg q]).map dLe)) (PE_eq (je_catL (xs := es.map dLe) (ys := [dPl q]) (by rw [List.length_map]; show _ + 1 ≤ 2 ^ 24; omega) (PE_r (je_var 0 rfl)) (PE_r (je_ls (ja_one (je_var 3 rfl))))) (by rw [List.map_append]; rfl)) sc_law_differences_hold.nd) ?_
  refine jss_cons (js_set 5 (d := dRow (partsV es n1 ++ [(es.length : Int)])) (PE_eq (je_catL (xs := (partsV es n1).map D.int) (ys := [.int (es.length : Int)]) (by rw [List.length_map]; show _ + 1 ≤ 2 ^ 24; omega) (PE_r (je_var 5 rfl)) (PE_r (je_ls (ja_one (PE_eq (je_lenL rfl Bl.len (PE_r (je_var 0 rfl))) (by rw [List.length_map])))))) (by unfold dRow; rw [List.map_append]; rfl)) sc_law_differences_hold.nd) ?_
  have hR := mkR so
  generalize hrr : srchL (ps ++ [q]) names (markP (es ++ [.pg q]) n1 es.length (partsV es n1 ++ [(es.length : Int)])) 24 = rr at en hR ⊢
  have hlen : ∀ {X : Cx} {B : Bs} {ρ : List Sl} {e : Expr} {p pos : Pos}, Gl X "len" → X.mg "len" = none → PE X e (tD X.K B ρ (.lst (es.map dLe))) → (starEach [e] X.env = (false, eval e X.env) :: starEach [] X.env) → PE X (.Call (.Name "len" p) [e] [] pos) (tD X.K B ρ (.int ((es.length : Nat) : Int))) := fun h1 h2 h3 h4 => PE_eq (je_lenL h1 h2 (PE_r h3) h4) (by rw [List.length_map])
  refine jss_cons (js_set 7 (d := dLS 24 rr) (je_fn c2 hr (by decide) rfl hR (ja_cons (je_var 6 rfl) (ja_cons (je_ls (ja_cons (je_var 2 rfl) (ja_one (hlen rfl Bl.len (je_var 0 rfl) rfl)))) (ja_cons (je_var 5 rfl) (ja_cons (je_var 4 rfl) (ja_one je_int)))))) sc_law_differences_hold.nd) ?_
  refine jss_ifr (k := !foundB rr) rfl (jt_not (jt_val (je_ixL (d := .bl (foundB rr)) (PE_r (PE_eq (je_var 7 rfl) (dLS_eq rr))) je_int (atI_nat (k := 0) rfl)))) (fun _ => jss_one (js_ret je_bl)) (fun hf => ?_)
  have hf : foundB rr = true := by simpa using hf
  obtain ⟨hd, hres, p0, n, kp, e, hfp, heq⟩ := en hf
  refine jss_one (js_ret (PE_eq (je_eqD hr.units (PE_r (je_fn (d := resD (partR (ps ++ [q]) e)) c3 hr (by decide) rfl ⟨es, n1, q, ps, p0, n, kp, e, hfp, rfl, rfl⟩ (ja_cons (je_var 1 rfl) (ja_cons (je_var 2 rfl) (ja_one (je_fn c5 hr (by decide) rfl ⟨q, O.sq, rfl, rfl⟩ (ja_one (je_var 3 rfl)))))))) (PE_r (je_fn (d := resD (dueR (ps ++ [q]) rr)) c4 hr (by decide) rfl ⟨ps ++ [q], rr, hd, rfl, rfl⟩ (ja_cons (PE_eq (je_lc0 (xs := partsV es n1 ++ [(es.length : Int)]) (em := D.int) (own := [("_law_part", 8)]) (fun k => dPg CP (pgOf (gi (es ++ [Ent.pg q]) k))) rfl sc_law_differences_hold.nd (ji_list (je_var 5 rfl)) (blkOk_by (N := N_law_differences_hold) (sc := defScope s_law_differences_hold) (by decide +kernel)) (gok_name 8) (by simp) (fun _ _ => trivial) (sz24 so.sml)
    (fun s H C cl fp => pg_name (i := 8) sc_law_differences_hold.nd rfl (by first | exact .inl rfl | exact .inr rfl)) (fun j k hj s H C cl fp => ?_)) (by rw [pgs_eq so.pg])) (ja_one (je_var 7 rfl))))) (pl_res (heq ▸ hres)) (pl_res hres)) ?_))
  · have hk := List.mem_of_getElem? hj
    obtain ⟨p, hp, ep⟩ := mem_pgs so.pg k hk
    obtain ⟨k0, k1⟩ := so.ib k hk
    have hps : PgSorted p := by
      rcases List.mem_append.mp hp with h | h
      · exact O.sr p h
      · rw [List.mem_singleton] at h; rw [h]; exact O.sq
    rw [ep]
    exact je_fn c5 hr (by decide) rfl ⟨p, hps, rfl, rfl⟩ (ja_one (je_ixL (PE_r (je_var 6 rfl)) (je_var 8 rfl) (atI_giE (em := dLe) k0 k1 ep)))
  · rw [heq, D.eqb_refl (pl_res hres)]
end MM
end
section
set_option Elab.async false
set_option linter.all false
set_option maxRecDepth 100000
set_option maxHeartbeats 4000000
namespace MM
open PySem PySem.Spec PyProof.Rows L2 NdefX DL
variable {P : Program} {w : World} {K : PySem.W.Frag} {mg : PySem.Str → Option Value} {base : Heap} {T : List NTab} {CS CP CT : Addr}
/-! ### the law -/
def lNames (ns : List Int) : List St := namesV (rowV (cellV ns 0) 3)
def lEs (ns : List Int) : List Ent := entV ns (lNames ns)
def lN1 (ns : List Int) : Nat := (cellV ns 4 % (lEs ns).length).toNat
def lN2 (ns : List Int) : Nat := (cellV ns 4 / 7 % (lEs ns).length).toNat
def lPgs (ns : List Int) : List Ent := (lEs ns).filter Ent.isPg
def lP0 (ns : List Int) : Pg := pgOf (gi (lPgs ns) (cellV ns 5 % (lPgs ns).length))
def lQ (ns : List Int) : Pg := if cellV ns 5 / 7 % 2 = 1 then sideV (lP0 ns) (cellV ns 6) else lP0 ns
structure LawOk (ns : List Int) : Prop where
  nm : NmOk (lNames ns)
  sd : SideOk (eBase ns (lNames ns))
  st : StOk (lEs ns)
  len : 0 < (lEs ns).length
  ph : ∃ ps Gd, PhOk (lEs ns) (lN1 ns) (lN2 ns) (lNames ns) ps Gd
  pl : 0 < (lPgs ns).length
  sp : SideOk (lP0 ns)
  dh : ∃ ps Gd, DhOk (lEs ns) (lN1 ns) (lQ ns) (lNames ns) ps Gd
def R_law (ds : List D) (d : D) : Prop := ∃ ns : List Int, LawOk ns ∧ ds = [.scr ns] ∧ d = .bl true
theorem ok_law {fa : Addr} {fd : FuncData} (Bl : Blt mg) (F : Fun K "law" "law" s_law fa fd) (c1 : Cal P w K mg base T 1 "_law_cell" ["_law_script", "_law_k"] R_law_cell) (c2 : Cal P w K mg base T 1 "_law_row" ["_law_cell_here", "_law_count"] R_law_row) (c3 : Cal P w K mg base T 2 "_law_names" ["_law_row_here"] R_law_names)
    (c4 : Cal P w K mg base T 4 "_law_entries" ["_law_script", "_law_names_here"] R_law_entries) (c5 : Cal P w K mg base T 5 "_law_store" ["_law_entries_here"] (R_law_store CS CP)) (c6 : Cal P w K mg base T 10 "_law_partings_hold" ["_law_entries_here", "_law_store_here", "_law_pair", "_law_names_here"] (R_law_ph CS CP))
    (c7 : Cal P w K mg base T 2 "_law_side" ["_law_plan_here", "_law_cell_here"] R_law_side) (c8 : Cal P w K mg base T 10 "_law_differences_hold" ["_law_entries_here", "_law_store_here", "_law_number", "_law_plan_here", "_law_names_here"] (R_law_dh CS CP)) : FnOk P w K mg base CX0 11 fa fd ["_law_script"] (spD K T R_law) := by
  refine fn_D F sc_law (fun ds d h => ?_) fun cdv A outer s H G E ds d hr h => ?_
  · obtain ⟨ns, _, rfl, _⟩ := h; rfl
  obtain ⟨ns, O, rfl, rfl⟩ := h
  obtain ⟨psP, GdP, hP⟩ := O.ph
  obtain ⟨psD, GdD, hD⟩ := O.dh
  have el := O.len
  have esl := hP.po.l
  have plen := O.pl
  have m1 : 0 ≤ cellV ns 4 % ((lEs ns).length : Int) := Int.emod_nonneg _ (by omega)
  have m2 : 0 ≤ cellV ns 4 / 7 % ((lEs ns).length : Int) := Int.emod_nonneg _ (by omega)
  have m3 : 0 ≤ cellV ns 5 % ((lPgs ns).length : Int) := Int.emod_nonneg _ (by omega)
  have m4 : cellV ns 5 % ((lPgs ns).length : Int) < (lPgs ns).length := Int.emod_lt_of_pos _ (by omega)
  have e1 : ((lN1 ns : Nat) : Int) = cellV ns 4 % ((lEs ns).length : Int) := Int.toNat_of_nonneg m1
  have e2 : ((lN2 ns : Nat) : Int) = cellV ns 4 / 7 % ((lEs ns).length : Int) := Int.toNat_of_nonneg m2
  have e0 : gi (lPgs ns) (cellV ns 5 % ((lPgs ns).length : Int)) = .pg (lP0 ns) := by
    have hm := gi_mem m3 m4
    have hi : (gi (lPgs ns) (cellV ns 5 % ((lPgs ns).length : Int))).isPg = true := (List.mem_filter.mp hm).2
    unfold lP0
    generalize gi (lPgs ns) (cellV ns 5 % ((lPgs ns).length : Int)) = e at hi ⊢
    cases e with
    | pg p => rfl
    | mg a b c => cases hi
  refine jss_cons (js_set 1 (d := .lst ((lNames ns).map D.str)) (je_fn c3 hr (by decide) rfl ⟨rowV (cellV ns 0) 3, rowV_len _ _, rfl, rfl⟩ (ja_one (je_fn (d := dRow (rowV (cellV ns 0) 3)) c2 hr (by decide) rfl ⟨cellV ns 0, 3, by decide, rfl, rfl⟩ (ja_cons (je_fn (d := .int (cellV ns 0)) c1 hr (by decide) rfl ⟨ns, 0, rfl, rfl⟩ (ja_cons (je_var 0 rfl) (ja_one je_int))) (ja_one je_int))))) sc_law.nd) ?_
  refine jss_cons (js_set 2 (d := .lst ((lEs ns).map dLe)) (je_fn c4 hr (by decide) rfl ⟨ns, lNames ns, O.nm, O.sd, rfl, rfl⟩ (ja_cons (je_var 0 rfl) (ja_one (je_var 1 rfl)))) sc_law.nd) ?_
  refine jss_cons (js_set 3 (d := dStore CS CP (lEs ns)) (je_fn c5 hr (by decide) rfl ⟨lEs ns, O.st, rfl, rfl⟩ (ja_one (je_var 2 rfl))) sc_law.nd) ?_
  refine jss_cons (js_set 4 (d := .int (lN1 ns : Int)) (PE_eq (je_mod (j := ((lEs ns).length : Int)) (by omega) (je_fn c1 hr (by decide) rfl ⟨ns, 4, rfl, rfl⟩ (ja_cons (je_var 0 rfl) (ja_one je_int))) (PE_eq (je_lenL rfl Bl.len (PE_r (je_var 2 rfl))) (by rw [List.length_map]))) (by rw [e1])) sc_law.nd) ?_
  refine jss_cons (js_set 5 (d := .int (lN2 ns : Int)) (PE_eq (je_mod (j := ((lEs ns).length : Int)) (by omega) (je_fdiv ⟨by decide, by decide⟩ (je_fn c1 hr (by decide) rfl ⟨ns, 4, rfl, rfl⟩ (ja_cons (je_var 0 rfl) (ja_one je_int))) je_int) (PE_eq (je_lenL rfl Bl.len (PE_r (je_var 2 rfl))) (by rw [List.length_map]))) (by rw [e2])) sc_law.nd) ?_
  refine jss_ifr (k := false) rfl (jt_not (k := true) (jt_val (je_fn c6 hr (by decide) rfl ⟨lEs ns, lN1 ns, lN2 ns, lNames ns, psP, GdP, hP, rfl, rfl⟩ (ja_cons (je_var 2 rfl) (ja_cons (je_var 3 rfl) (ja_cons (je_ls (ja_cons (je_var 4 rfl) (ja_one (je_var 5 rfl)))) (ja_one (je_var 1 rfl)))))))) (fun y => nomatch y) (fun _ => ?_)
  refine jss_cons (js_setLc (xs := lEs ns) (em := dLe) (own := [("_law_entry", 8)]) 6 Ent.isPg dLe rfl sc_law.nd (ji_list (je_var 2 rfl)) (blkOk_by (N := N_law) (sc := defScope s_law) (by decide +kernel)) (gok_name 8) (by simp) (fun _ _ => trivial) (sz24 (by omega))
    (fun s H C cl fp => pg_name (i := 8) sc_law.nd rfl (by first | exact .inl rfl | exact .inr rfl)) (fun n j hj s H C cl fp => jts_one (PT_eq (jt_not (jt_val (je_isT (en := j) rfl Bl.isinstance rfl Bl.tuple (je_var 8 rfl)))) (Bool.not_not _))) (fun n j hj hp s H C cl fp => je_var 8 rfl) (sw_true rfl rfl rfl (by decide +kernel))) ?_
  refine jss_cons (js_set 7 (d := dPl (lP0 ns)) (je_ixL (PE_r (je_var 6 rfl)) (je_mod (j := ((lPgs ns).length : Int)) (by omega) (je_fn c1 hr (by decide) rfl ⟨ns, 5, rfl, rfl⟩ (ja_cons (je_var 0 rfl) (ja_one je_int))) (PE_eq (je_lenL rfl Bl.len (PE_r (je_var 6 rfl))) (by rw [List.length_map]; rfl))) (atI_giE (em := dLe) m3 m4 e0)) sc_law.nd) ?_
  refine jss_ife (ρ1 := [.da (.scr ns), .da (.lst ((lNames ns).map D.str)), .da (.lst ((lEs ns).map dLe)), .da (dStore CS CP (lEs ns)), .da (.int (lN1 ns : Int)), .da (.int (lN2 ns : Int)), .da (.lst ((lPgs ns).map dLe)), .da (dPl (lQ ns)), .un]) (k := decide (cellV ns 5 / 7 % 2 = 1))
    (jt_eqI (je_mod (by decide) (je_fdiv ⟨by decide, by decide⟩ (je_fn c1 hr (by decide) rfl ⟨ns, 5, rfl, rfl⟩ (ja_cons (je_var 0 rfl) (ja_one je_int))) je_int) je_int) je_int) (fun hc => ?_) (fun hc => ?_) ?_
  · unfold lQ
    rw [if_pos (of_decide_eq_true hc)]
    exact jss_one (js_set 7 (je_fn c7 hr (by decide) rfl ⟨lP0 ns, cellV ns 6, O.sp, rfl, rfl⟩ (ja_cons (je_var 7 rfl) (ja_one (je_fn c1 hr (by decide) rfl ⟨ns, 6, rfl, rfl⟩ (ja_cons (je_var 0 rfl) (ja_one je_int)))))) sc_law.nd)
  · unfold lQ
    rw [if_neg (of_decide_eq_false hc)]
    exact jss_nil
  · exact jss_one (js_ret (je_fn c8 hr (by decide) rfl ⟨lEs ns, lN1 ns, lQ ns, lNames ns, psD, GdD, hD, rfl, rfl⟩ (ja_cons (je_var 2 rfl) (ja_cons (je_var 3 rfl) (ja_cons (je_var 4 rfl) (ja_cons (je_var 7 rfl) (ja_one (je_var 1 rfl))))))))
end MM
end
section
set_option Elab.async false
set_option linter.all false
set_option maxRecDepth 100000
set_option maxHeartbeats 400000
namespace MM
open PySem PySem.Spec PyProof.Rows L2 NdefX DL
/-! ### keys in order -/
def ltK (a b : Ky) : Prop := a.1 < b.1 ∨ (a.1 = b.1 ∧ (a.2.1 < b.2.1 ∨ (a.2.1 = b.2.1 ∧ a.2.2 < b.2.2)))
instance (a b : Ky) : Decidable (ltK a b) := by unfold ltK; infer_instance
theorem ltK_irr {a : Ky} : ¬ ltK a a := by unfold ltK; omega
theorem sort_uniq {α : Type} (k : α → Ky) : ∀ {a b : List α}, a.Pairwise (fun x y => ltK (k x) (k y)) → b.Pairwise (fun x y => ¬ ltK (k y) (k x)) → a.Perm b → a = b
  | [], b, _, _, p => p.nil_eq
  | x :: a, [], _, _, p => absurd p.length_eq (by simp)
  | x :: a, y :: b, ha, hb, p => by
    obtain ⟨a1, a2⟩ := List.pairwise_cons.mp ha
    obtain ⟨b1, b2⟩ := List.pairwise_cons.mp hb
    have e : x = y := Classical.byContradiction fun ne => by
      have hx : x ∈ b := by
        rcases List.mem_cons.mp (p.subset List.mem_cons_self) with h | h
        · exact absurd h ne
        · exact h
      have hy : y ∈ a := by
        rcases List.mem_cons.mp (p.symm.subset List.mem_cons_self) with h | h
        · exact absurd h.symm ne
        · exact h
      exact b1 x hx (a1 y hy)
    subst e
    rw [sort_uniq k a2 b2 p.cons_inv]
theorem dataLt_iii (x y z x' y' z' : Int) : PySem.W.dataLt (.tuple [.int x, .int y, .int z]) (.tuple [.int x', .int y', .int z']) = decide (ltK (x, y, z) (x', y', z')) := by
  rw [PySem.W.dataLt_tuple, PySem.W.dataLt_cons (by simp [PySem.W.alike]), PySem.W.dataLt_cons (by simp [PySem.W.alike]), PySem.W.dataLt_cons (by simp [PySem.W.alike])]
  have e : PyProof.Rows.lexLt itemOrd (PySem.W.keyToksAll []) (PySem.W.keyToksAll []) = false := lex_irrefl _
  rw [e, PySem.W.dataLt_int, PySem.W.dataLt_int, PySem.W.dataLt_int]
  simp only [PyData.eqv, beq_iff_eq]
  unfold ltK
  by_cases h1 : x = x' <;> by_cases h2 : y = y' <;> by_cases h3 : z = z' <;> simp [h1, h2, h3]
theorem dataLe_key3 : PySem.W.dataLe false (key3 rk3) = fun a b : Rl => decide (¬ ltK (rk3 b) (rk3 a)) := by
  funext a b
  show (!PySem.W.dataLt (key3 rk3 b) (key3 rk3 a)) = _
  unfold key3
  rw [dataLt_iii]
  by_cases h : ltK (rk3 b) (rk3 a)
  · rw [decide_eq_true (p := ltK ((rk3 b).1, (rk3 b).2.1, (rk3 b).2.2) ((rk3 a).1, (rk3 a).2.1, (rk3 a).2.2)) h, decide_eq_false (fun q => q h)]; rfl
  · rw [decide_eq_false (p := ltK ((rk3 b).1, (rk3 b).2.1, (rk3 b).2.2) ((rk3 a).1, (rk3 a).2.1, (rk3 a).2.2)) h, decide_eq_true h]; rfl
theorem sortR_sorted {rs : List Rl} (h : rs.Pairwise (fun x y => ltK (ruKy x) (ruKy y))) : sortR rs.reverse = rs := by
  unfold sortR
  rw [dataLe_key3]
  have hs := List.pairwise_mergeSort (le := fun a b : Rl => decide (¬ ltK (rk3 b) (rk3 a))) (fun a b c h1 h2 => by
    have h1 := of_decide_eq_true h1
    have h2 := of_decide_eq_true h2
    refine decide_eq_true fun q => ?_
    unfold ltK at h1 h2 q
    omega) (fun a b => by
    rw [Bool.or_eq_true, decide_eq_true_iff, decide_eq_true_iff]
    unfold ltK
    omega) rs.reverse
  refine (sort_uniq ruKy h (hs.imp fun q => ?_) ((List.mergeSort_perm _ _).trans (List.reverse_perm rs)).symm).symm
  exact of_decide_eq_true q
/-! ### keys by place -/
theorem foldl_app {α β : Type} (F : α → List β) : ∀ (xs : List α) (z : List β), xs.foldl (fun z x => z ++ F x) z = z ++ xs.flatMap F
  | [], z => by simp
  | x :: xs, z => by rw [List.foldl_cons, foldl_app F xs, List.flatMap_cons, List.append_assoc]
def stRow (n : Nat) (states : List (St × Int)) (s : Nat) : List Ky := (List.range n).flatMap (keyRow states s)
theorem keysV_flat (n : Nat) (states : List (St × Int)) : keysV n states = (List.range states.length).flatMap (stRow n states) := by
  unfold keysV
  have e : ∀ (z : List Ky) (s : Nat), keysF n states z s = z ++ stRow n states s := fun z s => by
    unfold keysF stRow
    exact foldl_app (keyRow states s) (List.range n) z
  have : (keysF n states) = fun z s => z ++ stRow n states s := by funext z s; exact e z s
  rw [this, foldl_app, List.nil_append]
theorem mem_keyRow {states : List (St × Int)} {s nm : Nat} {k : Ky} (h : k ∈ keyRow states s nm) : k.1 = s ∧ k.2.1 = nm ∧ 0 ≤ k.2.2 := by
  unfold keyRow at h
  obtain ⟨p, hp, rfl⟩ := List.mem_map.mp h
  exact ⟨rfl, rfl, (mem_rgI.mp hp).1⟩
theorem mem_stRow {n : Nat} {states : List (St × Int)} {s : Nat} {k : Ky} (h : k ∈ stRow n states s) : k.1 = s := by
  obtain ⟨nm, _, hk⟩ := List.mem_flatMap.mp h
  exact (mem_keyRow hk).1
theorem keysV_pw (n : Nat) (states : List (St × Int)) : (keysV n states).Pairwise ltK := by
  rw [keysV_flat, List.pairwise_flatMap]
  refine ⟨fun s _ => ?_, ?_⟩
  · unfold stRow
    rw [List.pairwise_flatMap]
    refine ⟨fun nm _ => ?_, ?_⟩
    · unfold keyRow
      rw [List.pairwise_map]
      exact (rgI_pw _).imp fun h => by unfold ltK; exact .inr ⟨rfl, .inr ⟨rfl, h⟩⟩
    · refine List.pairwise_lt_range.imp fun h x hx y hy => ?_
      obtain ⟨x1, x2, _⟩ := mem_keyRow hx
      obtain ⟨y1, y2, _⟩ := mem_keyRow hy
      unfold ltK
      omega
  · refine List.pairwise_lt_range.imp fun h x hx y hy => ?_
    have x1 := mem_stRow hx
    have y1 := mem_stRow hy
    unfold ltK
    omega
theorem flat_at {α β : Type} {F : α → List β} : ∀ {xs : List α} {i : Nat} {x : α} {t : Nat}, xs[i]? = some x → t < (F x).length → (xs.flatMap F)[((xs.take i).map fun y => (F y).length).sum + t]? = (F x)[t]?
  | [], i, x, t, h, _ => by cases h
  | y :: xs, 0, x, t, h, ht => by
    cases h
    simp only [List.take_zero, List.map_nil, List.sum_nil, Nat.zero_add, List.flatMap_cons]
    exact List.getElem?_append_left ht
  | y :: xs, i + 1, x, t, h, ht => by
    rw [List.take_succ_cons, List.map_cons, List.sum_cons, List.flatMap_cons, List.getElem?_append_right (by omega), show (F y).length + ((xs.take i).map fun y => (F y).length).sum + t - (F y).length = ((xs.take i).map fun y => (F y).length).sum + t by omega]
    exact flat_at (show xs[i]? = some x from h) ht
theorem sum_const {α : Type} (c : Nat) : ∀ xs : List α, (xs.map fun _ => c).sum = xs.length * c
  | [] => by simp
  | x :: xs => by rw [List.map_cons, List.sum_cons, sum_const c xs, List.length_cons, Nat.succ_mul, Nat.add_comm]
theorem keyRow_len' (states : List (St × Int)) (s nm : Nat) : (keyRow states s nm).length = (2 * (gi states (s : Int)).2 + 1).toNat := by
  unfold keyRow rgI
  rw [List.length_map, List.length_map, List.length_range]
theorem stRow_len (n : Nat) (states : List (St × Int)) (s : Nat) : (stRow n states s).length = n * (2 * (gi states (s : Int)).2 + 1).toNat := by
  unfold stRow
  rw [List.length_flatMap]
  have : (List.map (fun a => (keyRow states s a).length) (List.range n)) = (List.range n).map fun _ => (2 * (gi states (s : Int)).2 + 1).toNat := List.map_congr_left fun a _ => keyRow_len' states s a
  rw [this, sum_const, List.length_range]
theorem offs_eq {p : Pg} (hs : ∀ s ∈ p.states, 0 ≤ s.2) : ∀ s : Nat, s ≤ p.states.length → offs p s = ((((List.range p.states.length).take s).map fun y => (stRow p.names.length p.states y).length).sum : Nat)
  | 0, _ => by simp [offs]
  | s + 1, h => by
    have ih := offs_eq hs s (Nat.le_of_succ_le h)
    have h0 := hs _ (gi_mem (xs := p.states) (i := (s : Int)) (by omega) (by omega))
    unfold offs at ih ⊢
    rw [List.range_succ, List.foldl_append, ih]
    rw [List.take_succ, List.getElem?_range (show s < p.states.length from h), List.map_append, List.sum_append]
    simp only [List.foldl_cons, List.foldl_nil, Option.toList_some, List.map_cons, List.map_nil, List.sum_cons, List.sum_nil, Nat.add_zero]
    rw [stRow_len, Int.natCast_add, Int.natCast_mul, Int.toNat_of_nonneg (by omega)]
/-- the key at a rule's place -/
theorem key_at {p : Pg} (hs : ∀ s ∈ p.states, 0 ≤ s.2) {s nm : Nat} {ps : Int} (h1 : s < p.states.length) (h2 : nm < p.names.length) (h3 : 0 ≤ ps) (h4 : ps < 2 * (gi p.states (s : Int)).2 + 1) :
    0 ≤ ruleIx p s nm ps ∧ (keysV p.names.length p.states)[(ruleIx p s nm ps).toNat]? = some ((s : Int), (nm : Int), ps) := by
  have h0 := hs _ (gi_mem (xs := p.states) (i := (s : Int)) (by omega) (by omega))
  have in1 : (stRow p.names.length p.states s)[nm * (2 * (gi p.states (s : Int)).2 + 1).toNat + ps.toNat]? = some ((s : Int), (nm : Int), ps) := by
    have := flat_at (F := keyRow p.states s) (xs := List.range p.names.length) (i := nm) (x := nm) (t := ps.toNat) (List.getElem?_range h2) (by rw [keyRow_len']; omega)
    rw [show (List.map (fun y => (keyRow p.states s y).length) ((List.range p.names.length).take nm)) = ((List.range p.names.length).take nm).map fun _ => (2 * (gi p.states (s : Int)).2 + 1).toNat from List.map_congr_left fun a _ => keyRow_len' p.states s a, sum_const, List.length_take, List.length_range, Nat.min_eq_left (Nat.le_of_lt h2)] at this
    unfold stRow
    rw [this]
    unfold keyRow rgI
    rw [List.getElem?_map, List.getElem?_map, List.getElem?_range (by omega)]
    show some ((s : Int), (nm : Int), ((ps.toNat : Nat) : Int)) = _
    rw [Int.toNat_of_nonneg h3]
  have inl := (List.getElem?_eq_some_iff.mp in1).1
  have out := flat_at (F := stRow p.names.length p.states) (xs := List.range p.states.length) (i := s) (x := s) (t := nm * (2 * (gi p.states (s : Int)).2 + 1).toNat + ps.toNat) (List.getElem?_range h1) inl
  rw [← keysV_flat, in1] at out
  have eo := offs_eq hs s (Nat.le_of_lt h1)
  have ei : ruleIx p s nm ps = (((((List.range p.states.length).take s).map fun y => (stRow p.names.length p.states y).length).sum + (nm * (2 * (gi p.states (s : Int)).2 + 1).toNat + ps.toNat) : Nat) : Int) := by
    unfold ruleIx
    rw [eo, Int.natCast_add, Int.natCast_add, Int.natCast_mul, Int.toNat_of_nonneg h3, Int.toNat_of_nonneg (by omega)]
    omega
  rw [ei]
  exact ⟨by omega, by rw [Int.toNat_natCast]; exact out⟩
end MM
end
section
set_option Elab.async false
set_option linter.all false
set_option maxRecDepth 100000
set_option maxHeartbeats 400000
namespace MM
open PySem PySem.Spec PyProof.Rows L2 NdefX DL
/-! ### names -/
theorem so_app {x y : St} (h1 : PyData.strOk x = true) (h2 : PyData.strOk y = true) : PyData.strOk (x ++ y) = true := by
  unfold PyData.strOk at *
  show (x.cps ++ y.cps).all _ = true
  rw [Array.all_append, h1, h2]
  rfl
theorem so_lt (n : Int) : PyData.strOk (ltV n) = true := by
  have h0 : 0 ≤ n % 26 := Int.emod_nonneg _ (by decide)
  have h1 : n % 26 < 26 := Int.emod_lt_of_pos _ (by decide)
  unfold PyData.strOk ltV
  simp
  omega
theorem so_word1 (n : Int) : PyData.strOk (word1 n) = true := by
  unfold word1
  split
  · exact so_app (so_lt _) (so_lt _)
  · exact so_lt _
theorem so_word (n : Int) : PyData.strOk (wordV n) = true := by
  unfold wordV
  split
  · exact so_app (so_app (so_app (so_word1 _) (so_lt _)) (so_lt _)) (so_lt _)
  · exact so_word1 _
theorem dqV_ok {acc : List St} {x : St} (h : x.length ≤ 5) (h2 : PyData.strOk x = true) : (dqV acc x).length ≤ 8 ∧ PyData.strOk (dqV acc x) = true := by
  have so : ∀ {y : St} {k : Nat}, PyData.strOk y = true → PyData.strOk (dqF acc y k) = true := by
    intro y k hy
    unfold dqF
    split
    · exact so_app hy (by decide +kernel)
    · exact hy
  have e : dqV acc x = dqF acc (dqF acc (dqF acc x 0) 1) 2 := rfl
  rw [e]
  exact ⟨dqF_len (dqF_len (dqF_len h)), so (so (so h2))⟩
theorem namesV_ok (r : List Int) : NmOk (namesV r) ∧ ∀ x ∈ namesV r, PyData.strOk x = true := by
  obtain ⟨n1, n4, _⟩ := namesN_bd r
  have I := foldI (f := namesF r) (xs := List.range (namesN r)) (z0 := []) (fun k z => z.length = k ∧ ∀ x ∈ z, x.length ≤ 8 ∧ PyData.strOk x = true) ⟨rfl, fun x hx => absurd hx (by simp)⟩ (fun k z i hk ⟨h1, h2⟩ => by
    refine ⟨by unfold namesF; rw [List.length_append, h1]; rfl, fun x hx => ?_⟩
    unfold namesF at hx
    rcases List.mem_append.mp hx with h | h
    · exact h2 x h
    · rw [List.mem_singleton] at h
      subst h
      exact dqV_ok (wordV_len _) (so_word _))
  rw [List.length_range] at I
  exact ⟨⟨by rw [show (namesV r).length = namesN r from I.1]; exact n1, by rw [show (namesV r).length = namesN r from I.1]; exact n4, fun x hx => by have := (I.2 x hx).1; omega⟩, fun x hx => (I.2 x hx).2⟩
/-! ### plans well formed -/
structure RuGood (p : Pg) (r : Rl) : Prop where
  t0 : 0 ≤ r.tg
  t1 : r.tg < p.states.length
  pw : r.pk.Pairwise (· < ·)
  pl : (r.pk.length : Int) = (gi p.states r.tg).2
  pb : ∀ i ∈ r.pk, 0 ≤ i ∧ i < knownV p.states (ruKy r)
  ol : r.out.length ≤ 3
  ob : ∀ o ∈ r.out, (0 ≤ o.1 ∧ o.1 < p.chans.length) ∧ PyData.strOk o.2.1 = true ∧ 0 ≤ o.2.2 ∧ o.2.2 < knownV p.states (ruKy r)
def ChSo (chans : List (St × List St)) : Prop := ∀ c ∈ chans, PyData.strOk c.1 = true ∧ ∀ x ∈ c.2, PyData.strOk x = true
structure Wf (p : Pg) : Prop where
  nm : NmOk p.names
  no : ∀ x ∈ p.names, PyData.strOk x = true
  ch : ChOk p.chans
  cs : ChSo p.chans
  s1 : 1 ≤ p.states.length
  s3 : p.states.length ≤ 3
  sb : ∀ s ∈ p.states, 0 ≤ s.2 ∧ s.2 ≤ 2
  s0 : gi p.states 0 = (("p" : St), (0 : Int))
  ky : p.rules.map ruKy = keysV p.names.length p.states
  ru : ∀ r ∈ p.rules, RuGood p r
theorem picksV_ok {known count : Nat} (num : Int) (h : count ≤ known) : (picksV known count num).Sublist (rgI known) ∧ (picksV known count num).length = count := by
  have I := foldI (f := picksF num) (xs := List.range (known - count)) (z0 := rgI known) (fun k z => z.Sublist (rgI known) ∧ (k ≤ known - count → z.length = known - k)) ⟨List.Sublist.refl _, fun _ => by unfold rgI; rw [List.length_map, List.length_range]; rfl⟩ (fun k z i hk ⟨h1, h2⟩ => by
    obtain ⟨rfl, hkn⟩ := rng_at hk
    have hl := h2 (Nat.le_of_lt hkn)
    refine ⟨List.Sublist.trans ?_ h1, fun _ => by rw [picksF_len (by omega), hl]; omega⟩
    unfold picksF
    conv => rhs; rw [← List.take_append_drop (picksA num z i).toNat z]
    refine List.Sublist.append (List.Sublist.refl _) ?_
    rw [← List.drop_drop]
    exact List.drop_sublist 1 _)
  rw [List.length_range] at I
  refine ⟨I.1, ?_⟩
  have := I.2 (Nat.le_refl _)
  unfold picksV
  omega
theorem outsV_ok {chans : List (St × List St)} {known : Int} (num more : Int) (hc : ChOk chans) (hs : ChSo chans) (hk : 0 < known) : (outsV chans known num more).length ≤ 3 ∧ ∀ o ∈ outsV chans known num more, (0 ≤ o.1 ∧ o.1 < chans.length) ∧ PyData.strOk o.2.1 = true ∧ 0 ≤ o.2.2 ∧ o.2.2 < known := by
  obtain ⟨n3, _⟩ := outN_bd num
  have I := foldI (f := outF chans known num more) (xs := List.range (outN num)) (z0 := []) (fun k z => z.length = k ∧ ∀ o ∈ z, (0 ≤ o.1 ∧ o.1 < (chans.length : Int)) ∧ PyData.strOk o.2.1 = true ∧ 0 ≤ o.2.2 ∧ o.2.2 < known) ⟨rfl, fun x hx => absurd hx (by simp)⟩ (fun k z i _ ⟨h1, h2⟩ => by
    refine ⟨by unfold outF; rw [List.length_append, h1]; rfl, fun x hx => ?_⟩
    unfold outF at hx
    rcases List.mem_append.mp hx with h | h
    · exact h2 x h
    · rw [List.mem_singleton] at h
      subst h
      have cp := hc.1
      have a0 : 0 ≤ outA chans num i := Int.emod_nonneg _ (by omega)
      have a1 : outA chans num i < chans.length := Int.emod_lt_of_pos _ (by omega)
      have hm := gi_mem a0 a1
      have sg := hc.2 _ hm
      refine ⟨⟨a0, a1⟩, (hs _ hm).2 _ (gi_mem (Int.emod_nonneg _ (by omega)) (Int.emod_lt_of_pos _ (by omega))), Int.emod_nonneg _ (by omega), Int.emod_lt_of_pos _ hk⟩)
  rw [List.length_range] at I
  exact ⟨by rw [show (outsV chans known num more).length = outN num from I.1]; exact n3, I.2⟩
theorem known_pos {n : Nat} {states : List (St × Int)} {k : Ky} (hb : ∀ s ∈ states, 0 ≤ s.2 ∧ s.2 ≤ 2) (hk : KyOk n states k) : 0 < knownV states k ∧ knownV states k ≤ 3 := by
  obtain ⟨⟨a0, a1⟩, _, c0, c1⟩ := hk
  have hs := hb _ (gi_mem a0 a1)
  unfold knownV
  omega
theorem Wf.key {p : Pg} (W : Wf p) {r : Rl} (h : r ∈ p.rules) : KyOk p.names.length p.states (ruKy r) := keysV_ok _ (by rw [← W.ky]; exact List.mem_map.mpr ⟨r, h, rfl⟩)
theorem Wf.len {p : Pg} (W : Wf p) : 0 < p.rules.length ∧ p.rules.length ≤ 60 := by
  have e : p.rules.length = (keysV p.names.length p.states).length := by rw [← W.ky, List.length_map]
  have h1 := W.nm.h1
  have h4 := W.nm.h4
  have s1 := W.s1
  have s3 := W.s3
  rw [e]
  constructor
  · have h0 := W.sb _ (gi_mem (xs := p.states) (i := ((0 : Nat) : Int)) (by omega) (by omega))
    obtain ⟨_, hk⟩ := key_at (p := p) (fun s hs => (W.sb s hs).1) (s := 0) (nm := 0) (ps := 0) (by omega) (by omega) (by omega) (by omega)
    exact Nat.lt_of_le_of_lt (Nat.zero_le _) (List.getElem?_eq_some_iff.mp hk).1
  · rw [keysV_len]
    have all : ∀ l : List (St × Int), (∀ s ∈ l, 0 ≤ s.2 ∧ s.2 ≤ 2) → (l.map keyW).sum ≤ l.length * 5 := by
      intro l
      induction l with
      | nil => intro _; simp
      | cons a l ih =>
        intro h
        have := ih fun s hs => h s (List.mem_cons_of_mem _ hs)
        have ha := h a List.mem_cons_self
        rw [List.map_cons, List.sum_cons, List.length_cons, Nat.succ_mul]
        unfold keyW at *
        omega
    have := all p.states W.sb
    exact Nat.le_trans (Nat.mul_le_mul h4 (Nat.le_trans this (Nat.mul_le_mul_right 5 s3))) (by decide)
theorem Wf.sorted {p : Pg} (W : Wf p) : PgSorted p := by
  refine sortR_sorted ?_
  have := keysV_pw p.names.length p.states
  rw [← W.ky, List.pairwise_map] at this
  exact this
theorem Wf.face {p : Pg} (W : Wf p) : FaceOk p := ⟨W.no, W.cs⟩
theorem Wf.side {p : Pg} (W : Wf p) : SideOk p := by
  obtain ⟨l0, l1⟩ := W.len
  refine ⟨l0, by omega, W.ch, fun r hr => ?_⟩
  have hk := W.key hr
  exact ⟨hk.1, (known_pos W.sb hk).1⟩
theorem chansV_so (names : List St) : ChSo (chansV names) := by
  have all : ∀ c ∈ chansT, PyData.strOk c.1 = true ∧ ∀ x ∈ c.2, PyData.strOk x = true := by decide +kernel
  intro c hc
  exact all c (List.mem_of_mem_take hc)
theorem ruleV_ok {p : Pg} {k : Ky} {d0 d1 : Int} (O : RuleOk k p.states) (sb : ∀ s ∈ p.states, 0 ≤ s.2 ∧ s.2 ≤ 2) (hc : ChOk p.chans) (hs : ChSo p.chans) : RuGood p (ruleV k p.states p.chans d0 d1) := by
  obtain ⟨t0, t1, t2⟩ := target_bd O d0
  have st := sb _ (gi_mem t0 t1)
  have kp := O.pos
  have pk := picksV_ok (known := (knownV p.states k).toNat) (count := (gi p.states (targetV p.states k d0)).2.toNat) (d0 / 3) (by omega)
  have ok := outsV_ok (known := knownV p.states k) d1 (d1 / 84) hc hs kp
  refine ⟨t0, t1, (rgI_pw _).sublist pk.1, ?_, fun i hi => ?_, ok.1, ok.2⟩
  · show ((picksV _ _ _).length : Int) = _
    rw [pk.2]
    exact Int.toNat_of_nonneg st.1
  · have := mem_rgI.mp (pk.1.subset hi)
    show 0 ≤ i ∧ i < knownV p.states k
    omega
theorem planV_ok (c : Int) {names : List St} (hn : NmOk names) (hs : ∀ x ∈ names, PyData.strOk x = true) : Wf (planV c names) := by
  obtain ⟨⟨s1, s3⟩, sb, sp, kl, q0, qp⟩ := statesV_ok (rowV c 52) hn.h1 hn.h4
  refine ⟨hn, hs, chansV_ok, chansV_so names, s1, s3, sb, sp, ?_, fun r hr => ?_⟩
  · show ((rgI (planK c names).length).map (planR c names)).map ruKy = planK c names
    rw [List.map_map]
    refine List.ext_getElem? fun i => ?_
    unfold rgI
    rw [List.map_map, List.getElem?_map]
    by_cases hi : i < (planK c names).length
    · rw [List.getElem?_range hi]
      show some (gi (planK c names) (i : Int)) = _
      rw [gi_nat (List.getElem?_eq_getElem hi), List.getElem?_eq_getElem hi]
    · rw [List.getElem?_eq_none (by rw [List.length_range]; omega), List.getElem?_eq_none (by omega)]
      rfl
  · obtain ⟨j, hj, rfl⟩ := List.mem_map.mp hr
    obtain ⟨j0, j1⟩ := mem_rgI.mp hj
    have hk := keysV_ok (n := names.length) (states := statesV (rowV c 52) names.length) _ (gi_mem (xs := planK c names) j0 j1)
    exact ruleV_ok (p := planV c names) (ruleOk_of s1 s3 sb sp hk) sb chansV_ok (chansV_so names)
theorem sideV_ok (c : Int) {p : Pg} (W : Wf p) : Wf (sideV p c) := by
  have wl := W.len
  have I := foldI (f := sideF p) (xs := rowV c (1 + c % 2).toNat) (z0 := p.rules) (fun _ z => z.map ruKy = p.rules.map ruKy ∧ ∀ r ∈ z, RuGood p r) ⟨rfl, W.ru⟩ (fun k z num _ ⟨h1, h2⟩ => by
    have zl : z.length = p.rules.length := by have := congrArg List.length h1; rwa [List.length_map, List.length_map] at this
    obtain ⟨a0, a1⟩ := at_bd (xs := z) num (by omega)
    have hm := gi_mem a0 a1
    have hg := h2 _ hm
    have hky : KyOk p.names.length p.states (ruKy (gi z (num % z.length))) := keysV_ok _ (by rw [← W.ky, ← h1]; exact List.mem_map.mpr ⟨_, hm, rfl⟩)
    refine ⟨?_, fun r hr => ?_⟩
    · unfold sideF
      rw [List.map_set, show ruKy (sideR p z num) = ruKy (gi z (num % z.length)) from rfl, ← h1]
      refine List.ext_getElem? fun i => ?_
      rw [List.getElem?_set]
      split
      · next e =>
        subst e
        split
        · rw [List.getElem?_map]
          have hi : (num % (z.length : Int)).toNat < z.length := by omega
          have e2 : gi z (num % (z.length : Int)) = z[(num % (z.length : Int)).toNat] := by
            have := gi_nat (xs := z) (k := (num % (z.length : Int)).toNat) (List.getElem?_eq_getElem hi)
            rwa [Int.toNat_of_nonneg a0] at this
          rw [e2, List.getElem?_eq_getElem hi]
          rfl
        · next h => exact absurd (by rw [List.length_map]; omega) h
      · rfl
    · unfold sideF at hr
      rcases List.mem_or_eq_of_mem_set hr with h | rfl
      · exact h2 r h
      · have ok := outsV_ok (known := knownV p.states (ruKy (gi z (num % z.length)))) (num / 7) (num / 3) W.ch W.cs (known_pos W.sb hky).1
        exact ⟨hg.t0, hg.t1, hg.pw, hg.pl, hg.pb, ok.1, ok.2⟩)
  exact ⟨W.nm, W.no, W.ch, W.cs, W.s1, W.s3, W.sb, W.s0, I.1.trans W.ky, fun r hr => by
    have g := I.2 r hr
    exact ⟨g.t0, g.t1, g.pw, g.pl, g.pb, g.ol, g.ob⟩⟩
end MM
end
section
set_option Elab.async false
set_option linter.all false
set_option maxRecDepth 100000
set_option maxHeartbeats 400000
namespace MM
open PySem PySem.Spec PyProof.Rows L2 NdefX DL
/-! ### positions -/
def less (n : Int) (ks : List Int) : Nat := (ks.filter fun v => decide (v < n)).length
def inN (n : Int) (ks : List Int) : Int := if n ∈ ks then 1 else 0
theorem gt_less {n : Int} {ks : List Int} (h : ∀ x ∈ ks, n < x) : less n ks = 0 ∧ inN n ks = 0 ∧ (ks.filter fun v => decide (v = n)).length = 0 := by
  refine ⟨?_, ?_, ?_⟩
  · unfold less
    rw [List.length_eq_zero_iff, List.filter_eq_nil_iff]
    intro x hx
    have := h x hx
    simp; omega
  · unfold inN
    rw [if_neg fun q => by have := h n q; omega]
  · rw [List.length_eq_zero_iff, List.filter_eq_nil_iff]
    intro x hx
    have := h x hx
    simp; omega
theorem pos_eq {n : Int} : ∀ {ks : List Int} (q : Int), ks.Pairwise (· < ·) → posOf n ks q = q + 2 * (less n ks : Int) + inN n ks ∧ ((ks.filter fun v => decide (v = n)).length : Int) = inN n ks
  | [], q, _ => by simp [posOf, less, inN]
  | v :: vs, q, h => by
    obtain ⟨h1, h2⟩ := List.pairwise_cons.mp h
    unfold posOf
    by_cases e : n = v
    · subst e
      obtain ⟨a, b, c⟩ := gt_less h1
      rw [if_pos rfl]
      unfold less at a ⊢
      unfold inN at b ⊢
      rw [List.filter_cons, List.filter_cons, if_neg (by simp), if_pos (by simp), if_pos (by simp), a, List.length_cons, c]
      simp
    · rw [if_neg e]
      have im : inN n (v :: vs) = inN n vs := by
        unfold inN
        by_cases hm : n ∈ vs
        · rw [if_pos hm, if_pos (List.mem_cons_of_mem _ hm)]
        · rw [if_neg hm, if_neg (fun z => (List.mem_cons.mp z).elim e hm)]
      have ef : ((v :: vs).filter fun x => decide (x = n)) = vs.filter fun x => decide (x = n) := by
        rw [List.filter_cons, if_neg (by simp; exact fun z => e z.symm)]
      by_cases hl : v < n
      · rw [if_pos hl]
        obtain ⟨i1, i2⟩ := pos_eq (n := n) (ks := vs) (q + 2) h2
        rw [i1, im, ef]
        refine ⟨?_, i2⟩
        have : less n (v :: vs) = less n vs + 1 := by
          unfold less
          rw [List.filter_cons, if_pos (by simp [hl])]
          rfl
        rw [this]
        omega
      · rw [if_neg hl]
        obtain ⟨i1, i2⟩ := pos_eq (n := n) (ks := vs) q h2
        rw [i1, im, ef]
        refine ⟨?_, i2⟩
        have : less n (v :: vs) = less n vs := by
          unfold less
          rw [List.filter_cons, if_neg (by simp; omega)]
        rw [this]
theorem posL_eq {n : Int} {ks : List Int} (h : ks.Pairwise (· < ·)) : posL n ks = posOf n ks 0 := by
  obtain ⟨a, b⟩ := pos_eq (n := n) 0 h
  unfold posL
  rw [a, b]
  unfold less
  omega
theorem less_le (n : Int) (ks : List Int) : less n ks ≤ ks.length := List.length_filter_le _ _
theorem less_lt {n : Int} {ks : List Int} (h : n ∈ ks) : less n ks < ks.length := by
  unfold less
  rcases Nat.lt_or_eq_of_le (List.length_filter_le (fun v => decide (v < n)) ks) with q | q
  · exact q
  · exact absurd (List.length_filter_eq_length_iff.mp q n h) (by simp)
theorem pos_bd {n : Int} {ks : List Int} (h : ks.Pairwise (· < ·)) : 0 ≤ posOf n ks 0 ∧ posOf n ks 0 < 2 * (ks.length : Int) + 1 ∧ posOf n ks 0 % 2 = inN n ks ∧ (inN n ks = 1 ↔ n ∈ ks) ∧ (inN n ks = 0 ↔ n ∉ ks) := by
  obtain ⟨a, _⟩ := pos_eq (n := n) 0 h
  have l1 := less_le n ks
  have hi : (inN n ks = 1 ∧ n ∈ ks) ∨ (inN n ks = 0 ∧ n ∉ ks) := by
    unfold inN
    by_cases q : n ∈ ks
    · rw [if_pos q]; exact .inl ⟨rfl, q⟩
    · rw [if_neg q]; exact .inr ⟨rfl, q⟩
  rcases hi with ⟨i, m⟩ | ⟨i, m⟩
  · have l2 := less_lt m
    rw [a, i]
    refine ⟨by omega, by omega, by omega, ⟨fun _ => m, fun _ => rfl⟩, ⟨fun z => by omega, fun z => absurd m z⟩⟩
  · rw [a, i]
    refine ⟨by omega, by omega, by omega, ⟨fun z => by omega, fun z => absurd z m⟩, ⟨fun _ => m, fun _ => rfl⟩⟩
theorem asc_snoc_in {ks : List Int} {n : Int} (hp : ks.Pairwise (· < ·)) (h : n ∈ ks) : asc (ks ++ [n]) = ks := by
  refine (asc_of hp fun z => ?_).symm
  rw [List.mem_append, List.mem_singleton]
  exact ⟨.inl, fun q => q.elim id fun e => e ▸ h⟩
theorem cands_asc {ks : List Int} {n : Int} (hp : ks.Pairwise (· < ·)) : cands ks n = asc (ks ++ [n]) := by
  unfold cands
  by_cases h : n ∈ ks
  · rw [if_pos h, asc_snoc_in hp h]
  · rw [if_neg h]
    have := known_eq (ks := ks) (n := n) (b := 0) hp (by decide) (by decide) (fun z => nomatch z) (fun _ => h)
    exact this
theorem cands_len {ks : List Int} {n : Int} (hp : ks.Pairwise (· < ·)) : ((cands ks n).length : Int) = ks.length + 1 - inN n ks := by
  unfold cands inN
  by_cases h : n ∈ ks
  · rw [if_pos h, if_pos h]; omega
  · rw [if_neg h, if_neg h, (srt_perm _).length_eq, List.length_append]
    show ((ks.length + 1 : Nat) : Int) = _
    omega
theorem gi_lt {kn : List Int} (hp : kn.Pairwise (· < ·)) {i j : Int} (h0 : 0 ≤ i) (h1 : i < j) (h2 : j < kn.length) : gi kn i < gi kn j := by
  obtain ⟨a, rfl⟩ : ∃ a : Nat, i = a := ⟨i.toNat, by omega⟩
  obtain ⟨b, rfl⟩ : ∃ b : Nat, j = b := ⟨j.toNat, by omega⟩
  have ha : a < kn.length := by omega
  have hb : b < kn.length := by omega
  rw [gi_nat (List.getElem?_eq_getElem ha), gi_nat (List.getElem?_eq_getElem hb)]
  exact List.pairwise_iff_getElem.mp hp a b ha hb (by omega)
/-! ### a step -/
structure CfOk (p : Pg) (c : Conf) : Prop where
  s0 : 0 ≤ c.1
  s1 : c.1 < p.states.length
  pw : c.2.Pairwise (· < ·)
  ln : (c.2.length : Int) = (gi p.states c.1).2
theorem rl_at {p : Pg} {c : Conf} {m : Msg} (W : Wf p) (C : CfOk p c) (hm : m.1 ∈ p.names) : 0 ≤ rix p c m ∧ rix p c m < p.rules.length ∧ ruKy (rlOf p c m) = (c.1, ((nix p.names m.1 : Nat) : Int), posOf m.2 c.2 0) := by
  have s0 := C.s0
  have s1 := C.s1
  have ln := C.ln
  obtain ⟨b0, b1, _⟩ := pos_bd (n := m.2) C.pw
  have est : ((c.1.toNat : Nat) : Int) = c.1 := Int.toNat_of_nonneg s0
  have hk := key_at (p := p) (fun s hs => (W.sb s hs).1) (s := c.1.toNat) (nm := nix p.names m.1) (ps := posOf m.2 c.2 0) (by omega) (nix_lt hm) b0 (by rw [est]; omega)
  rw [est, ← W.ky, List.getElem?_map] at hk
  obtain ⟨h0, h1⟩ := hk
  have h0 : 0 ≤ rix p c m := h0
  cases hr : p.rules[(rix p c m).toNat]? with
  | none => rw [show (ruleIx p c.1.toNat (nix p.names m.1 : Int) (posOf m.2 c.2 0)).toNat = (rix p c m).toNat from rfl, hr] at h1; cases h1
  | some r =>
    rw [show (ruleIx p c.1.toNat (nix p.names m.1 : Int) (posOf m.2 c.2 0)).toNat = (rix p c m).toNat from rfl, hr] at h1
    have hl := (List.getElem?_eq_some_iff.mp hr).1
    refine ⟨h0, by omega, ?_⟩
    have : rlOf p c m = r := by
      unfold rlOf
      have := gi_nat hr
      rwa [Int.toNat_of_nonneg h0] at this
    rw [this]
    exact Option.some.inj h1
structure StepFacts (p : Pg) (c : Conf) (m : Msg) : Prop where
  ok : StepOk p c m
  eq : StepEq p c m
  cf : CfOk p (stepV p c m).1
  ou : OuOk (stepV p c m).2
  ol : (stepV p c m).2.length ≤ 3
  om : ∀ o ∈ (stepV p c m).2, o.2.2 ∈ cands c.2 m.2
theorem step_facts {p : Pg} {c : Conf} {m : Msg} (W : Wf p) (C : CfOk p c) (hm : m.1 ∈ p.names) : StepFacts p c m := by
  obtain ⟨r0, r1, rk⟩ := rl_at W C hm
  have s0 := C.s0
  have s1 := C.s1
  have ln := C.ln
  have n1 := W.nm.h1
  have n4 := W.nm.h4
  have w3 := W.s3
  obtain ⟨b0, b1, b2, b3, b4⟩ := pos_bd (n := m.2) C.pw
  have cp := cands_asc (n := m.2) C.pw
  have cpw : (cands c.2 m.2).Pairwise (· < ·) := by rw [cp]; exact asc_pw _
  have cl := cands_len (n := m.2) C.pw
  have hr : rlOf p c m ∈ p.rules := gi_mem r0 r1
  have G := W.ru _ hr
  have hsb := W.sb _ (gi_mem s0 s1)
  have kv : knownV p.states (ruKy (rlOf p c m)) = ((cands c.2 m.2).length : Int) := by
    rw [rk, cl]
    unfold knownV
    show (gi p.states c.1).2 + 1 - posOf m.2 c.2 0 % 2 = _
    rw [b2, ln]
  have pkb : ∀ i ∈ (rlOf p c m).pk, 0 ≤ i ∧ i < (cands c.2 m.2).length := fun i hi => by have := G.pb i hi; rw [kv] at this; exact this
  have ob : ∀ o ∈ (rlOf p c m).out, (0 ≤ o.1 ∧ o.1 < p.chans.length) ∧ 0 ≤ o.2.2 ∧ o.2.2 < (cands c.2 m.2).length := fun o ho => by have := G.ob o ho; rw [kv] at this; exact ⟨this.1, this.2.2⟩
  have tb := W.sb _ (gi_mem G.t0 G.t1)
  have gpl := G.pl
  have gol := G.ol
  refine ⟨⟨⟨by omega, by omega, fun q hq => by have := W.sb q hq; omega⟩, hm, s0, s1, by omega, r0, r1, by omega, by omega, pkb, ob⟩, ?_, ?_, ?_, ?_, ?_⟩
  · refine ⟨(rix p c m).toNat, ?_, ?_⟩
    · have er : gi p.rules (((rix p c m).toNat : Nat) : Int) = rlOf p c m := by rw [Int.toNat_of_nonneg r0]; rfl
      have ek : knL c m = cands c.2 m.2 := by
        unfold knL
        rw [posL_eq C.pw, b2, cp]
        rw [← b2]
        exact known_eq C.pw (Int.emod_nonneg _ (by decide)) (Int.emod_lt_of_pos _ (by decide)) (fun z => b3.mp (b2 ▸ z)) (fun z => b4.mp (b2 ▸ z))
      refine ⟨by omega, by omega, ?_, fun k hk => ?_, fun r h => ?_, by rw [er]; omega, by rw [er]; omega, by rw [er, ek]; exact pkb, by rw [er, ek]; exact ob⟩
      · rw [er]
        unfold hitL
        have e1 : (rlOf p c m).st = c.1 := congrArg (·.1) rk
        have e2 : (rlOf p c m).nm = ((nix p.names m.1 : Nat) : Int) := congrArg (·.2.1) rk
        have e3 : (rlOf p c m).ps = posOf m.2 c.2 0 := congrArg (·.2.2) rk
        rw [e1, e2, e3, gi_nat (nix_at hm), posL_eq C.pw]
        simp
      · have hkl : k < p.rules.length := by omega
        have hnl : (rix p c m).toNat < p.rules.length := by omega
        have lt := keysV_pw p.names.length p.states
        rw [← W.ky, List.pairwise_map] at lt
        have := List.pairwise_iff_getElem.mp lt k (rix p c m).toNat hkl hnl hk
        have e1 := gi_nat (List.getElem?_eq_getElem hkl)
        have e2 := gi_nat (List.getElem?_eq_getElem hnl)
        rw [← e1, ← e2, er, rk] at this
        have kk := W.key (gi_mem (xs := p.rules) (i := (k : Int)) (by omega) (by omega))
        obtain ⟨_, ⟨q0, q1⟩, _⟩ := kk
        cases hh : hitL p c m (gi p.rules (k : Int)) with
        | false => rfl
        | true =>
          exfalso
          generalize gi p.rules (k : Int) = r at this q0 q1 hh
          unfold hitL at hh
          rw [Bool.and_eq_true, Bool.and_eq_true, decide_eq_true_iff, decide_eq_true_iff, decide_eq_true_iff, posL_eq C.pw] at hh
          obtain ⟨a1, a2, a3⟩ := hh
          have q0 : 0 ≤ r.nm := q0
          have q1 : r.nm < p.names.length := q1
          have this : ltK (r.st, r.nm, r.ps) (c.1, ((nix p.names m.1 : Nat) : Int), posOf m.2 c.2 0) := this
          unfold ltK at this
          simp only [] at this
          have hlt : r.nm.toNat < nix p.names m.1 := by omega
          have hnl2 : r.nm.toNat < p.names.length := by omega
          refine nix_no r.nm.toNat hlt ?_
          rw [List.getElem?_eq_getElem hnl2]
          have e3 := gi_nat (List.getElem?_eq_getElem hnl2)
          rw [Int.toNat_of_nonneg q0, a2] at e3
          rw [e3]
      · exact (W.key h).2.1
    · have er : gi p.rules (((rix p c m).toNat : Nat) : Int) = rlOf p c m := by rw [Int.toNat_of_nonneg r0]; rfl
      have ek : knL c m = cands c.2 m.2 := by
        unfold knL
        rw [posL_eq C.pw, b2, cp]
        rw [← b2]
        exact known_eq C.pw (Int.emod_nonneg _ (by decide)) (Int.emod_lt_of_pos _ (by decide)) (fun z => b3.mp (b2 ▸ z)) (fun z => b4.mp (b2 ▸ z))
      unfold stepL stepV
      rw [er, ek]
  · refine ⟨G.t0, G.t1, ?_, ?_⟩
    · show ((rlOf p c m).pk.map (gi (cands c.2 m.2))).Pairwise (· < ·)
      rw [List.pairwise_map]
      refine List.Pairwise.imp_of_mem (fun {a b} ha hb h => ?_) G.pw
      exact gi_lt cpw (pkb a ha).1 h (pkb b hb).2
    · show (((rlOf p c m).pk.map _).length : Int) = _
      rw [List.length_map]
      exact gpl
  · intro o ho
    have ho : o ∈ (rlOf p c m).out.map fun o => ((gi p.chans o.1).1, o.2.1, gi (cands c.2 m.2) o.2.2) := ho
    obtain ⟨x, hx, rfl⟩ := List.mem_map.mp ho
    obtain ⟨⟨x0, x1⟩, so, _⟩ := G.ob x hx
    exact ⟨(W.cs _ (gi_mem x0 x1)).1, so⟩
  · show ((rlOf p c m).out.map _).length ≤ 3
    rw [List.length_map]
    exact gol
  · intro o ho
    have ho : o ∈ (rlOf p c m).out.map fun o => ((gi p.chans o.1).1, o.2.1, gi (cands c.2 m.2) o.2.2) := ho
    obtain ⟨x, hx, rfl⟩ := List.mem_map.mp ho
    obtain ⟨_, x2, x3⟩ := ob x hx
    exact gi_mem x2 x3
/-! ### a run -/
theorem start_ok {p : Pg} (W : Wf p) : CfOk p (0, []) := by
  have s1 := W.s1
  exact ⟨Int.le_refl _, by show (0 : Int) < _; omega, .nil, by rw [W.s0]; rfl⟩
theorem run_cf {p : Pg} (W : Wf p) {ms : List Msg} (hn : ∀ m ∈ ms, m.1 ∈ p.names) : CfOk p (runV p ms).1 :=
  foldI (f := runF p) (xs := ms) (fun _ z => CfOk p z.1) (start_ok W) fun k z m hk C => (step_facts W C (hn m (List.mem_of_getElem? hk))).cf
theorem run_ok {p : Pg} (W : Wf p) {ms : List Msg} (hn : ∀ m ∈ ms, m.1 ∈ p.names) (hl : ms.length < 1000) : RunOk p ms :=
  ⟨hl, fun k m hk => (step_facts W (run_cf W fun x hx => hn x (List.mem_of_mem_take hx)) (hn m (List.mem_of_getElem? hk))).ok⟩
end MM
end
section
set_option Elab.async false
set_option linter.all false
set_option maxRecDepth 100000
set_option maxHeartbeats 400000
namespace MM
open PySem PySem.Spec PyProof.Rows L2 NdefX DL
/-! ### order-true maps -/
def SMon (f : Int → Int) (S : Int → Prop) : Prop := ∀ x y, S x → S y → x < y → f x < f y
section
variable {f : Int → Int} {S : Int → Prop}
theorem SMon.lt (h : SMon f S) {x y : Int} (hx : S x) (hy : S y) : f x < f y ↔ x < y := by
  constructor
  · intro q
    rcases Int.lt_trichotomy x y with z | z | z
    · exact z
    · subst z; omega
    · have := h y x hy hx z; omega
  · exact h x y hx hy
theorem SMon.inj (h : SMon f S) {x y : Int} (hx : S x) (hy : S y) : f x = f y ↔ x = y := by
  constructor
  · intro q
    rcases Int.lt_trichotomy x y with z | z | z
    · have := h x y hx hy z; omega
    · exact z
    · have := h y x hy hx z; omega
  · intro q; rw [q]
theorem SMon.pw (h : SMon f S) {ks : List Int} (hs : ∀ x ∈ ks, S x) (hp : ks.Pairwise (· < ·)) : (ks.map f).Pairwise (· < ·) := by
  rw [List.pairwise_map]
  exact List.Pairwise.imp_of_mem (fun ha hb q => h _ _ (hs _ ha) (hs _ hb) q) hp
theorem SMon.mem (h : SMon f S) {ks : List Int} {n : Int} (hs : ∀ x ∈ ks, S x) (hn : S n) : f n ∈ ks.map f ↔ n ∈ ks := by
  rw [List.mem_map]
  constructor
  · rintro ⟨x, hx, e⟩
    rw [← (h.inj (hs x hx) hn).mp e]; exact hx
  · intro q; exact ⟨n, q, rfl⟩
theorem SMon.less (h : SMon f S) {ks : List Int} {n : Int} (hs : ∀ x ∈ ks, S x) (hn : S n) : less (f n) (ks.map f) = less n ks := by
  unfold MM.less
  rw [List.filter_map, List.length_map]
  congr 1
  refine List.filter_congr fun x hx => ?_
  show decide (f x < f n) = decide (x < n)
  rw [decide_eq_decide]
  exact h.lt (hs x hx) hn
theorem SMon.pos (h : SMon f S) {ks : List Int} {n : Int} (hs : ∀ x ∈ ks, S x) (hn : S n) (hp : ks.Pairwise (· < ·)) : posOf (f n) (ks.map f) 0 = posOf n ks 0 := by
  rw [(pos_eq (n := f n) 0 (h.pw hs hp)).1, (pos_eq (n := n) 0 hp).1, h.less hs hn]
  have : inN (f n) (ks.map f) = inN n ks := by
    unfold inN
    by_cases q : n ∈ ks
    · rw [if_pos q, if_pos ((h.mem hs hn).mpr q)]
    · rw [if_neg q, if_neg (fun z => q ((h.mem hs hn).mp z))]
  rw [this]
theorem SMon.asc (h : SMon f S) {L : List Int} (hs : ∀ x ∈ L, S x) : DL.asc (L.map f) = (DL.asc L).map f := by
  refine (asc_of (h.pw (fun x hx => hs x (mem_asc.mp hx)) (asc_pw L)) fun z => ?_).symm
  rw [List.mem_map, List.mem_map]
  constructor
  · rintro ⟨x, hx, e⟩; exact ⟨x, mem_asc.mp hx, e⟩
  · rintro ⟨x, hx, e⟩; exact ⟨x, mem_asc.mpr hx, e⟩
theorem SMon.cands (h : SMon f S) {ks : List Int} {n : Int} (hs : ∀ x ∈ ks, S x) (hn : S n) (hp : ks.Pairwise (· < ·)) : MM.cands (ks.map f) (f n) = (MM.cands ks n).map f := by
  rw [cands_asc (h.pw hs hp), cands_asc hp, show ks.map f ++ [f n] = (ks ++ [n]).map f by rw [List.map_append]; rfl]
  exact h.asc fun x hx => (List.mem_append.mp hx).elim (hs x) fun q => by rw [List.mem_singleton] at q; rw [q]; exact hn
theorem gi_map {f : Int → Int} {K : List Int} {i : Int} (h0 : 0 ≤ i) (h1 : i < K.length) : gi (K.map f) i = f (gi K i) := by
  obtain ⟨k, rfl⟩ : ∃ k : Nat, i = k := ⟨i.toNat, by omega⟩
  have hk : k < K.length := by omega
  rw [gi_nat (List.getElem?_eq_getElem hk), gi_nat (x := f K[k]) (by rw [List.getElem?_map, List.getElem?_eq_getElem hk]; rfl)]
def mapC (f : Int → Int) (c : Conf) : Conf := (c.1, c.2.map f)
def mapR (f : Int → Int) (r : Conf × List O3) : Conf × List O3 := (mapC f r.1, r.2.map fun o => (o.1, o.2.1, f o.2.2))
theorem cands_mem {ks : List Int} {n x : Int} (hp : ks.Pairwise (· < ·)) : x ∈ cands ks n ↔ x ∈ ks ∨ x = n := by
  rw [cands_asc hp, mem_asc, List.mem_append, List.mem_singleton]
theorem step_map {p : Pg} {c : Conf} {nm : St} {n : Int} (W : Wf p) (C : CfOk p c) (hm : nm ∈ p.names) (h : SMon f S) (hs : ∀ x ∈ c.2, S x) (hn : S n) : stepV p (mapC f c) (nm, f n) = mapR f (stepV p c (nm, n)) := by
  have F := step_facts (m := (nm, n)) W C hm
  have hc : cands (mapC f c).2 (f n) = (cands c.2 n).map f := h.cands hs hn C.pw
  have hr : rlOf p (mapC f c) (nm, f n) = rlOf p c (nm, n) := by
    unfold rlOf rix
    show gi p.rules (ruleIx p c.1.toNat _ (posOf (f n) (c.2.map f) 0)) = _
    rw [h.pos hs hn C.pw]
  have pk := F.ok.pk
  have ob := F.ok.out
  show (((rlOf p (mapC f c) (nm, f n)).tg, (rlOf p (mapC f c) (nm, f n)).pk.map (gi (cands (mapC f c).2 (f n)))), stepO p (cands (mapC f c).2 (f n)) (rlOf p (mapC f c) (nm, f n))) = _
  rw [hr]
  show ((_, (rlOf p c (nm, n)).pk.map (gi (cands (mapC f c).2 (f n)))), stepO p (cands (mapC f c).2 (f n)) (rlOf p c (nm, n))) = _
  rw [hc]
  refine Prod.ext (Prod.ext rfl ?_) ?_
  · show (rlOf p c (nm, n)).pk.map _ = ((rlOf p c (nm, n)).pk.map _).map f
    rw [List.map_map]
    exact List.map_congr_left fun i hi => gi_map (pk i hi).1 (pk i hi).2
  · show stepO _ _ _ = (stepO _ _ _).map _
    unfold stepO
    rw [List.map_map]
    refine List.map_congr_left fun o ho => ?_
    show (_, _, gi ((cands c.2 n).map f) o.2.2) = (_, _, f (gi (cands c.2 n) o.2.2))
    rw [gi_map (ob o ho).2.1 (ob o ho).2.2]
theorem step_sub {p : Pg} {c : Conf} {nm : St} {n : Int} (W : Wf p) (C : CfOk p c) (hm : nm ∈ p.names) : ∀ x ∈ (stepV p c (nm, n)).1.2, x ∈ c.2 ∨ x = n := by
  have F := step_facts (m := (nm, n)) W C hm
  intro x hx
  have hx : x ∈ (rlOf p c (nm, n)).pk.map (gi (cands c.2 n)) := hx
  obtain ⟨i, hi, rfl⟩ := List.mem_map.mp hx
  exact (cands_mem C.pw).mp (gi_mem (F.ok.pk i hi).1 (F.ok.pk i hi).2)
theorem mapC_ok {p : Pg} {c : Conf} (C : CfOk p c) (h : SMon f S) (hs : ∀ x ∈ c.2, S x) : CfOk p (mapC f c) := ⟨C.s0, C.s1, h.pw hs C.pw, by show ((c.2.map f).length : Int) = _; rw [List.length_map]; exact C.ln⟩
/-! ### ranks -/
theorem SMon.rk (h : SMon f S) {L : List Int} {n : Int} (hs : ∀ x ∈ L, S x) (hn : S n) : MM.rk (L.map f) (f n) = MM.rk L n := by
  unfold MM.rk
  rw [h.asc hs]
  have := h.less (ks := DL.asc L) (fun x hx => hs x (mem_asc.mp hx)) hn
  unfold MM.less at this
  rw [this]
theorem rk_mono (L : List Int) : SMon (rk L) (· ∈ L) := by
  intro x y hx hy hl
  obtain ⟨i, hi⟩ := List.mem_iff_getElem?.mp (mem_asc.mpr hx)
  obtain ⟨j, hj⟩ := List.mem_iff_getElem?.mp (mem_asc.mpr hy)
  have e1 := less_at (asc_pw L) hi
  have e2 := less_at (asc_pw L) hj
  unfold rk
  rw [e1, e2]
  obtain ⟨i1, i2⟩ := List.getElem?_eq_some_iff.mp hi
  obtain ⟨j1, j2⟩ := List.getElem?_eq_some_iff.mp hj
  have : i < j := by
    rcases Nat.lt_trichotomy i j with z | z | z
    · exact z
    · subst z; omega
    · have := List.pairwise_iff_getElem.mp (asc_pw L) j i j1 i1 z
      omega
  omega
theorem rk_bd' {L : List Int} {x : Int} (hx : x ∈ L) : 0 ≤ rk L x ∧ rk L x < (asc L).length := by
  obtain ⟨i, hi⟩ := List.mem_iff_getElem?.mp (mem_asc.mpr hx)
  have e1 := less_at (asc_pw L) hi
  have i1 := (List.getElem?_eq_some_iff.mp hi).1
  unfold rk
  rw [e1]
  omega
theorem asc_rk (L : List Int) : (asc L).map (rk L) = rgI (asc L).length := by
  refine List.ext_getElem? fun i => ?_
  unfold rgI
  rw [List.getElem?_map, List.getElem?_map]
  by_cases hi : i < (asc L).length
  · rw [List.getElem?_range hi, List.getElem?_eq_getElem hi]
    show some (rk L _) = some (i : Int)
    unfold rk
    rw [less_at (asc_pw L) (List.getElem?_eq_getElem hi)]
  · rw [List.getElem?_eq_none (by omega), List.getElem?_eq_none (by rw [List.length_range]; omega)]
    rfl
theorem nums_mapC (f : Int → Int) (cs : List Conf) : nums (cs.map (mapC f)) = (nums cs).map f := by
  unfold nums
  rw [List.flatMap_map, List.map_flatMap]
  rfl
theorem rspot_eq (cs : List Conf) : rspot cs = cs.map (mapC (rk (nums cs))) := rfl
theorem rspot_map {cs : List Conf} (h : SMon f S) (hs : ∀ x ∈ nums cs, S x) : rspot (cs.map (mapC f)) = rspot cs := by
  rw [rspot_eq, rspot_eq, nums_mapC, List.map_map]
  refine List.map_congr_left fun c hc => ?_
  show (c.1, (c.2.map f).map _) = (c.1, c.2.map _)
  rw [List.map_map]
  refine Prod.ext rfl (List.map_congr_left fun x hx => ?_)
  exact h.rk hs (hs x (mem_nums hc hx))
theorem asc_rspot (cs : List Conf) : asc (nums (rspot cs)) = rgI (asc (nums cs)).length := by
  rw [rspot_eq, nums_mapC, (rk_mono (nums cs)).asc (fun x hx => hx), asc_rk]
end
/-! ### several steps at once -/
def AllCf (ps : List Pg) (cs : List Conf) : Prop := cs.length = ps.length ∧ ∀ q ∈ ps.zip cs, Wf q.1 ∧ CfOk q.1 q.2
theorem zip_mapr {α β γ : Type} (f : β → γ) : ∀ (xs : List α) (ys : List β), xs.zip (ys.map f) = (xs.zip ys).map fun q => (q.1, f q.2)
  | [], _ => rfl
  | _ :: _, [] => rfl
  | x :: xs, y :: ys => by rw [List.map_cons, List.zip_cons_cons, List.zip_cons_cons, List.map_cons, zip_mapr f xs ys]
def resV (ps : List Pg) (cs : List Conf) (nm : St) (n : Int) : List (Conf × List O3) := (ps.zip cs).map fun q => stepV q.1 q.2 (nm, n)
theorem AllCf.mem {ps : List Pg} {cs : List Conf} (A : AllCf ps cs) {c : Conf} (hc : c ∈ cs) : ∃ p ∈ ps, Wf p ∧ CfOk p c := by
  obtain ⟨i, hi⟩ := List.mem_iff_getElem?.mp hc
  have i1 := (List.getElem?_eq_some_iff.mp hi).1
  have i2 : i < ps.length := by rw [← A.1]; exact i1
  have hq : (ps[i], c) ∈ ps.zip cs := List.mem_of_getElem? (i := i) (by rw [List.getElem?_zip_eq_some]; exact ⟨List.getElem?_eq_getElem i2, hi⟩)
  obtain ⟨w, c'⟩ := A.2 _ hq
  exact ⟨ps[i], List.getElem_mem i2, w, c'⟩
theorem res_map {f : Int → Int} {S : Int → Prop} {ps : List Pg} {cs : List Conf} {nm : St} {n : Int} (A : AllCf ps cs) (hm : ∀ p ∈ ps, nm ∈ p.names) (h : SMon f S) (hs : ∀ x ∈ nums cs, S x) (hn : S n) : resV ps (cs.map (mapC f)) nm (f n) = (resV ps cs nm n).map (mapR f) := by
  unfold resV
  rw [zip_mapr, List.map_map, List.map_map]
  refine List.map_congr_left fun q hq => ?_
  obtain ⟨w, c⟩ := A.2 q hq
  obtain ⟨h1, h2⟩ := List.of_mem_zip hq
  exact step_map w c (hm _ h1) h (fun x hx => hs x (mem_nums h2 hx)) hn
theorem res_sub {ps : List Pg} {cs : List Conf} {nm : St} {n : Int} (A : AllCf ps cs) (hm : ∀ p ∈ ps, nm ∈ p.names) : ∀ x ∈ nums ((resV ps cs nm n).map (·.1)), x ∈ nums cs ∨ x = n := by
  intro x hx
  unfold nums at hx
  obtain ⟨c, hc, hx⟩ := List.mem_flatMap.mp hx
  obtain ⟨r, hr, rfl⟩ := List.mem_map.mp hc
  unfold resV at hr
  obtain ⟨q, hq, rfl⟩ := List.mem_map.mp hr
  obtain ⟨w, c⟩ := A.2 q hq
  obtain ⟨h1, h2⟩ := List.of_mem_zip hq
  rcases step_sub w c (hm _ h1) x hx with z | z
  · exact .inl (mem_nums h2 z)
  · exact .inr z
theorem res_cf {ps : List Pg} {cs : List Conf} {nm : St} {n : Int} (A : AllCf ps cs) (hm : ∀ p ∈ ps, nm ∈ p.names) : AllCf ps ((resV ps cs nm n).map (·.1)) := by
  refine ⟨by unfold resV; rw [List.length_map, List.length_map, List.length_zip, A.1, Nat.min_self], fun q hq => ?_⟩
  obtain ⟨i, hi⟩ := List.mem_iff_getElem?.mp hq
  rw [List.getElem?_zip_eq_some] at hi
  obtain ⟨h1, h2⟩ := hi
  unfold resV at h2
  rw [List.map_map, List.getElem?_map] at h2
  cases hz : (ps.zip cs)[i]? with
  | none => rw [hz] at h2; cases h2
  | some z =>
    rw [hz] at h2
    have hz' := hz
    rw [List.getElem?_zip_eq_some] at hz'
    have e1 : z.1 = q.1 := by have := hz'.1; rw [h1] at this; exact (Option.some.inj this).symm
    obtain ⟨w, c⟩ := A.2 z (List.mem_of_getElem? hz)
    have hzm := (List.of_mem_zip (List.mem_of_getElem? hz)).1
    have e2 : (stepV z.1 z.2 (nm, n)).1 = q.2 := Option.some.inj h2
    rw [← e1, ← e2]
    exact ⟨w, (step_facts (m := (nm, n)) w c (hm _ hzm)).cf⟩
theorem AllCf.map {f : Int → Int} {S : Int → Prop} {ps : List Pg} {cs : List Conf} (A : AllCf ps cs) (h : SMon f S) (hs : ∀ x ∈ nums cs, S x) : AllCf ps (cs.map (mapC f)) := by
  refine ⟨by rw [List.length_map]; exact A.1, fun q hq => ?_⟩
  rw [zip_mapr] at hq
  obtain ⟨z, hz, rfl⟩ := List.mem_map.mp hq
  obtain ⟨w, c⟩ := A.2 z hz
  exact ⟨w, mapC_ok c h fun x hx => hs x (mem_nums (List.of_mem_zip hz).2 hx)⟩
theorem AllCf.few {ps : List Pg} {cs : List Conf} (A : AllCf ps cs) : (nums cs).length ≤ 2 * ps.length := by
  rw [← A.1]
  have all : ∀ l : List Conf, (∀ c ∈ l, c.2.length ≤ 2) → (nums l).length ≤ 2 * l.length := by
    intro l
    induction l with
    | nil => intro _; exact Nat.le_refl _
    | cons a l ih =>
      intro h
      have := ih fun c hc => h c (List.mem_cons_of_mem _ hc)
      have ha := h a List.mem_cons_self
      unfold nums at *
      rw [List.flatMap_cons, List.length_append, List.length_cons]
      omega
  refine all cs fun c hc => ?_
  obtain ⟨p, _, w, k⟩ := A.mem hc
  have := w.sb _ (gi_mem k.s0 k.s1)
  have := k.ln
  omega
end MM
end
section
set_option Elab.async false
set_option linter.all false
set_option maxRecDepth 100000
set_option maxHeartbeats 400000
namespace MM
open PySem PySem.Spec PyProof.Rows L2 NdefX DL
/-! ### spots reached -/
structure PsOk (ps : List Pg) (names : List St) : Prop where
  len : ps.length ≤ 5
  wf : ∀ p ∈ ps, Wf p
  nm : ∀ p ∈ ps, p.names = names
  nl : names.length ≤ 4
  no : ∀ x ∈ names, PyData.strOk x = true
def Gd (ps : List Pg) (sp : List Conf) : Prop := ∃ cs, AllCf ps cs ∧ sp = rspot cs
theorem first_cf {ps : List Pg} {names : List St} (O : PsOk ps names) : AllCf ps (firstS ps) := by
  refine ⟨by unfold firstS; rw [List.length_map], fun q hq => ?_⟩
  obtain ⟨h1, h2⟩ := List.of_mem_zip hq
  unfold firstS at h2
  obtain ⟨_, _, e⟩ := List.mem_map.mp h2
  rw [← e]
  exact ⟨O.wf _ h1, start_ok (O.wf _ h1)⟩
theorem first_gd {ps : List Pg} {names : List St} (O : PsOk ps names) : Gd ps (firstS ps) := ⟨firstS ps, first_cf O, (first_eq ps).symm⟩
theorem dbl_mapC (sp : List Conf) : dbl sp = sp.map (mapC fun r => 2 * r) := rfl
theorem two_mono (S : Int → Prop) : SMon (fun r => 2 * r) S := fun x y _ _ h => by show 2 * x < 2 * y; omega
theorem gi_rgI {m : Nat} {i : Int} (h0 : 0 ≤ i) (h1 : i < m) : gi (rgI m) i = i := by
  obtain ⟨k, rfl⟩ : ∃ k : Nat, i = k := ⟨i.toNat, by omega⟩
  have hk : k < m := by omega
  refine gi_nat ?_
  unfold rgI
  rw [List.getElem?_map, List.getElem?_range hk]
  rfl
theorem rgI_len (m : Nat) : (rgI m).length = m := by unfold rgI; rw [List.length_map, List.length_range]
structure SpF (ps : List Pg) (sp : List Conf) (m : Nat) : Prop where
  cf : AllCf ps sp
  as : asc (nums sp) = rgI m
  cd : AllCf ps (dbl sp)
  ks : saKs sp = (rgI m).map fun r => 2 * r
theorem spot_f {ps : List Pg} {cs : List Conf} (A : AllCf ps cs) : SpF ps (rspot cs) (asc (nums cs)).length := by
  have c1 : AllCf ps (rspot cs) := by rw [rspot_eq]; exact A.map (rk_mono (nums cs)) fun x hx => hx
  refine ⟨c1, asc_rspot cs, by rw [dbl_mapC]; exact c1.map (two_mono fun _ => True) fun _ _ => trivial, ?_⟩
  unfold saKs
  rw [dbl_mapC, nums_mapC, (two_mono fun _ => True).asc fun _ _ => trivial, asc_rspot]
theorem SpF.mlen {ps : List Pg} {sp : List Conf} {m : Nat} (F : SpF ps sp m) : (asc (nums sp)).length = m := by rw [F.as, rgI_len]
theorem step_tk {names : List St} {ps : List Pg} {sp : List Conf} {m : Nat} (F : SpF ps sp m) {tk : Msg} (h : tk ∈ stepsV names sp) : tk.1 ∈ names ∧ 0 ≤ tk.2 ∧ tk.2 ≤ 2 * (m : Int) := by
  unfold stepsV at h
  obtain ⟨nm, hn, h⟩ := List.mem_flatMap.mp h
  obtain ⟨i, hi, rfl⟩ := List.mem_map.mp h
  have hi := List.mem_range.mp hi
  rw [F.mlen] at hi
  exact ⟨hn, by show 0 ≤ (i : Int); omega, by show (i : Int) ≤ _; omega⟩
theorem ln_in {ps : List Pg} {sp : List Conf} {m : Nat} (F : SpF ps sp m) {tk : Msg} (h0 : 0 ≤ tk.2) (h1 : tk.2 ≤ 2 * (m : Int)) : (tk.2 % 2 = 1 → lnN tk ∈ saKs sp) ∧ (tk.2 % 2 = 0 → lnN tk ∉ saKs sp) := by
  rw [F.ks]
  constructor
  · intro h
    refine List.mem_map.mpr ⟨tk.2 / 2, mem_rgI.mpr ⟨by omega, by omega⟩, ?_⟩
    unfold lnN
    omega
  · intro h q
    obtain ⟨x, _, e⟩ := List.mem_map.mp q
    unfold lnN at e
    omega
theorem posIn_less (kn : List Int) (n : Int) : posIn kn n = (less n kn : Int) := rfl
theorem safterN_eq {ps : List Pg} {names : List St} {sp : List Conf} {m : Nat} (O : PsOk ps names) (F : SpF ps sp m) {tk : Msg} (ht : tk.1 ∈ names) (h0 : 0 ≤ tk.2) (h1 : tk.2 ≤ 2 * (m : Int)) : safterN ps sp tk.1 (lnN tk) = safterV ps sp tk := by
  have e0 : safterV ps sp tk = safterN ps sp tk.1 (saN sp tk) := rfl
  rw [e0]
  by_cases hm : m = 0
  · subst hm
    have t0 : tk.2 = 0 := by omega
    have ks0 : saKs sp = [] := by rw [F.ks]; rfl
    have n0 : saN sp tk = 0 := by unfold saN; rw [ks0, t0]; rfl
    have l0 : lnN tk = -1 := by unfold lnN; rw [t0]; rfl
    have nn : nums (dbl sp) = [] := by
      refine List.eq_nil_iff_forall_not_mem.mpr fun x hx => ?_
      have : x ∈ saKs sp := by unfold saKs; exact mem_asc.mpr hx
      rw [ks0] at this
      cases this
    have mono : SMon (fun x => x - 1) (fun _ => True) := fun x y _ _ h => by show x - 1 < y - 1; omega
    have dm : (dbl sp).map (mapC fun x => x - 1) = dbl sp := by
      refine (List.map_congr_left (g := id) fun c hc => ?_).trans (List.map_id _)
      have : c.2 = [] := List.eq_nil_iff_forall_not_mem.mpr fun x hx => by
        have := mem_nums hc hx
        rw [nn] at this
        cases this
      unfold mapC
      rw [this]
      exact Prod.ext rfl this.symm
    have hr : resV ps (dbl sp) tk.1 (-1) = (resV ps (dbl sp) tk.1 0).map (mapR fun x => x - 1) := by
      have := res_map (n := 0) F.cd (fun p hp => by rw [O.nm p hp]; exact ht) mono (fun _ _ => trivial) trivial
      rwa [dm] at this
    rw [n0, l0]
    unfold safterN
    rw [show saResN ps sp tk.1 (-1) = resV ps (dbl sp) tk.1 (-1) from rfl, show saResN ps sp tk.1 0 = resV ps (dbl sp) tk.1 0 from rfl, hr]
    refine Prod.ext ?_ ?_
    · show rspot (((resV ps (dbl sp) tk.1 0).map (mapR fun x => x - 1)).map (·.1)) = rspot _
      rw [List.map_map, show ((fun r : Conf × List O3 => r.1) ∘ mapR fun x => x - 1) = (mapC fun x => x - 1) ∘ (fun r : Conf × List O3 => r.1) from rfl, ← List.map_map]
      exact rspot_map mono fun _ _ => trivial
    · show ((resV ps (dbl sp) tk.1 0).map (mapR fun x => x - 1)).map (saOutN sp (-1)) = _
      rw [List.map_map]
      refine List.map_congr_left fun r _ => ?_
      show ((r.2.map fun o => (o.1, o.2.1, o.2.2 - 1)).map fun o => (o.1, o.2.1, posIn (asc (saKs sp ++ [-1])) o.2.2)) = r.2.map fun o => (o.1, o.2.1, posIn (asc (saKs sp ++ [0])) o.2.2)
      rw [List.map_map]
      refine List.map_congr_left fun o _ => ?_
      show (o.1, o.2.1, posIn (asc (saKs sp ++ [-1])) (o.2.2 - 1)) = (o.1, o.2.1, posIn (asc (saKs sp ++ [0])) o.2.2)
      rw [ks0, posIn_less, posIn_less, show asc ([] ++ [(-1 : Int)]) = (asc [(0 : Int)]).map (fun x => x - 1) by decide, mono.less (ks := asc [(0 : Int)]) (fun _ _ => trivial) trivial]
      rfl
  · have e : lnN tk = saN sp tk := by
      unfold saN newN
      rw [F.ks, List.length_map, rgI_len]
      by_cases p1 : tk.2 % 2 = 1
      · rw [if_pos p1, gi_map (by omega) (by rw [rgI_len]; omega), gi_rgI (by omega) (by omega)]
        unfold lnN
        omega
      · rw [if_neg p1, if_neg (by omega)]
        by_cases p0 : tk.2 = 0
        · rw [if_pos p0, gi_map (by omega) (by rw [rgI_len]; omega), gi_rgI (by omega) (by omega)]
          unfold lnN
          omega
        · rw [if_neg p0, gi_map (by omega) (by rw [rgI_len]; omega), gi_rgI (by omega) (by omega)]
          unfold lnN
          omega
    rw [e]
theorem zip_facts {ps : List Pg} {names : List St} {cs : List Conf} {nm : St} {n : Int} (O : PsOk ps names) (A : AllCf ps cs) (ht : nm ∈ names) : ∀ q ∈ ps.zip cs, StepFacts q.1 q.2 (nm, n) ∧ ∀ x ∈ cands q.2.2 n, x ∈ nums cs ∨ x = n := by
  intro q hq
  obtain ⟨w, c⟩ := A.2 q hq
  obtain ⟨h1, h2⟩ := List.of_mem_zip hq
  refine ⟨step_facts w c (by rw [O.nm _ h1]; exact ht), fun x hx => ?_⟩
  rcases (cands_mem c.pw).mp hx with z | z
  · exact .inl (mem_nums h2 z)
  · exact .inr z
theorem sa_ok {ps : List Pg} {names : List St} {sp : List Conf} {m : Nat} (O : PsOk ps names) (F : SpF ps sp m) {tk : Msg} (ht : tk.1 ∈ names) (h0 : 0 ≤ tk.2) (h1 : tk.2 ≤ 2 * (m : Int)) : SaOk ps sp tk ∧ SaLOk ps sp tk := by
  have len := O.len
  have f1 := F.cf.few
  have f2 := F.cd.few
  have sl := F.cf.1
  have hnm : ∀ p ∈ ps, tk.1 ∈ p.names := fun p hp => by rw [O.nm p hp]; exact ht
  have r1 := res_cf (nm := tk.1) (n := saN sp tk) F.cd hnm
  have r2 := res_cf (nm := tk.1) (n := lnN tk) F.cd hnm
  have f3 := r1.few
  have f4 := r2.few
  have rb : ∀ c ∈ sp, ∀ r ∈ c.2, 0 ≤ r ∧ r < 1000 := fun c hc r hr => by
    have hx : r ∈ asc (nums sp) := mem_asc.mpr (mem_nums hc hr)
    rw [F.as] at hx
    have := mem_rgI.mp hx
    have ml := F.mlen
    have := asc_len_le (nums sp)
    omega
  have kl : (saKs sp).length = m := by rw [F.ks, List.length_map, rgI_len]
  obtain ⟨od, ev⟩ := ln_in F h0 h1
  refine ⟨⟨by omega, by omega, rb, by omega, h0, by rw [kl]; exact h1, fun q hq => ?_, ?_⟩, ⟨by omega, sl, rb, by omega, fun c hc => ?_, od, ev, fun q hq => ?_, ?_, fun c hc => ?_⟩⟩
  · obtain ⟨sf, cm⟩ := zip_facts (n := saN sp tk) O F.cd ht q hq
    refine ⟨sf.ok, fun o ho => ?_⟩
    unfold saKn
    rw [mem_asc, List.mem_append, List.mem_singleton]
    rcases cm _ (sf.om o ho) with z | z
    · exact .inl (by unfold saKs; exact mem_asc.mpr z)
    · exact .inr z
  · show (nums ((resV ps (dbl sp) tk.1 (saN sp tk)).map (·.1))).length < 64
    omega
  · obtain ⟨p, _, _, c'⟩ := F.cf.mem hc
    exact c'.pw.imp fun h => by omega
  · obtain ⟨sf, _⟩ := zip_facts (n := lnN tk) O F.cd ht q hq
    have := sf.ol
    exact ⟨sf.eq, by omega⟩
  · show (nums ((resV ps (dbl sp) tk.1 (lnN tk)).map (·.1))).length < 64
    omega
  · obtain ⟨p, _, _, c'⟩ := r2.mem (show c ∈ (resV ps (dbl sp) tk.1 (lnN tk)).map (·.1) from hc)
    exact c'.pw.imp fun h => by omega
theorem sa_gd {ps : List Pg} {names : List St} (O : PsOk ps names) {sp : List Conf} (G : Gd ps sp) {tk : Msg} (h : tk ∈ stepsV names sp) : Gd ps (safterV ps sp tk).1 := by
  obtain ⟨cs, A, rfl⟩ := G
  have F := spot_f A
  obtain ⟨ht, _, _⟩ := step_tk F h
  exact ⟨(resV ps (dbl (rspot cs)) tk.1 (saN (rspot cs) tk)).map (·.1), res_cf F.cd (fun p hp => by rw [O.nm p hp]; exact ht), rfl⟩
theorem sa_out {ps : List Pg} {names : List St} (O : PsOk ps names) {sp : List Conf} (G : Gd ps sp) {tk : Msg} (h : tk ∈ stepsV names sp) : (safterV ps sp tk).2.length = ps.length ∧ ∀ o ∈ (safterV ps sp tk).2, OuOk o := by
  obtain ⟨cs, A, rfl⟩ := G
  have F := spot_f A
  obtain ⟨ht, _, _⟩ := step_tk F h
  refine ⟨?_, fun o ho => ?_⟩
  · show (((ps.zip (dbl (rspot cs))).map _).map _).length = _
    rw [List.length_map, List.length_map, List.length_zip, F.cd.1, Nat.min_self]
  · have ho : o ∈ (saRes ps (rspot cs) tk).map (saOut (rspot cs) tk) := ho
    obtain ⟨r, hr, rfl⟩ := List.mem_map.mp ho
    obtain ⟨q, hq, rfl⟩ := List.mem_map.mp (show r ∈ (ps.zip (dbl (rspot cs))).map fun q => stepV q.1 q.2 (tk.1, saN (rspot cs) tk) from hr)
    obtain ⟨sf, _⟩ := zip_facts (n := saN (rspot cs) tk) O F.cd ht q hq
    intro x hx
    obtain ⟨y, hy, rfl⟩ := List.mem_map.mp (show x ∈ (stepV q.1 q.2 (tk.1, saN (rspot cs) tk)).2.map _ from hx)
    exact sf.ou y hy
/-! ### turns -/
def MeanB (es : List Ent) : Prop := es.length < 64 ∧ ∀ (k : Nat) (a b c : Int), k < es.length → gi es (k : Int) = .mg a b c → (0 ≤ a ∧ a < k) ∧ (0 ≤ b ∧ b < k) ∧ 0 ≤ c ∧ c < k
theorem mean_of {es : List Ent} {sm : List Int} {rows : List (List O3)} (B : MeanB es) (hp : sm.Pairwise (· < ·)) (hl : sm.length = rows.length) (ho : ∀ o ∈ rows, OuOk o) : MeanOk es (sm.zip rows) := by
  refine ⟨B.1, B.2, ?_, fun q hq => ho _ (List.of_mem_zip hq).2⟩
  rw [List.map_fst_zip (by omega)]
  exact hp.imp fun h => by omega
theorem turnL {es : List Ent} {sm : List Int} {ps : List Pg} {names : List St} (O : PsOk ps names) (B : MeanB es) (hp : sm.Pairwise (· < ·)) (hl : sm.length = ps.length) {sp : List Conf} (G : Gd ps sp) : TurnLOk es sm ps names sp := by
  have G' := G
  obtain ⟨cs, A, rfl⟩ := G
  have F := spot_f A
  have len := O.len
  have f1 := F.cf.few
  have sl := F.cf.1
  refine ⟨by omega, by omega, fun c hc => ?_, fun tk htk => ?_⟩
  · obtain ⟨p, _, _, c'⟩ := F.cf.mem hc
    exact c'.pw.imp fun h => by omega
  · obtain ⟨ht, h0, h1⟩ := step_tk F htk
    obtain ⟨o1, o2⟩ := sa_out O G' htk
    exact ⟨(sa_ok O F ht h0 h1).2, safterN_eq O F ht h0 h1, mean_of B hp (by rw [o1, hl]) o2, hp, by rw [o1, hl], by omega⟩
theorem turnP {dom : List (List O3) → Prop} {ps : List Pg} {names : List St} (O : PsOk ps names) (hd : ∀ rows : List (List O3), rows.length = ps.length → (∀ o ∈ rows, OuOk o) → dom rows) {sp : List Conf} (G : Gd ps sp) : TurnOk ps names dom sp := by
  have G' := G
  obtain ⟨cs, A, rfl⟩ := G
  have F := spot_f A
  have len := O.len
  have nl := O.nl
  have f1 := F.cf.few
  have sl := F.cf.1
  refine ⟨by omega, by omega, by omega, fun tk htk => ?_⟩
  obtain ⟨ht, h0, h1⟩ := step_tk F htk
  obtain ⟨o1, o2⟩ := sa_out O G' htk
  exact ⟨(sa_ok O F ht h0 h1).1, hd _ o1 o2⟩
end MM
end
section
set_option Elab.async false
set_option linter.all false
set_option maxRecDepth 100000
set_option maxHeartbeats 400000
namespace MM
open PySem PySem.Spec PyProof.Rows L2 NdefX DL
/-! ### the new number lies alike -/
theorem gi_le {K : List Int} (hp : K.Pairwise (· < ·)) {i j : Int} (h0 : 0 ≤ i) (h1 : i ≤ j) (h2 : j < K.length) : gi K i ≤ gi K j := by
  rcases Int.lt_or_eq_of_le h1 with h | h
  · have := gi_lt hp h0 h h2; omega
  · rw [h]; omega
theorem gap {K : List Int} (hp : K.Pairwise (· < ·)) (he : ∀ x ∈ K, x % 2 = 0) (ns : List Int) {pos : Int} (h0 : 0 ≤ pos) (h1 : pos ≤ 2 * (K.length : Int)) (ev : pos % 2 = 0) {i : Int} (i0 : 0 ≤ i) (i1 : i < K.length) : (gi K i < newN K ns pos ↔ i < pos / 2) ∧ gi K i ≠ newN K ns pos := by
  have e1 := he _ (gi_mem i0 i1)
  unfold newN
  rw [if_neg (by omega), if_neg (by omega)]
  by_cases p0 : pos = 0
  · rw [if_pos p0]
    have := gi_le hp (Int.le_refl 0) i0 i1
    omega
  · rw [if_neg p0]
    have j0 : 0 ≤ pos / 2 - 1 := by omega
    have j1 : pos / 2 - 1 < K.length := by omega
    have e2 := he _ (gi_mem j0 j1)
    rcases Int.lt_or_le (pos / 2 - 1) i with q | q
    · have := gi_lt hp j0 q i1
      omega
    · have := gi_le hp i0 q j1
      omega
theorem gi_of_mem {K : List Int} {x : Int} (h : x ∈ K) : ∃ i : Int, 0 ≤ i ∧ i < K.length ∧ gi K i = x := by
  obtain ⟨k, hk⟩ := List.mem_iff_getElem?.mp h
  have := (List.getElem?_eq_some_iff.mp hk).1
  exact ⟨k, by omega, by omega, gi_nat hk⟩
/-- a number new to the row, told in both rows by one place -/
theorem newN_map {K : List Int} {f0 : Int → Int} (hp : K.Pairwise (· < ·)) (he : ∀ x ∈ K, x % 2 = 0) (h : SMon f0 (· ∈ K)) (h2 : ∀ x, f0 x % 2 = 0) (ns ns' : List Int) {pos : Int} (h0 : 0 ≤ pos) (h1 : pos ≤ 2 * (K.length : Int)) :
    SMon (fun x => if x = newN K ns pos then newN (K.map f0) ns' pos else f0 x) (fun x => x ∈ K ∨ x = newN K ns pos) ∧ ∀ x ∈ K, (if x = newN K ns pos then newN (K.map f0) ns' pos else f0 x) = f0 x := by
  have kp : (K.map f0).Pairwise (· < ·) := h.pw (fun x hx => hx) hp
  have ke : ∀ x ∈ K.map f0, x % 2 = 0 := fun x hx => by obtain ⟨y, _, rfl⟩ := List.mem_map.mp hx; exact h2 y
  have key : ∀ x ∈ K, (x = newN K ns pos → f0 x = newN (K.map f0) ns' pos) ∧ (x < newN K ns pos ↔ f0 x < newN (K.map f0) ns' pos) ∧ (x ≠ newN K ns pos → f0 x ≠ newN (K.map f0) ns' pos) := by
    intro x hx
    by_cases od : pos % 2 = 1
    · have e1 : newN K ns pos = gi K (pos / 2) := by unfold newN; rw [if_pos od]
      have e2 : newN (K.map f0) ns' pos = gi (K.map f0) (pos / 2) := by unfold newN; rw [if_pos od]
      have j0 : 0 ≤ pos / 2 := by omega
      have j1 : pos / 2 < K.length := by omega
      have jm := gi_mem j0 j1
      rw [e1, e2, gi_map j0 j1]
      refine ⟨fun q => by rw [← q], (h.lt hx jm).symm, fun q z => q ((h.inj hx jm).mp z)⟩
    · obtain ⟨i, i0, i1, rfl⟩ := gi_of_mem hx
      obtain ⟨a1, a2⟩ := gap hp he ns h0 h1 (by omega) i0 i1
      obtain ⟨b1, b2⟩ := gap kp ke ns' (pos := pos) h0 (by rw [List.length_map]; exact h1) (by omega) i0 (by rw [List.length_map]; exact i1)
      rw [gi_map i0 i1] at b1 b2
      exact ⟨fun q => absurd q a2, a1.trans b1.symm, fun _ => b2⟩
  refine ⟨fun x y hx hy hl => ?_, fun x hx => ?_⟩
  · show (if x = newN K ns pos then newN (K.map f0) ns' pos else f0 x) < (if y = newN K ns pos then newN (K.map f0) ns' pos else f0 y)
    by_cases ex : x = newN K ns pos
    · rw [if_pos ex]
      by_cases ey : y = newN K ns pos
      · omega
      · rw [if_neg ey]
        rcases hy with hy | hy
        · obtain ⟨_, k2, k3⟩ := key y hy
          have q := k3 ey
          have q2 : ¬ f0 y < newN (K.map f0) ns' pos := fun z => by have := k2.mpr z; omega
          omega
        · exact absurd hy ey
    · rw [if_neg ex]
      rcases hx with hx | hx
      · by_cases ey : y = newN K ns pos
        · rw [if_pos ey]
          exact (key x hx).2.1.mp (by omega)
        · rw [if_neg ey]
          rcases hy with hy | hy
          · exact h x y hx hy hl
          · exact absurd hy ey
      · exact absurd hx ex
  · by_cases ex : x = newN K ns pos
    · rw [if_pos ex, (key x hx).1 ex]
    · rw [if_neg ex]
/-! ### runs of messages told otherwise -/
def mapM (f : Int → Int) (m : Msg) : Msg := (m.1, f m.2)
theorem run_map {f : Int → Int} {S : Int → Prop} {p : Pg} (W : Wf p) (h : SMon f S) : ∀ (ms : List Msg) (z z' : Conf × List (List O3)), z'.1 = mapC f z.1 → CfOk p z.1 → (∀ x ∈ z.1.2, S x) → (∀ m ∈ ms, m.1 ∈ p.names ∧ S m.2) →
    ((ms.map (mapM f)).foldl (runF p) z').1 = mapC f (ms.foldl (runF p) z).1 ∧ ∀ x ∈ (ms.foldl (runF p) z).1.2, S x
  | [], z, z', e, _, hs, _ => ⟨e, hs⟩
  | m :: ms, z, z', e, C, hs, hm => by
    rw [List.map_cons, List.foldl_cons, List.foldl_cons]
    obtain ⟨m1, m2⟩ := hm m List.mem_cons_self
    refine run_map W h ms _ _ ?_ ?_ ?_ fun x hx => hm x (List.mem_cons_of_mem _ hx)
    · show (stepV p z'.1 (m.1, f m.2)).1 = mapC f (stepV p z.1 m).1
      rw [e, step_map W C m1 h hs m2]
      rfl
    · exact (step_facts W C m1).cf
    · intro x hx
      rcases step_sub (nm := m.1) (n := m.2) W C m1 x hx with q | q
      · exact hs x q
      · rw [q]; exact m2
def Nms (names : List St) (ms : List Msg) : Prop := ∀ m ∈ ms, m.1 ∈ names
theorem ends_map {f : Int → Int} {S : Int → Prop} {ps : List Pg} {names : List St} (O : PsOk ps names) (h : SMon f S) {ms : List Msg} (hn : Nms names ms) (hs : ∀ m ∈ ms, S m.2) : ends ps (ms.map (mapM f)) = (ends ps ms).map (mapC f) ∧ ∀ x ∈ nums (ends ps ms), S x := by
  have one : ∀ p ∈ ps, (runV p (ms.map (mapM f))).1 = mapC f (runV p ms).1 ∧ ∀ x ∈ (runV p ms).1.2, S x := fun p hp =>
    run_map (O.wf p hp) h ms ((0, []), []) ((0, []), []) rfl (start_ok (O.wf p hp)) (fun x hx => absurd hx (by simp)) fun m hm => ⟨by rw [O.nm p hp]; exact hn m hm, hs m hm⟩
  constructor
  · unfold ends
    rw [List.map_map]
    exact List.map_congr_left fun p hp => (one p hp).1
  · intro x hx
    unfold nums ends at hx
    obtain ⟨c, hc, hx⟩ := List.mem_flatMap.mp hx
    obtain ⟨p, hp, rfl⟩ := List.mem_map.mp hc
    exact (one p hp).2 x hx
theorem zip_mapself {α β : Type} (g : α → β) : ∀ xs : List α, xs.zip (xs.map g) = xs.map fun x => (x, g x)
  | [] => rfl
  | x :: xs => by rw [List.map_cons, List.zip_cons_cons, zip_mapself g xs, List.map_cons]
theorem ends_cf {ps : List Pg} {names : List St} (O : PsOk ps names) {ms : List Msg} (hn : Nms names ms) : AllCf ps (ends ps ms) := by
  refine ⟨by unfold ends; rw [List.length_map], fun q hq => ?_⟩
  unfold ends at hq
  rw [zip_mapself] at hq
  obtain ⟨p, hp, rfl⟩ := List.mem_map.mp hq
  exact ⟨O.wf p hp, run_cf (O.wf p hp) fun m hm => by rw [O.nm p hp]; exact hn m hm⟩
theorem ends_snoc (ps : List Pg) (ms : List Msg) (nm : St) (n : Int) : ends ps (ms ++ [(nm, n)]) = (resV ps (ends ps ms) nm n).map (·.1) := by
  unfold ends resV
  rw [zip_mapself, List.map_map, List.map_map]
  refine List.map_congr_left fun p _ => ?_
  unfold runV
  rw [List.foldl_append]
  rfl
theorem ranked_map (ms : List Msg) : rankedV ms = ms.map (mapM (rk (ms.map (·.2)))) := rfl
theorem rspot_ranked {ps : List Pg} {names : List St} (O : PsOk ps names) {ms : List Msg} (hn : Nms names ms) : rspot (ends ps (rankedV ms)) = rspot (ends ps ms) := by
  rw [ranked_map]
  obtain ⟨e, s⟩ := ends_map O (rk_mono (ms.map (·.2))) hn (fun m hm => List.mem_map.mpr ⟨m, hm, rfl⟩)
  rw [e]
  exact rspot_map (rk_mono (ms.map (·.2))) s
theorem doubled_map (ms : List Msg) : doubled ms = ms.map (mapM fun x => 2 * rk (ms.map (·.2)) x) := by
  unfold doubled
  rw [ranked_map, List.map_map]
  rfl
theorem dbl_mono (L : List Int) : SMon (fun x => 2 * rk L x) (· ∈ L) := fun x y hx hy h => by have := rk_mono L x y hx hy h; show 2 * rk L x < 2 * rk L y; omega
theorem Nms.map {names : List St} {ms : List Msg} {f : Int → Int} (h : Nms names ms) : Nms names (ms.map (mapM f)) := by
  intro m hm
  obtain ⟨x, hx, rfl⟩ := List.mem_map.mp hm
  exact h x hx
/-- one step: the input goes on to where the spot goes -/
theorem cont_step {ps : List Pg} {names : List St} (O : PsOk ps names) {ms : List Msg} {sp : List Conf} (hn : Nms names ms) (hl : ms.length < 63) (hsp : rspot (ends ps ms) = sp) {tk : Msg} (ht : tk ∈ stepsV names sp) :
    ContOk ps ms tk ∧ Nms names (contV ps ms tk) ∧ (contV ps ms tk).length = ms.length + 1 ∧ rspot (ends ps (contV ps ms tk)) = (safterV ps sp tk).1 := by
  have len := O.len
  have hd : Nms names (doubled ms) := by rw [doubled_map]; exact hn.map
  have dl : (doubled ms).length = ms.length := by rw [doubled_map, List.length_map]
  obtain ⟨e2, s2⟩ := ends_map O (dbl_mono (ms.map (·.2))) hn (fun m hm => List.mem_map.mpr ⟨m, hm, rfl⟩)
  rw [← doubled_map] at e2
  have A := ends_cf O hd
  have few := A.few
  have hE : rspot (ends ps (doubled ms)) = sp := by rw [e2, ← hsp]; exact rspot_map (dbl_mono (ms.map (·.2))) s2
  have F := spot_f A
  rw [hE] at F
  obtain ⟨t1, t2, t3⟩ := step_tk F ht
  have hK : contKs ps ms = asc (nums (ends ps (doubled ms))) := rfl
  have kl : ((contKs ps ms).length : Int) = ((asc (nums (ends ps (doubled ms)))).length : Nat) := by rw [hK]
  have hnm : ∀ p ∈ ps, tk.1 ∈ p.names := fun p hp => by rw [O.nm p hp]; exact t1
  have even : ∀ x ∈ contKs ps ms, x % 2 = 0 := by
    intro x hx
    rw [hK, mem_asc, e2, nums_mapC] at hx
    obtain ⟨y, _, rfl⟩ := List.mem_map.mp hx
    show 2 * rk _ y % 2 = 0
    omega
  have hm0 : SMon (fun x => 2 * rk (nums (ends ps (doubled ms))) x) (· ∈ contKs ps ms) := fun x y hx hy h => dbl_mono _ x y (mem_asc.mp hx) (mem_asc.mp hy) h
  have ksm : saKs sp = (contKs ps ms).map fun x => 2 * rk (nums (ends ps (doubled ms))) x := by
    rw [F.ks, hK, ← asc_rk, List.map_map]
    rfl
  obtain ⟨fm, fe⟩ := newN_map (f0 := fun x => 2 * rk (nums (ends ps (doubled ms))) x) (K := contKs ps ms) (asc_pw _) even hm0 (fun x => by show 2 * _ % 2 = 0; omega) ((doubled ms).map (·.2)) [] (pos := tk.2) t2 (by rw [kl]; exact t3)
  rw [← ksm] at fm fe
  have hN : newN (contKs ps ms) ((doubled ms).map (·.2)) tk.2 = contN ps ms tk := rfl
  have hN' : newN (saKs sp) [] tk.2 = saN sp tk := rfl
  rw [hN, hN'] at fm fe
  have dE : dbl sp = (ends ps (doubled ms)).map (mapC fun x => if x = contN ps ms tk then saN sp tk else 2 * rk (nums (ends ps (doubled ms))) x) := by
    rw [dbl_mapC]
    conv => lhs; rw [← hE, rspot_eq, List.map_map]
    refine List.map_congr_left fun c hc => ?_
    refine Prod.ext rfl ?_
    show (c.2.map (rk (nums (ends ps (doubled ms))))).map _ = c.2.map _
    rw [List.map_map]
    refine List.map_congr_left fun x hx => ?_
    have hxk : x ∈ contKs ps ms := by rw [hK]; exact mem_asc.mpr (mem_nums hc hx)
    exact (fe x hxk).symm
  have sub : ∀ x ∈ nums (ends ps (doubled ms)), x ∈ contKs ps ms ∨ x = contN ps ms tk := fun x hx => .inl (by rw [hK]; exact mem_asc.mpr hx)
  have hr : resV ps (dbl sp) tk.1 (saN sp tk) = (resV ps (ends ps (doubled ms)) tk.1 (contN ps ms tk)).map (mapR fun x => if x = contN ps ms tk then saN sp tk else 2 * rk (nums (ends ps (doubled ms))) x) := by
    have := res_map (n := contN ps ms tk) A hnm fm sub (.inr rfl)
    simp only [if_pos] at this
    rw [← dE] at this
    exact this
  have hsa : (safterV ps sp tk).1 = rspot ((resV ps (ends ps (doubled ms)) tk.1 (contN ps ms tk)).map (·.1)) := by
    show rspot ((resV ps (dbl sp) tk.1 (saN sp tk)).map (·.1)) = _
    rw [hr, List.map_map]
    rw [show ((fun r : Conf × List O3 => r.1) ∘ mapR fun x => if x = contN ps ms tk then saN sp tk else 2 * rk (nums (ends ps (doubled ms))) x) = (mapC fun x => if x = contN ps ms tk then saN sp tk else 2 * rk (nums (ends ps (doubled ms))) x) ∘ (fun r : Conf × List O3 => r.1) from rfl, ← List.map_map]
    refine rspot_map fm fun x hx => ?_
    rcases res_sub A hnm x hx with q | q
    · exact sub x q
    · exact .inr q
  have hd2 : Nms names (doubled ms ++ [(tk.1, contN ps ms tk)]) := fun m hm => by
    rcases List.mem_append.mp hm with q | q
    · exact hd m q
    · rw [List.mem_singleton] at q; rw [q]; exact t1
  refine ⟨⟨hl, by omega, fun p hp => run_ok (O.wf p hp) (fun m hm => by rw [O.nm p hp]; exact hd m hm) (by omega), by omega, t2, by rw [kl]; exact t3⟩, ?_, ?_, ?_⟩
  · unfold contV
    rw [ranked_map]
    exact hd2.map
  · unfold contV
    rw [ranked_map, List.length_map, List.length_append, dl]
    rfl
  · unfold contV
    rw [rspot_ranked O hd2, ends_snoc, hsa]
/-! ### paths -/
inductive Reach (ps : List Pg) (names : List St) : List Msg → List Conf → Prop
  | nil : Reach ps names [] (firstS ps)
  | snoc {path : List Msg} {sp : List Conf} {tk : Msg} : Reach ps names path sp → tk ∈ stepsV names sp → Reach ps names (path ++ [tk]) (safterV ps sp tk).1
theorem inputV_snoc (ps : List Pg) (path : List Msg) (tk : Msg) : inputV ps (path ++ [tk]) = contV ps (inputV ps path) tk := by unfold inputV; rw [List.foldl_append]; rfl
theorem reach_ok {ps : List Pg} {names : List St} (O : PsOk ps names) {path : List Msg} {sp : List Conf} (R : Reach ps names path sp) : path.length ≤ 60 → Nms names (inputV ps path) ∧ (inputV ps path).length = path.length ∧ rspot (ends ps (inputV ps path)) = sp ∧ InputOk ps path := by
  induction R with
  | nil => exact fun _ => ⟨fun m hm => absurd hm (by simp [inputV]), rfl, first_eq ps, ⟨fun k tk h => by simp at h⟩⟩
  | @snoc path sp tk R ht ih =>
    intro hl
    rw [List.length_append] at hl
    have hl : path.length + 1 ≤ 60 := hl
    obtain ⟨i1, i2, i3, i4⟩ := ih (by omega)
    obtain ⟨c1, c2, c3, c4⟩ := cont_step O i1 (by omega) i3 ht
    rw [inputV_snoc]
    refine ⟨c2, by rw [c3, i2, List.length_append]; rfl, c4, ⟨fun k t hk => ?_⟩⟩
    rcases Nat.lt_trichotomy k path.length with q | q | q
    · rw [List.getElem?_append_left q] at hk
      rw [List.take_append_of_le_length (Nat.le_of_lt q)]
      exact i4.ok k t hk
    · subst q
      rw [List.getElem?_append_right (Nat.le_refl _), Nat.sub_self] at hk
      have : t = tk := (Option.some.inj hk).symm
      subst this
      rw [List.take_left']
      · exact c1
      · rfl
    · rw [List.getElem?_eq_none (by rw [List.length_append]; show path.length + 1 ≤ k; omega)] at hk
      cases hk
end MM
end
section
set_option Elab.async false
set_option linter.all false
set_option maxRecDepth 100000
set_option maxHeartbeats 400000
namespace MM
open PySem PySem.Spec PyProof.Rows L2 NdefX DL
/-! ### the two searches -/
theorem runE_ind {S R : Type} {stp : S → Nat → S ⊕ R} (I : Nat → S → Prop) (Q : R → Prop) (N : Nat) (hs : ∀ k z z', k < N → I k z → stp z k = .inl z' → I (k + 1) z') (hq : ∀ k z r, k < N → I k z → stp z k = .inr r → Q r) :
    ∀ (m j : Nat) (z : S), j + m ≤ N → I j z → (∀ z', runE stp z (List.range' j m) = .inl z' → I (j + m) z') ∧ ∀ r, runE stp z (List.range' j m) = .inr r → Q r
  | 0, j, z, _, h => ⟨fun z' e => by cases e; exact h, fun r e => by cases e⟩
  | m + 1, j, z, hN, h => by
    rw [List.range'_succ]
    unfold runE
    cases e : stp z j with
    | inl z1 =>
      have := runE_ind I Q N hs hq m (j + 1) z1 (by omega) (hs j z z1 (by omega) h e)
      rw [show j + (m + 1) = j + 1 + m by omega]
      exact this
    | inr r => exact ⟨fun z' e => (by cases e), fun r' e' => (by cases e'; exact hq j z r (by omega) h e)⟩
def Rel (kept : List KE) (z : List LE) : Prop := kept.map (·.2) = z.map (·.1) ∧ ∀ (i : Nat) (e : LE), z[i]? = some e → Chain kept (i : Int) e.2.reverse
theorem Rel.len {kept : List KE} {z : List LE} (h : Rel kept z) : kept.length = z.length := by have := congrArg List.length h.1; rwa [List.length_map, List.length_map] at this
theorem gi_app {α : Type} [Inhabited α] {xs ys : List α} {a : Int} (h0 : 0 ≤ a) (h1 : a < xs.length) : gi (xs ++ ys) a = gi xs a := by
  obtain ⟨k, rfl⟩ : ∃ k : Nat, a = k := ⟨a.toNat, by omega⟩
  have hk : k < xs.length := by omega
  rw [gi_nat (List.getElem?_eq_getElem hk), gi_nat (x := xs[k]) (by rw [List.getElem?_append_left hk]; exact List.getElem?_eq_getElem hk)]
theorem Chain.app {kept : List KE} (r : List KE) {a : Int} {l : List Msg} (h : Chain kept a l) : Chain (kept ++ r) a l := by
  induction h with
  | zero => exact .zero
  | step h0 h1 he _ ih => exact .step h0 (by rw [List.length_append]; omega) (by rw [gi_app (Int.le_of_lt h0) h1]; exact he) ih
theorem Rel.spot {kept : List KE} {z : List LE} (h : Rel kept z) {a : Nat} (ha : a < z.length) : spAt kept a = (gi z (a : Int)).1 := by
  have hk : a < kept.length := by rw [h.len]; exact ha
  have := congrArg (fun l => l[a]?) h.1
  simp only [List.getElem?_map, List.getElem?_eq_getElem hk, List.getElem?_eq_getElem ha, Option.map_some] at this
  unfold spAt
  rw [gi_nat (List.getElem?_eq_getElem hk), gi_nat (List.getElem?_eq_getElem ha)]
  exact Option.some.inj this
theorem extLF_pre (ps : List Pg) (e : LE) (z : List LE) (tk : Msg) : ∃ r, extLF ps e z tk = z ++ r := by
  unfold extLF
  split
  · exact ⟨[], by simp⟩
  · exact ⟨_, rfl⟩
theorem extL_pre (ps : List Pg) (e : LE) : ∀ (tks : List Msg) (z : List LE), ∃ r, extL ps e z tks = z ++ r
  | [], z => ⟨[], by simp [extL]⟩
  | tk :: tks, z => by
    obtain ⟨r1, h1⟩ := extLF_pre ps e z tk
    obtain ⟨r2, h2⟩ := extL_pre ps e tks (extLF ps e z tk)
    refine ⟨r1 ++ r2, ?_⟩
    show extL ps e (extLF ps e z tk) tks = _
    rw [h2, h1, List.append_assoc]
theorem ext_rel {ps : List Pg} {e : LE} {a : Nat} : ∀ (tks : List Msg) (kept : List KE) (z : List LE), Rel kept z → z.length ≤ 400 → z[a]? = some e →
    ((extL ps e z tks).length ≤ 400 → ∃ kept', extAll ps e.1 (a : Int) kept tks = some kept' ∧ Rel kept' (extL ps e z tks)) ∧ (400 < (extL ps e z tks).length → extAll ps e.1 (a : Int) kept tks = none)
  | [], kept, z, h, hl, ha => ⟨fun _ => ⟨kept, rfl, h⟩, fun q => absurd hl (by show ¬ z.length ≤ 400; exact Nat.not_le.mpr q)⟩
  | tk :: tks, kept, z, h, hl, ha => by
    have hm : (safterV ps e.1 tk).1 ∈ kept.map (·.2) ↔ (safterV ps e.1 tk).1 ∈ z.map (·.1) := by rw [h.1]
    have al := (List.getElem?_eq_some_iff.mp ha).1
    have kl := h.len
    by_cases q : (safterV ps e.1 tk).1 ∈ z.map (·.1)
    · have e1 : extLF ps e z tk = z := by unfold extLF; rw [if_pos q]
      have e2 : extF ps e.1 (a : Int) kept tk = some kept := by unfold extF; rw [if_pos (hm.mpr q)]
      show ((extL ps e (extLF ps e z tk) tks).length ≤ 400 → _) ∧ (400 < (extL ps e (extLF ps e z tk) tks).length → _)
      rw [show extL ps e z (tk :: tks) = extL ps e (extLF ps e z tk) tks from rfl, e1]
      unfold extAll
      rw [e2]
      exact ext_rel tks kept z h hl ha
    · have e1 : extLF ps e z tk = z ++ [((safterV ps e.1 tk).1, e.2 ++ [tk])] := by unfold extLF; rw [if_neg q]
      rw [show extL ps e z (tk :: tks) = extL ps e (extLF ps e z tk) tks from rfl, e1]
      unfold extAll
      by_cases q4 : kept.length = 400
      · have e2 : extF ps e.1 (a : Int) kept tk = none := by unfold extF; rw [if_neg (fun x => q (hm.mp x)), if_pos q4]
        rw [e2]
        obtain ⟨r, hr⟩ := extL_pre ps e tks (z ++ [((safterV ps e.1 tk).1, e.2 ++ [tk])])
        refine ⟨fun x => ?_, fun _ => rfl⟩
        rw [hr, List.length_append, List.length_append] at x
        have : z.length + 1 + r.length ≤ 400 := x
        omega
      · have e2 : extF ps e.1 (a : Int) kept tk = some (kept ++ [(((a : Int), some tk), (safterV ps e.1 tk).1)]) := by unfold extF; rw [if_neg (fun x => q (hm.mp x)), if_neg q4]
        rw [e2]
        refine ext_rel tks _ _ ⟨?_, fun i x hx => ?_⟩ (by rw [List.length_append]; show z.length + 1 ≤ 400; omega) (by rw [List.getElem?_append_left al]; exact ha)
        · rw [List.map_append, List.map_append, h.1]
          rfl
        · rcases Nat.lt_trichotomy i z.length with y | y | y
          · rw [List.getElem?_append_left y] at hx
            exact (h.2 i x hx).app _
          · subst y
            rw [List.getElem?_append_right (Nat.le_refl _), Nat.sub_self] at hx
            have hx : x = ((safterV ps e.1 tk).1, e.2 ++ [tk]) := (Option.some.inj hx).symm
            subst hx
            show Chain _ _ (e.2 ++ [tk]).reverse
            rw [List.reverse_append]
            refine .step (b := (a : Int)) (by omega) (by rw [List.length_append]; show _ < ((kept.length + 1 : Nat) : Int); omega) ?_ ((h.2 a e ha).app _)
            have : (kept ++ [(((a : Int), some tk), (safterV ps e.1 tk).1)])[z.length]? = some (((a : Int), some tk), (safterV ps e.1 tk).1) := by
              rw [← kl, List.getElem?_append_right (Nat.le_refl _), Nat.sub_self]; rfl
            rw [gi_nat this]
          · rw [List.getElem?_eq_none (by rw [List.length_append]; show z.length + 1 ≤ i; omega)] at hx
            cases hx
structure Pfx (ps : List Pg) (names : List St) (mark : List (List O3) → Bool) (dom : List (List O3) → Prop) (n : Nat) (kp : Nat → List KE) : Prop where
  k0 : kp 0 = [((0, none), firstS ps)]
  ln : ∀ k, k ≤ n → (kp k).length ≤ 400
  turn : ∀ k, k ≤ n → k < (kp k).length → TurnOk ps names dom (spAt (kp k) k)
  go : ∀ k, k < n → k < (kp k).length ∧ (∀ tk ∈ stepsV names (spAt (kp k) k), mark (safterV ps (spAt (kp k) k) tk).2 = false) ∧ extAll ps (spAt (kp k) k) (k : Int) (kp k) (stepsV names (spAt (kp k) k)) = some (kp (k + 1))
theorem Pfx.fin {ps : List Pg} {names : List St} {mark : List (List O3) → Bool} {dom : List (List O3) → Prop} {n : Nat} {kp : Nat → List KE} {e : SEnd} (h : Pfx ps names mark dom n kp) (pl : ps.length < 1000) (f : finOk ps names mark n (kp n) e) : SrchOk ps names mark dom n kp e := ⟨pl, h.k0, h.ln, h.turn, h.go, f⟩
def ReachAll (ps : List Pg) (names : List St) (j : Nat) (z : List LE) : Prop := ∀ e ∈ z, Reach ps names e.2 e.1 ∧ e.2.length ≤ j
def AliveI (ps : List Pg) (names : List St) (mark : List (List O3) → Bool) (dom : List (List O3) → Prop) (j : Nat) (z : List LE) : Prop := ∃ kp, Pfx ps names mark dom j kp ∧ Rel (kp j) z ∧ z.length ≤ 400 ∧ j ≤ z.length
def DoneI (ps : List Pg) (names : List St) (mark : List (List O3) → Bool) (dom : List (List O3) → Prop) (j : Nat) (z : List LE) : Prop := z.length ≤ j ∧ ∃ kp n, SrchOk ps names mark dom n kp .none
def DeadI (ps : List Pg) (names : List St) (mark : List (List O3) → Bool) (dom : List (List O3) → Prop) (z : List LE) : Prop := 400 < z.length ∧ ∃ kp n, SrchOk ps names mark dom n kp .large
def SInv (ps : List Pg) (names : List St) (mark : List (List O3) → Bool) (dom : List (List O3) → Prop) (j : Nat) (z : List LE) : Prop := ReachAll ps names j z ∧ (AliveI ps names mark dom j z ∨ DoneI ps names mark dom j z ∨ DeadI ps names mark dom z)
theorem reach_gd {ps : List Pg} {names : List St} (O : PsOk ps names) {path : List Msg} {sp : List Conf} (R : Reach ps names path sp) : Gd ps sp := by
  induction R with
  | nil => exact first_gd O
  | snoc _ ht ih => exact sa_gd O ih ht
theorem reachAll_ext {ps : List Pg} {names : List St} {j : Nat} {e : LE} (he : Reach ps names e.2 e.1 ∧ e.2.length ≤ j) : ∀ (tks : List Msg) (z : List LE), (∀ tk ∈ tks, tk ∈ stepsV names e.1) → ReachAll ps names (j + 1) z → ReachAll ps names (j + 1) (extL ps e z tks)
  | [], z, _, h => h
  | tk :: tks, z, ht, h => by
    show ReachAll ps names (j + 1) (extL ps e (extLF ps e z tk) tks)
    refine reachAll_ext he tks _ (fun x hx => ht x (List.mem_cons_of_mem _ hx)) ?_
    unfold extLF
    split
    · exact h
    · intro x hx
      rcases List.mem_append.mp hx with q | q
      · exact h x q
      · rw [List.mem_singleton] at q
        subst q
        refine ⟨.snoc he.1 (ht tk List.mem_cons_self), ?_⟩
        show (e.2 ++ [tk]).length ≤ j + 1
        rw [List.length_append]
        have := he.2
        show e.2.length + 1 ≤ _
        omega
theorem ReachAll.up {ps : List Pg} {names : List St} {j : Nat} {z : List LE} (h : ReachAll ps names j z) : ReachAll ps names (j + 1) z := fun e he => ⟨(h e he).1, Nat.le_succ_of_le (h e he).2⟩
def QRes (ps : List Pg) (names : List St) (mark : List (List O3) → Bool) (dom : List (List O3) → Prop) (r : List Msg × Nat) : Prop :=
  (r.2 ≤ 400 ∧ (∃ sp, Reach ps names r.1 sp) ∧ r.1.length ≤ 60 ∧ ∃ kp n tk l, SrchOk ps names mark dom n kp (.found tk l) ∧ (tk :: l).reverse = r.1) ∨ (400 < r.2 ∧ ∃ kp n, SrchOk ps names mark dom n kp .large)
section
variable {ps : List Pg} {names : List St} {mark : List (List O3) → Bool} {dom : List (List O3) → Prop}
theorem sinv_step (O : PsOk ps names) (hT : ∀ sp, Gd ps sp → TurnOk ps names dom sp) {j : Nat} {z z' : List LE} (hj : j < 24) (I : SInv ps names mark dom j z) (e : trnL ps names mark z j = .inl z') : SInv ps names mark dom (j + 1) z' := by
  obtain ⟨R, I⟩ := I
  have len := O.len
  unfold trnL at e
  by_cases hz : j < z.length
  · rw [if_pos hz] at e
    have ez := List.getElem?_eq_getElem hz
    have eg := gi_nat ez
    have hR := R _ (gi_mem (xs := z) (i := (j : Int)) (by omega) (by omega))
    cases hf : (stepsV names (gi z (j : Int)).1).find? fun tk => mark (safterV ps (gi z (j : Int)).1 tk).2 with
    | some tk => rw [hf] at e; cases e
    | none =>
      rw [hf] at e
      cases e
      have hq : ∀ tk ∈ stepsV names (gi z (j : Int)).1, mark (safterV ps (gi z (j : Int)).1 tk).2 = false := fun tk htk => by
        have := List.find?_eq_none.mp hf tk htk
        simpa using this
      obtain ⟨pre, hpre⟩ := extL_pre ps (gi z (j : Int)) (stepsV names (gi z (j : Int)).1) z
      refine ⟨reachAll_ext hR _ _ (fun _ h => h) R.up, ?_⟩
      rcases I with ⟨kp, P, Rl, l4, jl⟩ | ⟨dl, _⟩ | ⟨d4, D⟩
      · have hsp := Rl.spot hz
        obtain ⟨x1, x2⟩ := ext_rel (ps := ps) (e := gi z (j : Int)) (a := j) (stepsV names (gi z (j : Int)).1) (kp j) z Rl l4 (by rw [eg]; exact ez)
        rcases Nat.lt_or_ge 400 (extL ps (gi z (j : Int)) z (stepsV names (gi z (j : Int)).1)).length with y | y
        · refine .inr (.inr ⟨y, kp, j, P.fin (by omega) ?_⟩)
          refine ⟨by rw [Rl.len]; exact hz, ?_, ?_⟩
          · rw [hsp]; exact hq
          · rw [hsp]; exact x2 y
        · obtain ⟨kept', y1, y2⟩ := x1 y
          refine .inl ⟨fun i => if i ≤ j then kp i else kept', ⟨?_, fun k hk => ?_, fun k hk hl => ?_, fun k hk => ?_⟩, ?_, y, ?_⟩
          · rw [if_pos (Nat.zero_le _)]; exact P.k0
          · by_cases q : k ≤ j
            · simp only [if_pos q]; exact P.ln k q
            · simp only [if_neg q]; rw [y2.len]; exact y
          · by_cases q : k ≤ j
            · simp only [if_pos q] at hl ⊢
              exact P.turn k q hl
            · simp only [if_neg q] at hl ⊢
              rw [y2.spot (by rw [← y2.len]; exact hl)]
              have hm := gi_mem (xs := extL ps (gi z (j : Int)) z (stepsV names (gi z (j : Int)).1)) (i := (k : Int)) (by omega) (by rw [y2.len] at hl; omega)
              exact hT _ (reach_gd O (reachAll_ext hR _ _ (fun _ h => h) R.up _ hm).1)
          · by_cases q : k < j
            · simp only [if_pos (Nat.le_of_lt q), if_pos (Nat.succ_le_of_lt q)]
              exact P.go k q
            · have : k = j := by omega
              subst this
              simp only [if_pos (Nat.le_refl k), if_neg (show ¬ k + 1 ≤ k by omega)]
              rw [hsp]
              exact ⟨by rw [Rl.len]; exact hz, hq, y1⟩
          · simp only [if_neg (show ¬ j + 1 ≤ j by omega)]
            exact y2
          · rw [hpre, List.length_append]
            omega
      · omega
      · refine .inr (.inr ⟨?_, D⟩)
        rw [hpre, List.length_append]
        omega
  · rw [if_neg hz] at e
    cases e
    refine ⟨R.up, ?_⟩
    rcases I with ⟨kp, P, Rl, l4, jl⟩ | ⟨dl, D⟩ | ⟨d4, D⟩
    · refine .inr (.inl ⟨by omega, kp, j, P.fin (by omega) ?_⟩)
      show j = (kp j).length
      rw [Rl.len]
      omega
    · exact .inr (.inl ⟨by omega, D⟩)
    · exact .inr (.inr ⟨d4, D⟩)
theorem sinv_found (O : PsOk ps names) {j : Nat} {z : List LE} {r : List Msg × Nat} (hj : j < 24) (I : SInv ps names mark dom j z) (e : trnL ps names mark z j = .inr r) : QRes ps names mark dom r := by
  obtain ⟨R, I⟩ := I
  have len := O.len
  unfold trnL at e
  by_cases hz : j < z.length
  · rw [if_pos hz] at e
    have ez := List.getElem?_eq_getElem hz
    have eg := gi_nat ez
    obtain ⟨hR1, hR2⟩ := R _ (gi_mem (xs := z) (i := (j : Int)) (by omega) (by omega))
    cases hf : (stepsV names (gi z (j : Int)).1).find? fun tk => mark (safterV ps (gi z (j : Int)).1 tk).2 with
    | none => rw [hf] at e; cases e
    | some tk =>
      rw [hf] at e
      cases e
      have htk := List.mem_of_find?_eq_some hf
      rcases I with ⟨kp, P, Rl, l4, jl⟩ | ⟨dl, _⟩ | ⟨d4, D⟩
      · have hsp := Rl.spot hz
        have hl : ((gi z (j : Int)).2 ++ [tk]).length ≤ 60 := by rw [List.length_append]; show _ + 1 ≤ 60; omega
        have R2 := Reach.snoc hR1 htk
        have erev : (tk :: (gi z (j : Int)).2.reverse).reverse = (gi z (j : Int)).2 ++ [tk] := by rw [List.reverse_cons, List.reverse_reverse]
        refine .inl ⟨l4, ⟨_, R2⟩, hl, kp, j, tk, (gi z (j : Int)).2.reverse, P.fin (by omega) ?_, erev⟩
        obtain ⟨i, i1, i2, i3⟩ := find_at hf
        refine ⟨by rw [Rl.len]; exact hz, ⟨i, by rw [hsp]; exact i1, by rw [hsp]; exact i2, by rw [hsp]; exact i3⟩, Rl.2 j _ (by rw [eg]; exact ez), by rw [List.length_reverse]; omega, ?_⟩
        rw [erev]
        exact (reach_ok O R2 hl).2.2.2
      · omega
      · exact .inr ⟨d4, D⟩
  · rw [if_neg hz] at e
    cases e
theorem search_eq (O : PsOk ps names) (hT : ∀ sp, Gd ps sp → TurnOk ps names dom sp) (hf : foundB (srchL ps names mark 24) = true) :
    DueOk ps (srchL ps names mark 24) ∧ ResOk (dueR ps (srchL ps names mark 24)) ∧ ∃ (n : Nat) (kp : Nat → List KE) (e : SEnd), SrchOk ps names mark dom n kp e ∧ partR ps e = dueR ps (srchL ps names mark 24) := by
  have len := O.len
  have I0 : SInv ps names mark dom 0 [(firstS ps, [])] := by
    refine ⟨fun e he => by rw [List.mem_singleton] at he; subst he; exact ⟨.nil, Nat.le_refl _⟩, .inl ⟨fun _ => [((0, none), firstS ps)], ⟨rfl, fun _ _ => (by show 1 ≤ 400; omega), fun k hk hl => ?_, fun k hk => absurd hk (Nat.not_lt_zero _)⟩, ⟨rfl, fun i e h => ?_⟩, (by show 1 ≤ 400; omega), Nat.zero_le _⟩⟩
    · have : k = 0 := by omega
      subst this
      exact hT _ (first_gd O)
    · cases i with
      | zero => cases h; exact .zero
      | succ i => simp at h
  obtain ⟨h1, h2⟩ := runE_ind (stp := trnL ps names mark) (SInv ps names mark dom) (QRes ps names mark dom) 24 (fun k z z' hk I e => sinv_step O hT hk I e) (fun k z r hk I e => sinv_found O hk I e) 24 0 [(firstS ps, [])] (by decide) I0
  rw [← List.range_eq_range'] at h1 h2
  have h1 : ∀ z', srchL ps names mark 24 = .inl z' → SInv ps names mark dom 24 z' := fun z' e => h1 z' e
  have h2 : ∀ r, srchL ps names mark 24 = .inr r → QRes ps names mark dom r := fun r e => h2 r e
  cases hr : srchL ps names mark 24 with
  | inl z =>
    rw [hr] at hf
    have zl : z.length ≤ 24 := by have := of_decide_eq_true hf; omega
    have ed : dueR ps (.inl z) = (true, none) := by
      show (if 400 < z.length then _ else _) = _
      rw [if_neg (by omega)]
    rw [ed]
    refine ⟨trivial, (fun ms h => nomatch h), ?_⟩
    obtain ⟨_, I⟩ := h1 z hr
    rcases I with ⟨kp, P, Rl, l4, jl⟩ | ⟨dl, kp, n, D⟩ | ⟨d4, _⟩
    · refine ⟨24, kp, .none, P.fin (by omega) ?_, rfl⟩
      show 24 = (kp 24).length
      rw [Rl.len]
      omega
    · exact ⟨n, kp, .none, D, rfl⟩
    · omega
  | inr r =>
    rcases h2 r hr with ⟨r4, ⟨sp, R⟩, rl, kp, n, tk, l, D, erev⟩ | ⟨r4, kp, n, D⟩
    · have ed : dueR ps (.inr r) = (true, some (inputV ps r.1)) := by
        show (if 400 < r.2 then _ else _) = _
        rw [if_neg (by omega)]
      obtain ⟨k1, _, _, k4⟩ := reach_ok O R rl
      rw [ed]
      refine ⟨fun _ => k4, fun ms h m hm => ?_, n, kp, .found tk l, D, ?_⟩
      · cases h
        exact O.no _ (k1 m hm)
      · show (true, some (inputV ps (tk :: l).reverse)) = _
        rw [erev]
    · have ed : dueR ps (.inr r) = (false, none) := by
        show (if 400 < r.2 then _ else _) = _
        rw [if_pos r4]
      rw [ed]
      exact ⟨fun q => absurd r4 (Nat.not_lt.mpr q), (fun ms h => nomatch h), n, kp, .large, D, rfl⟩
end
end MM
end
section
set_option Elab.async false
set_option linter.all false
set_option maxRecDepth 100000
set_option maxHeartbeats 400000
namespace MM
open PySem PySem.Spec PyProof.Rows L2 NdefX DL
/-! ### the law's entries -/
structure ES (es : List Ent) (names : List St) : Prop where
  pg : ∀ (k : Nat) p, es[k]? = some (.pg p) → k < 4 ∧ Wf p ∧ p.names = names ∧ p.chans = chansV names
  mg : ∀ (k : Nat) a b c, es[k]? = some (.mg a b c) → (0 ≤ a ∧ a < k) ∧ (0 ≤ b ∧ b < k) ∧ 0 ≤ c ∧ c < k
theorem ES.snoc {es : List Ent} {names : List St} (E : ES es names) {e : Ent} (h1 : ∀ p, e = .pg p → es.length < 4 ∧ Wf p ∧ p.names = names ∧ p.chans = chansV names) (h2 : ∀ a b c, e = .mg a b c → (0 ≤ a ∧ a < es.length) ∧ (0 ≤ b ∧ b < es.length) ∧ 0 ≤ c ∧ c < es.length) : ES (es ++ [e]) names := by
  have cs : ∀ {k : Nat} {x : Ent}, (es ++ [e])[k]? = some x → es[k]? = some x ∨ (k = es.length ∧ x = e) := by
    intro k x h
    rcases Nat.lt_trichotomy k es.length with q | q | q
    · rw [List.getElem?_append_left q] at h; exact .inl h
    · subst q
      rw [List.getElem?_append_right (Nat.le_refl _), Nat.sub_self] at h
      exact .inr ⟨rfl, (Option.some.inj h).symm⟩
    · rw [List.getElem?_eq_none (by rw [List.length_append]; show es.length + 1 ≤ k; omega)] at h
      cases h
  refine ⟨fun k p h => ?_, fun k a b c h => ?_⟩
  · rcases cs h with q | ⟨rfl, q⟩
    · exact E.pg k p q
    · exact h1 p q.symm
  · rcases cs h with q | ⟨rfl, q⟩
    · exact E.mg k a b c q
    · exact h2 a b c q.symm
theorem sameV_self (c1 c2 : Int) (names : List St) : sameV (planV c1 names) (planV c2 names) = planV c1 names := rfl
theorem ePg_ok (ns : List Int) {names : List St} (hn : NmOk names) (hs : ∀ x ∈ names, PyData.strOk x = true) (k : Nat) : Wf (ePg ns names k) ∧ (ePg ns names k).names = names ∧ (ePg ns names k).chans = chansV names := by
  unfold ePg
  split
  · unfold eBase
    rw [sameV_self]
    exact ⟨planV_ok _ hn hs, rfl, rfl⟩
  · exact ⟨sideV_ok _ (planV_ok _ hn hs), rfl, rfl⟩
theorem eN_bd (ns : List Int) : (1 ≤ eN1 ns ∧ eN1 ns ≤ 3) ∧ 1 ≤ eN2 ns ∧ eN2 ns ≤ 3 := by
  have m3 : ∀ x : Int, 0 ≤ x % 3 ∧ x % 3 < 3 := fun x => ⟨Int.emod_nonneg _ (by decide), Int.emod_lt_of_pos _ (by decide)⟩
  have g0 := m3 (gi (eRow ns) 0)
  have g5 := m3 (gi (eRow ns) 5)
  unfold eN1 eN2
  omega
theorem mgV_ok (r : List Int) (k s : Nat) (h : 0 < s) : (0 ≤ (mgV r k s).1 ∧ (mgV r k s).1 < s) ∧ (0 ≤ (mgV r k s).2.1 ∧ (mgV r k s).2.1 < s) ∧ 0 ≤ (mgV r k s).2.2 ∧ (mgV r k s).2.2 < s := by
  have md : ∀ x : Int, 0 ≤ x % (s : Int) ∧ x % (s : Int) < s := fun x => ⟨Int.emod_nonneg _ (by omega), Int.emod_lt_of_pos _ (by omega)⟩
  unfold mgV
  split
  · next q =>
    have h0 : 0 ≤ gi r (8 + 3 * (k : Int)) % ((s : Int) - 2) := Int.emod_nonneg _ (by omega)
    have h1 : gi r (8 + 3 * (k : Int)) % ((s : Int) - 2) < (s : Int) - 2 := Int.emod_lt_of_pos _ (by omega)
    exact ⟨⟨by show (0 : Int) ≤ 0; omega, by show (0 : Int) < _; omega⟩, ⟨by show (0 : Int) ≤ 1; omega, by show (1 : Int) < _; omega⟩, by show 0 ≤ 2 + _; omega, by show 2 + _ < _; omega⟩
  · exact ⟨md _, md _, md _⟩
theorem ent_ok (ns : List Int) {names : List St} (hn : NmOk names) (hs : ∀ x ∈ names, PyData.strOk x = true) : ES (entV ns names) names ∧ (entV ns names).length ≤ 7 ∧ gi (entV ns names) 0 = .pg (eBase ns names) ∧ 0 < (entV ns names).length := by
  obtain ⟨⟨a1, a3⟩, b1, b3⟩ := eN_bd ns
  have I1 := foldI (f := fun z k => z ++ [Ent.pg (ePg ns names k)]) (xs := List.range (eN1 ns)) (z0 := [Ent.pg (eBase ns names)]) (fun k z => ES z names ∧ z.length = 1 + k ∧ z[0]? = some (.pg (eBase ns names)))
    ⟨⟨fun k p h => by
        cases k with
        | zero => cases h; exact ⟨by omega, planV_ok _ hn hs, rfl, rfl⟩
        | succ k => simp at h, fun k a b c h => by
        cases k with
        | zero => cases h
        | succ k => simp at h⟩, rfl, rfl⟩ (fun k z i hk ⟨h1, h2, h3⟩ => by
      obtain ⟨rfl, hkn⟩ := rng_at hk
      refine ⟨h1.snoc (fun p q => ?_) (fun a b c q => by cases q), by rw [List.length_append, h2]; rfl, by rw [List.getElem?_append_left (by omega)]; exact h3⟩
      cases q
      exact ⟨by omega, ePg_ok ns hn hs i⟩)
  rw [List.length_range] at I1
  have I1' : ES (entA ns names) names ∧ (entA ns names).length = 1 + eN1 ns + 0 ∧ (entA ns names)[0]? = some (.pg (eBase ns names)) := I1
  have I2 := foldI (f := entB (eRow ns)) (xs := List.range (eN2 ns)) (z0 := entA ns names) (fun k z => ES z names ∧ z.length = 1 + eN1 ns + k ∧ z[0]? = some (Ent.pg (eBase ns names))) I1' (fun k z i hk ⟨h1, h2, h3⟩ => by
      unfold entB
      refine ⟨h1.snoc (fun p q => by cases q) (fun a b c q => ?_), by rw [List.length_append, h2]; rfl, by rw [List.getElem?_append_left (by omega)]; exact h3⟩
      cases q
      exact mgV_ok _ _ _ (by omega))
  rw [List.length_range] at I2
  have I2' : ES (entV ns names) names ∧ (entV ns names).length = 1 + eN1 ns + eN2 ns ∧ (entV ns names)[0]? = some (.pg (eBase ns names)) := I2
  obtain ⟨j1, j2, j3⟩ := I2'
  exact ⟨j1, by omega, gi_nat (k := 0) j3, by omega⟩
theorem ES.at {es : List Ent} {names : List St} (E : ES es names) {k : Nat} (hk : k < es.length) : es[k]? = some (gi es (k : Int)) := by rw [gi_nat (List.getElem?_eq_getElem hk)]; exact List.getElem?_eq_getElem hk
theorem ES.b {es : List Ent} {names : List St} (E : ES es names) : ∀ (k : Nat) (a b c : Int), k < es.length → gi es (k : Int) = .mg a b c → (0 ≤ a ∧ a < k) ∧ (0 ≤ b ∧ b < k) ∧ 0 ≤ c ∧ c < k := fun k a b c hk h => E.mg k a b c (by rw [E.at hk, h])
/-! ### parts -/
theorem row_len {r : List Int} {n : Nat} (hp : r.Pairwise (· < ·)) (h : ∀ x ∈ r, 0 ≤ x ∧ x < (n : Int)) : r.length ≤ n := by
  have := filt_asc h
  rw [asc_self hp] at this
  have l := List.length_filter_le (fun x => decide (x ∈ r)) (rgI n)
  rw [this, rgI_len] at l
  exact l
theorem parts_all {es : List Ent} {names : List St} (E : ES es names) : ∀ k, k ≤ es.length → ∀ (j : Nat) r, (partsR es k)[j]? = some r → r.Pairwise (· < ·) ∧ ∀ x ∈ r, (0 ≤ x ∧ x ≤ (j : Int)) ∧ (gi es x).isPg = true
  | 0, _, j, r, h => by cases h
  | k + 1, hk, j, r, h => by
    have ih := parts_all E k (Nat.le_of_lt hk)
    have ln := partsR_len es k
    have old : ∀ {a : Int}, 0 ≤ a → a < k → ∀ x ∈ gi (partsR es k) a, (0 ≤ x ∧ x ≤ a) ∧ (gi es x).isPg = true := by
      intro a a0 a1 x hx
      obtain ⟨i, rfl⟩ : ∃ i : Nat, a = i := ⟨a.toNat, by omega⟩
      have hi : i < (partsR es k).length := by omega
      rw [gi_nat (List.getElem?_eq_getElem hi)] at hx
      exact (ih i _ (List.getElem?_eq_getElem hi)).2 x hx
    have hb := E.b k
    rw [partsR_succ] at h
    unfold partsF at h
    cases he : gi es (k : Int) with
    | pg p =>
      rw [he] at h
      have h : (partsR es k ++ [[(k : Int)]])[j]? = some r := h
      rcases Nat.lt_or_ge j k with z | z
      · rw [List.getElem?_append_left (by omega)] at h
        exact ih j r h
      · rw [List.getElem?_append_right (by omega)] at h
        obtain ⟨e1, e2⟩ := List.getElem?_eq_some_iff.mp h
        simp only [List.length_singleton] at e1
        have : r = [(k : Int)] := by rw [← e2]; simp
        subst this
        refine ⟨List.pairwise_singleton _ _, fun x hx => ?_⟩
        rw [List.mem_singleton] at hx
        subst hx
        exact ⟨by omega, by rw [he]; rfl⟩
    | mg a b c =>
      obtain ⟨⟨a0, a1⟩, ⟨b0, b1⟩, c0, c1⟩ := hb a b c hk he
      rw [he] at h
      have h : (partsR es k ++ [asc (gi (partsR es k) a ++ gi (partsR es k) b ++ gi (partsR es k) c)])[j]? = some r := h
      rcases Nat.lt_or_ge j k with z | z
      · rw [List.getElem?_append_left (by omega)] at h
        exact ih j r h
      · rw [List.getElem?_append_right (by omega)] at h
        obtain ⟨e1, e2⟩ := List.getElem?_eq_some_iff.mp h
        simp only [List.length_singleton] at e1
        have : r = asc (gi (partsR es k) a ++ gi (partsR es k) b ++ gi (partsR es k) c) := by rw [← e2]; simp
        subst this
        refine ⟨asc_pw _, fun x hx => ?_⟩
        rw [mem_asc, List.mem_append, List.mem_append] at hx
        rcases hx with (hx | hx) | hx
        · obtain ⟨q1, q2⟩ := old a0 a1 x hx; exact ⟨by omega, q2⟩
        · obtain ⟨q1, q2⟩ := old b0 b1 x hx; exact ⟨by omega, q2⟩
        · obtain ⟨q1, q2⟩ := old c0 c1 x hx; exact ⟨by omega, q2⟩
theorem parts_row {es : List Ent} {names : List St} (E : ES es names) {n : Nat} (hn : n < es.length) : (partsV es n).Pairwise (· < ·) ∧ ∀ x ∈ partsV es n, (0 ≤ x ∧ x ≤ (n : Int)) ∧ (gi es x).isPg = true := by
  have hl : n < (partsR es (n + 1)).length := by rw [partsR_len]; exact Nat.lt_succ_self n
  have := parts_all E (n + 1) hn n _ (List.getElem?_eq_getElem hl)
  unfold partsV
  rwa [gi_nat (List.getElem?_eq_getElem hl)]
theorem parts_ok {es : List Ent} {names : List St} (E : ES es names) (h7 : es.length ≤ 7) : PartsOk es := by
  refine ⟨by omega, E.b, fun k a b c hk h => ?_⟩
  obtain ⟨⟨a0, a1⟩, ⟨b0, b1⟩, c0, c1⟩ := E.b k a b c hk h
  have rl : ∀ {a : Int}, 0 ≤ a → a < k → (gi (partsR es k) a).length ≤ 7 := by
    intro a a0 a1
    obtain ⟨i, rfl⟩ : ∃ i : Nat, a = i := ⟨a.toNat, by omega⟩
    have hi : i < (partsR es k).length := by rw [partsR_len]; omega
    rw [gi_nat (List.getElem?_eq_getElem hi)]
    obtain ⟨p, q⟩ := parts_all E k (Nat.le_of_lt hk) i _ (List.getElem?_eq_getElem hi)
    exact row_len p fun x hx => by have := (q x hx).1; omega
  have := rl a0 a1
  have := rl b0 b1
  have := rl c0 c1
  omega
theorem ES.pgAt {es : List Ent} {names : List St} (E : ES es names) {x : Int} (h0 : 0 ≤ x) (h1 : x < es.length) (h : (gi es x).isPg = true) : gi es x = .pg (pgOf (gi es x)) ∧ x < 4 ∧ Wf (pgOf (gi es x)) ∧ (pgOf (gi es x)).names = names ∧ (pgOf (gi es x)).chans = chansV names := by
  obtain ⟨k, rfl⟩ : ∃ k : Nat, x = k := ⟨x.toNat, by omega⟩
  have hk : k < es.length := by omega
  have ha := E.at hk
  generalize gi es (k : Int) = e at h ha ⊢
  cases e with
  | pg p =>
    obtain ⟨q1, q2⟩ := E.pg k p ha
    exact ⟨rfl, by omega, q2⟩
  | mg a b c => cases h
/-- the programs at some places -/
def pgsAt (es : List Ent) (sm : List Int) : List Pg := sm.map fun x => pgOf (gi es x)
structure SmOk (es : List Ent) (sm : List Int) : Prop where
  pw : sm.Pairwise (· < ·)
  bd : ∀ x ∈ sm, (0 ≤ x ∧ x < es.length) ∧ (gi es x).isPg = true
theorem SmOk.few {es : List Ent} {names : List St} {sm : List Int} (E : ES es names) (S : SmOk es sm) : sm.length ≤ 4 :=
  row_len S.pw fun x hx => by
    obtain ⟨⟨q1, q2⟩, q3⟩ := S.bd x hx
    exact ⟨q1, (E.pgAt q1 q2 q3).2.1⟩
theorem SmOk.pg {es : List Ent} {names : List St} {sm : List Int} (E : ES es names) (S : SmOk es sm) : sm.map (gi es) = (pgsAt es sm).map Ent.pg := by
  unfold pgsAt
  rw [List.map_map]
  refine List.map_congr_left fun x hx => ?_
  obtain ⟨⟨q1, q2⟩, q3⟩ := S.bd x hx
  exact (E.pgAt q1 q2 q3).1
theorem SmOk.ps {es : List Ent} {names : List St} {sm : List Int} (E : ES es names) (S : SmOk es sm) : ∀ p ∈ pgsAt es sm, Wf p ∧ p.names = names ∧ p.chans = chansV names := by
  intro p hp
  obtain ⟨x, hx, rfl⟩ := List.mem_map.mp hp
  obtain ⟨⟨q1, q2⟩, q3⟩ := S.bd x hx
  exact (E.pgAt q1 q2 q3).2.2
theorem row_sm {es : List Ent} {names : List St} (E : ES es names) {n : Nat} (hn : n < es.length) : SmOk es (partsV es n) := by
  obtain ⟨h1, h2⟩ := parts_row E hn
  exact ⟨h1, fun x hx => by obtain ⟨q1, q2⟩ := h2 x hx; exact ⟨by omega, q2⟩⟩
theorem tog_sm {es : List Ent} {names : List St} (E : ES es names) {n1 n2 : Nat} (h1 : n1 < es.length) (h2 : n2 < es.length) : SmOk es (togV es [n1, n2]) := by
  unfold togV
  refine ⟨asc_pw _, fun x hx => ?_⟩
  rw [mem_asc, List.flatMap_cons, List.flatMap_cons, List.flatMap_nil, List.append_nil, List.mem_append] at hx
  rcases hx with q | q
  · exact (row_sm E h1).bd x q
  · exact (row_sm E h2).bd x q
theorem ES.mean {es : List Ent} {names : List St} (E : ES es names) (h7 : es.length ≤ 7) : MeanB es := ⟨by omega, E.b⟩
theorem st_ok {es : List Ent} {names : List St} (E : ES es names) (h7 : es.length ≤ 7) : StOk es := by
  refine ⟨by omega, fun k p h => ?_, fun k a b c h => E.mg k a b c h⟩
  obtain ⟨_, w, w2, w3⟩ := E.pg k p h
  refine ⟨w.sorted, ?_, fun p0 rest hf => ?_, w.face⟩
  · have := List.length_filter_le Ent.isPg (es.take k)
    rw [List.length_take] at this
    omega
  · have hm : Ent.pg p0 ∈ es.take k := (List.mem_filter.mp (show Ent.pg p0 ∈ (es.take k).filter Ent.isPg by rw [hf]; exact List.mem_cons_self)).1
    obtain ⟨i, hi⟩ := List.mem_iff_getElem?.mp (List.mem_of_mem_take hm)
    obtain ⟨_, v, v2, v3⟩ := E.pg i p0 hi
    refine ⟨v.face, ?_⟩
    unfold dFace
    rw [w2, w3, v2, v3]
end MM
end
section
set_option Elab.async false
set_option linter.all false
set_option maxRecDepth 100000
set_option maxHeartbeats 400000
namespace MM
open PySem PySem.Spec PyProof.Rows L2 NdefX DL
/-! ### partings -/
theorem SrchOk.conv {ps : List Pg} {names : List St} {mark mark' : List (List O3) → Bool} {dom dom' : List (List O3) → Prop} {n : Nat} {kp : Nat → List KE} {e : SEnd} (h : SrchOk ps names mark dom n kp e) (hd : ∀ rows, dom rows → dom' rows ∧ mark rows = mark' rows) : SrchOk ps names mark' dom' n kp e := by
  have tm : ∀ k, k ≤ n → k < (kp k).length → ∀ tk ∈ stepsV names (spAt (kp k) k), mark (safterV ps (spAt (kp k) k) tk).2 = mark' (safterV ps (spAt (kp k) k) tk).2 := fun k hk hl tk ht => (hd _ ((h.turn k hk hl).sa tk ht).2).2
  refine ⟨h.pl, h.k0, h.ln, fun k hk hl => ?_, fun k hk => ?_, ?_⟩
  · have t := h.turn k hk hl
    exact ⟨t.nl, t.sl, t.nn, fun tk ht => ⟨(t.sa tk ht).1, (hd _ (t.sa tk ht).2).1⟩⟩
  · obtain ⟨g1, g2, g3⟩ := h.go k hk
    exact ⟨g1, fun tk ht => by rw [← tm k (Nat.le_of_lt hk) g1 tk ht]; exact g2 tk ht, g3⟩
  · have f := h.fin
    cases e with
    | none => exact f
    | found tk l =>
      obtain ⟨f1, ⟨j, j1, j2, j3⟩, f3⟩ := (show finOk ps names mark n (kp n) (.found tk l) from f)
      exact ⟨f1, ⟨j, j1, by rw [← tm n (Nat.le_refl _) f1 tk (List.mem_of_getElem? j1)]; exact j2, fun i t hi ht => by rw [← tm n (Nat.le_refl _) f1 t (List.mem_of_getElem? ht)]; exact j3 i t hi ht⟩, f3⟩
    | large =>
      obtain ⟨f1, f2, f3⟩ := (show finOk ps names mark n (kp n) .large from f)
      exact ⟨f1, fun tk ht => by rw [← tm n (Nat.le_refl _) f1 tk ht]; exact f2 tk ht, f3⟩
theorem ps_of {es : List Ent} {names : List St} {sm : List Int} (hn : NmOk names) (hs : ∀ x ∈ names, PyData.strOk x = true) (E : ES es names) (S : SmOk es sm) : PsOk (pgsAt es sm) names := by
  have f := S.few E
  exact ⟨by unfold pgsAt; rw [List.length_map]; omega, fun p hp => (S.ps E p hp).1, fun p hp => (S.ps E p hp).2.1, hn.h4, hs⟩
theorem pgs_len (es : List Ent) (sm : List Int) : (pgsAt es sm).length = sm.length := by unfold pgsAt; rw [List.length_map]
theorem lsrch {es : List Ent} {names : List St} {sm : List Int} {ps : List Pg} {n o : Nat} (hn4 : names.length ≤ 4) (B : MeanB es) (O : PsOk ps names) (hp : sm.Pairwise (· < ·)) (hb : ∀ x ∈ sm, 0 ≤ x ∧ x < es.length) (hg : sm.map (gi es) = ps.map Ent.pg) (h1 : n < es.length) (h2 : o < es.length) : LSrchOk es n o sm ps names (Gd ps) := by
  have ll : sm.length = ps.length := by have := congrArg List.length hg; rwa [List.length_map, List.length_map] at this
  have len := O.len
  exact ⟨by omega, hb, hg, by omega, h1, h2, first_gd O, fun sp G => turnL O B hp ll G, fun sp tk G h => sa_gd O G h⟩
theorem ph_ok {es : List Ent} {names : List St} {p0 : Pg} (hn : NmOk names) (hs : ∀ x ∈ names, PyData.strOk x = true) (E : ES es names) (h7 : es.length ≤ 7) (h0 : gi es 0 = .pg p0) (hp0 : p0.names = names) {n1 n2 : Nat} (h1 : n1 < es.length) (h2 : n2 < es.length) :
    PhOk es n1 n2 names (pgsAt es (togV es [n1, n2])) (Gd (pgsAt es (togV es [n1, n2]))) := by
  have S := tog_sm E h1 h2
  have f := S.few E
  have O := ps_of hn hs E S
  have B := E.mean h7
  have r1 := row_sm E h1
  have r2 := row_sm E h2
  have f1 := r1.few E
  have f2 := r2.few E
  have pl := pgs_len es (togV es [n1, n2])
  have PO := parts_ok E h7
  refine ⟨PO, h1, h2, by omega, lsrch hn.h4 B O S.pw (fun x hx => (S.bd x hx).1) (S.pg E) h1 h2, fun p hp => (S.ps E p hp).1.sorted, fun hf => ?_⟩
  obtain ⟨d1, d2, n, kp, e, d3, d4⟩ := search_eq (dom := domP es (togV es [n1, n2])) O (fun sp G => turnP O (fun rows hl ho => mean_of B S.pw (by rw [hl, pl]) ho) G) hf
  refine ⟨d1, d2, p0, n, kp, e, ⟨PO, h1, h2, ?_, f, fun x hx => (S.bd x hx).1, S.pg E, h0, by rw [hp0]; exact d3⟩, d4⟩
  rw [List.flatMap_cons, List.flatMap_cons, List.flatMap_nil, List.append_nil, List.length_append]
  omega
/-! ### differences -/
theorem lk_app {qs : List (Int × List O3)} {k i : Int} {o : List O3} (h : i ≠ k) : lk (qs ++ [(i, o)]) k = lk qs k := by
  unfold lk
  rw [List.find?_append]
  cases e : qs.find? fun q => decide (q.1 = k) with
  | some q => rfl
  | none =>
    rw [Option.none_or, List.find?_cons, decide_eq_false h]
    rfl
theorem valsR_app {es : List Ent} {qs : List (Int × List O3)} {q : Pg} {o : List O3} : ∀ n, n ≤ es.length → valsR (es ++ [.pg q]) (qs ++ [((es.length : Int), o)]) n = valsR es qs n
  | 0, _ => rfl
  | n + 1, h => by
    rw [valsR_succ, valsR_succ, valsR_app n (Nat.le_of_lt h)]
    unfold valsF
    rw [gi_app (xs := es) (a := (n : Int)) (by omega) (by omega)]
    cases gi es (n : Int) with
    | pg p =>
      show valsR es qs n ++ [some (lk (qs ++ [((es.length : Int), o)]) (n : Int))] = _
      rw [lk_app (by omega)]
    | mg a b c => rfl
theorem meanV_app {es : List Ent} {qs : List (Int × List O3)} {q : Pg} {o : List O3} {n : Nat} (h : n < es.length) : meanV (es ++ [.pg q]) (qs ++ [((es.length : Int), o)]) n = meanV es qs n := by
  unfold meanV
  rw [valsR_app (n + 1) h]
theorem valsR_len (es : List Ent) (qs : List (Int × List O3)) : ∀ k, (valsR es qs k).length = k
  | 0 => rfl
  | k + 1 => by rw [valsR_succ, valsF_len, valsR_len es qs k]
theorem meanV_last {es : List Ent} {qs : List (Int × List O3)} {q : Pg} {o : List O3} (h : ∀ x ∈ qs, x.1 ≠ (es.length : Int)) : meanV (es ++ [.pg q]) (qs ++ [((es.length : Int), o)]) es.length = some o := by
  unfold meanV
  rw [valsR_succ]
  unfold valsF
  have e1 : gi (es ++ [Ent.pg q]) (es.length : Int) = .pg q := gi_nat (by rw [List.getElem?_append_right (Nat.le_refl _), Nat.sub_self]; rfl)
  have e2 : lk (qs ++ [((es.length : Int), o)]) (es.length : Int) = o := by
    unfold lk
    rw [List.find?_append, List.find?_eq_none.mpr (fun x hx => by simp; exact h x hx), Option.none_or, List.find?_cons]
    simp
  rw [e1]
  show gi (valsR _ _ es.length ++ [some (lk _ _)]) _ = _
  rw [e2]
  refine gi_nat ?_
  have hl := valsR_len (es ++ [.pg q]) (qs ++ [((es.length : Int), o)]) es.length
  rw [List.getElem?_append_right (by omega), hl, Nat.sub_self]
  rfl
theorem zip_snoc {α β : Type} : ∀ {xs : List α} {ys : List β} {x : α} {y : β}, xs.length = ys.length → (xs ++ [x]).zip (ys ++ [y]) = xs.zip ys ++ [(x, y)]
  | [], [], _, _, _ => rfl
  | [], _ :: _, _, _, h => by cases h
  | _ :: _, [], _, _, h => by cases h
  | a :: xs, b :: ys, x, y, h => by
    rw [List.cons_append, List.cons_append, List.zip_cons_cons, zip_snoc (Nat.succ.inj h), List.zip_cons_cons, List.cons_append]
theorem mark_eq {es : List Ent} {sm : List Int} {q : Pg} {n1 : Nat} (h1 : n1 < es.length) (hb : ∀ x ∈ sm, 0 ≤ x ∧ x < (es.length : Int)) {rows : List (List O3)} (hl : rows.length = sm.length + 1) : markP (es ++ [.pg q]) n1 es.length (sm ++ [(es.length : Int)]) rows = markD es n1 sm rows := by
  obtain ⟨init, last, rfl⟩ : ∃ init last, rows = init ++ [last] := by
    have hne : rows ≠ [] := fun z => by rw [z] at hl; cases hl
    exact ⟨rows.dropLast, rows.getLast hne, (List.dropLast_concat_getLast hne).symm⟩
  have hl2 : sm.length = init.length := by rw [List.length_append] at hl; have : init.length + 1 = _ := hl; omega
  have hne : ∀ x ∈ sm.zip init, x.1 ≠ (es.length : Int) := fun x hx => by have := hb _ (List.of_mem_zip hx).1; omega
  unfold markP markD
  rw [zip_snoc hl2, meanV_app h1, meanV_last hne, List.dropLast_concat]
  have : (init ++ [last]).getLastD [] = last := by simp
  rw [this]
theorem dh_ok {es : List Ent} {names : List St} {p0 : Pg} (hn : NmOk names) (hs : ∀ x ∈ names, PyData.strOk x = true) (E : ES es names) (h7 : es.length ≤ 7) (h0 : gi es 0 = .pg p0) (w0 : Wf p0) (hp0 : p0.names = names) (hc0 : p0.chans = chansV names) {n1 : Nat} (h1 : n1 < es.length) {q : Pg} (wq : Wf q) (hq : q.names = names) (hqc : q.chans = chansV names) :
    DhOk es n1 q names (pgsAt es (partsV es n1)) (Gd (pgsAt es (partsV es n1) ++ [q])) := by
  have S := row_sm E h1
  have f := S.few E
  have PO := parts_ok E h7
  refine ⟨PO, h1, fun p hp => (S.ps E p hp).1.sorted, wq.sorted, fun h3 => ?_⟩
  have pl := pgs_len es (partsV es n1)
  have O : PsOk (pgsAt es (partsV es n1) ++ [q]) names := by
    refine ⟨by rw [List.length_append]; show _ + 1 ≤ 5; omega, fun p hp => ?_, fun p hp => ?_, hn.h4, hs⟩
    · rcases List.mem_append.mp hp with z | z
      · exact (S.ps E p z).1
      · rw [List.mem_singleton] at z; rw [z]; exact wq
    · rcases List.mem_append.mp hp with z | z
      · exact (S.ps E p z).2.1
      · rw [List.mem_singleton] at z; rw [z]; exact hq
  have el : (es ++ [Ent.pg q]).length = es.length + 1 := by rw [List.length_append]; rfl
  have B := E.mean h7
  have B' : MeanB (es ++ [Ent.pg q]) := by
    refine ⟨by omega, fun k a b c hk h => ?_⟩
    rcases Nat.lt_or_ge k es.length with z | z
    · rw [gi_app (xs := es) (a := (k : Int)) (by omega) (by omega)] at h
      exact E.b k a b c z h
    · have : k = es.length := by omega
      subst this
      rw [show gi (es ++ [Ent.pg q]) (es.length : Int) = .pg q from gi_nat (by rw [List.getElem?_append_right (Nat.le_refl _), Nat.sub_self]; rfl)] at h
      cases h
  have hbd : ∀ x ∈ partsV es n1, 0 ≤ x ∧ x < (es.length : Int) := fun x hx => (S.bd x hx).1
  have spw : (partsV es n1 ++ [(es.length : Int)]).Pairwise (· < ·) := by
    rw [List.pairwise_append]
    refine ⟨S.pw, List.pairwise_singleton _ _, fun a ha b hb => ?_⟩
    rw [List.mem_singleton] at hb
    have := hbd a ha
    omega
  have sg : (partsV es n1 ++ [(es.length : Int)]).map (gi (es ++ [Ent.pg q])) = (pgsAt es (partsV es n1) ++ [q]).map Ent.pg := by
    rw [List.map_append, List.map_append, ← S.pg E]
    congr 1
    · exact List.map_congr_left fun x hx => gi_app (hbd x hx).1 (hbd x hx).2
    · show [gi (es ++ [Ent.pg q]) (es.length : Int)] = [Ent.pg q]
      rw [show gi (es ++ [Ent.pg q]) (es.length : Int) = .pg q from gi_nat (by rw [List.getElem?_append_right (Nat.le_refl _), Nat.sub_self]; rfl)]
  refine ⟨lsrch hn.h4 B' O spw (fun x hx => ?_) sg (by omega) (by omega), fun hf => ?_⟩
  · rw [el]
    rcases List.mem_append.mp hx with z | z
    · have := hbd x z; omega
    · rw [List.mem_singleton] at z; omega
  · obtain ⟨d1, d2, n, kp, e, d3, d4⟩ := search_eq (dom := fun rows => rows.length = (partsV es n1).length + 1 ∧ ∀ o ∈ rows, OuOk o) O (fun sp G => turnP O (fun rows hl ho => ⟨by rw [hl, List.length_append, pl]; rfl, ho⟩) G) hf
    have tg : togV es [n1] = partsV es n1 := by
      unfold togV
      rw [List.flatMap_cons, List.flatMap_nil, List.append_nil, asc_self S.pw]
    refine ⟨d1, d2, p0, n, kp, e, ⟨PO, h1, ?_, by rw [tg]; exact h3, fun x hx => hbd x (by rwa [tg] at hx), by rw [tg]; exact S.pg E, h0, w0.face, ?_, ?_⟩, d4⟩
    · rw [List.flatMap_cons, List.flatMap_nil, List.append_nil]
      omega
    · unfold dFace
      rw [hq, hqc, hp0, hc0]
    · rw [hp0, tg]
      refine d3.conv fun rows ⟨hl, ho⟩ => ⟨⟨(fun z => by rw [z] at hl; cases hl), mean_of B S.pw (by rw [List.length_dropLast]; omega) (fun o h => ho o (List.dropLast_subset _ h)), ?_⟩, mark_eq h1 hbd hl⟩
      have hne : rows ≠ [] := fun z => by rw [z] at hl; cases hl
      have : rows.getLastD [] = rows.getLast hne := by rw [List.getLastD_eq_getLast?, List.getLast?_eq_some_getLast hne]; rfl
      rw [this]
      exact ho _ (List.getLast_mem hne)
/-! ### the law's data, whole -/
theorem law_ok (ns : List Int) : LawOk ns := by
  obtain ⟨hn, hs⟩ := namesV_ok (rowV (cellV ns 0) 3)
  obtain ⟨E, h7, h0, hpos⟩ := ent_ok ns hn hs
  have wb : Wf (eBase ns (lNames ns)) := planV_ok _ hn hs
  have E : ES (lEs ns) (lNames ns) := E
  have h7 : (lEs ns).length ≤ 7 := h7
  have h0 : gi (lEs ns) 0 = .pg (eBase ns (lNames ns)) := h0
  have hpos : 0 < (lEs ns).length := hpos
  have n1 : lN1 ns < (lEs ns).length := by
    have a : 0 ≤ cellV ns 4 % ((lEs ns).length : Int) := Int.emod_nonneg _ (by omega)
    have b : cellV ns 4 % ((lEs ns).length : Int) < (lEs ns).length := Int.emod_lt_of_pos _ (by omega)
    unfold lN1
    omega
  have n2 : lN2 ns < (lEs ns).length := by
    have a : 0 ≤ cellV ns 4 / 7 % ((lEs ns).length : Int) := Int.emod_nonneg _ (by omega)
    have b : cellV ns 4 / 7 % ((lEs ns).length : Int) < (lEs ns).length := Int.emod_lt_of_pos _ (by omega)
    unfold lN2
    omega
  have pl : 0 < (lPgs ns).length := by
    refine List.length_pos_of_mem (a := .pg (eBase ns (lNames ns))) (List.mem_filter.mpr ⟨?_, rfl⟩)
    rw [← h0]
    exact gi_mem (by decide) (by omega)
  have w0 : Wf (lP0 ns) ∧ (lP0 ns).names = lNames ns ∧ (lP0 ns).chans = chansV (lNames ns) := by
    have hm := gi_mem (xs := lPgs ns) (i := cellV ns 5 % ((lPgs ns).length : Int)) (Int.emod_nonneg _ (by omega)) (Int.emod_lt_of_pos _ (by omega))
    obtain ⟨hm1, hm2⟩ := List.mem_filter.mp hm
    unfold lP0
    generalize gi (lPgs ns) (cellV ns 5 % ((lPgs ns).length : Int)) = e at hm1 hm2
    cases e with
    | pg p =>
      obtain ⟨i, hi⟩ := List.mem_iff_getElem?.mp hm1
      exact (E.pg i p hi).2
    | mg a b c => cases hm2
  have wq : Wf (lQ ns) ∧ (lQ ns).names = lNames ns ∧ (lQ ns).chans = chansV (lNames ns) := by
    unfold lQ
    split
    · exact ⟨sideV_ok _ w0.1, w0.2⟩
    · exact w0
  exact ⟨hn, wb.side, st_ok E h7, hpos, ⟨_, _, ph_ok hn hs E h7 h0 rfl n1 n2⟩, pl, w0.1.side, ⟨_, _, dh_ok hn hs E h7 h0 wb rfl rfl n1 wq.1 wq.2.1 wq.2.2⟩⟩
end MM
end
section
set_option Elab.async false
set_option linter.all false
set_option maxRecDepth 100000
set_option maxHeartbeats 4000000
namespace MM
open PySem PySem.Spec PyProof.Rows L2 NdefX DL
variable {P : Program} {w : World} {K : PySem.W.Frag} {mg : PySem.Str → Option Value} {base : Heap} {T : List NTab} {CS CP CT : Addr}
/-! ### what is known of the text -/
structure Txt (K : PySem.W.Frag) (mg : PySem.Str → Option Value) (CP CS CT cfp cfd ci : Addr) : Prop where
  d_position_of : Dfn K mg "position_of" s_position_of ["number", "kept"]
  pgc : PgC K mg CP
  d_face : Dfn K mg "face" s_face ["program"]
  d_start : Dfn K mg "start" s_start ["program"]
  bl : Blt mg
  d_candidates : Dfn K mg "candidates" s_candidates ["kept", "number"]
  d_rule_of : Dfn K mg "rule_of" s_rule_of ["program", "state", "name", "position"]
  d_step : Dfn K mg "step" s_step ["program", "configuration", "message"]
  d_run : Dfn K mg "run" s_run ["program", "messages"]
  d_ranks : Dfn K mg "ranks" s_ranks ["numbers"]
  d_ranked : Dfn K mg "ranked" s_ranked ["messages"]
  d_ranked_spot : Dfn K mg "ranked_spot" s_ranked_spot ["configurations"]
  d_kept_numbers : Dfn K mg "kept_numbers" s_kept_numbers ["configurations"]
  d_spot_of : Dfn K mg "spot_of" s_spot_of ["programs", "messages"]
  d_steps_at : Dfn K mg "steps_at" s_steps_at ["names", "spot"]
  d_new_number : Dfn K mg "new_number" s_new_number ["kept", "numbers", "position"]
  d_continued : Dfn K mg "continued" s_continued ["programs", "messages", "step_taken"]
  d_spot_after : Dfn K mg "spot_after" s_spot_after ["programs", "spot", "step_taken"]
  stc : StC K mg CS
  h_size : Prt K CS "size" "Store.size" s_Store_size
  d_known : Dfn K mg "known" s_known ["store", "number"]
  h_entry : Mth K CS "entry" "Store.entry" s_Store_entry ["self", "number"]
  d_parts : Dfn K mg "parts" s_parts ["store", "number"]
  d_merged : Dfn K mg "merged" s_merged ["base", "one", "other"]
  d_meaning : Dfn K mg "meaning" s_meaning ["store", "number", "outputs"]
  d_together : Dfn K mg "together" s_together ["store", "numbers", "most"]
  d_by_part : Dfn K mg "by_part" s_by_part ["some", "outputs"]
  d_all_names : Dfn K mg "all_names" s_all_names ["store"]
  d_input_to : Dfn K mg "input_to" s_input_to ["programs", "kept", "at", "taken"]
  tlc : TlC K mg CT
  mo_most_inputs : mostI mg "MOST_INPUTS" 400
  d_search : Dfn K mg "search" s_search ["programs", "names", "has_mark"]
  mo_most_parts : mostI mg "MOST_PARTS" 4
  d_first_parting : DfnC K mg "first_parting" s_first_parting ["store", "number", "other"] cfp
  d_first_difference : DfnC K mg "first_difference" s_first_difference ["store", "number", "program"] cfd
  mkcc : MkCC K CP "Program.__init__" s_Program_init ["self", "names", "channels", "states", "rules"] ci
  mo_most_commits : mostI mg "MOST_COMMITS" 100
  h_add : Mth K CS "_add" "Store._add" s_Store_add ["self", "entry"]
  mo_most_programs : mostI mg "MOST_PROGRAMS" 12
  h_commit : Mth K CS "commit" "Store.commit" s_Store_commit ["self", "program"]
  h_merge : Mth K CS "merge" "Store.merge" s_Store_merge ["self", "base", "one", "other"]
  d_law_program : Dfn K mg "_law_program" s_law_program ["_law_plan_here"]
  d_law_store : Dfn K mg "_law_store" s_law_store ["_law_entries_here"]
  stmk : StMk K CS
  d_law_cell : Dfn K mg "_law_cell" s_law_cell ["_law_script", "_law_k"]
  d_law_row : Dfn K mg "_law_row" s_law_row ["_law_cell_here", "_law_count"]
  d_law_word : Dfn K mg "_law_word" s_law_word ["_law_number"]
  d_law_names : Dfn K mg "_law_names" s_law_names ["_law_row_here"]
  d_law_channels : Dfn K mg "_law_channels" s_law_channels ["_law_names_here"]
  d_law_picks : Dfn K mg "_law_picks" s_law_picks ["_law_known", "_law_count", "_law_number"]
  d_law_outputs : Dfn K mg "_law_outputs" s_law_outputs ["_law_channels_here", "_law_known", "_law_number", "_law_more"]
  d_law_rule : Dfn K mg "_law_rule" s_law_rule ["_law_key", "_law_states", "_law_channels_here", "_law_digits"]
  d_law_keys : Dfn K mg "_law_keys" s_law_keys ["_law_names_here", "_law_states"]
  d_law_plan : Dfn K mg "_law_plan" s_law_plan ["_law_cell_here", "_law_names_here"]
  d_law_side : Dfn K mg "_law_side" s_law_side ["_law_plan_here", "_law_cell_here"]
  d_law_position : Dfn K mg "_law_position" s_law_position ["_law_number", "_law_kept"]
  d_law_step : Dfn K mg "_law_step" s_law_step ["_law_plan_here", "_law_place", "_law_message"]
  d_law_same_face : Dfn K mg "_law_same_face" s_law_same_face ["_law_plan_here", "_law_base"]
  d_law_merged : Dfn K mg "_law_merged" s_law_merged ["_law_base", "_law_one", "_law_other"]
  d_law_made_of : Dfn K mg "_law_made_of" s_law_made_of ["_law_entries_here", "_law_number"]
  d_law_ranked_places : Dfn K mg "_law_ranked_places" s_law_ranked_places ["_law_places"]
  d_law_steps : Dfn K mg "_law_steps" s_law_steps ["_law_names_here", "_law_spot"]
  d_law_meaning : Dfn K mg "_law_meaning" s_law_meaning ["_law_entries_here", "_law_number", "_law_some", "_law_outputs_here"]
  d_law_marked : Dfn K mg "_law_marked" s_law_marked ["_law_entries_here", "_law_number", "_law_other", "_law_some", "_law_outputs_here"]
  d_law_spot_after : Dfn K mg "_law_spot_after" s_law_spot_after ["_law_several", "_law_spot", "_law_taken"]
  d_law_entries : Dfn K mg "_law_entries" s_law_entries ["_law_script", "_law_names_here"]
  d_law_search : Dfn K mg "_law_search" s_law_search ["_law_entries_here", "_law_pair", "_law_some", "_law_names_here", "_law_most"]
  d_law_parted : Dfn K mg "_law_parted" s_law_parted ["_law_store_here", "_law_number", "_law_other"]
  d_law_differs : Dfn K mg "_law_differs" s_law_differs ["_law_store_here", "_law_number", "_law_program_here"]
  d_law_due : Dfn K mg "_law_due" s_law_due ["_law_programs", "_law_found"]
  d_law_partings_hold : Dfn K mg "_law_partings_hold" s_law_partings_hold ["_law_entries_here", "_law_store_here", "_law_pair", "_law_names_here"]
  d_law_differences_hold : Dfn K mg "_law_differences_hold" s_law_differences_hold ["_law_entries_here", "_law_store_here", "_law_number", "_law_plan_here", "_law_names_here"]
def tabs3 (P1 P2 P3 : Addr) : List NTab := [(P1, fun _ _ => "first_parting.<locals>.parts_here"), (P2, fun _ _ => "first_difference.<locals>.differs"), (P3, fun _ _ => "Program.__init__.<locals>.<lambda>")]
theorem law_fn {cfp cfd ci P1 P2 P3 fa : Addr} {fd : FuncData} (X : Txt K mg CP CS CT cfp cfd ci) (hF : Fun K "law" "law" s_law fa fd) (tcfp : LamX.TabB base mg cfp P1) (tcfd : LamX.TabB base mg cfd P2) (tci : LamX.TabB base mg ci P3) (n12 : P1 ≠ P2) (n13 : P1 ≠ P3) (n23 : P2 ≠ P3) : FnOk P w K mg base CX0 11 fa fd ["_law_script"] (spD K (tabs3 P1 P2 P3) R_law) := by
  have ucfp : ∀ p ∈ tabs3 P1 P2 P3, p.1 = P1 → p.2 = (fun _ _ => "first_parting.<locals>.parts_here" : Nat → Nat → PySem.Str) := fun p hp e => by
    rcases List.mem_cons.mp hp with rfl | hp
    · rfl
    rcases List.mem_cons.mp hp with rfl | hp
    · exact absurd e.symm n12
    rw [List.mem_singleton] at hp
    subst hp
    exact absurd e.symm n13
  have ucfd : ∀ p ∈ tabs3 P1 P2 P3, p.1 = P2 → p.2 = (fun _ _ => "first_difference.<locals>.differs" : Nat → Nat → PySem.Str) := fun p hp e => by
    rcases List.mem_cons.mp hp with rfl | hp
    · exact absurd e n12
    rcases List.mem_cons.mp hp with rfl | hp
    · rfl
    rw [List.mem_singleton] at hp
    subst hp
    exact absurd e.symm n23
  have uci : ∀ p ∈ tabs3 P1 P2 P3, p.1 = P3 → p.2 = (fun _ _ => "Program.__init__.<locals>.<lambda>" : Nat → Nat → PySem.Str) := fun p hp e => by
    rcases List.mem_cons.mp hp with rfl | hp
    · exact absurd e n13
    rcases List.mem_cons.mp hp with rfl | hp
    · exact absurd e n23
    rw [List.mem_singleton] at hp
    subst hp
    rfl
  have v0 : Cal P w K mg base (tabs3 P1 P2 P3) 1 "position_of" ["number", "kept"] R_position_of := ok_position_of X.d_position_of
  have v1 : Cal P w K mg base (tabs3 P1 P2 P3) 1 "face" ["program"] (R_face CP) := ok_face X.pgc X.d_face
  have v2 : Cal P w K mg base (tabs3 P1 P2 P3) 1 "start" ["program"] R_start := ok_start X.d_start
  have v3 : Cal P w K mg base (tabs3 P1 P2 P3) 1 "candidates" ["kept", "number"] R_candidates := ok_candidates X.bl X.d_candidates
  have v4 : Cal P w K mg base (tabs3 P1 P2 P3) 1 "rule_of" ["program", "state", "name", "position"] (R_rule_of CP) := ok_rule_of X.bl X.pgc X.d_rule_of
  have v5 : Cal P w K mg base (tabs3 P1 P2 P3) 2 "step" ["program", "configuration", "message"] (R_step CP) := ok_step X.bl X.pgc X.d_step v4 v0 v3
  have v6 : Cal P w K mg base (tabs3 P1 P2 P3) 3 "run" ["program", "messages"] (R_run CP) := ok_run X.d_run v2 v5
  have v7 : Cal P w K mg base (tabs3 P1 P2 P3) 1 "ranks" ["numbers"] R_ranks := ok_ranks X.bl X.d_ranks
  have v8 : Cal P w K mg base (tabs3 P1 P2 P3) 2 "ranked" ["messages"] R_ranked := ok_ranked X.bl X.d_ranked v7
  have v9 : Cal P w K mg base (tabs3 P1 P2 P3) 2 "ranked_spot" ["configurations"] R_ranked_spot := ok_ranked_spot X.bl X.d_ranked_spot v7
  have v10 : Cal P w K mg base (tabs3 P1 P2 P3) 1 "kept_numbers" ["configurations"] R_kept_numbers := ok_kept_numbers X.bl X.d_kept_numbers
  have v11 : Cal P w K mg base (tabs3 P1 P2 P3) 4 "spot_of" ["programs", "messages"] (R_spot_of CP) := ok_spot_of X.d_spot_of v6 v9
  have v12 : Cal P w K mg base (tabs3 P1 P2 P3) 2 "steps_at" ["names", "spot"] R_steps_at := ok_steps_at X.bl X.d_steps_at v10
  have v13 : Cal P w K mg base (tabs3 P1 P2 P3) 1 "new_number" ["kept", "numbers", "position"] R_new_number := ok_new_number X.bl X.d_new_number
  have v14 : Cal P w K mg base (tabs3 P1 P2 P3) 4 "continued" ["programs", "messages", "step_taken"] (R_continued CP) := ok_continued X.bl X.d_continued v8 v10 v6 v13
  have v15 : Cal P w K mg base (tabs3 P1 P2 P3) 3 "spot_after" ["programs", "spot", "step_taken"] (R_spot_after CP) := ok_spot_after X.bl X.d_spot_after v10 v13 v5 v9
  have v16 : PCal P w K mg base (tabs3 P1 P2 P3) 1 CS "size" (R_size CS CP) := ok_size X.bl X.stc X.h_size
  have v17 : Cal P w K mg base (tabs3 P1 P2 P3) 3 "known" ["store", "number"] (R_known CS CP) := ok_known X.bl X.stc X.d_known v16
  have v18 : MCal P w K mg base (tabs3 P1 P2 P3) 4 CS "entry" ["self", "number"] (R_entry CS CP) := ok_entry X.stc X.h_entry v17
  have v19 : Cal P w K mg base (tabs3 P1 P2 P3) 5 "parts" ["store", "number"] (R_parts CS CP) := ok_parts X.bl X.pgc X.stc X.d_parts v17 v18
  have v20 : Cal P w K mg base (tabs3 P1 P2 P3) 1 "merged" ["base", "one", "other"] R_merged := ok_merged X.d_merged
  have v21 : Cal P w K mg base (tabs3 P1 P2 P3) 5 "meaning" ["store", "number", "outputs"] (R_meaning CS CP) := ok_meaning X.bl X.pgc X.stc X.d_meaning v18 v20
  have v22 : Cal P w K mg base (tabs3 P1 P2 P3) 6 "together" ["store", "numbers", "most"] (R_together CS CP) := ok_together X.bl X.d_together v17 v19
  have v23 : Cal P w K mg base (tabs3 P1 P2 P3) 1 "by_part" ["some", "outputs"] R_by_part := ok_by_part X.bl X.d_by_part
  have v24 : Cal P w K mg base (tabs3 P1 P2 P3) 5 "all_names" ["store"] (R_all_names CS CP) := ok_all_names X.pgc X.stc X.d_all_names v18
  have v25 : Cal P w K mg base (tabs3 P1 P2 P3) 5 "input_to" ["programs", "kept", "at", "taken"] (R_input_to CP) := ok_input_to X.d_input_to v14
  have v26 : CalS P w K mg base (tabs3 P1 P2 P3) CP CT 6 7 := ok_search X.bl X.tlc X.mo_most_inputs X.d_search v11 v12 v15 v25
  have v27 : CalX P w K mg base (tabs3 P1 P2 P3) 8 "first_parting" ["store", "number", "other"] (R_first_parting CS CP CT) := ok_first_parting X.bl X.stc X.mo_most_parts X.d_first_parting tcfp (.head _) ucfp (fun _ _ => rfl) v22 v18 v24 v23 v21 v26
  have v28 : CalX P w K mg base (tabs3 P1 P2 P3) 8 "first_difference" ["store", "number", "program"] (R_first_difference CS CP CT) := ok_first_difference X.bl X.stc X.mo_most_parts X.d_first_difference tcfd (.tail _ (.head _)) ucfd (fun _ _ => rfl) v17 v1 v22 v18 v24 v23 v21 v26
  have v29 : MkCal P w K mg base (tabs3 P1 P2 P3) 1 CP ["names", "channels", "states", "rules"] ["self", "names", "channels", "states", "rules"] R_mkp := ok_mkp X.bl X.pgc X.mkcc tci (.tail _ (.tail _ (.head _))) uci (fun _ _ => rfl)
  have v30 : MCalR P w K mg base 1 CS "_add" ["self", "entry"] (spAdd K (tabs3 P1 P2 P3) CS CP) := ok_add X.bl X.stc X.mo_most_commits X.h_add
  have v31 : MCalR P w K mg base 2 CS "commit" ["self", "program"] (spCommit K (tabs3 P1 P2 P3) CS CP) := ok_commit X.bl X.pgc X.stc X.mo_most_programs X.h_commit v1 v30
  have v32 : MCalR P w K mg base 4 CS "merge" ["self", "base", "one", "other"] (spMerge K (tabs3 P1 P2 P3) CS CP) := ok_merge X.stc X.h_merge v17 v30
  have v33 : Cal P w K mg base (tabs3 P1 P2 P3) 3 "_law_program" ["_law_plan_here"] (R_law_program CP) := ok_law_program X.bl X.pgc X.d_law_program v29
  have v34 : Cal P w K mg base (tabs3 P1 P2 P3) 5 "_law_store" ["_law_entries_here"] (R_law_store CS CP) := ok_law_store X.bl X.pgc X.stc X.d_law_store X.stmk v33 v31 v32
  have v35 : Cal P w K mg base (tabs3 P1 P2 P3) 1 "_law_cell" ["_law_script", "_law_k"] R_law_cell := ok_law_cell X.bl X.d_law_cell
  have v36 : Cal P w K mg base (tabs3 P1 P2 P3) 1 "_law_row" ["_law_cell_here", "_law_count"] R_law_row := ok_law_row X.bl X.d_law_row
  have v37 : Cal P w K mg base (tabs3 P1 P2 P3) 1 "_law_word" ["_law_number"] R_law_word := ok_law_word X.d_law_word
  have v38 : Cal P w K mg base (tabs3 P1 P2 P3) 2 "_law_names" ["_law_row_here"] R_law_names := ok_law_names X.bl X.d_law_names v37
  have v39 : Cal P w K mg base (tabs3 P1 P2 P3) 1 "_law_channels" ["_law_names_here"] R_law_channels := ok_law_channels X.bl X.d_law_channels
  have v40 : Cal P w K mg base (tabs3 P1 P2 P3) 1 "_law_picks" ["_law_known", "_law_count", "_law_number"] R_law_picks := ok_law_picks X.bl X.d_law_picks
  have v41 : Cal P w K mg base (tabs3 P1 P2 P3) 1 "_law_outputs" ["_law_channels_here", "_law_known", "_law_number", "_law_more"] R_law_outputs := ok_law_outputs X.bl X.d_law_outputs
  have v42 : Cal P w K mg base (tabs3 P1 P2 P3) 2 "_law_rule" ["_law_key", "_law_states", "_law_channels_here", "_law_digits"] R_law_rule := ok_law_rule X.bl X.d_law_rule v40 v41
  have v43 : Cal P w K mg base (tabs3 P1 P2 P3) 1 "_law_keys" ["_law_names_here", "_law_states"] R_law_keys := ok_law_keys X.bl X.d_law_keys
  have v44 : Cal P w K mg base (tabs3 P1 P2 P3) 3 "_law_plan" ["_law_cell_here", "_law_names_here"] R_law_plan := ok_law_plan X.bl X.d_law_plan v36 v43 v39 v42
  have v45 : Cal P w K mg base (tabs3 P1 P2 P3) 2 "_law_side" ["_law_plan_here", "_law_cell_here"] R_law_side := ok_law_side X.bl X.d_law_side v36 v41
  have v46 : Cal P w K mg base (tabs3 P1 P2 P3) 1 "_law_position" ["_law_number", "_law_kept"] R_law_position := ok_law_position X.bl X.d_law_position
  have v47 : Cal P w K mg base (tabs3 P1 P2 P3) 2 "_law_step" ["_law_plan_here", "_law_place", "_law_message"] R_law_step := ok_law_step X.bl X.d_law_step v46
  have v48 : Cal P w K mg base (tabs3 P1 P2 P3) 1 "_law_same_face" ["_law_plan_here", "_law_base"] R_law_same_face := ok_law_same_face X.d_law_same_face
  have v49 : Cal P w K mg base (tabs3 P1 P2 P3) 1 "_law_merged" ["_law_base", "_law_one", "_law_other"] R_merged := ok_law_merged X.d_law_merged
  have v50 : Cal P w K mg base (tabs3 P1 P2 P3) 1 "_law_made_of" ["_law_entries_here", "_law_number"] R_law_made_of := ok_law_made_of X.bl X.d_law_made_of
  have v51 : Cal P w K mg base (tabs3 P1 P2 P3) 1 "_law_ranked_places" ["_law_places"] R_law_ranked_places := ok_law_ranked_places X.bl X.d_law_ranked_places
  have v52 : Cal P w K mg base (tabs3 P1 P2 P3) 1 "_law_steps" ["_law_names_here", "_law_spot"] R_law_steps := ok_law_steps X.bl X.d_law_steps
  have v53 : Cal P w K mg base (tabs3 P1 P2 P3) 2 "_law_meaning" ["_law_entries_here", "_law_number", "_law_some", "_law_outputs_here"] R_law_meaning := ok_law_meaning X.bl X.d_law_meaning v49
  have v54 : Cal P w K mg base (tabs3 P1 P2 P3) 3 "_law_marked" ["_law_entries_here", "_law_number", "_law_other", "_law_some", "_law_outputs_here"] R_law_marked := ok_law_marked X.d_law_marked v53
  have v55 : Cal P w K mg base (tabs3 P1 P2 P3) 3 "_law_spot_after" ["_law_several", "_law_spot", "_law_taken"] R_law_spot_after := ok_law_spot_after X.bl X.d_law_spot_after v47 v51
  have v56 : Cal P w K mg base (tabs3 P1 P2 P3) 4 "_law_entries" ["_law_script", "_law_names_here"] R_law_entries := ok_law_entries X.bl X.d_law_entries v35 v36 v44 v48 v45
  have v57 : Cal P w K mg base (tabs3 P1 P2 P3) 4 "_law_search" ["_law_entries_here", "_law_pair", "_law_some", "_law_names_here", "_law_most"] R_law_search := ok_law_search X.bl X.d_law_search v52 v55 v54
  have v58 : Cal P w K mg base (tabs3 P1 P2 P3) 9 "_law_parted" ["_law_store_here", "_law_number", "_law_other"] (R_law_parted CS CP) := ok_law_parted X.tlc X.d_law_parted v27
  have v59 : Cal P w K mg base (tabs3 P1 P2 P3) 9 "_law_differs" ["_law_store_here", "_law_number", "_law_program_here"] (R_law_differs CS CP) := ok_law_differs X.tlc X.d_law_differs v28
  have v60 : Cal P w K mg base (tabs3 P1 P2 P3) 5 "_law_due" ["_law_programs", "_law_found"] (R_law_due CP) := ok_law_due X.d_law_due v14
  have v61 : Cal P w K mg base (tabs3 P1 P2 P3) 10 "_law_partings_hold" ["_law_entries_here", "_law_store_here", "_law_pair", "_law_names_here"] (R_law_ph CS CP) := ok_law_partings_hold X.bl X.d_law_partings_hold v50 v57 v58 v60 v33
  have v62 : Cal P w K mg base (tabs3 P1 P2 P3) 10 "_law_differences_hold" ["_law_entries_here", "_law_store_here", "_law_number", "_law_plan_here", "_law_names_here"] (R_law_dh CS CP) := ok_law_differences_hold X.bl X.d_law_differences_hold v50 v57 v59 v60 v33
  exact ok_law X.bl hF v35 v36 v38 v56 v34 v61 v45 v62
end MM
end
section
set_option Elab.async false
set_option linter.all false
set_option maxRecDepth 100000
set_option maxHeartbeats 4000000
namespace MM
open PySem PySem.Spec PyProof.Rows L2 NdefX DL
variable {P : Program} {w : World} {K : PySem.W.Frag} {mg : PySem.Str → Option Value} {base : Heap} {T : List NTab} {CS CP CT : Addr}
theorem law_at {l : PySem.W.OpenLaw} {w : World} {K : PySem.W.Frag} {h : Heap} {mg : PySem.Str → Option Value} {fa CP CS CT cfp cfd ci : Addr} {fd : FuncData} (P1 P2 P3 : Addr) (X : Txt K mg CP CS CT cfp cfd ci) (hF : Fun K "law" "law" s_law fa fd) (hb : ∀ (s : Shared) (u : Value), BindsTo s fd ⟨[u], []⟩ [("_law_script", u)])
    (n12 : P1 ≠ P2) (n13 : P1 ≠ P3) (n23 : P2 ≠ P3) (hT1 : h.get? P1 = some { cls := .none, data := .fields #[] }) (hT2 : h.get? P2 = some { cls := .none, data := .fields #[] }) (hT3 : h.get? P3 = some { cls := .none, data := .fields #[] }) (nT1 : K.lookup P1 = none) (nT2 : K.lookup P2 = none) (nT3 : K.lookup P3 = none)
    (C1 : PySem.W.CodeHd h cfp P1) (C2 : PySem.W.CodeHd h cfd P2) (C3 : PySem.W.CodeHd h ci P3) : LamX.LawAtS l w K CX0 40 63 "_law_script" mg fa h := by
  have all : ∀ {Q : Addr × Addr → Prop}, Q (cfp, P1) → Q (cfd, P2) → Q (ci, P3) → ∀ p ∈ [(cfp, P1), (cfd, P2), (ci, P3)], Q p := fun q1 q2 q3 p hp => by
    rcases List.mem_cons.mp hp with rfl | hp
    · exact q1
    rcases List.mem_cons.mp hp with rfl | hp
    · exact q2
    rw [List.mem_singleton] at hp
    subst hp
    exact q3
  refine ⟨fd, [(cfp, P1), (cfd, P2), (ci, P3)], spD K (tabs3 P1 P2 P3) R_law, all hT1 hT2 hT3, all nT1 nT2 nT3, all C1 C2 C3, hb, fun H a ns hn _ hT hs => ?_, fun base _ _ hT => ?_⟩
  · have t1 := hT (cfp, P1) (by simp)
    have t2 := hT (cfd, P2) (by simp)
    have t3 := hT (ci, P3) (by simp)
    let G : Hp := fun b => if b = a then (match H a with
      | some (.tbl _) => none
      | o => o) else none
    have ga : G a = match H a with
      | some (.tbl _) => none
      | o => o := if_pos rfl
    have sub : Same G H := fun b o e => by
      by_cases z : b = a
      · subst z
        rw [ga] at e
        split at e
        · cases e
        · exact e
      · rw [show G b = none from if_neg z] at e
        cases e
    have nt : ∀ b ps, G b ≠ some (.tbl ps) := fun b ps e => by
      by_cases z : b = a
      · subst z
        rw [ga] at e
        split at e
        · cases e
        · next hne => exact hne ps e
      · rw [show G b = none from if_neg z] at e
        cases e
    have tabs : TabsN (tabs3 P1 P2 P3) H := fun p hp => by
      rcases List.mem_cons.mp hp with rfl | hp
      · exact .nil t1
      rcases List.mem_cons.mp hp with rfl | hp
      · exact .nil t2
      rw [List.mem_singleton] at hp
      subst hp
      exact .nil t3
    have hG : SqL K G a (ns.map V.int) := by
      rcases hs with (q | ⟨o, q⟩) | q
      · exact .inl (.inl (by rw [ga, q]))
      · exact .inl (.inr ⟨o, by rw [ga, q]⟩)
      · exact .inr q
    exact ⟨G, [.scr ns], .bl true, ⟨sub, nt, tabs⟩, .cons (.scr hG) .nil, ⟨ns, law_ok ns, rfl, rfl⟩, fun v G' H' _ r => by cases r; rfl⟩
  · exact (law_fn X hF (hT (cfp, P1) (by simp)) (hT (cfd, P2) (by simp)) (hT (ci, P3) (by simp)) n12 n13 n23).mono (by decide)
theorem head_mk {l : PySem.W.OpenLaw} {w : World} {K : PySem.W.Frag} {h : Heap} {mg : PySem.Str → Option Value} {fa CP CS CT cfp cfd ci : Addr} (P1 P2 P3 : Addr) (X : K.In h) (G : h.Ns mainGlobals mg) (hfa : mg "law" = some (.ref fa)) (n12 : P1 ≠ P2) (n13 : P1 ≠ P3) (n23 : P2 ≠ P3)
    (hT1 : h.get? P1 = some { cls := .none, data := .fields #[] }) (hT2 : h.get? P2 = some { cls := .none, data := .fields #[] }) (hT3 : h.get? P3 = some { cls := .none, data := .fields #[] })
    {f0 : Addr} {oc0 kV0 dc0 pm0 ct0 : Value} {od0 an0 : Option Addr} {sl0 : Array (Option Value)} {cd0 : Value}
    {f1 : Addr} {oc1 kV1 dc1 pm1 ct1 : Value} {od1 an1 : Option Addr} {sl1 : Array (Option Value)} {cd1 : Value}
    {f2 : Addr} {oc2 kV2 dc2 pm2 ct2 : Value} {od2 an2 : Option Addr} {sl2 : Array (Option Value)} {cd2 : Value}
    {f3 : Addr} {oc3 kV3 dc3 pm3 ct3 : Value} {od3 an3 : Option Addr} {sl3 : Array (Option Value)} {cd3 : Value}
    {f4 : Addr} {oc4 kV4 dc4 pm4 ct4 : Value} {od4 an4 : Option Addr} {sl4 : Array (Option Value)} {cd4 : Value}
    {f5 : Addr} {oc5 kV5 dc5 pm5 ct5 : Value} {od5 an5 : Option Addr} {sl5 : Array (Option Value)} {cd5 : Value}
    {f6 : Addr} {oc6 kV6 dc6 pm6 ct6 : Value} {od6 an6 : Option Addr} {sl6 : Array (Option Value)} {cd6 : Value}
    {f7 : Addr} {oc7 kV7 dc7 pm7 ct7 : Value} {od7 an7 : Option Addr} {sl7 : Array (Option Value)} {cd7 : Value}
    {f8 : Addr} {oc8 kV8 dc8 pm8 ct8 : Value} {od8 an8 : Option Addr} {sl8 : Array (Option Value)} {cd8 : Value}
    {f9 : Addr} {oc9 kV9 dc9 pm9 ct9 : Value} {od9 an9 : Option Addr} {sl9 : Array (Option Value)} {cd9 : Value}
    {f10 : Addr} {oc10 kV10 dc10 pm10 ct10 : Value} {od10 an10 : Option Addr} {sl10 : Array (Option Value)} {cd10 : Value}
    {f11 : Addr} {oc11 kV11 dc11 pm11 ct11 : Value} {od11 an11 : Option Addr} {sl11 : Array (Option Value)} {cd11 : Value}
    {f12 : Addr} {oc12 kV12 dc12 pm12 ct12 : Value} {od12 an12 : Option Addr} {sl12 : Array (Option Value)} {cd12 : Value}
    {f13 : Addr} {oc13 kV13 dc13 pm13 ct13 : Value} {od13 an13 : Option Addr} {sl13 : Array (Option Value)} {cd13 : Value}
    {f14 : Addr} {oc14 kV14 dc14 pm14 ct14 : Value} {od14 an14 : Option Addr} {sl14 : Array (Option Value)} {cd14 : Value}
    {f15 : Addr} {oc15 kV15 dc15 pm15 ct15 : Value} {od15 an15 : Option Addr} {sl15 : Array (Option Value)} {cd15 : Value}
    {f16 : Addr} {oc16 kV16 dc16 pm16 ct16 : Value} {od16 an16 : Option Addr} {sl16 : Array (Option Value)} {cd16 : Value}
    {p16 : Addr} {r16 : List Value}
    {f17 : Addr} {oc17 kV17 dc17 pm17 ct17 : Value} {od17 an17 : Option Addr} {sl17 : Array (Option Value)} {cd17 : Value}
    {f18 : Addr} {oc18 kV18 dc18 pm18 ct18 : Value} {od18 an18 : Option Addr} {sl18 : Array (Option Value)} {cd18 : Value}
    {f19 : Addr} {oc19 kV19 dc19 pm19 ct19 : Value} {od19 an19 : Option Addr} {sl19 : Array (Option Value)} {cd19 : Value}
    {f20 : Addr} {oc20 kV20 dc20 pm20 ct20 : Value} {od20 an20 : Option Addr} {sl20 : Array (Option Value)} {cd20 : Value}
    {f21 : Addr} {oc21 kV21 dc21 pm21 ct21 : Value} {od21 an21 : Option Addr} {sl21 : Array (Option Value)} {cd21 : Value}
    {f22 : Addr} {oc22 kV22 dc22 pm22 ct22 : Value} {od22 an22 : Option Addr} {sl22 : Array (Option Value)} {cd22 : Value}
    {f23 : Addr} {oc23 kV23 dc23 pm23 ct23 : Value} {od23 an23 : Option Addr} {sl23 : Array (Option Value)} {cd23 : Value}
    {f24 : Addr} {oc24 kV24 dc24 pm24 ct24 : Value} {od24 an24 : Option Addr} {sl24 : Array (Option Value)} {cd24 : Value}
    {f25 : Addr} {oc25 kV25 dc25 pm25 ct25 : Value} {od25 an25 : Option Addr} {sl25 : Array (Option Value)} {cd25 : Value}
    {tmo_most_inputs : PySem.Tok}
    {f26 : Addr} {oc26 kV26 dc26 pm26 ct26 : Value} {od26 an26 : Option Addr} {sl26 : Array (Option Value)} {cd26 : Value}
    {tmo_most_parts : PySem.Tok}
    {f27 : Addr} {oc27 kV27 dc27 pm27 ct27 : Value} {od27 an27 : Option Addr} {sl27 : Array (Option Value)}
    {f28 : Addr} {oc28 kV28 dc28 pm28 ct28 : Value} {od28 an28 : Option Addr} {sl28 : Array (Option Value)}
    {f29 : Addr} {oc29 kV29 dc29 pm29 ct29 : Value} {od29 an29 : Option Addr} {sl29 : Array (Option Value)}
    {tmo_most_commits : PySem.Tok}
    {f30 : Addr} {oc30 kV30 dc30 pm30 ct30 : Value} {od30 an30 : Option Addr} {sl30 : Array (Option Value)} {cd30 : Value}
    {tmo_most_programs : PySem.Tok}
    {f31 : Addr} {oc31 kV31 dc31 pm31 ct31 : Value} {od31 an31 : Option Addr} {sl31 : Array (Option Value)} {cd31 : Value}
    {f32 : Addr} {oc32 kV32 dc32 pm32 ct32 : Value} {od32 an32 : Option Addr} {sl32 : Array (Option Value)} {cd32 : Value}
    {f33 : Addr} {oc33 kV33 dc33 pm33 ct33 : Value} {od33 an33 : Option Addr} {sl33 : Array (Option Value)} {cd33 : Value}
    {f34 : Addr} {oc34 kV34 dc34 pm34 ct34 : Value} {od34 an34 : Option Addr} {sl34 : Array (Option Value)} {cd34 : Value}
    {f35 : Addr} {oc35 kV35 dc35 pm35 ct35 : Value} {od35 an35 : Option Addr} {sl35 : Array (Option Value)} {cd35 : Value}
    {f36 : Addr} {oc36 kV36 dc36 pm36 ct36 : Value} {od36 an36 : Option Addr} {sl36 : Array (Option Value)} {cd36 : Value}
    {f37 : Addr} {oc37 kV37 dc37 pm37 ct37 : Value} {od37 an37 : Option Addr} {sl37 : Array (Option Value)} {cd37 : Value}
    {f38 : Addr} {oc38 kV38 dc38 pm38 ct38 : Value} {od38 an38 : Option Addr} {sl38 : Array (Option Value)} {cd38 : Value}
    {f39 : Addr} {oc39 kV39 dc39 pm39 ct39 : Value} {od39 an39 : Option Addr} {sl39 : Array (Option Value)} {cd39 : Value}
    {f40 : Addr} {oc40 kV40 dc40 pm40 ct40 : Value} {od40 an40 : Option Addr} {sl40 : Array (Option Value)} {cd40 : Value}
    {f41 : Addr} {oc41 kV41 dc41 pm41 ct41 : Value} {od41 an41 : Option Addr} {sl41 : Array (Option Value)} {cd41 : Value}
    {f42 : Addr} {oc42 kV42 dc42 pm42 ct42 : Value} {od42 an42 : Option Addr} {sl42 : Array (Option Value)} {cd42 : Value}
    {f43 : Addr} {oc43 kV43 dc43 pm43 ct43 : Value} {od43 an43 : Option Addr} {sl43 : Array (Option Value)} {cd43 : Value}
    {f44 : Addr} {oc44 kV44 dc44 pm44 ct44 : Value} {od44 an44 : Option Addr} {sl44 : Array (Option Value)} {cd44 : Value}
    {f45 : Addr} {oc45 kV45 dc45 pm45 ct45 : Value} {od45 an45 : Option Addr} {sl45 : Array (Option Value)} {cd45 : Value}
    {f46 : Addr} {oc46 kV46 dc46 pm46 ct46 : Value} {od46 an46 : Option Addr} {sl46 : Array (Option Value)} {cd46 : Value}
    {f47 : Addr} {oc47 kV47 dc47 pm47 ct47 : Value} {od47 an47 : Option Addr} {sl47 : Array (Option Value)} {cd47 : Value}
    {f48 : Addr} {oc48 kV48 dc48 pm48 ct48 : Value} {od48 an48 : Option Addr} {sl48 : Array (Option Value)} {cd48 : Value}
    {f49 : Addr} {oc49 kV49 dc49 pm49 ct49 : Value} {od49 an49 : Option Addr} {sl49 : Array (Option Value)} {cd49 : Value}
    {f50 : Addr} {oc50 kV50 dc50 pm50 ct50 : Value} {od50 an50 : Option Addr} {sl50 : Array (Option Value)} {cd50 : Value}
    {f51 : Addr} {oc51 kV51 dc51 pm51 ct51 : Value} {od51 an51 : Option Addr} {sl51 : Array (Option Value)} {cd51 : Value}
    {f52 : Addr} {oc52 kV52 dc52 pm52 ct52 : Value} {od52 an52 : Option Addr} {sl52 : Array (Option Value)} {cd52 : Value}
    {f53 : Addr} {oc53 kV53 dc53 pm53 ct53 : Value} {od53 an53 : Option Addr} {sl53 : Array (Option Value)} {cd53 : Value}
    {f54 : Addr} {oc54 kV54 dc54 pm54 ct54 : Value} {od54 an54 : Option Addr} {sl54 : Array (Option Value)} {cd54 : Value}
    {f55 : Addr} {oc55 kV55 dc55 pm55 ct55 : Value} {od55 an55 : Option Addr} {sl55 : Array (Option Value)} {cd55 : Value}
    {f56 : Addr} {oc56 kV56 dc56 pm56 ct56 : Value} {od56 an56 : Option Addr} {sl56 : Array (Option Value)} {cd56 : Value}
    {f57 : Addr} {oc57 kV57 dc57 pm57 ct57 : Value} {od57 an57 : Option Addr} {sl57 : Array (Option Value)} {cd57 : Value}
    {f58 : Addr} {oc58 kV58 dc58 pm58 ct58 : Value} {od58 an58 : Option Addr} {sl58 : Array (Option Value)} {cd58 : Value}
    {f59 : Addr} {oc59 kV59 dc59 pm59 ct59 : Value} {od59 an59 : Option Addr} {sl59 : Array (Option Value)} {cd59 : Value}
    {f60 : Addr} {oc60 kV60 dc60 pm60 ct60 : Value} {od60 an60 : Option Addr} {sl60 : Array (Option Value)} {cd60 : Value}
    {f61 : Addr} {oc61 kV61 dc61 pm61 ct61 : Value} {od61 an61 : Option Addr} {sl61 : Array (Option Value)} {cd61 : Value}
    {f62 : Addr} {oc62 kV62 dc62 pm62 ct62 : Value} {od62 an62 : Option Addr} {sl62 : Array (Option Value)} {cd62 : Value}
    {f63 : Addr} {oc63 kV63 dc63 pm63 ct63 : Value} {od63 an63 : Option Addr} {sl63 : Array (Option Value)} {cd63 : Value}
    {f64 : Addr} {oc64 kV64 dc64 pm64 ct64 : Value} {od64 an64 : Option Addr} {sl64 : Array (Option Value)} {cd64 : Value}
    (aCP : PySem.W.nsIn K mainGlobals "Program" = some (some (.ref CP)))
    (aCS : PySem.W.nsIn K mainGlobals "Store" = some (some (.ref CS)))
    (aCT : PySem.W.nsIn K mainGlobals "TooLarge" = some (some (.ref CT)))
    (a0 : PySem.W.nsIn K mainGlobals "position_of" = some (some (.ref f0)))
    (l0 : K.lookup f0 = some ⟨oc0, od0, .func (PySem.W.fnOf "position_of" "position_of" (defArgs s_position_of) (defBody s_position_of) (defScope s_position_of) .none kV0 dc0 pm0 an0 cd0 ct0), sl0⟩)
    (c0 : PySem.W.codeIn K cd0 "position_of" = true)
    (k0 : PySem.W.keepIn K (.ref f0) = true)
    (pgCP : PySem.W.plainGet K CP Str.empty = true)
    (hdCP : PySem.W.hasDictIn K CP = true)
    (poCP : PySem.W.plainOver K CP = true)
    (saCP : PySem.W.findIn K (.ref CP) "__setattr__" = some (some (.builtin "object.__setattr__")))
    (caCP : PySem.W.findIn K (.ref CP) "__class__" = some (some (.builtin "object.__class__")))
    (cgCP : PySem.W.specialIn K (.builtin "object.__class__") "__get__" = some (some (.builtin "getset_descriptor.__get__")))
    (ctCP : PySem.W.takesIn K (.builtin "object.__class__") = some true)
    (coCP : PySem.W.mroIn K CP (.type "object") = some true)
    (nCPnames : PySem.W.findIn K (.ref CP) "names" = some none)
    (nCPchannels : PySem.W.findIn K (.ref CP) "channels" = some none)
    (nCPstates : PySem.W.findIn K (.ref CP) "states" = some none)
    (nCPrules : PySem.W.findIn K (.ref CP) "rules" = some none)
    (kt : PySem.W.kitOne K (.type "tuple") (.ref CP) = some false)
    (kp : PySem.W.kitOne K (.ref CP) (.ref CP) = some true)
    (a1 : PySem.W.nsIn K mainGlobals "face" = some (some (.ref f1)))
    (l1 : K.lookup f1 = some ⟨oc1, od1, .func (PySem.W.fnOf "face" "face" (defArgs s_face) (defBody s_face) (defScope s_face) .none kV1 dc1 pm1 an1 cd1 ct1), sl1⟩)
    (c1 : PySem.W.codeIn K cd1 "face" = true)
    (k1 : PySem.W.keepIn K (.ref f1) = true)
    (a2 : PySem.W.nsIn K mainGlobals "start" = some (some (.ref f2)))
    (l2 : K.lookup f2 = some ⟨oc2, od2, .func (PySem.W.fnOf "start" "start" (defArgs s_start) (defBody s_start) (defScope s_start) .none kV2 dc2 pm2 an2 cd2 ct2), sl2⟩)
    (c2 : PySem.W.codeIn K cd2 "start" = true)
    (k2 : PySem.W.keepIn K (.ref f2) = true)
    (b_len : PySem.W.nsIn K mainGlobals "len" = some none)
    (b_range : PySem.W.nsIn K mainGlobals "range" = some none)
    (b_list : PySem.W.nsIn K mainGlobals "list" = some none)
    (b_tuple : PySem.W.nsIn K mainGlobals "tuple" = some none)
    (b_sorted : PySem.W.nsIn K mainGlobals "sorted" = some none)
    (b_int : PySem.W.nsIn K mainGlobals "int" = some none)
    (b_bool : PySem.W.nsIn K mainGlobals "bool" = some none)
    (b_zip : PySem.W.nsIn K mainGlobals "zip" = some none)
    (b_enumerate : PySem.W.nsIn K mainGlobals "enumerate" = some none)
    (b_max : PySem.W.nsIn K mainGlobals "max" = some none)
    (b_set : PySem.W.nsIn K mainGlobals "set" = some none)
    (b_isinstance : PySem.W.nsIn K mainGlobals "isinstance" = some none)
    (a3 : PySem.W.nsIn K mainGlobals "candidates" = some (some (.ref f3)))
    (l3 : K.lookup f3 = some ⟨oc3, od3, .func (PySem.W.fnOf "candidates" "candidates" (defArgs s_candidates) (defBody s_candidates) (defScope s_candidates) .none kV3 dc3 pm3 an3 cd3 ct3), sl3⟩)
    (c3 : PySem.W.codeIn K cd3 "candidates" = true)
    (k3 : PySem.W.keepIn K (.ref f3) = true)
    (a4 : PySem.W.nsIn K mainGlobals "rule_of" = some (some (.ref f4)))
    (l4 : K.lookup f4 = some ⟨oc4, od4, .func (PySem.W.fnOf "rule_of" "rule_of" (defArgs s_rule_of) (defBody s_rule_of) (defScope s_rule_of) .none kV4 dc4 pm4 an4 cd4 ct4), sl4⟩)
    (c4 : PySem.W.codeIn K cd4 "rule_of" = true)
    (k4 : PySem.W.keepIn K (.ref f4) = true)
    (a5 : PySem.W.nsIn K mainGlobals "step" = some (some (.ref f5)))
    (l5 : K.lookup f5 = some ⟨oc5, od5, .func (PySem.W.fnOf "step" "step" (defArgs s_step) (defBody s_step) (defScope s_step) .none kV5 dc5 pm5 an5 cd5 ct5), sl5⟩)
    (c5 : PySem.W.codeIn K cd5 "step" = true)
    (k5 : PySem.W.keepIn K (.ref f5) = true)
    (a6 : PySem.W.nsIn K mainGlobals "run" = some (some (.ref f6)))
    (l6 : K.lookup f6 = some ⟨oc6, od6, .func (PySem.W.fnOf "run" "run" (defArgs s_run) (defBody s_run) (defScope s_run) .none kV6 dc6 pm6 an6 cd6 ct6), sl6⟩)
    (c6 : PySem.W.codeIn K cd6 "run" = true)
    (k6 : PySem.W.keepIn K (.ref f6) = true)
    (a7 : PySem.W.nsIn K mainGlobals "ranks" = some (some (.ref f7)))
    (l7 : K.lookup f7 = some ⟨oc7, od7, .func (PySem.W.fnOf "ranks" "ranks" (defArgs s_ranks) (defBody s_ranks) (defScope s_ranks) .none kV7 dc7 pm7 an7 cd7 ct7), sl7⟩)
    (c7 : PySem.W.codeIn K cd7 "ranks" = true)
    (k7 : PySem.W.keepIn K (.ref f7) = true)
    (a8 : PySem.W.nsIn K mainGlobals "ranked" = some (some (.ref f8)))
    (l8 : K.lookup f8 = some ⟨oc8, od8, .func (PySem.W.fnOf "ranked" "ranked" (defArgs s_ranked) (defBody s_ranked) (defScope s_ranked) .none kV8 dc8 pm8 an8 cd8 ct8), sl8⟩)
    (c8 : PySem.W.codeIn K cd8 "ranked" = true)
    (k8 : PySem.W.keepIn K (.ref f8) = true)
    (a9 : PySem.W.nsIn K mainGlobals "ranked_spot" = some (some (.ref f9)))
    (l9 : K.lookup f9 = some ⟨oc9, od9, .func (PySem.W.fnOf "ranked_spot" "ranked_spot" (defArgs s_ranked_spot) (defBody s_ranked_spot) (defScope s_ranked_spot) .none kV9 dc9 pm9 an9 cd9 ct9), sl9⟩)
    (c9 : PySem.W.codeIn K cd9 "ranked_spot" = true)
    (k9 : PySem.W.keepIn K (.ref f9) = true)
    (a10 : PySem.W.nsIn K mainGlobals "kept_numbers" = some (some (.ref f10)))
    (l10 : K.lookup f10 = some ⟨oc10, od10, .func (PySem.W.fnOf "kept_numbers" "kept_numbers" (defArgs s_kept_numbers) (defBody s_kept_numbers) (defScope s_kept_numbers) .none kV10 dc10 pm10 an10 cd10 ct10), sl10⟩)
    (c10 : PySem.W.codeIn K cd10 "kept_numbers" = true)
    (k10 : PySem.W.keepIn K (.ref f10) = true)
    (a11 : PySem.W.nsIn K mainGlobals "spot_of" = some (some (.ref f11)))
    (l11 : K.lookup f11 = some ⟨oc11, od11, .func (PySem.W.fnOf "spot_of" "spot_of" (defArgs s_spot_of) (defBody s_spot_of) (defScope s_spot_of) .none kV11 dc11 pm11 an11 cd11 ct11), sl11⟩)
    (c11 : PySem.W.codeIn K cd11 "spot_of" = true)
    (k11 : PySem.W.keepIn K (.ref f11) = true)
    (a12 : PySem.W.nsIn K mainGlobals "steps_at" = some (some (.ref f12)))
    (l12 : K.lookup f12 = some ⟨oc12, od12, .func (PySem.W.fnOf "steps_at" "steps_at" (defArgs s_steps_at) (defBody s_steps_at) (defScope s_steps_at) .none kV12 dc12 pm12 an12 cd12 ct12), sl12⟩)
    (c12 : PySem.W.codeIn K cd12 "steps_at" = true)
    (k12 : PySem.W.keepIn K (.ref f12) = true)
    (a13 : PySem.W.nsIn K mainGlobals "new_number" = some (some (.ref f13)))
    (l13 : K.lookup f13 = some ⟨oc13, od13, .func (PySem.W.fnOf "new_number" "new_number" (defArgs s_new_number) (defBody s_new_number) (defScope s_new_number) .none kV13 dc13 pm13 an13 cd13 ct13), sl13⟩)
    (c13 : PySem.W.codeIn K cd13 "new_number" = true)
    (k13 : PySem.W.keepIn K (.ref f13) = true)
    (a14 : PySem.W.nsIn K mainGlobals "continued" = some (some (.ref f14)))
    (l14 : K.lookup f14 = some ⟨oc14, od14, .func (PySem.W.fnOf "continued" "continued" (defArgs s_continued) (defBody s_continued) (defScope s_continued) .none kV14 dc14 pm14 an14 cd14 ct14), sl14⟩)
    (c14 : PySem.W.codeIn K cd14 "continued" = true)
    (k14 : PySem.W.keepIn K (.ref f14) = true)
    (a15 : PySem.W.nsIn K mainGlobals "spot_after" = some (some (.ref f15)))
    (l15 : K.lookup f15 = some ⟨oc15, od15, .func (PySem.W.fnOf "spot_after" "spot_after" (defArgs s_spot_after) (defBody s_spot_after) (defScope s_spot_after) .none kV15 dc15 pm15 an15 cd15 ct15), sl15⟩)
    (c15 : PySem.W.codeIn K cd15 "spot_after" = true)
    (k15 : PySem.W.keepIn K (.ref f15) = true)
    (pgCS : PySem.W.plainGet K CS Str.empty = true)
    (hdCS : PySem.W.hasDictIn K CS = true)
    (poCS : PySem.W.plainOver K CS = true)
    (saCS : PySem.W.findIn K (.ref CS) "__setattr__" = some (some (.builtin "object.__setattr__")))
    (caCS : PySem.W.findIn K (.ref CS) "__class__" = some (some (.builtin "object.__class__")))
    (cgCS : PySem.W.specialIn K (.builtin "object.__class__") "__get__" = some (some (.builtin "getset_descriptor.__get__")))
    (ctCS : PySem.W.takesIn K (.builtin "object.__class__") = some true)
    (coCS : PySem.W.mroIn K CS (.type "object") = some true)
    (nCS_entries : PySem.W.findIn K (.ref CS) "_entries" = some none)
    (a16 : PySem.W.findIn K (.ref CS) "size" = some (some (.ref p16)))
    (g16 : PySem.W.specialIn K (.ref p16) "__get__" = some (some (.builtin "property.__get__")))
    (w16 : PySem.W.takesIn K (.ref p16) = some true)
    (r_16 : PySem.W.recIn K p16 "property" = some (.ref f16 :: r16))
    (l16 : K.lookup f16 = some ⟨oc16, od16, .func (PySem.W.fnOf "size" "Store.size" (defArgs s_Store_size) (defBody s_Store_size) (defScope s_Store_size) .none kV16 dc16 pm16 an16 cd16 ct16), sl16⟩)
    (c16 : PySem.W.codeIn K cd16 "Store.size" = true)
    (k16 : PySem.W.keepIn K (.ref f16) = true)
    (a17 : PySem.W.nsIn K mainGlobals "known" = some (some (.ref f17)))
    (l17 : K.lookup f17 = some ⟨oc17, od17, .func (PySem.W.fnOf "known" "known" (defArgs s_known) (defBody s_known) (defScope s_known) .none kV17 dc17 pm17 an17 cd17 ct17), sl17⟩)
    (c17 : PySem.W.codeIn K cd17 "known" = true)
    (k17 : PySem.W.keepIn K (.ref f17) = true)
    (a18 : PySem.W.findIn K (.ref CS) "entry" = some (some (.ref f18)))
    (l18 : K.lookup f18 = some ⟨oc18, od18, .func (PySem.W.fnOf "entry" "Store.entry" (defArgs s_Store_entry) (defBody s_Store_entry) (defScope s_Store_entry) .none kV18 dc18 pm18 an18 cd18 ct18), sl18⟩)
    (c18 : PySem.W.codeIn K cd18 "Store.entry" = true)
    (k18 : PySem.W.keepIn K (.ref f18) = true)
    (i18 : PySem.W.isFn K (.ref f18) = true)
    (a19 : PySem.W.nsIn K mainGlobals "parts" = some (some (.ref f19)))
    (l19 : K.lookup f19 = some ⟨oc19, od19, .func (PySem.W.fnOf "parts" "parts" (defArgs s_parts) (defBody s_parts) (defScope s_parts) .none kV19 dc19 pm19 an19 cd19 ct19), sl19⟩)
    (c19 : PySem.W.codeIn K cd19 "parts" = true)
    (k19 : PySem.W.keepIn K (.ref f19) = true)
    (a20 : PySem.W.nsIn K mainGlobals "merged" = some (some (.ref f20)))
    (l20 : K.lookup f20 = some ⟨oc20, od20, .func (PySem.W.fnOf "merged" "merged" (defArgs s_merged) (defBody s_merged) (defScope s_merged) .none kV20 dc20 pm20 an20 cd20 ct20), sl20⟩)
    (c20 : PySem.W.codeIn K cd20 "merged" = true)
    (k20 : PySem.W.keepIn K (.ref f20) = true)
    (a21 : PySem.W.nsIn K mainGlobals "meaning" = some (some (.ref f21)))
    (l21 : K.lookup f21 = some ⟨oc21, od21, .func (PySem.W.fnOf "meaning" "meaning" (defArgs s_meaning) (defBody s_meaning) (defScope s_meaning) .none kV21 dc21 pm21 an21 cd21 ct21), sl21⟩)
    (c21 : PySem.W.codeIn K cd21 "meaning" = true)
    (k21 : PySem.W.keepIn K (.ref f21) = true)
    (a22 : PySem.W.nsIn K mainGlobals "together" = some (some (.ref f22)))
    (l22 : K.lookup f22 = some ⟨oc22, od22, .func (PySem.W.fnOf "together" "together" (defArgs s_together) (defBody s_together) (defScope s_together) .none kV22 dc22 pm22 an22 cd22 ct22), sl22⟩)
    (c22 : PySem.W.codeIn K cd22 "together" = true)
    (k22 : PySem.W.keepIn K (.ref f22) = true)
    (a23 : PySem.W.nsIn K mainGlobals "by_part" = some (some (.ref f23)))
    (l23 : K.lookup f23 = some ⟨oc23, od23, .func (PySem.W.fnOf "by_part" "by_part" (defArgs s_by_part) (defBody s_by_part) (defScope s_by_part) .none kV23 dc23 pm23 an23 cd23 ct23), sl23⟩)
    (c23 : PySem.W.codeIn K cd23 "by_part" = true)
    (k23 : PySem.W.keepIn K (.ref f23) = true)
    (a24 : PySem.W.nsIn K mainGlobals "all_names" = some (some (.ref f24)))
    (l24 : K.lookup f24 = some ⟨oc24, od24, .func (PySem.W.fnOf "all_names" "all_names" (defArgs s_all_names) (defBody s_all_names) (defScope s_all_names) .none kV24 dc24 pm24 an24 cd24 ct24), sl24⟩)
    (c24 : PySem.W.codeIn K cd24 "all_names" = true)
    (k24 : PySem.W.keepIn K (.ref f24) = true)
    (a25 : PySem.W.nsIn K mainGlobals "input_to" = some (some (.ref f25)))
    (l25 : K.lookup f25 = some ⟨oc25, od25, .func (PySem.W.fnOf "input_to" "input_to" (defArgs s_input_to) (defBody s_input_to) (defScope s_input_to) .none kV25 dc25 pm25 an25 cd25 ct25), sl25⟩)
    (c25 : PySem.W.codeIn K cd25 "input_to" = true)
    (k25 : PySem.W.keepIn K (.ref f25) = true)
    (xT : PySem.W.excIn K CT [.type "ValueError", .type "Exception", .type "BaseException", .type "object"] "ValueError.__new__" = true)
    (kT : PySem.W.keepIn K (.ref CT) = true)
    (bT : PySem.W.subIn K (.ref CT) (.type "BaseException") = some true)
    (tT : PySem.W.typeIn K (.ref CT) = some (.type "type"))
    (eT : PySem.W.exmOne K (.ref CT) (.ref CT) = some true)
    (amo_most_inputs : PySem.W.nsIn K mainGlobals "MOST_INPUTS" = some (some (.int 400 tmo_most_inputs)))
    (a26 : PySem.W.nsIn K mainGlobals "search" = some (some (.ref f26)))
    (l26 : K.lookup f26 = some ⟨oc26, od26, .func (PySem.W.fnOf "search" "search" (defArgs s_search) (defBody s_search) (defScope s_search) .none kV26 dc26 pm26 an26 cd26 ct26), sl26⟩)
    (c26 : PySem.W.codeIn K cd26 "search" = true)
    (k26 : PySem.W.keepIn K (.ref f26) = true)
    (amo_most_parts : PySem.W.nsIn K mainGlobals "MOST_PARTS" = some (some (.int 4 tmo_most_parts)))
    (a27 : PySem.W.nsIn K mainGlobals "first_parting" = some (some (.ref f27)))
    (l27 : K.lookup f27 = some ⟨oc27, od27, .func (PySem.W.fnOf "first_parting" "first_parting" (defArgs s_first_parting) (defBody s_first_parting) (defScope s_first_parting) .none kV27 dc27 pm27 an27 (.ref cfp) ct27), sl27⟩)
    (c27 : PySem.W.codeIn K (.ref cfp) "first_parting" = true)
    (k27 : PySem.W.keepIn K (.ref f27) = true)
    (a28 : PySem.W.nsIn K mainGlobals "first_difference" = some (some (.ref f28)))
    (l28 : K.lookup f28 = some ⟨oc28, od28, .func (PySem.W.fnOf "first_difference" "first_difference" (defArgs s_first_difference) (defBody s_first_difference) (defScope s_first_difference) .none kV28 dc28 pm28 an28 (.ref cfd) ct28), sl28⟩)
    (c28 : PySem.W.codeIn K (.ref cfd) "first_difference" = true)
    (k28 : PySem.W.keepIn K (.ref f28) = true)
    (a29 : PySem.W.findIn K (.ref CP) "__init__" = some (some (.ref f29)))
    (l29 : K.lookup f29 = some ⟨oc29, od29, .func (PySem.W.fnOf "__init__" "Program.__init__" (defArgs s_Program_init) (defBody s_Program_init) (defScope s_Program_init) .none kV29 dc29 pm29 an29 (.ref ci) ct29), sl29⟩)
    (c29 : PySem.W.codeIn K (.ref ci) "Program.__init__" = true)
    (k29 : PySem.W.keepIn K (.ref f29) = true)
    (i29 : PySem.W.isFn K (.ref f29) = true)
    (m29 : PySem.W.makesIn K CP = true)
    (q29 : PySem.W.keepIn K (.ref CP) = true)
    (amo_most_commits : PySem.W.nsIn K mainGlobals "MOST_COMMITS" = some (some (.int 100 tmo_most_commits)))
    (a30 : PySem.W.findIn K (.ref CS) "_add" = some (some (.ref f30)))
    (l30 : K.lookup f30 = some ⟨oc30, od30, .func (PySem.W.fnOf "_add" "Store._add" (defArgs s_Store_add) (defBody s_Store_add) (defScope s_Store_add) .none kV30 dc30 pm30 an30 cd30 ct30), sl30⟩)
    (c30 : PySem.W.codeIn K cd30 "Store._add" = true)
    (k30 : PySem.W.keepIn K (.ref f30) = true)
    (i30 : PySem.W.isFn K (.ref f30) = true)
    (amo_most_programs : PySem.W.nsIn K mainGlobals "MOST_PROGRAMS" = some (some (.int 12 tmo_most_programs)))
    (a31 : PySem.W.findIn K (.ref CS) "commit" = some (some (.ref f31)))
    (l31 : K.lookup f31 = some ⟨oc31, od31, .func (PySem.W.fnOf "commit" "Store.commit" (defArgs s_Store_commit) (defBody s_Store_commit) (defScope s_Store_commit) .none kV31 dc31 pm31 an31 cd31 ct31), sl31⟩)
    (c31 : PySem.W.codeIn K cd31 "Store.commit" = true)
    (k31 : PySem.W.keepIn K (.ref f31) = true)
    (i31 : PySem.W.isFn K (.ref f31) = true)
    (a32 : PySem.W.findIn K (.ref CS) "merge" = some (some (.ref f32)))
    (l32 : K.lookup f32 = some ⟨oc32, od32, .func (PySem.W.fnOf "merge" "Store.merge" (defArgs s_Store_merge) (defBody s_Store_merge) (defScope s_Store_merge) .none kV32 dc32 pm32 an32 cd32 ct32), sl32⟩)
    (c32 : PySem.W.codeIn K cd32 "Store.merge" = true)
    (k32 : PySem.W.keepIn K (.ref f32) = true)
    (i32 : PySem.W.isFn K (.ref f32) = true)
    (a33 : PySem.W.nsIn K mainGlobals "_law_program" = some (some (.ref f33)))
    (l33 : K.lookup f33 = some ⟨oc33, od33, .func (PySem.W.fnOf "_law_program" "_law_program" (defArgs s_law_program) (defBody s_law_program) (defScope s_law_program) .none kV33 dc33 pm33 an33 cd33 ct33), sl33⟩)
    (c33 : PySem.W.codeIn K cd33 "_law_program" = true)
    (k33 : PySem.W.keepIn K (.ref f33) = true)
    (a34 : PySem.W.nsIn K mainGlobals "_law_store" = some (some (.ref f34)))
    (l34 : K.lookup f34 = some ⟨oc34, od34, .func (PySem.W.fnOf "_law_store" "_law_store" (defArgs s_law_store) (defBody s_law_store) (defScope s_law_store) .none kV34 dc34 pm34 an34 cd34 ct34), sl34⟩)
    (c34 : PySem.W.codeIn K cd34 "_law_store" = true)
    (k34 : PySem.W.keepIn K (.ref f34) = true)
    (a35 : PySem.W.findIn K (.ref CS) "__init__" = some (some (.ref f35)))
    (l35 : K.lookup f35 = some ⟨oc35, od35, .func (PySem.W.fnOf "__init__" "Store.__init__" (defArgs s_Store_init) (defBody s_Store_init) (defScope s_Store_init) .none kV35 dc35 pm35 an35 cd35 ct35), sl35⟩)
    (c35 : PySem.W.codeIn K cd35 "Store.__init__" = true)
    (k35 : PySem.W.keepIn K (.ref f35) = true)
    (i35 : PySem.W.isFn K (.ref f35) = true)
    (m35 : PySem.W.makesIn K CS = true)
    (q35 : PySem.W.keepIn K (.ref CS) = true)
    (a36 : PySem.W.nsIn K mainGlobals "_law_cell" = some (some (.ref f36)))
    (l36 : K.lookup f36 = some ⟨oc36, od36, .func (PySem.W.fnOf "_law_cell" "_law_cell" (defArgs s_law_cell) (defBody s_law_cell) (defScope s_law_cell) .none kV36 dc36 pm36 an36 cd36 ct36), sl36⟩)
    (c36 : PySem.W.codeIn K cd36 "_law_cell" = true)
    (k36 : PySem.W.keepIn K (.ref f36) = true)
    (a37 : PySem.W.nsIn K mainGlobals "_law_row" = some (some (.ref f37)))
    (l37 : K.lookup f37 = some ⟨oc37, od37, .func (PySem.W.fnOf "_law_row" "_law_row" (defArgs s_law_row) (defBody s_law_row) (defScope s_law_row) .none kV37 dc37 pm37 an37 cd37 ct37), sl37⟩)
    (c37 : PySem.W.codeIn K cd37 "_law_row" = true)
    (k37 : PySem.W.keepIn K (.ref f37) = true)
    (a38 : PySem.W.nsIn K mainGlobals "_law_word" = some (some (.ref f38)))
    (l38 : K.lookup f38 = some ⟨oc38, od38, .func (PySem.W.fnOf "_law_word" "_law_word" (defArgs s_law_word) (defBody s_law_word) (defScope s_law_word) .none kV38 dc38 pm38 an38 cd38 ct38), sl38⟩)
    (c38 : PySem.W.codeIn K cd38 "_law_word" = true)
    (k38 : PySem.W.keepIn K (.ref f38) = true)
    (a39 : PySem.W.nsIn K mainGlobals "_law_names" = some (some (.ref f39)))
    (l39 : K.lookup f39 = some ⟨oc39, od39, .func (PySem.W.fnOf "_law_names" "_law_names" (defArgs s_law_names) (defBody s_law_names) (defScope s_law_names) .none kV39 dc39 pm39 an39 cd39 ct39), sl39⟩)
    (c39 : PySem.W.codeIn K cd39 "_law_names" = true)
    (k39 : PySem.W.keepIn K (.ref f39) = true)
    (a40 : PySem.W.nsIn K mainGlobals "_law_channels" = some (some (.ref f40)))
    (l40 : K.lookup f40 = some ⟨oc40, od40, .func (PySem.W.fnOf "_law_channels" "_law_channels" (defArgs s_law_channels) (defBody s_law_channels) (defScope s_law_channels) .none kV40 dc40 pm40 an40 cd40 ct40), sl40⟩)
    (c40 : PySem.W.codeIn K cd40 "_law_channels" = true)
    (k40 : PySem.W.keepIn K (.ref f40) = true)
    (a41 : PySem.W.nsIn K mainGlobals "_law_picks" = some (some (.ref f41)))
    (l41 : K.lookup f41 = some ⟨oc41, od41, .func (PySem.W.fnOf "_law_picks" "_law_picks" (defArgs s_law_picks) (defBody s_law_picks) (defScope s_law_picks) .none kV41 dc41 pm41 an41 cd41 ct41), sl41⟩)
    (c41 : PySem.W.codeIn K cd41 "_law_picks" = true)
    (k41 : PySem.W.keepIn K (.ref f41) = true)
    (a42 : PySem.W.nsIn K mainGlobals "_law_outputs" = some (some (.ref f42)))
    (l42 : K.lookup f42 = some ⟨oc42, od42, .func (PySem.W.fnOf "_law_outputs" "_law_outputs" (defArgs s_law_outputs) (defBody s_law_outputs) (defScope s_law_outputs) .none kV42 dc42 pm42 an42 cd42 ct42), sl42⟩)
    (c42 : PySem.W.codeIn K cd42 "_law_outputs" = true)
    (k42 : PySem.W.keepIn K (.ref f42) = true)
    (a43 : PySem.W.nsIn K mainGlobals "_law_rule" = some (some (.ref f43)))
    (l43 : K.lookup f43 = some ⟨oc43, od43, .func (PySem.W.fnOf "_law_rule" "_law_rule" (defArgs s_law_rule) (defBody s_law_rule) (defScope s_law_rule) .none kV43 dc43 pm43 an43 cd43 ct43), sl43⟩)
    (c43 : PySem.W.codeIn K cd43 "_law_rule" = true)
    (k43 : PySem.W.keepIn K (.ref f43) = true)
    (a44 : PySem.W.nsIn K mainGlobals "_law_keys" = some (some (.ref f44)))
    (l44 : K.lookup f44 = some ⟨oc44, od44, .func (PySem.W.fnOf "_law_keys" "_law_keys" (defArgs s_law_keys) (defBody s_law_keys) (defScope s_law_keys) .none kV44 dc44 pm44 an44 cd44 ct44), sl44⟩)
    (c44 : PySem.W.codeIn K cd44 "_law_keys" = true)
    (k44 : PySem.W.keepIn K (.ref f44) = true)
    (a45 : PySem.W.nsIn K mainGlobals "_law_plan" = some (some (.ref f45)))
    (l45 : K.lookup f45 = some ⟨oc45, od45, .func (PySem.W.fnOf "_law_plan" "_law_plan" (defArgs s_law_plan) (defBody s_law_plan) (defScope s_law_plan) .none kV45 dc45 pm45 an45 cd45 ct45), sl45⟩)
    (c45 : PySem.W.codeIn K cd45 "_law_plan" = true)
    (k45 : PySem.W.keepIn K (.ref f45) = true)
    (a46 : PySem.W.nsIn K mainGlobals "_law_side" = some (some (.ref f46)))
    (l46 : K.lookup f46 = some ⟨oc46, od46, .func (PySem.W.fnOf "_law_side" "_law_side" (defArgs s_law_side) (defBody s_law_side) (defScope s_law_side) .none kV46 dc46 pm46 an46 cd46 ct46), sl46⟩)
    (c46 : PySem.W.codeIn K cd46 "_law_side" = true)
    (k46 : PySem.W.keepIn K (.ref f46) = true)
    (a47 : PySem.W.nsIn K mainGlobals "_law_position" = some (some (.ref f47)))
    (l47 : K.lookup f47 = some ⟨oc47, od47, .func (PySem.W.fnOf "_law_position" "_law_position" (defArgs s_law_position) (defBody s_law_position) (defScope s_law_position) .none kV47 dc47 pm47 an47 cd47 ct47), sl47⟩)
    (c47 : PySem.W.codeIn K cd47 "_law_position" = true)
    (k47 : PySem.W.keepIn K (.ref f47) = true)
    (a48 : PySem.W.nsIn K mainGlobals "_law_step" = some (some (.ref f48)))
    (l48 : K.lookup f48 = some ⟨oc48, od48, .func (PySem.W.fnOf "_law_step" "_law_step" (defArgs s_law_step) (defBody s_law_step) (defScope s_law_step) .none kV48 dc48 pm48 an48 cd48 ct48), sl48⟩)
    (c48 : PySem.W.codeIn K cd48 "_law_step" = true)
    (k48 : PySem.W.keepIn K (.ref f48) = true)
    (a49 : PySem.W.nsIn K mainGlobals "_law_same_face" = some (some (.ref f49)))
    (l49 : K.lookup f49 = some ⟨oc49, od49, .func (PySem.W.fnOf "_law_same_face" "_law_same_face" (defArgs s_law_same_face) (defBody s_law_same_face) (defScope s_law_same_face) .none kV49 dc49 pm49 an49 cd49 ct49), sl49⟩)
    (c49 : PySem.W.codeIn K cd49 "_law_same_face" = true)
    (k49 : PySem.W.keepIn K (.ref f49) = true)
    (a50 : PySem.W.nsIn K mainGlobals "_law_merged" = some (some (.ref f50)))
    (l50 : K.lookup f50 = some ⟨oc50, od50, .func (PySem.W.fnOf "_law_merged" "_law_merged" (defArgs s_law_merged) (defBody s_law_merged) (defScope s_law_merged) .none kV50 dc50 pm50 an50 cd50 ct50), sl50⟩)
    (c50 : PySem.W.codeIn K cd50 "_law_merged" = true)
    (k50 : PySem.W.keepIn K (.ref f50) = true)
    (a51 : PySem.W.nsIn K mainGlobals "_law_made_of" = some (some (.ref f51)))
    (l51 : K.lookup f51 = some ⟨oc51, od51, .func (PySem.W.fnOf "_law_made_of" "_law_made_of" (defArgs s_law_made_of) (defBody s_law_made_of) (defScope s_law_made_of) .none kV51 dc51 pm51 an51 cd51 ct51), sl51⟩)
    (c51 : PySem.W.codeIn K cd51 "_law_made_of" = true)
    (k51 : PySem.W.keepIn K (.ref f51) = true)
    (a52 : PySem.W.nsIn K mainGlobals "_law_ranked_places" = some (some (.ref f52)))
    (l52 : K.lookup f52 = some ⟨oc52, od52, .func (PySem.W.fnOf "_law_ranked_places" "_law_ranked_places" (defArgs s_law_ranked_places) (defBody s_law_ranked_places) (defScope s_law_ranked_places) .none kV52 dc52 pm52 an52 cd52 ct52), sl52⟩)
    (c52 : PySem.W.codeIn K cd52 "_law_ranked_places" = true)
    (k52 : PySem.W.keepIn K (.ref f52) = true)
    (a53 : PySem.W.nsIn K mainGlobals "_law_steps" = some (some (.ref f53)))
    (l53 : K.lookup f53 = some ⟨oc53, od53, .func (PySem.W.fnOf "_law_steps" "_law_steps" (defArgs s_law_steps) (defBody s_law_steps) (defScope s_law_steps) .none kV53 dc53 pm53 an53 cd53 ct53), sl53⟩)
    (c53 : PySem.W.codeIn K cd53 "_law_steps" = true)
    (k53 : PySem.W.keepIn K (.ref f53) = true)
    (a54 : PySem.W.nsIn K mainGlobals "_law_meaning" = some (some (.ref f54)))
    (l54 : K.lookup f54 = some ⟨oc54, od54, .func (PySem.W.fnOf "_law_meaning" "_law_meaning" (defArgs s_law_meaning) (defBody s_law_meaning) (defScope s_law_meaning) .none kV54 dc54 pm54 an54 cd54 ct54), sl54⟩)
    (c54 : PySem.W.codeIn K cd54 "_law_meaning" = true)
    (k54 : PySem.W.keepIn K (.ref f54) = true)
    (a55 : PySem.W.nsIn K mainGlobals "_law_marked" = some (some (.ref f55)))
    (l55 : K.lookup f55 = some ⟨oc55, od55, .func (PySem.W.fnOf "_law_marked" "_law_marked" (defArgs s_law_marked) (defBody s_law_marked) (defScope s_law_marked) .none kV55 dc55 pm55 an55 cd55 ct55), sl55⟩)
    (c55 : PySem.W.codeIn K cd55 "_law_marked" = true)
    (k55 : PySem.W.keepIn K (.ref f55) = true)
    (a56 : PySem.W.nsIn K mainGlobals "_law_spot_after" = some (some (.ref f56)))
    (l56 : K.lookup f56 = some ⟨oc56, od56, .func (PySem.W.fnOf "_law_spot_after" "_law_spot_after" (defArgs s_law_spot_after) (defBody s_law_spot_after) (defScope s_law_spot_after) .none kV56 dc56 pm56 an56 cd56 ct56), sl56⟩)
    (c56 : PySem.W.codeIn K cd56 "_law_spot_after" = true)
    (k56 : PySem.W.keepIn K (.ref f56) = true)
    (a57 : PySem.W.nsIn K mainGlobals "_law_entries" = some (some (.ref f57)))
    (l57 : K.lookup f57 = some ⟨oc57, od57, .func (PySem.W.fnOf "_law_entries" "_law_entries" (defArgs s_law_entries) (defBody s_law_entries) (defScope s_law_entries) .none kV57 dc57 pm57 an57 cd57 ct57), sl57⟩)
    (c57 : PySem.W.codeIn K cd57 "_law_entries" = true)
    (k57 : PySem.W.keepIn K (.ref f57) = true)
    (a58 : PySem.W.nsIn K mainGlobals "_law_search" = some (some (.ref f58)))
    (l58 : K.lookup f58 = some ⟨oc58, od58, .func (PySem.W.fnOf "_law_search" "_law_search" (defArgs s_law_search) (defBody s_law_search) (defScope s_law_search) .none kV58 dc58 pm58 an58 cd58 ct58), sl58⟩)
    (c58 : PySem.W.codeIn K cd58 "_law_search" = true)
    (k58 : PySem.W.keepIn K (.ref f58) = true)
    (a59 : PySem.W.nsIn K mainGlobals "_law_parted" = some (some (.ref f59)))
    (l59 : K.lookup f59 = some ⟨oc59, od59, .func (PySem.W.fnOf "_law_parted" "_law_parted" (defArgs s_law_parted) (defBody s_law_parted) (defScope s_law_parted) .none kV59 dc59 pm59 an59 cd59 ct59), sl59⟩)
    (c59 : PySem.W.codeIn K cd59 "_law_parted" = true)
    (k59 : PySem.W.keepIn K (.ref f59) = true)
    (a60 : PySem.W.nsIn K mainGlobals "_law_differs" = some (some (.ref f60)))
    (l60 : K.lookup f60 = some ⟨oc60, od60, .func (PySem.W.fnOf "_law_differs" "_law_differs" (defArgs s_law_differs) (defBody s_law_differs) (defScope s_law_differs) .none kV60 dc60 pm60 an60 cd60 ct60), sl60⟩)
    (c60 : PySem.W.codeIn K cd60 "_law_differs" = true)
    (k60 : PySem.W.keepIn K (.ref f60) = true)
    (a61 : PySem.W.nsIn K mainGlobals "_law_due" = some (some (.ref f61)))
    (l61 : K.lookup f61 = some ⟨oc61, od61, .func (PySem.W.fnOf "_law_due" "_law_due" (defArgs s_law_due) (defBody s_law_due) (defScope s_law_due) .none kV61 dc61 pm61 an61 cd61 ct61), sl61⟩)
    (c61 : PySem.W.codeIn K cd61 "_law_due" = true)
    (k61 : PySem.W.keepIn K (.ref f61) = true)
    (a62 : PySem.W.nsIn K mainGlobals "_law_partings_hold" = some (some (.ref f62)))
    (l62 : K.lookup f62 = some ⟨oc62, od62, .func (PySem.W.fnOf "_law_partings_hold" "_law_partings_hold" (defArgs s_law_partings_hold) (defBody s_law_partings_hold) (defScope s_law_partings_hold) .none kV62 dc62 pm62 an62 cd62 ct62), sl62⟩)
    (c62 : PySem.W.codeIn K cd62 "_law_partings_hold" = true)
    (k62 : PySem.W.keepIn K (.ref f62) = true)
    (a63 : PySem.W.nsIn K mainGlobals "_law_differences_hold" = some (some (.ref f63)))
    (l63 : K.lookup f63 = some ⟨oc63, od63, .func (PySem.W.fnOf "_law_differences_hold" "_law_differences_hold" (defArgs s_law_differences_hold) (defBody s_law_differences_hold) (defScope s_law_differences_hold) .none kV63 dc63 pm63 an63 cd63 ct63), sl63⟩)
    (c63 : PySem.W.codeIn K cd63 "_law_differences_hold" = true)
    (k63 : PySem.W.keepIn K (.ref f63) = true)
    (a64 : PySem.W.nsIn K mainGlobals "law" = some (some (.ref f64)))
    (l64 : K.lookup f64 = some ⟨oc64, od64, .func (PySem.W.fnOf "law" "law" (defArgs s_law) (defBody s_law) (defScope s_law) .none kV64 dc64 pm64 an64 cd64 ct64), sl64⟩)
    (c64 : PySem.W.codeIn K cd64 "law" = true)
    (k64 : PySem.W.keepIn K (.ref f64) = true)
    (hd1 : PySem.W.codeHdIn K cfp P1 = true)
    (nT1 : K.lookup P1 = none)
    (hd2 : PySem.W.codeHdIn K cfd P2 = true)
    (nT2 : K.lookup P2 = none)
    (hd3 : PySem.W.codeHdIn K ci P3 = true)
    (nT3 : K.lookup P3 = none)
    : LamX.LawAtS l w K CX0 40 63 "_law_script" mg fa h := by
  have e := hfa.symm.trans (PySem.W.mg_of X G a64)
  cases e
  have T : Txt K mg CP CS CT cfp cfd ci := {
    d_position_of := ⟨f0, _, fun_mk l0 c0 k0, PySem.W.mg_of X G a0, (fun_mk l0 c0 k0).binds (ps := ["number", "kept"]) fun _ _ _ _ _ _ us hl => match us, hl with | [_, _], _ => rfl⟩
    pgc := ⟨⟨⟨pgCP, hdCP, poCP, saCP⟩, caCP, cgCP, ctCP, coCP⟩, PySem.W.mg_of X G aCP, nCPnames, nCPchannels, nCPstates, nCPrules, kt, kp⟩
    d_face := ⟨f1, _, fun_mk l1 c1 k1, PySem.W.mg_of X G a1, (fun_mk l1 c1 k1).binds (ps := ["program"]) fun _ _ _ _ _ _ us hl => match us, hl with | [_], _ => rfl⟩
    d_start := ⟨f2, _, fun_mk l2 c2 k2, PySem.W.mg_of X G a2, (fun_mk l2 c2 k2).binds (ps := ["program"]) fun _ _ _ _ _ _ us hl => match us, hl with | [_], _ => rfl⟩
    bl := ⟨PySem.W.mg_none_of X G b_len, PySem.W.mg_none_of X G b_range, PySem.W.mg_none_of X G b_list, PySem.W.mg_none_of X G b_tuple, PySem.W.mg_none_of X G b_sorted, PySem.W.mg_none_of X G b_int, PySem.W.mg_none_of X G b_bool, PySem.W.mg_none_of X G b_zip, PySem.W.mg_none_of X G b_enumerate, PySem.W.mg_none_of X G b_max, PySem.W.mg_none_of X G b_set, PySem.W.mg_none_of X G b_isinstance⟩
    d_candidates := ⟨f3, _, fun_mk l3 c3 k3, PySem.W.mg_of X G a3, (fun_mk l3 c3 k3).binds (ps := ["kept", "number"]) fun _ _ _ _ _ _ us hl => match us, hl with | [_, _], _ => rfl⟩
    d_rule_of := ⟨f4, _, fun_mk l4 c4 k4, PySem.W.mg_of X G a4, (fun_mk l4 c4 k4).binds (ps := ["program", "state", "name", "position"]) fun _ _ _ _ _ _ us hl => match us, hl with | [_, _, _, _], _ => rfl⟩
    d_step := ⟨f5, _, fun_mk l5 c5 k5, PySem.W.mg_of X G a5, (fun_mk l5 c5 k5).binds (ps := ["program", "configuration", "message"]) fun _ _ _ _ _ _ us hl => match us, hl with | [_, _, _], _ => rfl⟩
    d_run := ⟨f6, _, fun_mk l6 c6 k6, PySem.W.mg_of X G a6, (fun_mk l6 c6 k6).binds (ps := ["program", "messages"]) fun _ _ _ _ _ _ us hl => match us, hl with | [_, _], _ => rfl⟩
    d_ranks := ⟨f7, _, fun_mk l7 c7 k7, PySem.W.mg_of X G a7, (fun_mk l7 c7 k7).binds (ps := ["numbers"]) fun _ _ _ _ _ _ us hl => match us, hl with | [_], _ => rfl⟩
    d_ranked := ⟨f8, _, fun_mk l8 c8 k8, PySem.W.mg_of X G a8, (fun_mk l8 c8 k8).binds (ps := ["messages"]) fun _ _ _ _ _ _ us hl => match us, hl with | [_], _ => rfl⟩
    d_ranked_spot := ⟨f9, _, fun_mk l9 c9 k9, PySem.W.mg_of X G a9, (fun_mk l9 c9 k9).binds (ps := ["configurations"]) fun _ _ _ _ _ _ us hl => match us, hl with | [_], _ => rfl⟩
    d_kept_numbers := ⟨f10, _, fun_mk l10 c10 k10, PySem.W.mg_of X G a10, (fun_mk l10 c10 k10).binds (ps := ["configurations"]) fun _ _ _ _ _ _ us hl => match us, hl with | [_], _ => rfl⟩
    d_spot_of := ⟨f11, _, fun_mk l11 c11 k11, PySem.W.mg_of X G a11, (fun_mk l11 c11 k11).binds (ps := ["programs", "messages"]) fun _ _ _ _ _ _ us hl => match us, hl with | [_, _], _ => rfl⟩
    d_steps_at := ⟨f12, _, fun_mk l12 c12 k12, PySem.W.mg_of X G a12, (fun_mk l12 c12 k12).binds (ps := ["names", "spot"]) fun _ _ _ _ _ _ us hl => match us, hl with | [_, _], _ => rfl⟩
    d_new_number := ⟨f13, _, fun_mk l13 c13 k13, PySem.W.mg_of X G a13, (fun_mk l13 c13 k13).binds (ps := ["kept", "numbers", "position"]) fun _ _ _ _ _ _ us hl => match us, hl with | [_, _, _], _ => rfl⟩
    d_continued := ⟨f14, _, fun_mk l14 c14 k14, PySem.W.mg_of X G a14, (fun_mk l14 c14 k14).binds (ps := ["programs", "messages", "step_taken"]) fun _ _ _ _ _ _ us hl => match us, hl with | [_, _, _], _ => rfl⟩
    d_spot_after := ⟨f15, _, fun_mk l15 c15 k15, PySem.W.mg_of X G a15, (fun_mk l15 c15 k15).binds (ps := ["programs", "spot", "step_taken"]) fun _ _ _ _ _ _ us hl => match us, hl with | [_, _, _], _ => rfl⟩
    stc := ⟨⟨⟨pgCS, hdCS, poCS, saCS⟩, caCS, cgCS, ctCS, coCS⟩, PySem.W.mg_of X G aCS, nCS_entries⟩
    h_size := ⟨p16, f16, _, fun_mk l16 c16 k16, ⟨a16, g16, w16, ⟨r16, r_16⟩⟩, (fun_mk l16 c16 k16).binds (ps := ["self"]) fun _ _ _ _ _ _ us hl => match us, hl with | [_], _ => rfl⟩
    d_known := ⟨f17, _, fun_mk l17 c17 k17, PySem.W.mg_of X G a17, (fun_mk l17 c17 k17).binds (ps := ["store", "number"]) fun _ _ _ _ _ _ us hl => match us, hl with | [_, _], _ => rfl⟩
    h_entry := ⟨f18, _, fun_mk l18 c18 k18, ⟨a18, i18, k18⟩, (fun_mk l18 c18 k18).binds (ps := ["self", "number"]) fun _ _ _ _ _ _ us hl => match us, hl with | [_, _], _ => rfl⟩
    d_parts := ⟨f19, _, fun_mk l19 c19 k19, PySem.W.mg_of X G a19, (fun_mk l19 c19 k19).binds (ps := ["store", "number"]) fun _ _ _ _ _ _ us hl => match us, hl with | [_, _], _ => rfl⟩
    d_merged := ⟨f20, _, fun_mk l20 c20 k20, PySem.W.mg_of X G a20, (fun_mk l20 c20 k20).binds (ps := ["base", "one", "other"]) fun _ _ _ _ _ _ us hl => match us, hl with | [_, _, _], _ => rfl⟩
    d_meaning := ⟨f21, _, fun_mk l21 c21 k21, PySem.W.mg_of X G a21, (fun_mk l21 c21 k21).binds (ps := ["store", "number", "outputs"]) fun _ _ _ _ _ _ us hl => match us, hl with | [_, _, _], _ => rfl⟩
    d_together := ⟨f22, _, fun_mk l22 c22 k22, PySem.W.mg_of X G a22, (fun_mk l22 c22 k22).binds (ps := ["store", "numbers", "most"]) fun _ _ _ _ _ _ us hl => match us, hl with | [_, _, _], _ => rfl⟩
    d_by_part := ⟨f23, _, fun_mk l23 c23 k23, PySem.W.mg_of X G a23, (fun_mk l23 c23 k23).binds (ps := ["some", "outputs"]) fun _ _ _ _ _ _ us hl => match us, hl with | [_, _], _ => rfl⟩
    d_all_names := ⟨f24, _, fun_mk l24 c24 k24, PySem.W.mg_of X G a24, (fun_mk l24 c24 k24).binds (ps := ["store"]) fun _ _ _ _ _ _ us hl => match us, hl with | [_], _ => rfl⟩
    d_input_to := ⟨f25, _, fun_mk l25 c25 k25, PySem.W.mg_of X G a25, (fun_mk l25 c25 k25).binds (ps := ["programs", "kept", "at", "taken"]) fun _ _ _ _ _ _ us hl => match us, hl with | [_, _, _, _], _ => rfl⟩
    tlc := ⟨PySem.W.mg_of X G aCT, ⟨_, _, _, _, PySem.F.excBase_ValueError, xT⟩, kT, bT, tT, eT⟩
    mo_most_inputs := ⟨tmo_most_inputs, PySem.W.mg_of X G amo_most_inputs⟩
    d_search := ⟨f26, _, fun_mk l26 c26 k26, PySem.W.mg_of X G a26, (fun_mk l26 c26 k26).binds (ps := ["programs", "names", "has_mark"]) fun _ _ _ _ _ _ us hl => match us, hl with | [_, _, _], _ => rfl⟩
    mo_most_parts := ⟨tmo_most_parts, PySem.W.mg_of X G amo_most_parts⟩
    d_first_parting := ⟨f27, oc27, od27, kV27, dc27, pm27, an27, ct27, sl27, l27, c27, k27, PySem.W.mg_of X G a27, (fun_mk l27 c27 k27).binds (ps := ["store", "number", "other"]) fun _ _ _ _ _ _ us hl => match us, hl with | [_, _, _], _ => rfl⟩
    d_first_difference := ⟨f28, oc28, od28, kV28, dc28, pm28, an28, ct28, sl28, l28, c28, k28, PySem.W.mg_of X G a28, (fun_mk l28 c28 k28).binds (ps := ["store", "number", "program"]) fun _ _ _ _ _ _ us hl => match us, hl with | [_, _, _], _ => rfl⟩
    mkcc := ⟨f29, oc29, od29, kV29, dc29, pm29, an29, ct29, sl29, l29, c29, ⟨m29, a29, i29, q29⟩, (fun_mk l29 c29 k29).binds (ps := ["self", "names", "channels", "states", "rules"]) fun _ _ _ _ _ _ us hl => match us, hl with | [_, _, _, _, _], _ => rfl⟩
    mo_most_commits := ⟨tmo_most_commits, PySem.W.mg_of X G amo_most_commits⟩
    h_add := ⟨f30, _, fun_mk l30 c30 k30, ⟨a30, i30, k30⟩, (fun_mk l30 c30 k30).binds (ps := ["self", "entry"]) fun _ _ _ _ _ _ us hl => match us, hl with | [_, _], _ => rfl⟩
    mo_most_programs := ⟨tmo_most_programs, PySem.W.mg_of X G amo_most_programs⟩
    h_commit := ⟨f31, _, fun_mk l31 c31 k31, ⟨a31, i31, k31⟩, (fun_mk l31 c31 k31).binds (ps := ["self", "program"]) fun _ _ _ _ _ _ us hl => match us, hl with | [_, _], _ => rfl⟩
    h_merge := ⟨f32, _, fun_mk l32 c32 k32, ⟨a32, i32, k32⟩, (fun_mk l32 c32 k32).binds (ps := ["self", "base", "one", "other"]) fun _ _ _ _ _ _ us hl => match us, hl with | [_, _, _, _], _ => rfl⟩
    d_law_program := ⟨f33, _, fun_mk l33 c33 k33, PySem.W.mg_of X G a33, (fun_mk l33 c33 k33).binds (ps := ["_law_plan_here"]) fun _ _ _ _ _ _ us hl => match us, hl with | [_], _ => rfl⟩
    d_law_store := ⟨f34, _, fun_mk l34 c34 k34, PySem.W.mg_of X G a34, (fun_mk l34 c34 k34).binds (ps := ["_law_entries_here"]) fun _ _ _ _ _ _ us hl => match us, hl with | [_], _ => rfl⟩
    stmk := ⟨f35, _, fun_mk l35 c35 k35, ⟨m35, a35, i35, q35⟩, (fun_mk l35 c35 k35).binds (ps := ["self"]) fun _ _ _ _ _ _ us hl => match us, hl with | [_], _ => rfl⟩
    d_law_cell := ⟨f36, _, fun_mk l36 c36 k36, PySem.W.mg_of X G a36, (fun_mk l36 c36 k36).binds (ps := ["_law_script", "_law_k"]) fun _ _ _ _ _ _ us hl => match us, hl with | [_, _], _ => rfl⟩
    d_law_row := ⟨f37, _, fun_mk l37 c37 k37, PySem.W.mg_of X G a37, (fun_mk l37 c37 k37).binds (ps := ["_law_cell_here", "_law_count"]) fun _ _ _ _ _ _ us hl => match us, hl with | [_, _], _ => rfl⟩
    d_law_word := ⟨f38, _, fun_mk l38 c38 k38, PySem.W.mg_of X G a38, (fun_mk l38 c38 k38).binds (ps := ["_law_number"]) fun _ _ _ _ _ _ us hl => match us, hl with | [_], _ => rfl⟩
    d_law_names := ⟨f39, _, fun_mk l39 c39 k39, PySem.W.mg_of X G a39, (fun_mk l39 c39 k39).binds (ps := ["_law_row_here"]) fun _ _ _ _ _ _ us hl => match us, hl with | [_], _ => rfl⟩
    d_law_channels := ⟨f40, _, fun_mk l40 c40 k40, PySem.W.mg_of X G a40, (fun_mk l40 c40 k40).binds (ps := ["_law_names_here"]) fun _ _ _ _ _ _ us hl => match us, hl with | [_], _ => rfl⟩
    d_law_picks := ⟨f41, _, fun_mk l41 c41 k41, PySem.W.mg_of X G a41, (fun_mk l41 c41 k41).binds (ps := ["_law_known", "_law_count", "_law_number"]) fun _ _ _ _ _ _ us hl => match us, hl with | [_, _, _], _ => rfl⟩
    d_law_outputs := ⟨f42, _, fun_mk l42 c42 k42, PySem.W.mg_of X G a42, (fun_mk l42 c42 k42).binds (ps := ["_law_channels_here", "_law_known", "_law_number", "_law_more"]) fun _ _ _ _ _ _ us hl => match us, hl with | [_, _, _, _], _ => rfl⟩
    d_law_rule := ⟨f43, _, fun_mk l43 c43 k43, PySem.W.mg_of X G a43, (fun_mk l43 c43 k43).binds (ps := ["_law_key", "_law_states", "_law_channels_here", "_law_digits"]) fun _ _ _ _ _ _ us hl => match us, hl with | [_, _, _, _], _ => rfl⟩
    d_law_keys := ⟨f44, _, fun_mk l44 c44 k44, PySem.W.mg_of X G a44, (fun_mk l44 c44 k44).binds (ps := ["_law_names_here", "_law_states"]) fun _ _ _ _ _ _ us hl => match us, hl with | [_, _], _ => rfl⟩
    d_law_plan := ⟨f45, _, fun_mk l45 c45 k45, PySem.W.mg_of X G a45, (fun_mk l45 c45 k45).binds (ps := ["_law_cell_here", "_law_names_here"]) fun _ _ _ _ _ _ us hl => match us, hl with | [_, _], _ => rfl⟩
    d_law_side := ⟨f46, _, fun_mk l46 c46 k46, PySem.W.mg_of X G a46, (fun_mk l46 c46 k46).binds (ps := ["_law_plan_here", "_law_cell_here"]) fun _ _ _ _ _ _ us hl => match us, hl with | [_, _], _ => rfl⟩
    d_law_position := ⟨f47, _, fun_mk l47 c47 k47, PySem.W.mg_of X G a47, (fun_mk l47 c47 k47).binds (ps := ["_law_number", "_law_kept"]) fun _ _ _ _ _ _ us hl => match us, hl with | [_, _], _ => rfl⟩
    d_law_step := ⟨f48, _, fun_mk l48 c48 k48, PySem.W.mg_of X G a48, (fun_mk l48 c48 k48).binds (ps := ["_law_plan_here", "_law_place", "_law_message"]) fun _ _ _ _ _ _ us hl => match us, hl with | [_, _, _], _ => rfl⟩
    d_law_same_face := ⟨f49, _, fun_mk l49 c49 k49, PySem.W.mg_of X G a49, (fun_mk l49 c49 k49).binds (ps := ["_law_plan_here", "_law_base"]) fun _ _ _ _ _ _ us hl => match us, hl with | [_, _], _ => rfl⟩
    d_law_merged := ⟨f50, _, fun_mk l50 c50 k50, PySem.W.mg_of X G a50, (fun_mk l50 c50 k50).binds (ps := ["_law_base", "_law_one", "_law_other"]) fun _ _ _ _ _ _ us hl => match us, hl with | [_, _, _], _ => rfl⟩
    d_law_made_of := ⟨f51, _, fun_mk l51 c51 k51, PySem.W.mg_of X G a51, (fun_mk l51 c51 k51).binds (ps := ["_law_entries_here", "_law_number"]) fun _ _ _ _ _ _ us hl => match us, hl with | [_, _], _ => rfl⟩
    d_law_ranked_places := ⟨f52, _, fun_mk l52 c52 k52, PySem.W.mg_of X G a52, (fun_mk l52 c52 k52).binds (ps := ["_law_places"]) fun _ _ _ _ _ _ us hl => match us, hl with | [_], _ => rfl⟩
    d_law_steps := ⟨f53, _, fun_mk l53 c53 k53, PySem.W.mg_of X G a53, (fun_mk l53 c53 k53).binds (ps := ["_law_names_here", "_law_spot"]) fun _ _ _ _ _ _ us hl => match us, hl with | [_, _], _ => rfl⟩
    d_law_meaning := ⟨f54, _, fun_mk l54 c54 k54, PySem.W.mg_of X G a54, (fun_mk l54 c54 k54).binds (ps := ["_law_entries_here", "_law_number", "_law_some", "_law_outputs_here"]) fun _ _ _ _ _ _ us hl => match us, hl with | [_, _, _, _], _ => rfl⟩
    d_law_marked := ⟨f55, _, fun_mk l55 c55 k55, PySem.W.mg_of X G a55, (fun_mk l55 c55 k55).binds (ps := ["_law_entries_here", "_law_number", "_law_other", "_law_some", "_law_outputs_here"]) fun _ _ _ _ _ _ us hl => match us, hl with | [_, _, _, _, _], _ => rfl⟩
    d_law_spot_after := ⟨f56, _, fun_mk l56 c56 k56, PySem.W.mg_of X G a56, (fun_mk l56 c56 k56).binds (ps := ["_law_several", "_law_spot", "_law_taken"]) fun _ _ _ _ _ _ us hl => match us, hl with | [_, _, _], _ => rfl⟩
    d_law_entries := ⟨f57, _, fun_mk l57 c57 k57, PySem.W.mg_of X G a57, (fun_mk l57 c57 k57).binds (ps := ["_law_script", "_law_names_here"]) fun _ _ _ _ _ _ us hl => match us, hl with | [_, _], _ => rfl⟩
    d_law_search := ⟨f58, _, fun_mk l58 c58 k58, PySem.W.mg_of X G a58, (fun_mk l58 c58 k58).binds (ps := ["_law_entries_here", "_law_pair", "_law_some", "_law_names_here", "_law_most"]) fun _ _ _ _ _ _ us hl => match us, hl with | [_, _, _, _, _], _ => rfl⟩
    d_law_parted := ⟨f59, _, fun_mk l59 c59 k59, PySem.W.mg_of X G a59, (fun_mk l59 c59 k59).binds (ps := ["_law_store_here", "_law_number", "_law_other"]) fun _ _ _ _ _ _ us hl => match us, hl with | [_, _, _], _ => rfl⟩
    d_law_differs := ⟨f60, _, fun_mk l60 c60 k60, PySem.W.mg_of X G a60, (fun_mk l60 c60 k60).binds (ps := ["_law_store_here", "_law_number", "_law_program_here"]) fun _ _ _ _ _ _ us hl => match us, hl with | [_, _, _], _ => rfl⟩
    d_law_due := ⟨f61, _, fun_mk l61 c61 k61, PySem.W.mg_of X G a61, (fun_mk l61 c61 k61).binds (ps := ["_law_programs", "_law_found"]) fun _ _ _ _ _ _ us hl => match us, hl with | [_, _], _ => rfl⟩
    d_law_partings_hold := ⟨f62, _, fun_mk l62 c62 k62, PySem.W.mg_of X G a62, (fun_mk l62 c62 k62).binds (ps := ["_law_entries_here", "_law_store_here", "_law_pair", "_law_names_here"]) fun _ _ _ _ _ _ us hl => match us, hl with | [_, _, _, _], _ => rfl⟩
    d_law_differences_hold := ⟨f63, _, fun_mk l63 c63 k63, PySem.W.mg_of X G a63, (fun_mk l63 c63 k63).binds (ps := ["_law_entries_here", "_law_store_here", "_law_number", "_law_plan_here", "_law_names_here"]) fun _ _ _ _ _ _ us hl => match us, hl with | [_, _, _, _, _], _ => rfl⟩
  }
  exact law_at P1 P2 P3 T (fun_mk l64 c64 k64) (fun s u => .of_eq rfl) n12 n13 n23 hT1 hT2 hT3 nT1 nT2 nT3 (PySem.W.codeHd_of_K X hd1) (PySem.W.codeHd_of_K X hd2) (PySem.W.codeHd_of_K X hd3)
end MM
end
section
set_option linter.all false
open PySem PySem.W PyProof.Rows
set_option maxRecDepth 100000 in
set_option maxHeartbeats 16000000 in
theorem PySem.Challenge.cw_meantmerge_k31_whole_partings_exactly_holds : PySem.Challenge.rw_meantmerge_k31_whole_partings_exactly.Holds := by
  w_on; o_law; k_head; (case hw => w_witness2); k_fill
  refine LamX.walk_ofTs (l := PySem.Challenge.rw_meantmerge_k31_whole_partings_exactly) (n := 63) (k := 40) (x := "_law_script") (CX := fun _ => L2.CX0) rfl (by decide) rfl ⟨rfl, by decide, by decide⟩ (fun w h Y => PySem.W.km_in_of Y) ?F (fun _ _ _ _ _ h => h)
  case F =>
    intro w mg fa h Y KX G hmg
    have tb := PySem.W.km_tabs_of Y
    refine' MM.head_mk 351 356 112 KX G hmg (by decide) (by decide) (by decide) (tb _ (by decide)) (tb _ (by decide)) (tb _ (by decide)) ?aCP ?aCS ?aCT ?a0 ?l0 ?c0 ?k0 ?pgCP ?hdCP ?poCP ?saCP ?caCP ?cgCP ?ctCP ?coCP ?nCPnames ?nCPchannels ?nCPstates ?nCPrules ?kt ?kp ?a1 ?l1 ?c1 ?k1 ?a2 ?l2 ?c2 ?k2 ?b_len ?b_range ?b_list ?b_tuple ?b_sorted ?b_int ?b_bool ?b_zip ?b_enumerate ?b_max ?b_set ?b_isinstance ?a3 ?l3 ?c3 ?k3 ?a4 ?l4 ?c4 ?k4 ?a5 ?l5 ?c5 ?k5 ?a6 ?l6 ?c6 ?k6 ?a7 ?l7 ?c7 ?k7 ?a8 ?l8 ?c8 ?k8 ?a9 ?l9 ?c9 ?k9 ?a10 ?l10 ?c10 ?k10 ?a11 ?l11 ?c11 ?k11 ?a12 ?l12 ?c12 ?k12 ?a13 ?l13 ?c13 ?k13 ?a14 ?l14 ?c14 ?k14 ?a15 ?l15 ?c15 ?k15 ?pgCS ?hdCS ?poCS ?saCS ?caCS ?cgCS ?ctCS ?coCS ?nCS_entries ?a16 ?g16 ?w16 ?r_16 ?l16 ?c16 ?k16 ?a17 ?l17 ?c17 ?k17 ?a18 ?l18 ?c18 ?k18 ?i18 ?a19 ?l19 ?c19 ?k19 ?a20 ?l20 ?c20 ?k20 ?a21 ?l21 ?c21 ?k21 ?a22 ?l22 ?c22 ?k22 ?a23 ?l23 ?c23 ?k23 ?a24 ?l24 ?c24 ?k24 ?a25 ?l25 ?c25 ?k25 ?xT ?kT ?bT ?tT ?eT ?amo_most_inputs ?a26 ?l26 ?c26 ?k26 ?amo_most_parts ?a27 ?l27 ?c27 ?k27 ?a28 ?l28 ?c28 ?k28 ?a29 ?l29 ?c29 ?k29 ?i29 ?m29 ?q29 ?amo_most_commits ?a30 ?l30 ?c30 ?k30 ?i30 ?amo_most_programs ?a31 ?l31 ?c31 ?k31 ?i31 ?a32 ?l32 ?c32 ?k32 ?i32 ?a33 ?l33 ?c33 ?k33 ?a34 ?l34 ?c34 ?k34 ?a35 ?l35 ?c35 ?k35 ?i35 ?m35 ?q35 ?a36 ?l36 ?c36 ?k36 ?a37 ?l37 ?c37 ?k37 ?a38 ?l38 ?c38 ?k38 ?a39 ?l39 ?c39 ?k39 ?a40 ?l40 ?c40 ?k40 ?a41 ?l41 ?c41 ?k41 ?a42 ?l42 ?c42 ?k42 ?a43 ?l43 ?c43 ?k43 ?a44 ?l44 ?c44 ?k44 ?a45 ?l45 ?c45 ?k45 ?a46 ?l46 ?c46 ?k46 ?a47 ?l47 ?c47 ?k47 ?a48 ?l48 ?c48 ?k48 ?a49 ?l49 ?c49 ?k49 ?a50 ?l50 ?c50 ?k50 ?a51 ?l51 ?c51 ?k51 ?a52 ?l52 ?c52 ?k52 ?a53 ?l53 ?c53 ?k53 ?a54 ?l54 ?c54 ?k54 ?a55 ?l55 ?c55 ?k55 ?a56 ?l56 ?c56 ?k56 ?a57 ?l57 ?c57 ?k57 ?a58 ?l58 ?c58 ?k58 ?a59 ?l59 ?c59 ?k59 ?a60 ?l60 ?c60 ?k60 ?a61 ?l61 ?c61 ?k61 ?a62 ?l62 ?c62 ?k62 ?a63 ?l63 ?c63 ?k63 ?a64 ?l64 ?c64 ?k64 ?hd1 ?nT1 ?hd2 ?nT2 ?hd3 ?nT3
    (case aCP => k_is)
    (case aCS => k_is)
    (case aCT => k_is)
    (case a0 => k_is)
    (case l0 => k_is)
    (case c0 => k_is)
    (case k0 => k_is)
    (case pgCP => k_is)
    (case hdCP => k_is)
    (case poCP => k_is)
    (case saCP => k_is)
    (case caCP => k_is)
    (case cgCP => k_is)
    (case ctCP => k_is)
    (case coCP => k_is)
    (case nCPnames => k_is)
    (case nCPchannels => k_is)
    (case nCPstates => k_is)
    (case nCPrules => k_is)
    (case kt => kernel_rfl)
    (case kp => kernel_rfl)
    (case a1 => k_is)
    (case l1 => k_is)
    (case c1 => k_is)
    (case k1 => k_is)
    (case a2 => k_is)
    (case l2 => k_is)
    (case c2 => k_is)
    (case k2 => k_is)
    (case b_len => k_is)
    (case b_range => k_is)
    (case b_list => k_is)
    (case b_tuple => k_is)
    (case b_sorted => k_is)
    (case b_int => k_is)
    (case b_bool => k_is)
    (case b_zip => k_is)
    (case b_enumerate => k_is)
    (case b_max => k_is)
    (case b_set => k_is)
    (case b_isinstance => k_is)
    (case a3 => k_is)
    (case l3 => k_is)
    (case c3 => k_is)
    (case k3 => k_is)
    (case a4 => k_is)
    (case l4 => k_is)
    (case c4 => k_is)
    (case k4 => k_is)
    (case a5 => k_is)
    (case l5 => k_is)
    (case c5 => k_is)
    (case k5 => k_is)
    (case a6 => k_is)
    (case l6 => k_is)
    (case c6 => k_is)
    (case k6 => k_is)
    (case a7 => k_is)
    (case l7 => k_is)
    (case c7 => k_is)
    (case k7 => k_is)
    (case a8 => k_is)
    (case l8 => k_is)
    (case c8 => k_is)
    (case k8 => k_is)
    (case a9 => k_is)
    (case l9 => k_is)
    (case c9 => k_is)
    (case k9 => k_is)
    (case a10 => k_is)
    (case l10 => k_is)
    (case c10 => k_is)
    (case k10 => k_is)
    (case a11 => k_is)
    (case l11 => k_is)
    (case c11 => k_is)
    (case k11 => k_is)
    (case a12 => k_is)
    (case l12 => k_is)
    (case c12 => k_is)
    (case k12 => k_is)
    (case a13 => k_is)
    (case l13 => k_is)
    (case c13 => k_is)
    (case k13 => k_is)
    (case a14 => k_is)
    (case l14 => k_is)
    (case c14 => k_is)
    (case k14 => k_is)
    (case a15 => k_is)
    (case l15 => k_is)
    (case c15 => k_is)
    (case k15 => k_is)
    (case pgCS => k_is)
    (case hdCS => k_is)
    (case poCS => k_is)
    (case saCS => k_is)
    (case caCS => k_is)
    (case cgCS => k_is)
    (case ctCS => k_is)
    (case coCS => k_is)
    (case nCS_entries => k_is)
    (case a16 => k_is)
    (case g16 => k_is)
    (case w16 => k_is)
    (case r_16 => k_is)
    (case l16 => k_is)
    (case c16 => k_is)
    (case k16 => k_is)
    (case a17 => k_is)
    (case l17 => k_is)
    (case c17 => k_is)
    (case k17 => k_is)
    (case a18 => k_is)
    (case l18 => k_is)
    (case c18 => k_is)
    (case k18 => k_is)
    (case i18 => k_is)
    (case a19 => k_is)
    (case l19 => k_is)
    (case c19 => k_is)
    (case k19 => k_is)
    (case a20 => k_is)
    (case l20 => k_is)
    (case c20 => k_is)
    (case k20 => k_is)
    (case a21 => k_is)
    (case l21 => k_is)
    (case c21 => k_is)
    (case k21 => k_is)
    (case a22 => k_is)
    (case l22 => k_is)
    (case c22 => k_is)
    (case k22 => k_is)
    (case a23 => k_is)
    (case l23 => k_is)
    (case c23 => k_is)
    (case k23 => k_is)
    (case a24 => k_is)
    (case l24 => k_is)
    (case c24 => k_is)
    (case k24 => k_is)
    (case a25 => k_is)
    (case l25 => k_is)
    (case c25 => k_is)
    (case k25 => k_is)
    (case xT => first | k_exc | kernel_rfl)
    (case kT => k_is)
    (case bT => k_is)
    (case tT => k_is)
    (case eT => kernel_rfl)
    (case amo_most_inputs => k_is)
    (case a26 => k_is)
    (case l26 => k_is)
    (case c26 => k_is)
    (case k26 => k_is)
    (case amo_most_parts => k_is)
    (case a27 => k_is)
    (case l27 => k_is)
    (case c27 => k_is)
    (case k27 => k_is)
    (case a28 => k_is)
    (case l28 => k_is)
    (case c28 => k_is)
    (case k28 => k_is)
    (case a29 => k_is)
    (case l29 => k_is)
    (case c29 => k_is)
    (case k29 => k_is)
    (case i29 => k_is)
    (case m29 => k_is)
    (case q29 => k_is)
    (case amo_most_commits => k_is)
    (case a30 => k_is)
    (case l30 => k_is)
    (case c30 => k_is)
    (case k30 => k_is)
    (case i30 => k_is)
    (case amo_most_programs => k_is)
    (case a31 => k_is)
    (case l31 => k_is)
    (case c31 => k_is)
    (case k31 => k_is)
    (case i31 => k_is)
    (case a32 => k_is)
    (case l32 => k_is)
    (case c32 => k_is)
    (case k32 => k_is)
    (case i32 => k_is)
    (case a33 => k_is)
    (case l33 => k_is)
    (case c33 => k_is)
    (case k33 => k_is)
    (case a34 => k_is)
    (case l34 => k_is)
    (case c34 => k_is)
    (case k34 => k_is)
    (case a35 => k_is)
    (case l35 => k_is)
    (case c35 => k_is)
    (case k35 => k_is)
    (case i35 => k_is)
    (case m35 => k_is)
    (case q35 => k_is)
    (case a36 => k_is)
    (case l36 => k_is)
    (case c36 => k_is)
    (case k36 => k_is)
    (case a37 => k_is)
    (case l37 => k_is)
    (case c37 => k_is)
    (case k37 => k_is)
    (case a38 => k_is)
    (case l38 => k_is)
    (case c38 => k_is)
    (case k38 => k_is)
    (case a39 => k_is)
    (case l39 => k_is)
    (case c39 => k_is)
    (case k39 => k_is)
    (case a40 => k_is)
    (case l40 => k_is)
    (case c40 => k_is)
    (case k40 => k_is)
    (case a41 => k_is)
    (case l41 => k_is)
    (case c41 => k_is)
    (case k41 => k_is)
    (case a42 => k_is)
    (case l42 => k_is)
    (case c42 => k_is)
    (case k42 => k_is)
    (case a43 => k_is)
    (case l43 => k_is)
    (case c43 => k_is)
    (case k43 => k_is)
    (case a44 => k_is)
    (case l44 => k_is)
    (case c44 => k_is)
    (case k44 => k_is)
    (case a45 => k_is)
    (case l45 => k_is)
    (case c45 => k_is)
    (case k45 => k_is)
    (case a46 => k_is)
    (case l46 => k_is)
    (case c46 => k_is)
    (case k46 => k_is)
    (case a47 => k_is)
    (case l47 => k_is)
    (case c47 => k_is)
    (case k47 => k_is)
    (case a48 => k_is)
    (case l48 => k_is)
    (case c48 => k_is)
    (case k48 => k_is)
    (case a49 => k_is)
    (case l49 => k_is)
    (case c49 => k_is)
    (case k49 => k_is)
    (case a50 => k_is)
    (case l50 => k_is)
    (case c50 => k_is)
    (case k50 => k_is)
    (case a51 => k_is)
    (case l51 => k_is)
    (case c51 => k_is)
    (case k51 => k_is)
    (case a52 => k_is)
    (case l52 => k_is)
    (case c52 => k_is)
    (case k52 => k_is)
    (case a53 => k_is)
    (case l53 => k_is)
    (case c53 => k_is)
    (case k53 => k_is)
    (case a54 => k_is)
    (case l54 => k_is)
    (case c54 => k_is)
    (case k54 => k_is)
    (case a55 => k_is)
    (case l55 => k_is)
    (case c55 => k_is)
    (case k55 => k_is)
    (case a56 => k_is)
    (case l56 => k_is)
    (case c56 => k_is)
    (case k56 => k_is)
    (case a57 => k_is)
    (case l57 => k_is)
    (case c57 => k_is)
    (case k57 => k_is)
    (case a58 => k_is)
    (case l58 => k_is)
    (case c58 => k_is)
    (case k58 => k_is)
    (case a59 => k_is)
    (case l59 => k_is)
    (case c59 => k_is)
    (case k59 => k_is)
    (case a60 => k_is)
    (case l60 => k_is)
    (case c60 => k_is)
    (case k60 => k_is)
    (case a61 => k_is)
    (case l61 => k_is)
    (case c61 => k_is)
    (case k61 => k_is)
    (case a62 => k_is)
    (case l62 => k_is)
    (case c62 => k_is)
    (case k62 => k_is)
    (case a63 => k_is)
    (case l63 => k_is)
    (case c63 => k_is)
    (case k63 => k_is)
    (case a64 => k_is)
    (case l64 => k_is)
    (case c64 => k_is)
    (case k64 => k_is)
    (case hd1 => kernel_rfl)
    (case nT1 => kernel_rfl)
    (case hd2 => kernel_rfl)
    (case nT2 => kernel_rfl)
    (case hd3 => kernel_rfl)
    (case nT3 => kernel_rfl)
end
