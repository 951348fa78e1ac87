import PyProof.Rows.All
import Wide.All
import OpenK.AllK
import Wide.FinOn
import HandS.ForMost
import HandS.Deep
import HandS.TupAny
import HandS.TupMul
import HandS.SortInts
import KE.SortData
import HandS.IsInst
import HandS.TupLen
import HandS.TupSets
import HandS.Conv
import PySem.Challenge.RW_chasedwebs_k49_whole_strong_dimensions
set_option Elab.async false
set_option linter.all false
set_option maxRecDepth 100000
set_option maxHeartbeats 4000000
/-! Sd0: data in place of heaps: what a value stands for in a part F of the abstract heap that no one changes; what a step may change. -/
namespace Sd
open PySem PySem.Spec L2

abbrev D := PyData
def keyD : Key → D
  | .inl i => .int i
  | .inr x => .str x
def keyTD (k : List Key) : D := .tuple (k.map keyD)

/-- the dict at a has the keys ks and the values vs, in order -/
def DicO (F : Hp) (a : Addr) (ks : List D) (vs : List V) : Prop :=
  (∃ kvs : List (Key × V), Rd F a (.dK kvs) ∧ ks = kvs.map (fun p => keyD p.1) ∧ vs = kvs.map (·.2)) ∨
  (∃ kvs : List (List Key × V), Rd F a (.dT kvs) ∧ ks = kvs.map (fun p => keyTD p.1) ∧ vs = kvs.map (·.2))

mutual
/-- the value v stands for the data d, in the heap F -/
inductive Rp (K : PySem.W.Frag) (F : Hp) : V → PyData → Prop
  | non : Rp K F .non .none
  | bl (b : Bool) : Rp K F (.bl b) (.bool b)
  | int (i : Int) : Rp K F (.int i) (.int i)
  | str (x : Str) : Rp K F (.str x) (.str x)
  | lst {a : Addr} {xs : List V} {ds : List PyData} : F a = some (.lst xs) → RpAll K F xs ds → Rp K F (.ref a) (.list ds)
  | tup {a : Addr} {xs : List V} {ds : List PyData} : F a = some (.tup xs) → RpAll K F xs ds → Rp K F (.ref a) (.tuple ds)
  | dct {a : Addr} {ks : List PyData} {vs : List V} {ds : List PyData} {es : List (PyData × PyData)} : DicO F a ks vs → RpAll K F vs ds → es = ks.zip ds → Rp K F (.ref a) (.dict es)
inductive RpAll (K : PySem.W.Frag) (F : Hp) : List V → List PyData → Prop
  | nil : RpAll K F [] []
  | cons {v : V} {vs : List V} {d : PyData} {ds : List PyData} : Rp K F v d → RpAll K F vs ds → RpAll K F (v :: vs) (d :: ds)
end

/-- what can be locked -/
def isDct : HO → Prop
  | .dK _ => True
  | .dT _ => True
  | _ => False
/-- F is a part of H, but for locks on dicts -/
def Sub (F H : Hp) : Prop := ∀ a u, F a = some u → H a = some u ∨ (isDct u ∧ ∃ o, H a = some (.frz o u))
theorem Sub.refl (F : Hp) : Sub F F := fun _ _ h => .inl h
theorem Sub.rd {F H : Hp} (s : Sub F H) {a : Addr} {u : HO} (hu : ∀ o z, u ≠ .frz o z) (h : Rd F a u) : Rd H a u := by
  rcases h with h | ⟨o, h⟩
  · rcases s a u h with q | ⟨_, o, q⟩
    · exact .inl q
    · exact .inr ⟨o, q⟩
  · rcases s a _ h with q | ⟨d, _⟩
    · exact .inr ⟨o, q⟩
    · exact d.elim
theorem Sub.sqL {K : PySem.W.Frag} {F H : Hp} (s : Sub F H) {a : Addr} {xs : List V} (h : SqL K F a xs) : SqL K H a xs :=
  h.elim (fun h => .inl (s.rd (fun _ _ z => by cases z) h)) .inr
theorem Sub.sqT {K : PySem.W.Frag} {F H : Hp} (s : Sub F H) {a : Addr} {xs : List V} (h : SqT K F a xs) : SqT K H a xs :=
  h.elim (fun h => .inl (s.rd (fun _ _ z => by cases z) h)) .inr
theorem Sub.dic {F H : Hp} (s : Sub F H) {a : Addr} {ks : List D} {vs : List V} (h : DicO F a ks vs) : DicO H a ks vs := by
  rcases h with ⟨kvs, h, e⟩ | ⟨kvs, h, e⟩
  · exact .inl ⟨kvs, s.rd (fun _ _ z => by cases z) h, e⟩
  · exact .inr ⟨kvs, s.rd (fun _ _ z => by cases z) h, e⟩
theorem Sub.lst {F H : Hp} (s : Sub F H) {a : Addr} {xs : List V} (h : F a = some (.lst xs)) : H a = some (.lst xs) := by
  rcases s a _ h with q | ⟨d, _⟩
  · exact q
  · exact d.elim
theorem Sub.tup {F H : Hp} (s : Sub F H) {a : Addr} {xs : List V} (h : F a = some (.tup xs)) : H a = some (.tup xs) := by
  rcases s a _ h with q | ⟨d, _⟩
  · exact q
  · exact d.elim
mutual
theorem Sub.rp {K : PySem.W.Frag} {F H : Hp} (s : Sub F H) : ∀ {v : V} {d : D}, Rp K F v d → Rp K H v d
  | _, _, .non => .non
  | _, _, .bl b => .bl b
  | _, _, .int i => .int i
  | _, _, .str x => .str x
  | _, _, .lst h r => .lst (s.lst h) (s.rpAll r)
  | _, _, .tup h r => .tup (s.tup h) (s.rpAll r)
  | _, _, .dct h r e => .dct (s.dic h) (s.rpAll r) e
theorem Sub.rpAll {K : PySem.W.Frag} {F H : Hp} (s : Sub F H) : ∀ {vs : List V} {ds : List D}, RpAll K F vs ds → RpAll K H vs ds
  | _, _, .nil => .nil
  | _, _, .cons a b => .cons (s.rp a) (s.rpAll b)
end
theorem Sub.of_le {F F' : Hp} (h : ∀ a u, F a = some u → F' a = some u) : Sub F F' := fun a u q => .inl (h a u q)
theorem RpAll.length {K : PySem.W.Frag} {F : Hp} : ∀ {vs : List V} {ds : List D}, RpAll K F vs ds → vs.length = ds.length
  | _, _, .nil => rfl
  | _, _, .cons _ r => congrArg (· + 1) r.length
theorem RpAll.append {K : PySem.W.Frag} {F : Hp} : ∀ {vs ws : List V} {ds es : List D}, RpAll K F vs ds → RpAll K F ws es → RpAll K F (vs ++ ws) (ds ++ es)
  | _, _, _, _, .nil, h => h
  | _, _, _, _, .cons a r, h => .cons a (r.append h)
theorem RpAll.one {K : PySem.W.Frag} {F : Hp} {v : V} {d : D} (h : Rp K F v d) : RpAll K F [v] [d] := .cons h .nil
theorem RpAll.get {K : PySem.W.Frag} {F : Hp} : ∀ {vs : List V} {ds : List D} {i : Nat} {d : D}, RpAll K F vs ds → ds[i]? = some d → ∃ v, vs[i]? = some v ∧ Rp K F v d
  | _, _, _, _, .nil, e => by simp at e
  | _, _, 0, _, .cons a _, e => by
    simp at e
    subst e
    exact ⟨_, rfl, a⟩
  | _, _, i + 1, _, .cons _ r, e => by
    obtain ⟨v, h1, h2⟩ := r.get (i := i) (by simpa using e)
    exact ⟨v, by simpa using h1, h2⟩
theorem RpAll.getV {K : PySem.W.Frag} {F : Hp} : ∀ {vs : List V} {ds : List D} {i : Nat} {v : V}, RpAll K F vs ds → vs[i]? = some v → ∃ d, ds[i]? = some d ∧ Rp K F v d
  | _, _, _, _, .nil, e => by simp at e
  | _, _, 0, _, .cons a _, e => by
    simp at e
    subst e
    exact ⟨_, rfl, a⟩
  | _, _, i + 1, _, .cons _ r, e => by
    obtain ⟨v, h1, h2⟩ := r.getV (i := i) (by simpa using e)
    exact ⟨v, by simpa using h1, h2⟩
theorem RpAll.set {K : PySem.W.Frag} {F : Hp} {v : V} {d : D} (h : Rp K F v d) : ∀ {vs : List V} {ds : List D} (i : Nat), RpAll K F vs ds → RpAll K F (vs.set i v) (ds.set i d)
  | _, _, _, .nil => .nil
  | _, _, 0, .cons _ r => .cons h r
  | _, _, i + 1, .cons a r => .cons a (RpAll.set h i r)
theorem RpAll.take {K : PySem.W.Frag} {F : Hp} : ∀ {vs : List V} {ds : List D} (n : Nat), RpAll K F vs ds → RpAll K F (vs.take n) (ds.take n)
  | _, _, 0, _ => .nil
  | _, _, _ + 1, .nil => .nil
  | _, _, n + 1, .cons a r => .cons a (r.take n)
theorem RpAll.drop {K : PySem.W.Frag} {F : Hp} : ∀ {vs : List V} {ds : List D} (n : Nat), RpAll K F vs ds → RpAll K F (vs.drop n) (ds.drop n)
  | _, _, 0, h => h
  | _, _, _ + 1, .nil => .nil
  | _, _, n + 1, .cons _ r => r.drop n
theorem RpAll.reverse {K : PySem.W.Frag} {F : Hp} : ∀ {vs : List V} {ds : List D}, RpAll K F vs ds → RpAll K F vs.reverse ds.reverse
  | _, _, .nil => .nil
  | _, _, .cons a r => by
    rw [List.reverse_cons, List.reverse_cons]
    exact r.reverse.append (.one a)

/-! ### a step: F grows, H changes at S alone -/
structure Step (S : Addr → Prop) (F H F' H' : Hp) : Prop where
  le : ∀ a u, F a = some u → F' a = some u
  keep : ∀ a u, H a = some u → ¬ S a → H' a = some u
  newF : ∀ a, F' a ≠ none → F a ≠ none ∨ H a = none ∨ S a ∨ ∃ xs, H a = some (.tup xs)
  live : ∀ a, H' a = none → H a = none
  tups : ∀ a xs, H a = some (.tup xs) → H' a = some (.tup xs)
section
variable {S S' : Addr → Prop} {F H F' H' F2 H2 : Hp}
theorem Step.refl : Step S F H F H := ⟨fun _ _ h => h, fun _ _ h _ => h, fun _ h => .inl h, fun _ h => h, fun _ _ h => h⟩
theorem Step.trans (x : Step S F H F' H') (y : Step S' F' H' F2 H2) (hs : ∀ a, S' a → S a ∨ H a = none) : Step S F H F2 H2 where
  le := fun a u h => y.le a u (x.le a u h)
  keep := fun a u h n => y.keep a u (x.keep a u h n) fun s => (hs a s).elim n fun z => by rw [z] at h; cases h
  newF := fun a h => by
    rcases y.newF a h with q | q | q | ⟨xs, q⟩
    · exact x.newF a q
    · exact .inr (.inl (x.live a q))
    · rcases hs a q with z | z
      · exact .inr (.inr (.inl z))
      · exact .inr (.inl z)
    · cases e : H a with
      | none => exact .inr (.inl rfl)
      | some u =>
        by_cases z : S a
        · exact .inr (.inr (.inl z))
        · have := x.keep a u e z
          rw [q] at this
          cases this
          exact .inr (.inr (.inr ⟨xs, rfl⟩))
  live := fun a h => x.live a (y.live a h)
  tups := fun a xs h => y.tups a xs (x.tups a xs h)
theorem Step.same (x : Step S F H F' H') (y : Step S F' H' F2 H2) : Step S F H F2 H2 := x.trans y fun _ h => .inl h
theorem Step.mono (x : Step S F H F' H') (hs : ∀ a, S a → S' a) : Step S' F H F' H' where
  le := x.le
  keep := fun a u h n => x.keep a u h fun s => n (hs a s)
  newF := fun a h => by
    rcases x.newF a h with q | q | q | q
    · exact .inl q
    · exact .inr (.inl q)
    · exact .inr (.inr (.inl (hs a q)))
    · exact .inr (.inr (.inr q))
  live := x.live
  tups := x.tups
theorem Step.sub (x : Step S F H F' H') : Sub F F' := Sub.of_le x.le
/-- a new object that no one changes from now on -/
theorem Step.new {p : Addr} {o : HO} (hs : Sub F H) (h : H p = none) : Step S F H (upd F p o) (upd H p o) where
  le := fun a u q => by
    rw [upd_ne]
    · exact q
    · rintro rfl
      rcases hs _ _ q with z | ⟨_, _, z⟩ <;> (rw [h] at z; cases z)
  keep := fun a u q _ => by
    rw [upd_ne (ne_of_none q h)]
    exact q
  newF := fun a q => by
    by_cases e : a = p
    · subst e
      exact .inr (.inl h)
    · rw [upd_ne e] at q
      exact .inl q
  live := fun a q => by
    by_cases e : a = p
    · subst e
      exact h
    · rwa [upd_ne e] at q
  tups := fun a xs q => by
    rw [upd_ne (ne_of_none q h)]
    exact q
/-- a new object, not yet shared -/
theorem Step.own {p : Addr} {o : HO} (h : H p = none) : Step S F H F (upd H p o) where
  le := fun a u q => q
  keep := fun a u q _ => by
    rw [upd_ne (ne_of_none q h)]
    exact q
  newF := fun a q => .inl q
  live := fun a q => by
    by_cases e : a = p
    · subst e
      exact h
    · rwa [upd_ne e] at q
  tups := fun a xs q => by
    rw [upd_ne (ne_of_none q h)]
    exact q
/-- what stands in H at p is shared from now on -/
theorem Step.share {p : Addr} {o : HO} (h : F p = none) (hp : S p ∨ H p = none ∨ ∃ xs, H p = some (.tup xs)) : Step S F H (upd F p o) H where
  le := fun a u q => by
    rw [upd_ne (ne_of_none q h)]
    exact q
  keep := fun a u q _ => q
  newF := fun a q => by
    by_cases e : a = p
    · subst e
      rcases hp with z | z | z
      · exact .inr (.inr (.inl z))
      · exact .inr (.inl z)
      · exact .inr (.inr (.inr z))
    · rw [upd_ne e] at q
      exact .inl q
  live := fun a q => q
  tups := fun a xs q => q
/-- what stands at p, of S, is changed -/
theorem Step.write {p : Addr} {o : HO} (hp : S p) (ht : ∀ xs, H p ≠ some (.tup xs)) (hn : H p ≠ none) : Step S F H F (upd H p o) where
  le := fun a u q => q
  keep := fun a u q n => by
    rw [upd_ne]
    · exact q
    · rintro rfl
      exact n hp
  newF := fun a q => .inl q
  live := fun a q => by
    by_cases e : a = p
    · subst e
      rw [upd_same] at q
      cases q
    · rwa [upd_ne e] at q
  tups := fun a xs q => by
    rw [upd_ne]
    · exact q
    · rintro rfl
      exact ht _ q
theorem Sub.upd {p : Addr} {o : HO} (hs : Sub F H) (h : F p = none) : Sub F (upd H p o) := fun a u q => by
  rw [upd_ne (ne_of_none q h)]
  exact hs a u q
theorem Sub.upd2 {p : Addr} {o : HO} (hs : Sub F H) : Sub (L2.upd F p o) (L2.upd H p o) := fun a u q => by
  by_cases e : a = p
  · subst e
    rw [upd_same] at q ⊢
    exact .inl q
  · rw [upd_ne e] at q ⊢
    exact hs a u q
theorem Sub.share {p : Addr} {o : HO} (hs : Sub F H) (h : H p = some o) : Sub (L2.upd F p o) H := fun a u q => by
  by_cases e : a = p
  · subst e
    rw [upd_same] at q
    cases q
    exact .inl h
  · rw [upd_ne e] at q
    exact hs a u q
theorem Sub.none (hs : Sub F H) {p : Addr} (h : H p = none) : F p = none := by
  cases e : F p with
  | none => rfl
  | some u => rcases hs p u e with z | ⟨_, _, z⟩ <;> (rw [h] at z; cases z)
end
end Sd
set_option autoImplicit false

namespace Sd
open PySem PySem.Spec L2
/-! ### the one draw state, slots, results -/
inductive G where
  | no
  | k1 (cells : List Int) (seed : Int)
  | k2 (a b : Int)
inductive GK where
  | no | k1 | k2
def G.kd : G → GK
  | .no => .no
  | .k1 _ _ => .k1
  | .k2 _ _ => .k2
def Ex (k : GK) (ps pc : Addr) (a : Addr) : Prop := match k with
  | .no => False
  | .k1 => a = ps ∨ a = pc
  | .k2 => a = ps
def RpG (F H : Hp) (ps pc : Addr) : G → Prop
  | .no => True
  | .k1 cells seed => ps ≠ pc ∧ H ps = some (.lst [.ref pc, .int seed]) ∧ H pc = some (.lst (cells.map V.int)) ∧ F ps = none ∧ F pc = none
  | .k2 a b => H ps = some (.lst [.int a, .int b]) ∧ F ps = none
/-- a slot: unknown; shared data; an own list, an own dict (t: its keys are tuples); the draw state -/
inductive Sl where
  | no
  | sh (d : D)
  | ol (xs : List D)
  | od (t : Bool) (es : List (D × D))
  | st
def Sl.own : Sl → Prop
  | .ol _ => True
  | .od _ _ => True
  | _ => False
/-- the dict at p (not locked) -/
def DicW (t : Bool) (H : Hp) (p : Addr) (ks : List D) (vs : List V) : Prop := match t with
  | false => ∃ kvs : List (Key × V), H p = some (.dK kvs) ∧ ks = kvs.map (fun q => keyD q.1) ∧ vs = kvs.map (·.2)
  | true => ∃ kvs : List (List Key × V), H p = some (.dT kvs) ∧ ks = kvs.map (fun q => keyTD q.1) ∧ vs = kvs.map (·.2)
theorem DicW.dicO {t : Bool} {H : Hp} {p : Addr} {ks : List D} {vs : List V} (h : DicW t H p ks vs) : DicO H p ks vs := by
  cases t with
  | false =>
    obtain ⟨kvs, h, e⟩ := h
    exact .inl ⟨kvs, .inl h, e⟩
  | true =>
    obtain ⟨kvs, h, e⟩ := h
    exact .inr ⟨kvs, .inl h, e⟩
theorem DicW.has {t : Bool} {H : Hp} {p : Addr} {ks : List D} {vs : List V} (h : DicW t H p ks vs) : ∃ u, H p = some u ∧ (∀ xs, u ≠ HO.tup xs) ∧ isDct u := by
  cases t with
  | false =>
    obtain ⟨kvs, h, e⟩ := h
    exact ⟨_, h, (fun _ z => by cases z), trivial⟩
  | true =>
    obtain ⟨kvs, h, e⟩ := h
    exact ⟨_, h, (fun _ z => by cases z), trivial⟩
theorem DicW.congr {t : Bool} {H H' : Hp} {p : Addr} {ks : List D} {vs : List V} (h : DicW t H p ks vs) (k : ∀ u, H p = Option.some u → H' p = Option.some u) : DicW t H' p ks vs := by
  cases t with
  | false =>
    obtain ⟨kvs, h, e⟩ := h
    exact ⟨kvs, k _ h, e⟩
  | true =>
    obtain ⟨kvs, h, e⟩ := h
    exact ⟨kvs, k _ h, e⟩
/-- what a slot holds -/
def RepS (K : PySem.W.Frag) (F H : Hp) (ps pc : Addr) (k : GK) (x : Option (Option V)) : Sl → Prop
  | .no => True
  | .sh d => ∃ v, x = some (some v) ∧ Rp K F v d
  | .ol xs => ∃ p vs, x = some (some (.ref p)) ∧ H p = some (.lst vs) ∧ F p = none ∧ ¬ Ex k ps pc p ∧ RpAll K F vs xs
  | .od t es => ∃ p ks vs ds, x = some (some (.ref p)) ∧ DicW t H p ks vs ∧ F p = none ∧ ¬ Ex k ps pc p ∧ RpAll K F vs ds ∧ es = ks.zip ds
  | .st => x = some (some (.ref ps)) ∧ k ≠ .no
structure RepE (K : PySem.W.Frag) (F H : Hp) (ps pc : Addr) (σ : St) (ρ : List Sl) (g : G) : Prop where
  sub : Sub F H
  len : σ.length = ρ.length
  slot : ∀ (i : Nat) (s : Sl), ρ[i]? = some s → RepS K F H ps pc g.kd σ[i]? s
  sep : ∀ (i j : Nat) (s s' : Sl) (p : Addr), i ≠ j → ρ[i]? = some s → ρ[j]? = some s' → s.own → s'.own → σ[i]? = some (some (.ref p)) → σ[j]? ≠ some (some (.ref p))
  st : RpG F H ps pc g
section
variable {K : PySem.W.Frag} {F H F' H' : Hp} {ps pc : Addr} {σ : St} {ρ : List Sl} {g g' : G}
theorem RpG.has (h : RpG F H ps pc g) {a : Addr} (e : Ex g.kd ps pc a) : ∃ xs, H a = some (.lst xs) ∧ F a = none := by
  cases g with
  | no => exact e.elim
  | k1 cells seed =>
    obtain ⟨_, h1, h2, h3, h4⟩ := h
    rcases e with e | e
    · rw [e]; exact ⟨_, h1, h3⟩
    · rw [e]; exact ⟨_, h2, h4⟩
  | k2 x y =>
    obtain ⟨h1, h2⟩ := h
    have e : a = ps := e
    rw [e]; exact ⟨_, h1, h2⟩
theorem RpG.pure (h : RpG F H ps pc g) (x : Step (fun _ => False) F H F' H') : RpG F' H' ps pc g := by
  have no : ∀ (a : Addr) (xs : List V), H a = some (HO.lst xs) → F a = none → F' a = none := fun a xs e n => by
    cases q : F' a with
    | none => rfl
    | some u =>
      exfalso
      rcases x.newF a (by rw [q]; exact fun z => by cases z) with z | z | z | ⟨ys, z⟩
      · exact z n
      · rw [e] at z; cases z
      · exact z
      · rw [e] at z; cases z
  cases g with
  | no => trivial
  | k1 cells seed =>
    obtain ⟨h0, h1, h2, h3, h4⟩ := h
    exact ⟨h0, x.keep _ _ h1 id, x.keep _ _ h2 id, no _ _ h1 h3, no _ _ h2 h4⟩
  | k2 a b =>
    obtain ⟨h1, h2⟩ := h
    exact ⟨x.keep _ _ h1 id, no _ _ h1 h2⟩
/-- a slot behind a step that changes the state alone -/
theorem RepS.step {k : GK} {Z : Addr → Prop} {y : Option (Option V)} {s : Sl} (h : RepS K F H ps pc k y s) (x : Step Z F H F' H') (hz : ∀ a, Z a → Ex k ps pc a) : RepS K F' H' ps pc k y s := by
  have no : ∀ p, F p = none → ¬ Ex k ps pc p → (∃ u, H p = some u ∧ ∀ xs, u ≠ HO.tup xs) → F' p = none := fun p n1 n2 ⟨u, e, ht⟩ => by
    cases q : F' p with
    | none => rfl
    | some w =>
      exfalso
      rcases x.newF p (by rw [q]; exact fun z => by cases z) with z | z | z | ⟨ys, z⟩
      · exact z n1
      · rw [e] at z; cases z
      · exact n2 (hz _ z)
      · rw [e] at z
        injection z with z
        exact ht _ z
  cases s with
  | no => trivial
  | sh d =>
    obtain ⟨v, e, r⟩ := h
    exact ⟨v, e, x.sub.rp r⟩
  | ol xs =>
    obtain ⟨p, vs, e, hp, hf, hx, r⟩ := h
    exact ⟨p, vs, e, x.keep _ _ hp fun z => hx (hz _ z), no p hf hx ⟨_, hp, fun _ z => by cases z⟩, hx, x.sub.rpAll r⟩
  | od t es =>
    obtain ⟨p, ks, vs, ds, e, hp, hf, hx, r, q⟩ := h
    obtain ⟨u, h1, h2, _⟩ := hp.has
    exact ⟨p, ks, vs, ds, e, hp.congr fun u hu => x.keep _ _ hu fun z => hx (hz _ z), no p hf hx ⟨u, h1, h2⟩, hx, x.sub.rpAll r, q⟩
  | st => exact h
theorem RepE.step (E : RepE K F H ps pc σ ρ g) (x : Step (Ex g.kd ps pc) F H F' H') (hs : Sub F' H') (hk : g'.kd = g.kd) (hg : RpG F' H' ps pc g') : RepE K F' H' ps pc σ ρ g' :=
  ⟨hs, E.len, fun i s h => by rw [hk]; exact (E.slot i s h).step x fun _ z => z, E.sep, hg⟩
theorem RepE.pure (E : RepE K F H ps pc σ ρ g) (x : Step (fun _ => False) F H F' H') (hs : Sub F' H') : RepE K F' H' ps pc σ ρ g :=
  E.step (x.mono fun _ z => z.elim) hs rfl (E.st.pure x)
end
/-! ### results -/
inductive R where
  | d (d : D)
  | o (i : Nat)
  | st
  | f (xs : List D)
  | fd (t : Bool) (es : List (D × D))
/-- H₀: the heap ahead of the expression -/
def RepR (K : PySem.W.Frag) (H₀ F H : Hp) (ps : Addr) (k : GK) (σ : St) (ρ : List Sl) (v : V) : R → Prop
  | .d d => Rp K F v d
  | .o i => σ[i]? = some (some v) ∧ ∃ s : Sl, ρ[i]? = some s ∧ s.own
  | .st => v = .ref ps ∧ k ≠ .no
  | .f xs => ∃ p vs, v = .ref p ∧ H₀ p = none ∧ H p = some (.lst vs) ∧ F p = none ∧ RpAll K F vs xs
  | .fd t es => ∃ p ks vs ds, v = .ref p ∧ H₀ p = none ∧ DicW t H p ks vs ∧ F p = none ∧ RpAll K F vs ds ∧ es = ks.zip ds
abbrev ES := List Sl → G → Option (R × G)
abbrev EV := List Sl → G → Option (D × G)
abbrev EB := List Sl → G → Option (Bool × G)
def Wp (K : PySem.W.Frag) (t : TE) (f : ES) : Prop := ∀ (σ : St) (ρ : List Sl) (g : G) (F H : Hp) (ps pc : Addr) (r : R) (g' : G) (Q : VK), RepE K F H ps pc σ ρ g → f ρ g = some (r, g') →
  (∀ v F' H', g'.kd = g.kd → Step (Ex g.kd ps pc) F H F' H' → RepE K F' H' ps pc σ ρ g' → RepR K H F' H' ps g.kd σ ρ v r → Q v H') → t σ H Q
def WpV (K : PySem.W.Frag) (t : TE) (f : EV) : Prop := ∀ (σ : St) (ρ : List Sl) (g : G) (F H : Hp) (ps pc : Addr) (d : D) (g' : G) (Q : VK), RepE K F H ps pc σ ρ g → f ρ g = some (d, g') →
  (∀ v F' H', g'.kd = g.kd → Step (Ex g.kd ps pc) F H F' H' → RepE K F' H' ps pc σ ρ g' → Rp K F' v d → Q v H') → t σ H Q
/-- seen from the top: its items are shared, it may be an own one -/
inductive RpS (K : PySem.W.Frag) (F H : Hp) (Z : Addr → Prop) : V → D → Prop
  | sh {v : V} {d : D} : Rp K F v d → RpS K F H Z v d
  | ol {p : Addr} {vs : List V} {ds : List D} : H p = some (.lst vs) → ¬ Z p → RpAll K F vs ds → RpS K F H Z (.ref p) (.list ds)
  | od {t : Bool} {p : Addr} {ks : List D} {vs : List V} {ds : List D} : DicW t H p ks vs → ¬ Z p → RpAll K F vs ds → RpS K F H Z (.ref p) (.dict (ks.zip ds))
/-- what no slot owns -/
def ZO (σ : L2.St) (ρ : List Sl) (a : Addr) : Prop := ¬ ∃ (i : Nat) (s : Sl), ρ[i]? = some s ∧ s.own ∧ σ[i]? = some (some (.ref a))
def WpS (K : PySem.W.Frag) (t : TE) (f : EV) : Prop := ∀ (σ : St) (ρ : List Sl) (g : G) (F H : Hp) (ps pc : Addr) (d : D) (g' : G) (Q : VK), RepE K F H ps pc σ ρ g → f ρ g = some (d, g') →
  (∀ v F' H', g'.kd = g.kd → Step (Ex g.kd ps pc) F H F' H' → RepE K F' H' ps pc σ ρ g' → RpS K F' H' (ZO σ ρ) v d → Q v H') → t σ H Q
def WpB (K : PySem.W.Frag) (t : TT) (f : EB) : Prop := ∀ (σ : St) (ρ : List Sl) (g : G) (F H : Hp) (ps pc : Addr) (b : Bool) (g' : G) (Q : Bool → Hp → Prop), RepE K F H ps pc σ ρ g → f ρ g = some (b, g') →
  (∀ F' H', g'.kd = g.kd → Step (Ex g.kd ps pc) F H F' H' → RepE K F' H' ps pc σ ρ g' → Q b H') → t σ H Q
section
variable {K : PySem.W.Frag} {F H F' H' : Hp} {Z : Addr → Prop} {v : V} {d : D}
theorem RpS.step (h : RpS K F H Z v d) (x : Step Z F H F' H') : RpS K F' H' Z v d := by
  cases h with
  | sh r => exact .sh (x.sub.rp r)
  | ol hp hz r => exact .ol (x.keep _ _ hp hz) hz (x.sub.rpAll r)
  | od hp hz r => exact .od (hp.congr fun u hu => x.keep _ _ hu hz) hz (x.sub.rpAll r)
theorem RpS.list {ds : List D} (hs : Sub F H) (h : RpS K F H Z v (.list ds)) : ∃ p vs, v = .ref p ∧ H p = some (.lst vs) ∧ RpAll K F vs ds := by
  cases h with
  | sh r =>
    cases r with
    | lst h r => exact ⟨_, _, rfl, hs.lst h, r⟩
  | ol hp hz r => exact ⟨_, _, rfl, hp, r⟩
theorem RpS.tuple {ds : List D} (hs : Sub F H) (h : RpS K F H Z v (.tuple ds)) : ∃ p vs, v = .ref p ∧ F p = some (.tup vs) ∧ SqT K H p vs ∧ RpAll K F vs ds := by
  cases h with
  | sh r =>
    cases r with
    | tup h r => exact ⟨_, _, rfl, h, .of (hs.tup h), r⟩
theorem RpS.dict {es : List (D × D)} (hs : Sub F H) (h : RpS K F H Z v (.dict es)) : ∃ p ks vs ds, v = .ref p ∧ DicO H p ks vs ∧ RpAll K F vs ds ∧ es = ks.zip ds := by
  cases h with
  | sh r =>
    cases r with
    | dct h r e => exact ⟨_, _, _, _, rfl, hs.dic h, r, e⟩
  | od hp hz r => exact ⟨_, _, _, _, rfl, hp.dicO, r, rfl⟩
theorem RpS.int {i : Int} (h : RpS K F H Z v (.int i)) : v = .int i := by
  cases h with | sh r => cases r; rfl
theorem RpS.bool {b : Bool} (h : RpS K F H Z v (.bool b)) : v = .bl b := by
  cases h with | sh r => cases r; rfl
theorem RpS.str {x : Str} (h : RpS K F H Z v (.str x)) : v = .str x := by
  cases h with | sh r => cases r; rfl
theorem RpS.non (h : RpS K F H Z v .none) : v = .non := by
  cases h with | sh r => cases r; rfl
end
/-- the value of a result, its top shared from now on -/
def vl (f : ES) : EV := fun ρ g => match f ρ g with
  | some (.d d, g') => some (d, g')
  | some (.f xs, g') => some (.list xs, g')
  | some (.fd _ es, g') => some (.dict es, g')
  | _ => none
/-- what a slot shows -/
def see (ρ : List Sl) (i : Nat) : Option D := match ρ[i]? with
  | some (.ol xs) => some (.list xs)
  | some (.od _ es) => some (.dict es)
  | _ => none
/-- the value of a result, an own list or dict read where it stands -/
def vw (f : ES) : EV := fun ρ g => match f ρ g with
  | some (.d d, g') => some (d, g')
  | some (.f xs, g') => some (.list xs, g')
  | some (.fd _ es, g') => some (.dict es, g')
  | some (.o i, g') => (see ρ i).map fun d => (d, g')
  | _ => none
section
variable {K : PySem.W.Frag} {t : TE} {f : ES}
theorem fresh_ex {F H : Hp} {ps pc : Addr} {σ : St} {ρ : List Sl} {g : G} (E : RepE K F H ps pc σ ρ g) {p : Addr} (h : H p = none) : ¬ Ex g.kd ps pc p := fun z => by
  obtain ⟨xs, e, _⟩ := E.st.has z
  rw [h] at e
  cases e
/-- a fresh list becomes shared -/
theorem RepE.shareL {F H : Hp} {ps pc : Addr} {σ : St} {ρ : List Sl} {g : G} {p : Addr} {o : HO} (E : RepE K F H ps pc σ ρ g) (hp : H p = some o) (hf : F p = none) (hx : ¬ Ex g.kd ps pc p)
    (ho : ∀ (i : Nat) (s : Sl), ρ[i]? = some s → s.own → σ[i]? ≠ some (some (.ref p))) : RepE K (upd F p o) H ps pc σ ρ g := by
  have le : ∀ a u, F a = some u → upd F p o a = some u := fun a u q => by
    rw [upd_ne (ne_of_none q hf)]
    exact q
  have s := Sub.of_le le
  refine ⟨E.sub.share hp, E.len, fun i sl h => ?_, E.sep, ?_⟩
  · have q := E.slot i sl h
    cases sl with
    | no => trivial
    | sh d =>
      obtain ⟨v, e, r⟩ := q
      exact ⟨v, e, s.rp r⟩
    | ol xs =>
      obtain ⟨p', vs, e, hp', hf', hx', r⟩ := q
      have ne : p' ≠ p := by
        rintro rfl
        exact ho i _ h trivial e
      exact ⟨p', vs, e, hp', by rw [upd_ne ne]; exact hf', hx', s.rpAll r⟩
    | od t es =>
      obtain ⟨p', ks, vs, ds, e, hp', hf', hx', r, z⟩ := q
      have ne : p' ≠ p := by
        rintro rfl
        exact ho i _ h trivial e
      exact ⟨p', ks, vs, ds, e, hp', by rw [upd_ne ne]; exact hf', hx', s.rpAll r, z⟩
    | st => exact q
  · have q := E.st
    cases g with
    | no => trivial
    | k1 cells seed =>
      obtain ⟨h0, h1, h2, h3, h4⟩ := q
      have n1 : ps ≠ p := fun z => hx (.inl z.symm)
      have n2 : pc ≠ p := fun z => hx (.inr z.symm)
      exact ⟨h0, h1, h2, by rw [upd_ne n1]; exact h3, by rw [upd_ne n2]; exact h4⟩
    | k2 a b =>
      obtain ⟨h1, h2⟩ := q
      have n1 : ps ≠ p := fun z => hx z.symm
      exact ⟨h1, by rw [upd_ne n1]; exact h2⟩
theorem RepE.ownAt {F H : Hp} {ps pc : Addr} {σ : St} {ρ : List Sl} {g : G} (E : RepE K F H ps pc σ ρ g) {i : Nat} {s : Sl} {p : Addr} (h : ρ[i]? = some s) (ho : s.own) (e : σ[i]? = some (some (.ref p))) : ∃ u, H p = some u ∧ (∀ xs, u ≠ HO.tup xs) ∧ F p = none ∧ ¬ Ex g.kd ps pc p := by
  have q := E.slot i s h
  cases s with
  | no => exact ho.elim
  | sh d => exact ho.elim
  | st => exact ho.elim
  | ol xs =>
    obtain ⟨p', vs, e', hp', hf', hx', r⟩ := q
    rw [e] at e'
    injection e' with e'; injection e' with e'; injection e' with e'
    subst e'
    exact ⟨_, hp', (fun _ z => by cases z), hf', hx'⟩
  | od t es =>
    obtain ⟨p', ks, vs, ds, e', hp', hf', hx', r, z⟩ := q
    rw [e] at e'
    injection e' with e'; injection e' with e'; injection e' with e'
    subst e'
    obtain ⟨u, h1, h2, _⟩ := hp'.has
    exact ⟨u, h1, h2, hf', hx'⟩
theorem RepE.exZ {F H : Hp} {ps pc : Addr} {σ : L2.St} {ρ : List Sl} {g : G} (E : RepE K F H ps pc σ ρ g) (a : Addr) (h : Ex g.kd ps pc a) : ZO σ ρ a := fun ⟨i, s, h1, h2, h3⟩ => by
  obtain ⟨_, _, _, _, hx⟩ := E.ownAt h1 h2 h3
  exact hx h
/-- what a fresh object is: shared from now on -/
theorem RepE.shareF {F H F' H' : Hp} {ps pc : Addr} {σ : St} {ρ : List Sl} {g g' : G} {p : Addr} {o : HO} (E : RepE K F H ps pc σ ρ g) (E' : RepE K F' H' ps pc σ ρ g') (hk : g'.kd = g.kd) (x : Step (Ex g.kd ps pc) F H F' H') (h0 : H p = none) (hp : H' p = some o) (hf : F' p = none) :
    RepE K (upd F' p o) H' ps pc σ ρ g' ∧ Step (Ex g.kd ps pc) F H (upd F' p o) H' ∧ Sub F' (upd F' p o) := by
  have le : ∀ a u, F' a = some u → upd F' p o a = some u := fun a u q => by
    rw [upd_ne (ne_of_none q hf)]
    exact q
  refine ⟨E'.shareL hp hf (by rw [hk]; exact fresh_ex E h0) fun i s h ho e => ?_, ⟨fun a u q => le a u (x.le a u q), x.keep, fun a q => ?_, x.live, x.tups⟩, Sub.of_le le⟩
  · obtain ⟨u, hu, _⟩ := E.ownAt h ho e
    rw [h0] at hu
    cases hu
  · by_cases e : a = p
    · subst e
      exact .inr (.inl h0)
    · rw [upd_ne e] at q
      exact x.newF a q
theorem Wp.vl (h : Wp K t f) : WpV K t (vl f) := fun σ ρ g F H ps pc d g' Q E e q => by
  unfold Sd.vl at e
  split at e
  · rename_i d' g'' eq
    cases e
    exact h σ ρ g F H ps pc _ _ Q E eq fun v F' H' hk x E' r => q v F' H' hk x E' r
  · rename_i xs g'' eq
    cases e
    refine h σ ρ g F H ps pc _ _ Q E eq fun v F' H' hk x E' r => ?_
    obtain ⟨p, vs, rfl, h0, hp, hf, r⟩ := r
    obtain ⟨E2, x2, s2⟩ := E.shareF E' hk x h0 hp hf
    exact q _ _ _ hk x2 E2 (.lst upd_same (s2.rpAll r))
  · rename_i t' es g'' eq
    cases e
    refine h σ ρ g F H ps pc _ _ Q E eq fun v F' H' hk x E' r => ?_
    obtain ⟨p, ks, vs, ds, rfl, h0, hp, hf, r, ez⟩ := r
    obtain ⟨u, hu, _, _⟩ := hp.has
    obtain ⟨E2, x2, s2⟩ := E.shareF E' hk x h0 hu hf
    refine q _ _ _ hk x2 E2 (.dct (DicW.dicO (t := t') ?_) (s2.rpAll r) ez)
    exact hp.congr fun u' hu' => by
      rw [hu] at hu'
      cases hu'
      exact upd_same
  · cases e
theorem Wp.vw (h : Wp K t f) : WpS K t (vw f) := fun σ ρ g F H ps pc d g' Q E e q => by
  have viaV : Sd.vl f ρ g = some (d, g') → t σ H Q := fun e2 => h.vl σ ρ g F H ps pc d g' Q E e2 fun v F' H' hk x E' r => q v F' H' hk x E' (.sh r)
  unfold Sd.vw at e
  split at e
  · rename_i d' g'' eq
    exact viaV (by unfold Sd.vl; rw [eq]; exact e)
  · rename_i xs g'' eq
    exact viaV (by unfold Sd.vl; rw [eq]; exact e)
  · rename_i t' es g'' eq
    exact viaV (by unfold Sd.vl; rw [eq]; exact e)
  · rename_i i g'' eq
    refine h σ ρ g F H ps pc _ _ Q E eq fun v F' H' hk x E' r => ?_
    obtain ⟨hv, s, hs, ho⟩ := r
    have sl := E'.slot i s hs
    unfold see at e
    rw [hs] at e
    cases s with
    | no => exact ho.elim
    | sh d => exact ho.elim
    | st => exact ho.elim
    | ol xs =>
      cases e
      obtain ⟨p', vs, e', hp', hf', hx', r⟩ := sl
      rw [hv] at e'
      injection e' with e'; injection e' with e'
      subst e'
      exact q _ _ _ hk x E' (.ol hp' (fun z => z ⟨i, _, hs, trivial, hv⟩) r)
    | od t' es =>
      cases e
      obtain ⟨p', ks, vs, ds, e', hp', hf', hx', r, ez⟩ := sl
      rw [hv] at e'
      injection e' with e'; injection e' with e'
      subst e'
      subst ez
      exact q _ _ _ hk x E' (.od hp' (fun z => z ⟨i, _, hs, trivial, hv⟩) r)
  · cases e
end
end Sd

namespace Sd
open PySem PySem.Spec L2
/-! ### judgements over a family of contexts -/
section
variable {ι : Type} (Xs : ι → Cx) (K : PySem.W.Frag)
structure SdE (e : Expr) (f : ES) : Prop where
  ex : ∃ t, (∀ i, PE (Xs i) e t) ∧ Wp K t f
structure SdT (e : Expr) (f : EB) : Prop where
  ex : ∃ t, (∀ i, PT (Xs i) e t) ∧ WpB K t f
structure SdW (e : Expr) (f : EB) : Prop where
  ex : ∃ t, (∀ i, PW (Xs i) e t) ∧ WpB K t f
end
abbrev EA := List Sl → G → Option (List D × G)
abbrev EU := List Sl → G → Option (List Sl × G)
/-- an argument of a def: shared data, or the draw state -/
inductive RpU (K : PySem.W.Frag) (F : Hp) (ps : Addr) (k : GK) : V → Sl → Prop
  | sh {v : V} {d : D} : Rp K F v d → RpU K F ps k v (.sh d)
  | st : k ≠ .no → RpU K F ps k (.ref ps) .st
def WpA (K : PySem.W.Frag) (t : TA) (f : EA) : Prop := ∀ (σ : L2.St) (ρ : List Sl) (g : G) (F H : Hp) (ps pc : Addr) (ds : List D) (g' : G) (Q : List V → Hp → Prop), RepE K F H ps pc σ ρ g → f ρ g = some (ds, g') →
  (∀ vs F' H', g'.kd = g.kd → Step (Ex g.kd ps pc) F H F' H' → RepE K F' H' ps pc σ ρ g' → Paired (RpS K F' H' (ZO σ ρ)) vs ds → Q vs H') → t σ H Q
def WpAV (K : PySem.W.Frag) (t : TA) (f : EA) : Prop := ∀ (σ : L2.St) (ρ : List Sl) (g : G) (F H : Hp) (ps pc : Addr) (ds : List D) (g' : G) (Q : List V → Hp → Prop), RepE K F H ps pc σ ρ g → f ρ g = some (ds, g') →
  (∀ vs F' H', g'.kd = g.kd → Step (Ex g.kd ps pc) F H F' H' → RepE K F' H' ps pc σ ρ g' → RpAll K F' vs ds → Q vs H') → t σ H Q
def WpU (K : PySem.W.Frag) (t : TA) (f : EU) : Prop := ∀ (σ : L2.St) (ρ : List Sl) (g : G) (F H : Hp) (ps pc : Addr) (ss : List Sl) (g' : G) (Q : List V → Hp → Prop), RepE K F H ps pc σ ρ g → f ρ g = some (ss, g') →
  (∀ vs F' H', g'.kd = g.kd → Step (Ex g.kd ps pc) F H F' H' → RepE K F' H' ps pc σ ρ g' → Paired (RpU K F' ps g.kd) vs ss → Q vs H') → t σ H Q
section
variable {ι : Type} (Xs : ι → Cx) (K : PySem.W.Frag)
/-- arguments seen; as shared data; of a def -/
structure SdA (es : List Expr) (f : EA) : Prop where
  ex : ∃ t, (∀ i, PA (Xs i) es t) ∧ WpA K t f
structure SdAV (es : List Expr) (f : EA) : Prop where
  ex : ∃ t, (∀ i, PA (Xs i) es t) ∧ WpAV K t f
structure SdU (es : List Expr) (f : EU) : Prop where
  ex : ∃ t, (∀ i, PA (Xs i) es t) ∧ WpU K t f
end
/-! ### what a rule hands back -/
inductive RV where
  | d (d : D)
  | f (xs : List D)
  | fd (t : Bool) (es : List (D × D))
def RV.r : RV → R
  | .d x => .d x
  | .f xs => .f xs
  | .fd t es => .fd t es
def RepV (K : PySem.W.Frag) (H₀ F H : Hp) (v : V) : RV → Prop
  | .d d => Rp K F v d
  | .f xs => ∃ p vs, v = .ref p ∧ H₀ p = none ∧ H p = some (.lst vs) ∧ F p = none ∧ RpAll K F vs xs
  | .fd t es => ∃ p ks vs ds, v = .ref p ∧ H₀ p = none ∧ DicW t H p ks vs ∧ F p = none ∧ RpAll K F vs ds ∧ es = ks.zip ds
theorem RepV.r {K : PySem.W.Frag} {H₀ H₁ F H : Hp} {v : V} {rv : RV} {ps : Addr} {k : GK} {σ : L2.St} {ρ : List Sl} (h : RepV K H₁ F H v rv) (hl : ∀ a, H₁ a = none → H₀ a = none) : RepR K H₀ F H ps k σ ρ v rv.r := by
  cases rv with
  | d d => exact h
  | f xs =>
    obtain ⟨p, vs, e, h0, r⟩ := h
    exact ⟨p, vs, e, hl _ h0, r⟩
  | fd t es =>
    obtain ⟨p, ks, vs, ds, e, h0, r⟩ := h
    exact ⟨p, ks, vs, ds, e, hl _ h0, r⟩
abbrev NoZ : Addr → Prop := fun _ => False
def Rule1 (K : PySem.W.Frag) (r : V → Hp → VK → Prop) (φ : D → Option RV) : Prop := ∀ (F H : Hp) (Z : Addr → Prop) (x : V) (d : D) (rv : RV) (Q : VK), Sub F H → RpS K F H Z x d → φ d = some rv →
  (∀ v F' H', Step NoZ F H F' H' → Sub F' H' → RepV K H F' H' v rv → Q v H') → r x H Q
def Rule2 (K : PySem.W.Frag) (r : V → V → Hp → VK → Prop) (φ : D → D → Option RV) : Prop := ∀ (F H : Hp) (Z : Addr → Prop) (x y : V) (d e : D) (rv : RV) (Q : VK), Sub F H → RpS K F H Z x d → RpS K F H Z y e → φ d e = some rv →
  (∀ v F' H', Step NoZ F H F' H' → Sub F' H' → RepV K H F' H' v rv → Q v H') → r x y H Q
def RuleL (K : PySem.W.Frag) (r : List V → Hp → VK → Prop) (φ : List D → Option RV) : Prop := ∀ (F H : Hp) (Z : Addr → Prop) (xs : List V) (ds : List D) (rv : RV) (Q : VK), Sub F H → Paired (RpS K F H Z) xs ds → φ ds = some rv →
  (∀ v F' H', Step NoZ F H F' H' → Sub F' H' → RepV K H F' H' v rv → Q v H') → r xs H Q
/-! ### sequencing -/
def op1 (φ : D → Option RV) (fa : ES) : ES := fun ρ g => (vw fa ρ g).bind fun p => (φ p.1).map fun r => (r.r, p.2)
def op2 (φ : D → D → Option RV) (fa fb : ES) : ES := fun ρ g => (vw fa ρ g).bind fun p => (vw fb ρ p.2).bind fun q => (φ p.1 q.1).map fun r => (r.r, q.2)
def opL (φ : List D → Option RV) (fa : EA) : ES := fun ρ g => (fa ρ g).bind fun p => (φ p.1).map fun r => (r.r, p.2)
theorem bind_some {α β : Type} {x : Option α} {f : α → Option β} {b : β} (h : x.bind f = some b) : ∃ a, x = some a ∧ f a = some b := by
  cases x with
  | none => cases h
  | some a => exact ⟨a, rfl, h⟩
theorem map_some {α β : Type} {x : Option α} {f : α → β} {b : β} (h : x.map f = some b) : ∃ a, x = some a ∧ f a = b := by
  cases x with
  | none => cases h
  | some a => exact ⟨a, rfl, Option.some.inj h⟩
section
variable {K : PySem.W.Frag}
theorem Wp.op1 {ta : TE} {fa : ES} {r : V → Hp → VK → Prop} {φ : D → Option RV} (a : Wp K ta fa) (h : Rule1 K r φ) : Wp K (fun σ H Q => ta σ H fun x H1 => r x H1 Q) (op1 φ fa) := fun σ ρ g F H ps pc rr g' Q E e q => by
  obtain ⟨⟨d, g1⟩, e1, e⟩ := bind_some e
  obtain ⟨rv, e2, e3⟩ := map_some e
  cases e3
  refine a.vw σ ρ g F H ps pc _ _ _ E e1 fun v F1 H1 hk x1 E1 r1 => ?_
  refine h F1 H1 _ v d rv Q E1.sub r1 e2 fun v2 F2 H2 x2 s2 r2 => ?_
  exact q v2 F2 H2 hk (x1.trans x2 fun _ z => z.elim) (E1.pure x2 s2) (r2.r x1.live)
theorem Wp.op2 {ta tb : TE} {fa fb : ES} {r : V → V → Hp → VK → Prop} {φ : D → D → Option RV} (a : Wp K ta fa) (b : Wp K tb fb) (h : Rule2 K r φ) : Wp K (tOp r ta tb) (op2 φ fa fb) := fun σ ρ g F H ps pc rr g' Q E e q => by
  obtain ⟨⟨d, g1⟩, e1, e⟩ := bind_some e
  obtain ⟨⟨d2, g2⟩, e2, e⟩ := bind_some e
  obtain ⟨rv, e3, e4⟩ := map_some e
  cases e4
  refine a.vw σ ρ g F H ps pc _ _ _ E e1 fun v F1 H1 hk x1 E1 r1 => ?_
  refine b.vw σ ρ g1 F1 H1 ps pc _ _ _ E1 e2 fun v2 F2 H2 hk2 x2 E2 r2 => ?_
  have x2' := x2.mono E1.exZ
  rw [hk] at x2
  refine h F2 H2 _ v v2 d d2 rv Q E2.sub (r1.step x2') r2 e3 fun v3 F3 H3 x3 s3 r3 => ?_
  exact q v3 F3 H3 (hk2.trans hk) ((x1.same x2).trans x3 fun _ z => z.elim) (E2.pure x3 s3) (r3.r (x1.same x2).live)
theorem WpA.opL {ta : TA} {fa : EA} {r : List V → Hp → VK → Prop} {φ : List D → Option RV} (a : WpA K ta fa) (h : RuleL K r φ) : Wp K (tCB r ta) (opL φ fa) := fun σ ρ g F H ps pc rr g' Q E e q => by
  obtain ⟨⟨d, g1⟩, e1, e⟩ := bind_some e
  obtain ⟨rv, e2, e3⟩ := map_some e
  cases e3
  refine a σ ρ g F H ps pc _ _ _ E e1 fun v F1 H1 hk x1 E1 r1 => ?_
  refine h F1 H1 _ v d rv Q E1.sub r1 e2 fun v2 F2 H2 x2 s2 r2 => ?_
  exact q v2 F2 H2 hk (x1.trans x2 fun _ z => z.elim) (E1.pure x2 s2) (r2.r x1.live)
end
/-! ### arguments -/
def fNilA : EA := fun _ g => some ([], g)
def fConsA (fa : ES) (fr : EA) : EA := fun ρ g => (vw fa ρ g).bind fun p => (fr ρ p.2).map fun q => (p.1 :: q.1, q.2)
def fConsV (fa : ES) (fr : EA) : EA := fun ρ g => (vl fa ρ g).bind fun p => (fr ρ p.2).map fun q => (p.1 :: q.1, q.2)
def fNilU : EU := fun _ g => some ([], g)
/-- an argument of a def -/
def ar (f : ES) : List Sl → G → Option (Sl × G) := fun ρ g => match f ρ g with
  | some (.st, g') => some (.st, g')
  | _ => (vl f ρ g).map fun p => (.sh p.1, p.2)
def fConsU (fa : ES) (fr : EU) : EU := fun ρ g => (ar fa ρ g).bind fun p => (fr ρ p.2).map fun q => (p.1 :: q.1, q.2)
section
variable {K : PySem.W.Frag} {F H F' H' : Hp} {Z : Addr → Prop}
theorem pairedS {vs : List V} {ds : List D} (h : Paired (RpS K F H Z) vs ds) (x : Step Z F H F' H') : Paired (RpS K F' H' Z) vs ds := by
  induction h with
  | nil => exact .nil
  | cons a _ ih => exact .cons (a.step x) ih
theorem RpU.sub {ps : Addr} {k : GK} {v : V} {s : Sl} (h : RpU K F ps k v s) (x : Sub F F') : RpU K F' ps k v s := by
  cases h with
  | sh r => exact .sh (x.rp r)
  | st h => exact .st h
theorem pairedU {ps : Addr} {k : GK} {vs : List V} {ss : List Sl} (h : Paired (RpU K F ps k) vs ss) (x : Sub F F') : Paired (RpU K F' ps k) vs ss := by
  induction h with
  | nil => exact .nil
  | cons a _ ih => exact .cons (a.sub x) ih
theorem WpA.nil : WpA K tNil fNilA := fun σ ρ g F H ps pc ds g' Q E e q => by
  cases e
  exact q [] F H rfl .refl E .nil
theorem WpAV.nil : WpAV K tNil fNilA := fun σ ρ g F H ps pc ds g' Q E e q => by
  cases e
  exact q [] F H rfl .refl E .nil
theorem WpU.nil : WpU K tNil fNilU := fun σ ρ g F H ps pc ds g' Q E e q => by
  cases e
  exact q [] F H rfl .refl E .nil
theorem WpA.cons {ta : TE} {tr : TA} {fa : ES} {fr : EA} (a : Wp K ta fa) (r : WpA K tr fr) : WpA K (tCons ta tr) (fConsA fa fr) := fun σ ρ g F H ps pc ds g' Q E e q => by
  obtain ⟨⟨d, g1⟩, e1, e⟩ := bind_some e
  obtain ⟨⟨d2, g2⟩, e2, e3⟩ := map_some e
  cases e3
  refine a.vw σ ρ g F H ps pc _ _ _ E e1 fun v F1 H1 hk x1 E1 r1 => ?_
  refine r σ ρ g1 F1 H1 ps pc _ _ _ E1 e2 fun v2 F2 H2 hk2 x2 E2 r2 => ?_
  have x2' := x2.mono E1.exZ
  rw [hk] at x2
  exact q _ F2 H2 (hk2.trans hk) (x1.same x2) E2 (.cons (r1.step x2') r2)
theorem WpAV.cons {ta : TE} {tr : TA} {fa : ES} {fr : EA} (a : Wp K ta fa) (r : WpAV K tr fr) : WpAV K (tCons ta tr) (fConsV fa fr) := fun σ ρ g F H ps pc ds g' Q E e q => by
  obtain ⟨⟨d, g1⟩, e1, e⟩ := bind_some e
  obtain ⟨⟨d2, g2⟩, e2, e3⟩ := map_some e
  cases e3
  refine a.vl σ ρ g F H ps pc _ _ _ E e1 fun v F1 H1 hk x1 E1 r1 => ?_
  refine r σ ρ g1 F1 H1 ps pc _ _ _ E1 e2 fun v2 F2 H2 hk2 x2 E2 r2 => ?_
  rw [hk] at x2
  exact q _ F2 H2 (hk2.trans hk) (x1.same x2) E2 (.cons (x2.sub.rp r1) r2)
theorem WpU.cons {ta : TE} {tr : TA} {fa : ES} {fr : EU} (a : Wp K ta fa) (r : WpU K tr fr) : WpU K (tCons ta tr) (fConsU fa fr) := fun σ ρ g F H ps pc ds g' Q E e q => by
  obtain ⟨⟨s, g1⟩, e1, e⟩ := bind_some e
  obtain ⟨⟨d2, g2⟩, e2, e3⟩ := map_some e
  cases e3
  have fin : ∀ v F1 H1, g1.kd = g.kd → Step (Ex g.kd ps pc) F H F1 H1 → RepE K F1 H1 ps pc σ ρ g1 → RpU K F1 ps g.kd v s → tr σ H1 fun xs H2 => Q (v :: xs) H2 := fun v F1 H1 hk x1 E1 r1 => by
    refine r σ ρ g1 F1 H1 ps pc _ _ _ E1 e2 fun v2 F2 H2 hk2 x2 E2 r2 => ?_
    rw [hk] at x2 r2
    exact q _ F2 H2 (hk2.trans hk) (x1.same x2) E2 (.cons (r1.sub x2.sub) r2)
  unfold ar at e1
  split at e1
  · rename_i g'' eq
    cases e1
    refine a σ ρ g F H ps pc _ _ _ E eq fun v F1 H1 hk x1 E1 r1 => ?_
    obtain ⟨rfl, hn⟩ := r1
    exact fin _ F1 H1 hk x1 E1 (.st hn)
  · obtain ⟨⟨d, g''⟩, e5, e4⟩ := map_some e1
    cases e4
    exact a.vl σ ρ g F H ps pc _ _ _ E e5 fun v F1 H1 hk x1 E1 r1 => fin v F1 H1 hk x1 E1 (.sh r1)
end
section
variable {ι : Type} {Xs : ι → Cx} {K : PySem.W.Frag} {e : Expr} {es : List Expr} {f : ES} {fr : EA}
theorem sa_nil : SdA Xs K [] fNilA := ⟨_, fun _ => pa_nil, .nil⟩
theorem sav_nil : SdAV Xs K [] fNilA := ⟨_, fun _ => pa_nil, .nil⟩
theorem su_nil : SdU Xs K [] fNilU := ⟨_, fun _ => pa_nil, .nil⟩
theorem sa_cons (a : SdE Xs K e f) (r : SdA Xs K es fr) (hs : ∀ i, starEach (e :: es) (Xs i).env = (false, eval e (Xs i).env) :: starEach es (Xs i).env := by intro _; rfl) : SdA Xs K (e :: es) (fConsA f fr) := by
  obtain ⟨ta, pa, wa⟩ := a
  obtain ⟨tr, pr, wr⟩ := r
  exact ⟨_, fun i => pa_cons (pa i) (pr i) (hs i), .cons wa wr⟩
theorem sav_cons (a : SdE Xs K e f) (r : SdAV Xs K es fr) (hs : ∀ i, starEach (e :: es) (Xs i).env = (false, eval e (Xs i).env) :: starEach es (Xs i).env := by intro _; rfl) : SdAV Xs K (e :: es) (fConsV f fr) := by
  obtain ⟨ta, pa, wa⟩ := a
  obtain ⟨tr, pr, wr⟩ := r
  exact ⟨_, fun i => pa_cons (pa i) (pr i) (hs i), .cons wa wr⟩
theorem su_cons {fu : EU} (a : SdE Xs K e f) (r : SdU Xs K es fu) (hs : ∀ i, starEach (e :: es) (Xs i).env = (false, eval e (Xs i).env) :: starEach es (Xs i).env := by intro _; rfl) : SdU Xs K (e :: es) (fConsU f fu) := by
  obtain ⟨ta, pa, wa⟩ := a
  obtain ⟨tr, pr, wr⟩ := r
  exact ⟨_, fun i => pa_cons (pa i) (pr i) (hs i), .cons wa wr⟩
end
/-! ### names, constants -/
def rdSl (i : Nat) : Sl → Option R
  | .sh d => some (.d d)
  | .ol _ => some (.o i)
  | .od _ _ => some (.o i)
  | .st => some .st
  | .no => none
def fVar (i : Nat) : ES := fun ρ g => (ρ[i]?.bind (rdSl i)).map fun r => (r, g)
def fC (d : D) : ES := fun _ g => some (.d d, g)
section
variable {K : PySem.W.Frag}
theorem Wp.var (i : Nat) : Wp K (tVar i) (fVar i) := fun σ ρ g F H ps pc r g' Q E e q => by
  obtain ⟨r0, e, e2⟩ := map_some e
  obtain ⟨s, e0, e1⟩ := bind_some e
  cases e2
  have sl := E.slot i s e0
  cases s with
  | no => cases e1
  | sh d =>
    cases e1
    obtain ⟨v, ev, rp⟩ := sl
    exact ⟨v, ev, q v F H rfl .refl E rp⟩
  | ol xs =>
    cases e1
    obtain ⟨p, vs, ev, _⟩ := sl
    exact ⟨_, ev, q _ F H rfl .refl E ⟨ev, _, e0, trivial⟩⟩
  | od t es =>
    cases e1
    obtain ⟨p, ks, vs, ds, ev, _⟩ := sl
    exact ⟨_, ev, q _ F H rfl .refl E ⟨ev, _, e0, trivial⟩⟩
  | st =>
    cases e1
    obtain ⟨ev, hn⟩ := sl
    exact ⟨_, ev, q _ F H rfl .refl E ⟨rfl, hn⟩⟩
theorem Wp.c {v : V} {d : D} (h : ∀ F, Rp K F v d) : Wp K (tC v) (fC d) := fun σ ρ g F H ps pc r g' Q E e q => by
  cases e
  exact q v F H rfl .refl E (h F)
end
section
variable {ι : Type} {Xs : ι → Cx} {K : PySem.W.Frag}
theorem sd_var (i : Nat) {x : Str} {pos : Pos} (hN : ∀ j, (Xs j).N[i]? = some x := by intro _; rfl) (hv : ∀ j, Vis (Xs j).env.scope x := by intro _; first | exact Or.inl rfl | exact Or.inr (Or.inl rfl) | exact Or.inr (Or.inr rfl)) (hd : (x == ("__debug__" : Str)) = false := by decide)
    (hcd : (x == ("__classdict__" : Str)) = false := by decide) : SdE Xs K (.Name x pos) (fVar i) := ⟨_, fun j => pe_var (hN j) (hv j) hd hcd, .var i⟩
theorem sd_int {i : Int} {j : Nat} {pos : Pos} : SdE Xs K (.Constant (.int i) j pos) (fC (.int i)) := ⟨_, fun _ => pe_int, .c fun _ => .int i⟩
theorem sd_bl {b : Bool} {j : Nat} {pos : Pos} : SdE Xs K (.Constant (.bool b) j pos) (fC (.bool b)) := ⟨_, fun _ => pe_bl, .c fun _ => .bl b⟩
theorem sd_non {j : Nat} {pos : Pos} : SdE Xs K (.Constant .none j pos) (fC .none) := ⟨_, fun _ => pe_non, .c fun _ => .non⟩
theorem sd_str {x : Str} {j : Nat} {pos : Pos} : SdE Xs K (.Constant (.str x) j pos) (fC (.str x)) := ⟨_, fun _ => pe_str, .c fun _ => .str x⟩
end
/-! ### rules of values -/
section
variable {ι : Type} {Xs : ι → Cx} {K : PySem.W.Frag} {a b : Expr} {fa fb : ES}
theorem sd_op {op : Operator} {r : R2} {φ : D → D → Option RV} {pos : Pos} (ho : ∀ i, OpR (Xs i) (binaryOp op) r) (h : Rule2 K r φ) (ha : SdE Xs K a fa) (hb : SdE Xs K b fb) : SdE Xs K (.BinOp a op b pos) (op2 φ fa fb) := by
  obtain ⟨ta, pa, wa⟩ := ha
  obtain ⟨tb, pb, wb⟩ := hb
  exact ⟨_, fun i => pe_op (ho i) (pa i) (pb i), wa.op2 wb h⟩
theorem sd_un {op : UnaryOp} {r : V → Hp → VK → Prop} {φ : D → Option RV} {pos : Pos} (ho : ∀ i, UnR (Xs i) (unaryOp op) r) (h : Rule1 K r φ) (ha : SdE Xs K a fa) : SdE Xs K (.UnaryOp op a pos) (op1 φ fa) := by
  obtain ⟨ta, pa, wa⟩ := ha
  exact ⟨_, fun i => pe_un (ho i) (pa i), wa.op1 h⟩
theorem sd_cmp {op : CmpOp} {r : R2} {φ : D → D → Option RV} {pos : Pos} (ho : ∀ i, OpR (Xs i) (compareOp op) r) (h : Rule2 K r φ) (ha : SdE Xs K a fa) (hb : SdE Xs K b fb) (hm : behindInMarks op b = false) : SdE Xs K (.Compare a [op] [b] pos) (op2 φ fa fb) := by
  obtain ⟨ta, pa, wa⟩ := ha
  obtain ⟨tb, pb, wb⟩ := hb
  exact ⟨_, fun i => pe_cmpR (ho i) (pa i) (pb i) hm, wa.op2 wb h⟩
theorem sd_ix {r : R2} {φ : D → D → Option RV} {pos : Pos} (hr : ∀ i, IxR (Xs i) r) (h : Rule2 K r φ) (ha : SdE Xs K a fa) (hb : SdE Xs K b fb) (hs : PlainIx b) : SdE Xs K (.Subscript a b pos) (op2 φ fa fb) := by
  obtain ⟨ta, pa, wa⟩ := ha
  obtain ⟨tb, pb, wb⟩ := hb
  exact ⟨_, fun i => pe_ix (hr i) (pa i) (pb i) hs, wa.op2 wb h⟩
theorem sd_callB {id : String} {x : Str} {p pos : Pos} {e : Expr} {es : List Expr} {r : List V → Hp → VK → Prop} {φ : List D → Option RV} {f : EA} (hc : ∀ i, CallR (Xs i) (.builtin id) r) (h : RuleL K r φ) (hg : ∀ i, Gl (Xs i) x) (hm : ∀ i, (Xs i).mg x = none) (hv : bootBuiltins x = some (.builtin id)) (ha : SdA Xs K (e :: es) f)
    (hn : x ≠ "__name__" := by decide) (hdb : (x == ("__debug__" : Str)) = false := by decide)
    (he : ∀ i, starEach (e :: es) (Xs i).env = (false, eval e (Xs i).env) :: starEach es (Xs i).env := by intro _; rfl) (hpl : ∀ i, (backTo pos (starEach es (Xs i).env)).any (·.1) = false := by intro _; rfl) : SdE Xs K (.Call (.Name x p) (e :: es) [] pos) (opL φ f) := by
  obtain ⟨ta, pa, wa⟩ := ha
  exact ⟨_, fun i => pe_callB (hc i) (hg i) (hm i) hv (pa i) hn hdb (he i) (hpl i), wa.opL h⟩
theorem sd_callTy {T : String} {x : Str} {p pos : Pos} {e : Expr} {es : List Expr} {r : List V → Hp → VK → Prop} {φ : List D → Option RV} {f : EA} (hc : ∀ i, CallR (Xs i) (.type T) r) (h : RuleL K r φ) (hg : ∀ i, Gl (Xs i) x) (hm : ∀ i, (Xs i).mg x = none) (hv : bootBuiltins x = some (.type T)) (ha : SdA Xs K (e :: es) f)
    (hn : x ≠ "__name__" := by decide) (hdb : (x == ("__debug__" : Str)) = false := by decide)
    (he : ∀ i, starEach (e :: es) (Xs i).env = (false, eval e (Xs i).env) :: starEach es (Xs i).env := by intro _; rfl) (hpl : ∀ i, (backTo pos (starEach es (Xs i).env)).any (·.1) = false := by intro _; rfl) : SdE Xs K (.Call (.Name x p) (e :: es) [] pos) (opL φ f) := by
  obtain ⟨ta, pa, wa⟩ := ha
  exact ⟨_, fun i => pe_callTy (hc i) (hg i) (hm i) hv (pa i) hn hdb (he i) (hpl i), wa.opL h⟩
end
end Sd

namespace Sd
open PySem PySem.Spec L2
/-! ### Sd3: rules of values on data -/
structure Fam {ι : Type} (Xs : ι → Cx) (P : Program) (w : World) (K : PySem.W.Frag) (mg : Str → Option Value) (base : Heap) (k : Nat) : Prop where
  prog : ∀ i, (Xs i).prog = P
  w : ∀ i, (Xs i).w = w
  K : ∀ i, (Xs i).K = K
  mg : ∀ i, (Xs i).mg = mg
  base : ∀ i, (Xs i).base = base
  calm : ∀ i, (Xs i).calm = true
  nd : ∀ i, (Xs i).N.Nodup
  room : ∀ i, Room k (Xs i).A
theorem OpR.or {X : Cx} {f : Value → Value → Sem Value} {r r' : R2} (h : OpR X f r) (h' : OpR X f r') : OpR X f (fun x y H Q => r x y H Q ∨ r' x y H Q) := by
  intro pins s σ H x y v u Q I rx ry q
  rcases q with q | q
  · exact h pins s σ H x y v u Q I rx ry q
  · exact h' pins s σ H x y v u Q I rx ry q
theorem CallR.or {X : Cx} {f : Value} {r r' : List V → Hp → VK → Prop} (h : CallR X f r) (h' : CallR X f r') : CallR X f (fun x H Q => r x H Q ∨ r' x H Q) := by
  intro pins s σ H x v Q I rx q
  rcases q with q | q
  · exact h pins s σ H x v Q I rx q
  · exact h' pins s σ H x v Q I rx q
/-- a fresh list at any place -/
theorem new_list {K : PySem.W.Frag} {F H : Hp} {vs : List V} {ds : List D} {Q : VK} (hs : Sub F H) (r : RpAll K F vs ds) (q : ∀ v F' H', Step NoZ F H F' H' → Sub F' H' → RepV K H F' H' v (.f ds) → Q v H') : ∀ p, H p = none → Q (.ref p) (upd H p (.lst vs)) := fun p hp => by
  have hf := hs.none hp
  exact q _ F _ (.own hp) (hs.upd hf) ⟨p, vs, rfl, hp, upd_same, hf, r⟩
theorem new_tup {K : PySem.W.Frag} {F H : Hp} {vs : List V} {ds : List D} {Q : VK} (hs : Sub F H) (r : RpAll K F vs ds) (q : ∀ v F' H', Step NoZ F H F' H' → Sub F' H' → RepV K H F' H' v (.d (.tuple ds)) → Q v H') : ∀ p, H p = none → Q (.ref p) (upd H p (.tup vs)) := fun p hp => by
  have hf := hs.none hp
  have le : Sub F (upd F p (.tup vs)) := (Step.new (S := NoZ) (o := .tup vs) hs hp).sub
  exact q _ _ _ (.new hs hp) hs.upd2 (.tup upd_same (le.rpAll r))
theorem back {K : PySem.W.Frag} {F H : Hp} {v : V} {d : D} {Q : VK} (hs : Sub F H) (r : Rp K F v d) (q : ∀ v F' H', Step NoZ F H F' H' → Sub F' H' → RepV K H F' H' v (.d d) → Q v H') : Q v H := q v F H .refl hs r

/-! ints -/
def φI (g : Int → Int → D) : D → D → Option RV
  | .int i, .int j => some (.d (g i j))
  | _, _ => none
def φIc (c : Int → Int → Bool) (g : Int → Int → Int) : D → D → Option RV
  | .int i, .int j => if c i j = true then some (.d (.int (g i j))) else none
  | _, _ => none
theorem ru_int {K : PySem.W.Frag} {g : Int → Int → Int} : Rule2 K (rI0 fun i j => .int (g i j)) (φI fun i j => .int (g i j)) := fun F H Z x y d e rv Q hs rx ry h q => by
  unfold φI at h
  split at h
  · cases h
    exact ⟨_, _, rx.int, ry.int, q _ F H .refl hs (.int _)⟩
  · cases h
theorem ru_ib {K : PySem.W.Frag} {g : Int → Int → Bool} : Rule2 K (rI0 fun i j => .bl (g i j)) (φI fun i j => .bool (g i j)) := fun F H Z x y d e rv Q hs rx ry h q => by
  unfold φI at h
  split at h
  · cases h
    exact ⟨_, _, rx.int, ry.int, q _ F H .refl hs (.bl _)⟩
  · cases h
theorem ru_intC {K : PySem.W.Frag} {C : Int → Int → Prop} {c : Int → Int → Bool} {g : Int → Int → Int} (hc : ∀ i j, c i j = true → C i j) : Rule2 K (rI C fun i j => .int (g i j)) (φIc c g) := fun F H Z x y d e rv Q hs rx ry h q => by
  unfold φIc at h
  split at h
  · split at h
    · rename_i hcc
      cases h
      exact ⟨_, _, rx.int, ry.int, hc _ _ hcc, q _ F H .refl hs (.int _)⟩
    · cases h
  · cases h
def cPos (_ j : Int) : Bool := decide (0 < j)
def cDiv (_ j : Int) : Bool := decide (0 < j) && decide (j < 1073741824)
def cSh (i j : Int) : Bool := decide (0 ≤ j) && decide (j ≤ 1000000) && decide (i.natAbs < 2 ^ 64)
def cNN (_ j : Int) : Bool := decide (0 ≤ j)
def cMul (i j : Int) : Bool := (decide (-(2 ^ 64) < i) && decide (i < 2 ^ 64)) || (decide (-(2 ^ 64) < j) && decide (j < 2 ^ 64))
theorem cDiv_ok (i j : Int) (h : cDiv i j = true) : CDiv i j := by
  simp only [cDiv, Bool.and_eq_true, decide_eq_true_eq] at h
  exact h
theorem cSh_ok (i j : Int) (h : cSh i j = true) : CPow i j := by
  simp only [cSh, Bool.and_eq_true, decide_eq_true_eq] at h
  exact ⟨h.1.1, h.1.2, h.2⟩
theorem cMul_ok (i j : Int) (h : cMul i j = true) : CMul i j := by
  simp only [cMul, Bool.and_eq_true, Bool.or_eq_true, decide_eq_true_eq] at h
  exact h
def φU (g : Int → Int) : D → Option RV
  | .int i => some (.d (.int (g i)))
  | _ => none
theorem ru_un {K : PySem.W.Frag} {g : Int → Int} : Rule1 K (rU fun i => .int (g i)) (φU g) := fun F H Z x d rv Q hs rx h q => by
  unfold φU at h
  split at h
  · cases h
    exact ⟨_, rx.int, q _ F H .refl hs (.int _)⟩
  · cases h
/-! + and * -/
def φAdd : D → D → Option RV
  | .int i, .int j => some (.d (.int (i + j)))
  | .list xs, .list ys => if xs.length + ys.length ≤ sizeLine then some (.f (xs ++ ys)) else none
  | .tuple xs, .tuple ys => if xs.length + ys.length ≤ sizeLine then some (.d (.tuple (xs ++ ys))) else none
  | .str x, .str y => if x.length + y.length ≤ sizeLine then some (.d (.str (x ++ y))) else none
  | _, _ => none
def rAddD (K : PySem.W.Frag) : R2 := fun x y H Q => (rI0 (fun i j => .int (i + j)) x y H Q ∨ rCat x y H Q) ∨ (rCatA K x y H Q ∨ (∃ i j, x = .str i ∧ y = .str j ∧ i.length + j.length ≤ sizeLine ∧ Q (.str (i ++ j)) H))
theorem op_addD {X : Cx} : OpR X (binaryOp .Add) (rAddD X.K) := (op_add.or op_cat).or (op_catA.or op_add_str)
theorem ru_add {K : PySem.W.Frag} : Rule2 K (rAddD K) φAdd := fun F H Z x y d e rv Q hs rx ry h q => by
  unfold φAdd at h
  split at h
  · cases h
    exact .inl (.inl ⟨_, _, rx.int, ry.int, q _ F H .refl hs (.int _)⟩)
  · split at h
    · rename_i hl
      cases h
      obtain ⟨p, vs, rfl, hp, r1⟩ := rx.list hs
      obtain ⟨p2, vs2, rfl, hp2, r2⟩ := ry.list hs
      exact .inl (.inr ⟨_, _, _, _, rfl, rfl, hp, hp2, by rw [r1.length, r2.length]; exact hl, new_list hs (r1.append r2) q⟩)
    · cases h
  · split at h
    · rename_i hl
      cases h
      obtain ⟨p, vs, rfl, hf, hp, r1⟩ := rx.tuple hs
      obtain ⟨p2, vs2, rfl, hf2, hp2, r2⟩ := ry.tuple hs
      refine .inr (.inl ⟨_, _, _, _, rfl, rfl, hp, hp2, by rw [r1.length, r2.length]; exact hl, fun e => ?_, fun _ e => ?_, fun _ _ => new_tup hs (r1.append r2) q⟩)
      · subst e
        cases r1
        exact back hs (.tup hf2 r2) q
      · subst e
        cases r2
        rw [List.append_nil] at q
        exact back hs (.tup hf r1) q
    · cases h
  · split at h
    · rename_i hl
      cases h
      exact .inr (.inr ⟨_, _, rx.str, ry.str, hl, q _ F H .refl hs (.str _)⟩)
    · cases h
  · cases h
def φMul : D → D → Option RV
  | .int i, .int j => if cMul i j = true then some (.d (.int (i * j))) else none
  | .list xs, .int k => if -(2 ^ 63) ≤ k ∧ k < 2 ^ 63 ∧ xs.length * k.toNat ≤ sizeLine then some (.f (List.replicate k.toNat xs).flatten) else none
  | .tuple xs, .int k => if xs ≠ [] ∧ 2 ≤ k ∧ k ≤ 1000 ∧ xs.length ≤ 1000 then some (.d (.tuple (List.replicate k.toNat xs).flatten)) else none
  | _, _ => none
def rMulD (K : PySem.W.Frag) : R2 := fun x y H Q => (rI CMul (fun i j => .int (i * j)) x y H Q ∨ rRep x y H Q) ∨ rRepT K x y H Q
theorem op_mulD {X : Cx} : OpR X (binaryOp .Mult) (rMulD X.K) := (op_mul.or op_rep).or op_repT
theorem RpAll.rep {K : PySem.W.Frag} {F : Hp} {vs : List V} {ds : List D} (r : RpAll K F vs ds) : ∀ n : Nat, RpAll K F (List.replicate n vs).flatten (List.replicate n ds).flatten
  | 0 => .nil
  | n + 1 => by
    rw [List.replicate_succ, List.replicate_succ, List.flatten_cons, List.flatten_cons]
    exact r.append (RpAll.rep r n)
theorem RpAll.nil_iff {K : PySem.W.Frag} {F : Hp} {vs : List V} {ds : List D} (r : RpAll K F vs ds) : vs = [] ↔ ds = [] := by
  cases r with
  | nil => simp
  | cons _ _ => simp
theorem ru_mul {K : PySem.W.Frag} : Rule2 K (rMulD K) φMul := fun F H Z x y d e rv Q hs rx ry h q => by
  unfold φMul at h
  split at h
  · split at h
    · rename_i hc
      cases h
      exact .inl (.inl ⟨_, _, rx.int, ry.int, cMul_ok _ _ hc, q _ F H .refl hs (.int _)⟩)
    · cases h
  · split at h
    · rename_i hl
      cases h
      obtain ⟨p, vs, rfl, hp, r1⟩ := rx.list hs
      exact .inl (.inr ⟨_, _, _, rfl, ry.int, hp, hl.1, hl.2.1, by rw [r1.length]; exact hl.2.2, new_list hs (r1.rep _) q⟩)
    · cases h
  · split at h
    · rename_i hl
      cases h
      obtain ⟨p, vs, rfl, hf, hp, r1⟩ := rx.tuple hs
      exact .inr ⟨_, _, _, rfl, ry.int, hp, fun e => hl.1 (r1.nil_iff.mp e), hl.2.1, hl.2.2.1, by rw [r1.length]; exact hl.2.2.2, new_tup hs (r1.rep _) q⟩
    · cases h
  · cases h
/-! == and != -/
mutual
theorem Rp.dp {K : PySem.W.Frag} {F : Hp} : ∀ (d : PyData) (v : V), Rp K F v d → d.canLay0 = true → Dp K F v d
  | .none, _, r, _ => by cases r; exact .non
  | .bool _, _, r, _ => by cases r; exact .bl _
  | .int _, _, r, _ => by cases r; exact .int _
  | .str _, _, r, _ => by cases r; exact .str _
  | .list ds, _, r, h => by
    cases r with
    | lst e r => exact .lst (.of e) (RpAll.dp ds _ r (by simpa [PyData.canLay0] using h))
  | .tuple ds, _, r, h => by
    cases r with
    | tup e r => exact .tup (.of e) (RpAll.dp ds _ r (by simpa [PyData.canLay0] using h))
  | .dict _, _, _, h => by simp [PyData.canLay0] at h
theorem RpAll.dp {K : PySem.W.Frag} {F : Hp} : ∀ (ds : List PyData) (vs : List V), RpAll K F vs ds → PyData.canLayAll0 ds = true → DpAll K F vs ds
  | [], _, r, _ => by cases r; exact .nil
  | d :: ds, _, r, h => by
    cases r with
    | cons a b =>
      have h' : d.canLay0 = true ∧ PyData.canLayAll0 ds = true := by simpa [PyData.canLayAll0] using h
      exact .cons (Rp.dp d _ a h'.1) (RpAll.dp ds _ b h'.2)
end
theorem RpS.dp {K : PySem.W.Frag} {F H : Hp} {Z : Addr → Prop} {v : V} {d : D} (hs : Sub F H) (r : RpS K F H Z v d) (h : SeqAt.shaped d = true) : Dp K H v d := by
  have hl := SeqAt.canLay_of_shaped h
  cases r with
  | sh r => exact (hs.rp r).dp d v hl
  | ol hp _ r => exact .lst (.of hp) ((hs.rpAll r).dp _ _ (by simpa [PyData.canLay0] using hl))
  | od _ _ _ => simp [PyData.canLay0] at hl
def φEq (d e : D) : Option RV := if (SeqAt.shaped d && SeqAt.shaped e) = true then some (.d (.bool (PyData.eqv d e))) else none
def φNe (d e : D) : Option RV := if (SeqAt.shaped d && SeqAt.shaped e) = true then some (.d (.bool (!PyData.eqv d e))) else none
theorem ru_eq {K : PySem.W.Frag} : Rule2 K (rEqD K) φEq := fun F H Z x y d e rv Q hs rx ry h q => by
  unfold φEq at h
  split at h
  · rename_i hc
    rw [Bool.and_eq_true] at hc
    cases h
    exact ⟨d, e, rx.dp hs hc.1, ry.dp hs hc.2, hc.1, hc.2, q _ F H .refl hs (.bl _)⟩
  · cases h
theorem ru_ne {K : PySem.W.Frag} : Rule2 K (rNeD K) φNe := fun F H Z x y d e rv Q hs rx ry h q => by
  unfold φNe at h
  split at h
  · rename_i hc
    rw [Bool.and_eq_true] at hc
    cases h
    exact ⟨d, e, rx.dp hs hc.1, ry.dp hs hc.2, hc.1, hc.2, q _ F H .refl hs (.bl _)⟩
  · cases h
/-! is None -/
def isNonD : D → Bool
  | .none => true
  | _ => false
def φIsN (d : D) : D → Option RV
  | .none => some (.d (.bool (isNonD d)))
  | _ => none
def φIsNotN (d : D) : D → Option RV
  | .none => some (.d (.bool (!isNonD d)))
  | _ => none
theorem RpS.isNon {K : PySem.W.Frag} {F H : Hp} {Z : Addr → Prop} {v : V} {d : D} (r : RpS K F H Z v d) : decide (v = V.non) = isNonD d := by
  cases r with
  | sh r => cases r <;> simp [isNonD]
  | ol _ _ _ => simp [isNonD]
  | od _ _ _ => simp [isNonD]
theorem ru_isN {K : PySem.W.Frag} : Rule2 K (fun x y H Q => y = .non ∧ Q (.bl (decide (x = .non))) H) φIsN := fun F H Z x y d e rv Q hs rx ry h q => by
  unfold φIsN at h
  split at h
  · cases h
    refine ⟨ry.non, ?_⟩
    rw [rx.isNon]
    exact q _ F H .refl hs (.bl _)
  · cases h
theorem ru_isNotN {K : PySem.W.Frag} : Rule2 K (fun x y H Q => y = .non ∧ Q (.bl (!decide (x = .non))) H) φIsNotN := fun F H Z x y d e rv Q hs rx ry h q => by
  unfold φIsNotN at h
  split at h
  · cases h
    refine ⟨ry.non, ?_⟩
    rw [rx.isNon]
    exact q _ F H .refl hs (.bl _)
  · cases h
/-! items -/
def φIx : D → D → Option RV
  | .list xs, .int i => (atI xs i).map .d
  | .tuple xs, .int i => (atI xs i).map .d
  | _, _ => none
theorem RpAll.atI {K : PySem.W.Frag} {F : Hp} {vs : List V} {ds : List D} {i : Int} {d : D} (r : RpAll K F vs ds) (h : L2.atI ds i = some d) : ∃ v, L2.atI vs i = some v ∧ Rp K F v d := by
  unfold L2.atI at h ⊢
  rw [r.length]
  cases e : ixN ds.length i with
  | none => rw [e] at h; cases h
  | some j =>
    rw [e] at h
    exact r.get h
theorem ru_ix {K : PySem.W.Frag} : Rule2 K (rIx K) φIx := fun F H Z x y d e rv Q hs rx ry h q => by
  unfold φIx at h
  split at h
  · obtain ⟨d', e1, e2⟩ := map_some h
    cases e2
    obtain ⟨p, vs, rfl, hp, r1⟩ := rx.list hs
    obtain ⟨v, e3, rv⟩ := r1.atI e1
    exact .inl ⟨_, _, _, _, rfl, ry.int, .of hp, e3, back hs rv q⟩
  · obtain ⟨d', e1, e2⟩ := map_some h
    cases e2
    obtain ⟨p, vs, rfl, hf, hp, r1⟩ := rx.tuple hs
    obtain ⟨v, e3, rv⟩ := r1.atI e1
    exact .inr (.inl ⟨_, _, _, _, rfl, ry.int, hp, e3, back hs rv q⟩)
  · cases h
/-! in, not in: lists of any data; tuples of flat data -/
def flatD : D → Bool
  | .none => true
  | .bool _ => true
  | .int _ => true
  | .str _ => true
  | _ => false
end Sd

namespace Sd
open PySem PySem.Spec L2
/-! ### Sd4: in, dicts read, items, slices, calls of built-ins -/
/-- what the dict at a holds at y, also where the empty dict is of the other kind -/
def DGet2 (H : Hp) (a : Addr) (y : V) (r : Option V) : Prop :=
  DGet H a y r ∨ (Rd H a (.dT []) ∧ (∃ k, y = kV k) ∧ r = none) ∨ (Rd H a (.dK []) ∧ (∃ (k : List Key) (b : Addr), y = .ref b ∧ H b = some (.tup (k.map kV))) ∧ r = none)
section
variable {X : Cx} {pins : List (Addr × Obj)} {σ : L2.St} {H : Hp} {s : Shared} {a : Addr} {y : V} {u : Value} {o : Option V} {A : Around} {E : Value → Shared → Prop}
theorem emptyK (I : Inv X pins σ H s) (e : Rd H a (.dT [])) : (a == sysModules) = false ∧ s.heap.DictOf (mixKind X.prog X.w) a [] := by
  obtain ⟨z, hd, xs, rel, ob, es, ep, h1, h2, h3, h4, h5⟩ := dt_rd I.hok e
  cases rel
  have e0 : es = #[] := by
    have : es.toList = [] := h4
    simpa using this
  subst e0
  exact ⟨hd, ob, #[], ep, h1, h2, h3, fun _ he => by simp at he, PySem.Pairs.nil, List.nodup_nil⟩
theorem emptyT (I : Inv X pins σ H s) (e : Rd H a (.dK [])) : (a == sysModules) = false ∧ s.heap.DictOfH (tupleKind (mixKind X.prog X.w)) a [] := by
  obtain ⟨z, hd, vs, rel, ob, es, ep, h1, h2, h3, h4, h5, h6⟩ := dk_rd I.hok e
  cases rel
  have e0 : es.toList = [] := by
    cases h5' : es.toList with
    | nil => rfl
    | cons x r =>
      rw [h5'] at h5
      cases h5
  exact ⟨hd, ob, es, ep, h1, h2, h3, e0, fun _ z => by simp at z, List.nodup_nil⟩
theorem d_in2 {Q : Value → Shared → Prop} (hu : A.units + 1 < cLine) (I : Inv X pins σ H s) (g : DGet2 H a y o) (ry : RelV y u) (h : ∀ s', Inv X pins σ H s' → Q (.bool o.isSome) s') :
    wpAny (model X.prog X.w) A (compareOp .In u (.ref a)) Q E s := by
  rcases g with g | ⟨e, ⟨k, rfl⟩, rfl⟩ | ⟨e, ⟨k, b, rfl, eb⟩, rfl⟩
  · exact d_in hu I g ry h
  · obtain ⟨hd, dd⟩ := emptyK I e
    exact wpAny_in_of (kV_is ry) hd dd.mapOf (h _ (I.tok _))
  · cases (show u = Value.ref b from ry)
    obtain ⟨hd, dd⟩ := emptyT I e
    exact wpAny_in_heap (tupleKind_room_in1 hu) (key_of I.hok eb) hd dd (h _ (I.tok _))
theorem d_notIn2 {Q : Value → Shared → Prop} (hu : A.units + 1 < cLine) (I : Inv X pins σ H s) (g : DGet2 H a y o) (ry : RelV y u) (h : ∀ s', Inv X pins σ H s' → Q (.bool (!o.isSome)) s') :
    wpAny (model X.prog X.w) A (compareOp .NotIn u (.ref a)) Q E s := by
  rcases g with g | ⟨e, ⟨k, rfl⟩, rfl⟩ | ⟨e, ⟨k, b, rfl, eb⟩, rfl⟩
  · exact d_notIn hu I g ry h
  · obtain ⟨hd, dd⟩ := emptyK I e
    exact wpAny_notIn_of (kV_is ry) hd dd.mapOf (h _ (I.tok _))
  · cases (show u = Value.ref b from ry)
    obtain ⟨hd, dd⟩ := emptyT I e
    exact PyProof.Rows.wpAny_notIn_heap (tupleKind_room_in1 hu) (key_of I.hok eb) hd dd (h _ (I.tok _))
end

section
variable {X : Cx}
/-- x in a list, a tuple, a dict -/
def rInX (K : PySem.W.Frag) : R2 := fun x y H Q => (∃ d ds, Dp K H x d ∧ (Dp K H y (.list ds) ∨ Dp K H y (.tuple ds)) ∧ SeqAt.shaped d = true ∧ SeqAt.shaped (.list ds) = true ∧ Q (.bl (ds.any fun z => PyData.eqv z d)) H) ∨
  ∃ a o, y = .ref a ∧ DGet2 H a x o ∧ Q (.bl o.isSome) H
def rNotInX (K : PySem.W.Frag) : R2 := fun x y H Q => (∃ d ds, Dp K H x d ∧ (Dp K H y (.list ds) ∨ Dp K H y (.tuple ds)) ∧ SeqAt.shaped d = true ∧ SeqAt.shaped (.list ds) = true ∧ Q (.bl (!ds.any fun z => PyData.eqv z d)) H) ∨
  ∃ a o, y = .ref a ∧ DGet2 H a x o ∧ Q (.bl (!o.isSome)) H
theorem op_inX (hu : X.A.units + 65 < cLine) : OpR X (compareOp .In) (rInX X.K) := by
  intro pins s σ H x y v u Q I rx ry h
  rcases h with ⟨d, ds, hd, he | he, sd, se, q⟩ | ⟨a, o, rfl, g, q⟩
  · exact op_inD hu pins s σ H x y v u Q I rx ry ⟨d, ds, hd, he, sd, se, q⟩
  · obtain ⟨as, r1⟩ := Dp.reads I d x v hd rx
    obtain ⟨bs, r2⟩ := Dp.reads I (.tuple ds) y u he ry
    exact SeqAt.in_tuple_reads r2 r1 (SeqAt.canLay_of_shaped se) (SeqAt.canLay_of_shaped sd) (PyProof.Rows.room_in_shaped sd hu) ⟨.bl _, H, I, rfl, q⟩
  · obtain rfl : u = Value.ref a := ry
    exact d_in2 (by omega) I g rx fun s' I' => ⟨.bl _, H, I', rfl, q⟩
theorem op_notInX (hu : X.A.units + 65 < cLine) : OpR X (compareOp .NotIn) (rNotInX X.K) := by
  intro pins s σ H x y v u Q I rx ry h
  rcases h with ⟨d, ds, hd, he | he, sd, se, q⟩ | ⟨a, o, rfl, g, q⟩
  · exact op_notInD hu pins s σ H x y v u Q I rx ry ⟨d, ds, hd, he, sd, se, q⟩
  · obtain ⟨as, r1⟩ := Dp.reads I d x v hd rx
    obtain ⟨bs, r2⟩ := Dp.reads I (.tuple ds) y u he ry
    exact SeqAt.notIn_tuple_reads r2 r1 (SeqAt.canLay_of_shaped se) (SeqAt.canLay_of_shaped sd) (PyProof.Rows.room_in_shaped sd hu) ⟨.bl _, H, I, rfl, q⟩
  · obtain rfl : u = Value.ref a := ry
    exact d_notIn2 (by omega) I g rx fun s' I' => ⟨.bl _, H, I', rfl, q⟩
/-- d[k] as a subscript by values -/
def rIxD : R2 := fun x y H Q => ∃ a v, x = .ref a ∧ DGet H a y (some v) ∧ Q v H
theorem ix_dict (hu : X.A.units + 1 < cLine) : IxR X rIxD := by
  intro value slice pins s σ H x y v u Q I rx ry h hs
  obtain ⟨a, w, rfl, g, q⟩ := h
  obtain rfl : v = Value.ref a := rx
  refine PyProof.Rows.tail_any (ops := [.ref a, u]) (dict_typeIs I g) PySem.F.slot_dict_getitem.lookup (d_getItem hu I g ry fun w' s3 I3 rw' => ⟨w, H, I3, rw', q⟩) hs
end
/-! dict keys as data -/
def isK : D → Bool
  | .int _ => true
  | .str _ => true
  | _ => false
def isT : D → Bool
  | .tuple xs => xs.all isK
  | _ => false
def toK : D → Key
  | .int i => .inl i
  | .str x => .inr x
  | _ => .inl 0
def toT : D → List Key
  | .tuple xs => xs.map toK
  | _ => []
theorem keyD_toK {d : D} (h : isK d = true) : keyD (toK d) = d := by
  cases d <;> first | rfl | cases h
theorem isK_keyD (k : Key) : isK (keyD k) = true := by cases k <;> rfl
theorem toK_keyD (k : Key) : toK (keyD k) = k := by cases k <;> rfl
theorem keyTD_toT {d : D} (h : isT d = true) : keyTD (toT d) = d := by
  cases d with
  | tuple xs =>
    have h : xs.all isK = true := h
    show PyData.tuple ((xs.map toK).map keyD) = .tuple xs
    congr 1
    rw [List.map_map]
    conv => rhs; rw [← List.map_id xs]
    refine List.map_congr_left fun x hx => ?_
    exact keyD_toK (List.all_eq_true.mp h x hx)
  | _ => cases h
theorem isT_keyTD (k : List Key) : isT (keyTD k) = true := by
  show (k.map keyD).all isK = true
  rw [List.all_eq_true]
  intro x hx
  obtain ⟨y, _, rfl⟩ := List.mem_map.mp hx
  exact isK_keyD y
theorem toT_keyTD (k : List Key) : toT (keyTD k) = k := by
  show (k.map keyD).map toK = k
  rw [List.map_map]
  conv => rhs; rw [← List.map_id k]
  exact List.map_congr_left fun x _ => toK_keyD x
theorem isK_isT {d : D} (h : isK d = true) : isT d = false := by
  cases d <;> first | rfl | cases h
theorem eqv_keyD (a b : Key) : PyData.eqv (keyD a) (keyD b) = decide (a = b) := by
  cases a with
  | inl i =>
    cases b with
    | inl j =>
      show PyData.eqv (.int i) (.int j) = _
      rw [PyData.eqv, key_ll]
    | inr y =>
      show PyData.eqv (.int i) (.str y) = _
      rw [PyData.eqv, key_lr]
  | inr x =>
    cases b with
    | inl j =>
      show PyData.eqv (.str x) (.int j) = _
      rw [PyData.eqv, key_rl]
    | inr y =>
      show PyData.eqv (.str x) (.str y) = _
      rw [PyData.eqv, key_rr]
      by_cases e : x = y
      · subst e; simp
      · rw [decide_eq_false e]
        exact beq_eq_false_iff_ne.mpr e
theorem eqv_keyDs : ∀ a b : List Key, PyData.eqvAll (a.map keyD) (b.map keyD) = decide (a = b)
  | [], [] => by simp [PyData.eqvAll]
  | [], _ :: _ => by simp [PyData.eqvAll]
  | _ :: _, [] => by simp [PyData.eqvAll]
  | x :: a, y :: b => by
    rw [List.map_cons, List.map_cons, PyData.eqvAll, eqv_keyD, eqv_keyDs a b]
    simp only [List.cons.injEq, Bool.decide_and]
theorem eqv_keyTD (a b : List Key) : PyData.eqv (keyTD a) (keyTD b) = decide (a = b) := by
  show PyData.eqv (.tuple _) (.tuple _) = _
  rw [PyData.eqv]
  exact eqv_keyDs a b
/-- what es holds at k -/
def dlook (es : List (D × D)) (k : D) : Option D := (es.find? fun p => PyData.eqv p.1 k).map (·.2)
def dput (es : List (D × D)) (k v : D) : List (D × D) := if (es.any fun p => PyData.eqv p.1 k) = true then es.map (fun p => if PyData.eqv p.1 k = true then (p.1, v) else p) else es ++ [(k, v)]
def ddrop (es : List (D × D)) (k : D) : List (D × D) := es.filter fun p => !PyData.eqv p.1 k
/-- the keys of es and k are of one kind -/
def okK (es : List (D × D)) (k : D) : Bool := (isK k && es.all fun p => isK p.1) || (isT k && es.all fun p => isT p.1)
theorem look_gen {κ : Type} [DecidableEq κ] {kd : κ → D} (he : ∀ a b, PyData.eqv (kd a) (kd b) = decide (a = b)) {K : PySem.W.Frag} {F : Hp} (k : κ) : ∀ (kvs : List (κ × V)) (ds : List D), RpAll K F (kvs.map (·.2)) ds →
    (match dlook ((kvs.map fun p => kd p.1).zip ds) (kd k) with | some d => ∃ v, valV kvs k = some v ∧ Rp K F v d | none => valV kvs k = none)
  | [], ds, r => by
    cases r
    exact valV_nil
  | p :: kvs, ds, r => by
    cases r with
    | cons r1 r2 =>
      rename_i d ds
      have ih := look_gen he k kvs ds r2
      unfold dlook at ih ⊢
      rw [List.map_cons, List.zip_cons_cons, List.find?_cons]
      simp only [he]
      by_cases e : p.1 = k
      · simp only [decide_eq_true e, Option.map_some]
        exact ⟨_, valV_pos e, r1⟩
      · simp only [decide_eq_false e]
        rw [valV_neg e]
        exact ih
theorem keysV {K : PySem.W.Frag} {F : Hp} : ∀ (zs : List D) (xs : List V), RpAll K F xs zs → zs.all isK = true → xs = (zs.map toK).map kV
  | [], _, q, _ => by cases q; rfl
  | z :: zs, _, q, hk => by
    cases q with
    | cons q1 q2 =>
      rw [List.all_cons, Bool.and_eq_true] at hk
      rw [List.map_cons, List.map_cons, ← keysV zs _ q2 hk.2]
      congr 1
      have h1 := hk.1
      cases q1 <;> first | rfl | cases h1
theorem DicO.get {K : PySem.W.Frag} {F H : Hp} {a : Addr} {ks : List D} {vs : List V} {ds : List D} {k : D} {y : V} (hs : Sub F H) (h : DicO H a ks vs) (r : RpAll K F vs ds) (hk : okK (ks.zip ds) k = true) (ry : Rp K F y k) :
    match dlook (ks.zip ds) k with | some d => ∃ v, DGet H a y (some v) ∧ Rp K F v d | none => DGet2 H a y none := by
  have rK : ∀ {k}, isK k = true → Rp K F y k → y = kV (toK k) := fun {k} hk ry => by
    cases ry <;> first | rfl | cases hk
  have rT : ∀ {k}, isT k = true → Rp K F y k → ∃ b, y = .ref b ∧ H b = some (.tup ((toT k).map kV)) := fun {k} hk ry => by
    cases ry <;> first | cases hk | skip
    rename_i b xs zs e q
    have hk : zs.all isK = true := hk
    refine ⟨b, rfl, ?_⟩
    have ex : xs = ((toT (.tuple zs)).map kV) := by
      show xs = ((zs.map toK).map kV)
      exact keysV zs xs q hk
    rw [← ex]
    exact hs.tup e
  unfold okK at hk
  rw [Bool.or_eq_true, Bool.and_eq_true, Bool.and_eq_true] at hk
  have hlen := r.length
  rcases h with ⟨kvs, hr, rfl, rfl⟩ | ⟨kvs, hr, rfl, rfl⟩
  · rcases hk with ⟨k1, k2⟩ | ⟨k1, k2⟩
    · have q := look_gen (kd := keyD) eqv_keyD (toK k) kvs ds r
      rw [keyD_toK k1] at q
      have ey := rK k1 ry
      revert q
      cases dlook ((kvs.map fun p => keyD p.1).zip ds) k with
      | some d => exact fun ⟨v, e, rv⟩ => ⟨v, .inl ⟨kvs, toK k, hr, ey, e.symm⟩, rv⟩
      | none => exact fun e => .inl (.inl ⟨kvs, toK k, hr, ey, e.symm⟩)
    · have e0 : kvs = [] := by
        cases kvs with
        | nil => rfl
        | cons p r' =>
          cases r with
          | cons _ _ =>
            rw [List.map_cons, List.zip_cons_cons, List.all_cons, Bool.and_eq_true] at k2
            have := isK_isT (isK_keyD p.1)
            rw [k2.1] at this
            cases this
      subst e0
      obtain ⟨b, e1, e2⟩ := rT k1 ry
      exact .inr (.inr ⟨hr, ⟨_, b, e1, e2⟩, rfl⟩)
  · rcases hk with ⟨k1, k2⟩ | ⟨k1, k2⟩
    · have e0 : kvs = [] := by
        cases kvs with
        | nil => rfl
        | cons p r' =>
          cases r with
          | cons _ _ =>
            rw [List.map_cons, List.zip_cons_cons, List.all_cons, Bool.and_eq_true] at k2
            have := isK_isT k2.1
            have q := isT_keyTD p.1
            rw [q] at this
            cases this
      subst e0
      exact .inr (.inl ⟨hr, ⟨_, rK k1 ry⟩, rfl⟩)
    · have q := look_gen (kd := keyTD) eqv_keyTD (toT k) kvs ds r
      rw [keyTD_toT k1] at q
      obtain ⟨b, e1, e2⟩ := rT k1 ry
      revert q
      cases dlook ((kvs.map fun p => keyTD p.1).zip ds) k with
      | some d => exact fun ⟨v, e, rv⟩ => ⟨v, .inr ⟨kvs, toT k, b, hr, e1, e2, e.symm⟩, rv⟩
      | none => exact fun e => .inl (.inr ⟨kvs, toT k, b, hr, e1, e2, e.symm⟩)
end Sd

namespace Sd
open PySem PySem.Spec L2
/-! ### Sd5: more rules on data -/
def φIn (k c : D) : Option RV := match c with
  | .list ds => if (SeqAt.shaped k && SeqAt.shaped (.list ds)) = true then some (.d (.bool (ds.any fun z => PyData.eqv z k))) else none
  | .tuple ds => if (SeqAt.shaped k && SeqAt.shaped (.list ds)) = true then some (.d (.bool (ds.any fun z => PyData.eqv z k))) else none
  | .dict es => if okK es k = true then some (.d (.bool (dlook es k).isSome)) else none
  | _ => none
def φNotIn (k c : D) : Option RV := match c with
  | .list ds => if (SeqAt.shaped k && SeqAt.shaped (.list ds)) = true then some (.d (.bool (!ds.any fun z => PyData.eqv z k))) else none
  | .tuple ds => if (SeqAt.shaped k && SeqAt.shaped (.list ds)) = true then some (.d (.bool (!ds.any fun z => PyData.eqv z k))) else none
  | .dict es => if okK es k = true then some (.d (.bool (!(dlook es k).isSome))) else none
  | _ => none
theorem shaped_tl {ds : List D} : SeqAt.shaped (.tuple ds) = SeqAt.shaped (.list ds) := by
  have e1 : PyData.canLay0 (.tuple ds) = PyData.canLay0 (.list ds) := by rw [PyData.canLay0, PyData.canLay0]
  have e2 : PyData.depth (.tuple ds) = PyData.depth (.list ds) := by rw [PyData.depth, PyData.depth]
  unfold SeqAt.shaped
  rw [e1, e2]
section
variable {K : PySem.W.Frag} {F H : Hp} {Z : Addr → Prop} {x y : V} {k : D}
theorem okK_sh {es : List (D × D)} (r : RpS K F H Z x k) (h : okK es k = true) : Rp K F x k := by
  cases r with
  | sh r => exact r
  | ol _ _ _ => simp [okK, isK, isT] at h
  | od _ _ _ => simp [okK, isK, isT] at h
theorem in_dict {es : List (D × D)} (hs : Sub F H) (rx : RpS K F H Z x k) (ry : RpS K F H Z y (.dict es)) (h : okK es k = true) : ∃ a o, y = .ref a ∧ DGet2 H a x o ∧ o.isSome = (dlook es k).isSome := by
  obtain ⟨p, ks, vs, ds, rfl, hd, r, rfl⟩ := ry.dict hs
  have q := hd.get hs r h (okK_sh rx h)
  revert q
  cases dlook (ks.zip ds) k with
  | some d => exact fun ⟨v, g, _⟩ => ⟨p, _, rfl, .inl g, rfl⟩
  | none => exact fun g => ⟨p, _, rfl, g, rfl⟩
end
theorem ru_in {K : PySem.W.Frag} : Rule2 K (rInX K) φIn := fun F H Z x y d e rv Q hs rx ry h q => by
  unfold φIn at h
  split at h
  · split at h
    · rename_i ds hc
      rw [Bool.and_eq_true] at hc
      cases h
      exact .inl ⟨d, ds, rx.dp hs hc.1, .inl (ry.dp hs hc.2), hc.1, hc.2, q _ F H .refl hs (.bl _)⟩
    · cases h
  · split at h
    · rename_i ds hc
      rw [Bool.and_eq_true] at hc
      cases h
      exact .inl ⟨d, ds, rx.dp hs hc.1, .inr (ry.dp hs (by rw [shaped_tl]; exact hc.2)), hc.1, hc.2, q _ F H .refl hs (.bl _)⟩
    · cases h
  · split at h
    · rename_i es hc
      cases h
      obtain ⟨a, o, e1, g, e2⟩ := in_dict hs rx ry hc
      refine .inr ⟨a, o, e1, g, ?_⟩
      rw [e2]
      exact q _ F H .refl hs (.bl _)
    · cases h
  · cases h
theorem ru_notIn {K : PySem.W.Frag} : Rule2 K (rNotInX K) φNotIn := fun F H Z x y d e rv Q hs rx ry h q => by
  unfold φNotIn at h
  split at h
  · split at h
    · rename_i ds hc
      rw [Bool.and_eq_true] at hc
      cases h
      exact .inl ⟨d, ds, rx.dp hs hc.1, .inl (ry.dp hs hc.2), hc.1, hc.2, q _ F H .refl hs (.bl _)⟩
    · cases h
  · split at h
    · rename_i ds hc
      rw [Bool.and_eq_true] at hc
      cases h
      exact .inl ⟨d, ds, rx.dp hs hc.1, .inr (ry.dp hs (by rw [shaped_tl]; exact hc.2)), hc.1, hc.2, q _ F H .refl hs (.bl _)⟩
    · cases h
  · split at h
    · rename_i es hc
      cases h
      obtain ⟨a, o, e1, g, e2⟩ := in_dict hs rx ry hc
      refine .inr ⟨a, o, e1, g, ?_⟩
      rw [e2]
      exact q _ F H .refl hs (.bl _)
    · cases h
  · cases h
/-! items of anything -/
def φIxX : D → D → Option RV
  | .list xs, .int i => (L2.atI xs i).map .d
  | .tuple xs, .int i => (L2.atI xs i).map .d
  | .dict es, k => if okK es k = true then (dlook es k).map .d else none
  | _, _ => none
def rIxX (K : PySem.W.Frag) : R2 := fun x y H Q => rIx K x y H Q ∨ rIxD x y H Q
theorem ix_any {X : Cx} (hu : X.A.units + 1 < cLine) : IxR X (rIxX X.K) := ix_seq.or (ix_dict hu)
theorem ru_ixX {K : PySem.W.Frag} : Rule2 K (rIxX K) φIxX := fun F H Z x y d e rv Q hs rx ry h q => by
  unfold φIxX at h
  split at h
  · exact .inl (ru_ix F H Z x y _ _ rv Q hs rx ry h q)
  · exact .inl (ru_ix F H Z x y _ _ rv Q hs rx ry h q)
  · split at h
    · rename_i es _ hc
      obtain ⟨d', e1, e2⟩ := map_some h
      cases e2
      obtain ⟨p, ks, vs, ds, rfl, hd, r, rfl⟩ := rx.dict hs
      have g := hd.get hs r hc (okK_sh ry hc)
      rw [e1] at g
      obtain ⟨v, g, rv⟩ := g
      exact .inr ⟨_, _, rfl, g, back hs rv q⟩
    · cases h
  · cases h
/-! len -/
def φLen : List D → Option RV
  | [.list xs] => some (.d (.int xs.length))
  | [.tuple xs] => some (.d (.int xs.length))
  | [.str x] => if x.length ≤ sizeLine then some (.d (.int x.length)) else none
  | [.dict es] => some (.d (.int es.length))
  | _ => none
def rLenX (K : PySem.W.Frag) : List V → Hp → VK → Prop := fun xs H Q => ((∃ p ys, xs = [.ref p] ∧ (SqL K H p ys ∨ SqT K H p ys) ∧ Q (.int ys.length) H) ∨ (∃ z, xs = [.str z] ∧ z.length ≤ sizeLine ∧ Q (.int z.length) H)) ∨
  ((∃ a kvs, xs = [V.ref a] ∧ H a = some (.dK kvs) ∧ Q (.int kvs.length) H) ∨ rLenT xs H Q)
theorem call_lenX {X : Cx} : CallR X (.builtin "len") (rLenX X.K) := (call_len_seq.or call_len_str).or (call_lenD.or call_len_dT)
/-- the argument, one -/
theorem paired1 {K : PySem.W.Frag} {F H : Hp} {Z : Addr → Prop} {xs : List V} {d : D} (h : Paired (RpS K F H Z) xs [d]) : ∃ x, xs = [x] ∧ RpS K F H Z x d := by
  cases h with
  | cons a r =>
    cases r
    exact ⟨_, rfl, a⟩
theorem paired2 {K : PySem.W.Frag} {F H : Hp} {Z : Addr → Prop} {xs : List V} {d e : D} (h : Paired (RpS K F H Z) xs [d, e]) : ∃ x y, xs = [x, y] ∧ RpS K F H Z x d ∧ RpS K F H Z y e := by
  cases h with
  | cons a r =>
    cases r with
    | cons b r =>
      cases r
      exact ⟨_, _, rfl, a, b⟩
/-- len of a dict that may be locked: only unlocked ones are served -/
def φLen' : List D → Option RV
  | [.list xs] => some (.d (.int xs.length))
  | [.tuple xs] => some (.d (.int xs.length))
  | [.str x] => if x.length ≤ sizeLine then some (.d (.int x.length)) else none
  | _ => none
theorem ru_len {K : PySem.W.Frag} : RuleL K (rLenX K) φLen' := fun F H Z xs ds rv Q hs r h q => by
  unfold φLen' at h
  split at h
  · cases h
    obtain ⟨x, rfl, rx⟩ := paired1 r
    obtain ⟨p, vs, rfl, hp, r1⟩ := rx.list hs
    exact .inl (.inl ⟨p, vs, rfl, .inl (.of hp), by rw [r1.length]; exact q _ F H .refl hs (.int _)⟩)
  · cases h
    obtain ⟨x, rfl, rx⟩ := paired1 r
    obtain ⟨p, vs, rfl, hf, hp, r1⟩ := rx.tuple hs
    exact .inl (.inl ⟨p, vs, rfl, .inr hp, by rw [r1.length]; exact q _ F H .refl hs (.int _)⟩)
  · split at h
    · rename_i hl
      cases h
      obtain ⟨x, rfl, rx⟩ := paired1 r
      exact .inl (.inr ⟨_, by rw [rx.str], hl, q _ F H .refl hs (.int _)⟩)
    · cases h
  · cases h
/-! sum, min, max, any, all of lists -/
def toI : D → Option Int
  | .int i => some i
  | _ => none
def intsOf (ds : List D) : Option (List Int) := ds.mapM toI
def toB : D → Option Bool
  | .bool b => some b
  | _ => none
def boolsOf (ds : List D) : Option (List Bool) := ds.mapM toB
theorem mapM_map {α : Type} {f : D → Option α} {g : α → D} (hg : ∀ d a, f d = some a → d = g a) : ∀ {ds : List D} {ns : List α}, ds.mapM f = some ns → ds = ns.map g
  | [], ns, h => by
    have : ns = [] := by simpa using h.symm
    rw [this]
    rfl
  | d :: ds, ns, h => by
    rw [List.mapM_cons] at h
    obtain ⟨a, ha, h⟩ := bind_some (show (f d).bind (fun a => (ds.mapM f).bind fun r => some (a :: r)) = some ns from h)
    obtain ⟨r, hr, h⟩ := bind_some h
    cases h
    rw [List.map_cons, ← hg d a ha, ← mapM_map hg hr]
theorem intsOf_eq {ds : List D} {ns : List Int} (h : intsOf ds = some ns) : ds = ns.map PyData.int := mapM_map (fun d a e => by cases d <;> simp [toI] at e <;> rw [e]) h
theorem boolsOf_eq {ds : List D} {ns : List Bool} (h : boolsOf ds = some ns) : ds = ns.map PyData.bool := mapM_map (fun d a e => by cases d <;> simp [toB] at e <;> rw [e]) h
theorem RpAll.ints {K : PySem.W.Frag} {F : Hp} : ∀ {vs : List V} (ns : List Int), RpAll K F vs (ns.map PyData.int) → vs = ns.map V.int
  | _, [], r => by cases r; rfl
  | _, n :: ns, r => by
    cases r with
    | cons a b =>
      cases a
      rw [RpAll.ints ns b]
      rfl
theorem RpAll.bools {K : PySem.W.Frag} {F : Hp} : ∀ {vs : List V} (ns : List Bool), RpAll K F vs (ns.map PyData.bool) → vs = ns.map V.bl
  | _, [], r => by cases r; rfl
  | _, n :: ns, r => by
    cases r with
    | cons a b =>
      cases a
      rw [RpAll.bools ns b]
      rfl
def φSum : List D → Option RV
  | [.list xs] => (intsOf xs).map fun ns => .d (.int ns.sum)
  | _ => none
theorem ru_sum {K : PySem.W.Frag} : RuleL K (rSum K) φSum := fun F H Z xs ds rv Q hs r h q => by
  unfold φSum at h
  split at h
  · obtain ⟨ns, e1, e2⟩ := map_some h
    cases e2
    obtain ⟨x, rfl, rx⟩ := paired1 r
    obtain ⟨p, vs, rfl, hp, r1⟩ := rx.list hs
    rw [intsOf_eq e1] at r1
    rw [r1.ints] at hp
    exact ⟨p, ns, rfl, .of hp, q _ F H .refl hs (.int _)⟩
  · cases h
def lmax : List Int → Int
  | [] => 0
  | x :: xs => xs.foldl max x
def lmin : List Int → Int
  | [] => 0
  | x :: xs => xs.foldl min x
theorem foldl_max_ge : ∀ (xs : List Int) (a : Int), a ≤ xs.foldl max a ∧ (∀ y ∈ xs, y ≤ xs.foldl max a) ∧ (xs.foldl max a = a ∨ xs.foldl max a ∈ xs)
  | [], a => ⟨Int.le_refl _, (fun _ h => by cases h), .inl rfl⟩
  | x :: xs, a => by
    obtain ⟨h1, h2, h3⟩ := foldl_max_ge xs (max a x)
    rw [List.foldl_cons]
    refine ⟨by omega, fun y hy => ?_, ?_⟩
    · rcases List.mem_cons.mp hy with rfl | hy
      · omega
      · exact h2 y hy
    · rcases h3 with h3 | h3
      · rcases Int.le_total a x with c | c
        · right; rw [h3, Int.max_eq_right c]; exact List.mem_cons_self
        · left; rw [h3, Int.max_eq_left c]
      · right; exact List.mem_cons_of_mem _ h3
theorem foldl_min_le : ∀ (xs : List Int) (a : Int), xs.foldl min a ≤ a ∧ (∀ y ∈ xs, xs.foldl min a ≤ y) ∧ (xs.foldl min a = a ∨ xs.foldl min a ∈ xs)
  | [], a => ⟨Int.le_refl _, (fun _ h => by cases h), .inl rfl⟩
  | x :: xs, a => by
    obtain ⟨h1, h2, h3⟩ := foldl_min_le xs (min a x)
    rw [List.foldl_cons]
    refine ⟨by omega, fun y hy => ?_, ?_⟩
    · rcases List.mem_cons.mp hy with rfl | hy
      · omega
      · exact h2 y hy
    · rcases h3 with h3 | h3
      · rcases Int.le_total a x with c | c
        · left; rw [h3, Int.min_eq_left c]
        · right; rw [h3, Int.min_eq_right c]; exact List.mem_cons_self
      · right; exact List.mem_cons_of_mem _ h3
theorem lmax_spec {xs : List Int} (h : 0 < xs.length) : lmax xs ∈ xs ∧ ∀ y ∈ xs, y ≤ lmax xs := by
  cases xs with
  | nil => simp at h
  | cons x xs =>
    obtain ⟨h1, h2, h3⟩ := foldl_max_ge xs x
    refine ⟨?_, fun y hy => ?_⟩
    · rcases h3 with h3 | h3
      · show xs.foldl max x ∈ _
        rw [h3]
        exact List.mem_cons_self
      · exact List.mem_cons_of_mem _ h3
    · rcases List.mem_cons.mp hy with rfl | hy
      · exact h1
      · exact h2 y hy
theorem lmin_spec {xs : List Int} (h : 0 < xs.length) : lmin xs ∈ xs ∧ ∀ y ∈ xs, lmin xs ≤ y := by
  cases xs with
  | nil => simp at h
  | cons x xs =>
    obtain ⟨h1, h2, h3⟩ := foldl_min_le xs x
    refine ⟨?_, fun y hy => ?_⟩
    · rcases h3 with h3 | h3
      · show xs.foldl min x ∈ _
        rw [h3]
        exact List.mem_cons_self
      · exact List.mem_cons_of_mem _ h3
    · rcases List.mem_cons.mp hy with rfl | hy
      · exact h1
      · exact h2 y hy
def φMax : List D → Option RV
  | [.list xs] => (intsOf xs).bind fun ns => if 0 < ns.length then some (.d (.int (lmax ns))) else none
  | [.int i, .int j] => some (.d (.int (if j > i then j else i)))
  | _ => none
def φMin : List D → Option RV
  | [.list xs] => (intsOf xs).bind fun ns => if 0 < ns.length then some (.d (.int (lmin ns))) else none
  | [.int i, .int j] => some (.d (.int (if j < i then j else i)))
  | _ => none
def rMaxX (K : PySem.W.Frag) : List V → Hp → VK → Prop := fun xs H Q => rMax K xs H Q ∨ ∃ i j, xs = [.int i, .int j] ∧ Q (.int (if j > i then j else i)) H
def rMinX (K : PySem.W.Frag) : List V → Hp → VK → Prop := fun xs H Q => rMin K xs H Q ∨ ∃ i j, xs = [.int i, .int j] ∧ Q (.int (if j < i then j else i)) H
theorem call_maxX {X : Cx} (hc : X.calm = true) : CallR X (.builtin "max") (rMaxX X.K) := (cr_max hc).or (call_max2 hc)
theorem call_minX {X : Cx} (hc : X.calm = true) : CallR X (.builtin "min") (rMinX X.K) := (cr_min hc).or (call_min2 hc)
theorem ru_max {K : PySem.W.Frag} : RuleL K (rMaxX K) φMax := fun F H Z xs ds rv Q hs r h q => by
  unfold φMax at h
  split at h
  · obtain ⟨ns, e1, e2⟩ := bind_some h
    split at e2
    · rename_i hl
      cases e2
      obtain ⟨x, rfl, rx⟩ := paired1 r
      obtain ⟨p, vs, rfl, hp, r1⟩ := rx.list hs
      rw [intsOf_eq e1] at r1
      rw [r1.ints] at hp
      refine .inl ⟨p, ns, rfl, .of hp, hl, fun m hm hy => ?_⟩
      have e : m = lmax ns := Int.le_antisymm ((lmax_spec hl).2 m hm) (hy _ (lmax_spec hl).1)
      rw [e]
      exact q _ F H .refl hs (.int _)
    · cases e2
  · cases h
    obtain ⟨x, y, rfl, rx, ry⟩ := paired2 r
    exact .inr ⟨_, _, by rw [rx.int, ry.int], q _ F H .refl hs (.int _)⟩
  · cases h
theorem ru_min {K : PySem.W.Frag} : RuleL K (rMinX K) φMin := fun F H Z xs ds rv Q hs r h q => by
  unfold φMin at h
  split at h
  · obtain ⟨ns, e1, e2⟩ := bind_some h
    split at e2
    · rename_i hl
      cases e2
      obtain ⟨x, rfl, rx⟩ := paired1 r
      obtain ⟨p, vs, rfl, hp, r1⟩ := rx.list hs
      rw [intsOf_eq e1] at r1
      rw [r1.ints] at hp
      refine .inl ⟨p, ns, rfl, .of hp, hl, fun m hm hy => ?_⟩
      have e : m = lmin ns := Int.le_antisymm (hy _ (lmin_spec hl).1) ((lmin_spec hl).2 m hm)
      rw [e]
      exact q _ F H .refl hs (.int _)
    · cases e2
  · cases h
    obtain ⟨x, y, rfl, rx, ry⟩ := paired2 r
    exact .inr ⟨_, _, by rw [rx.int, ry.int], q _ F H .refl hs (.int _)⟩
  · cases h
def φAny : List D → Option RV
  | [.list xs] => (boolsOf xs).map fun bs => .d (.bool (bs.any id))
  | _ => none
def φAll : List D → Option RV
  | [.list xs] => (boolsOf xs).map fun bs => .d (.bool (bs.all id))
  | _ => none
theorem ru_any {K : PySem.W.Frag} : RuleL K (rAny K) φAny := fun F H Z xs ds rv Q hs r h q => by
  unfold φAny at h
  split at h
  · obtain ⟨ns, e1, e2⟩ := map_some h
    cases e2
    obtain ⟨x, rfl, rx⟩ := paired1 r
    obtain ⟨p, vs, rfl, hp, r1⟩ := rx.list hs
    rw [boolsOf_eq e1] at r1
    rw [r1.bools] at hp
    exact ⟨p, ns, rfl, .of hp, q _ F H .refl hs (.bl _)⟩
  · cases h
theorem ru_all {K : PySem.W.Frag} : RuleL K (rAll K) φAll := fun F H Z xs ds rv Q hs r h q => by
  unfold φAll at h
  split at h
  · obtain ⟨ns, e1, e2⟩ := map_some h
    cases e2
    obtain ⟨x, rfl, rx⟩ := paired1 r
    obtain ⟨p, vs, rfl, hp, r1⟩ := rx.list hs
    rw [boolsOf_eq e1] at r1
    rw [r1.bools] at hp
    exact ⟨p, ns, rfl, .of hp, q _ F H .refl hs (.bl _)⟩
  · cases h
def φAbs : List D → Option RV
  | [.int i] => some (.d (.int (if i < 0 then -i else i)))
  | _ => none
theorem ru_abs {K : PySem.W.Frag} : RuleL K (fun xs H Q => ∃ i, xs = [.int i] ∧ Q (.int (if i < 0 then -i else i)) H) φAbs := fun F H Z xs ds rv Q hs r h q => by
  unfold φAbs at h
  split at h
  · cases h
    obtain ⟨x, rfl, rx⟩ := paired1 r
    exact ⟨_, by rw [rx.int], q _ F H .refl hs (.int _)⟩
  · cases h
def φInt : List D → Option RV
  | [.int i] => some (.d (.int i))
  | [.bool k] => some (.d (.int (if k then 1 else 0)))
  | _ => none
theorem ru_intC1 {K : PySem.W.Frag} : RuleL K (fun xs H Q => (∃ i, xs = [.int i] ∧ Q (.int i) H) ∨ ∃ k, xs = [.bl k] ∧ Q (.int (if k then 1 else 0)) H) φInt := fun F H Z xs ds rv Q hs r h q => by
  unfold φInt at h
  split at h
  · cases h
    obtain ⟨x, rfl, rx⟩ := paired1 r
    exact .inl ⟨_, by rw [rx.int], q _ F H .refl hs (.int _)⟩
  · cases h
    obtain ⟨x, rfl, rx⟩ := paired1 r
    exact .inr ⟨_, by rw [rx.bool], q _ F H .refl hs (.int _)⟩
  · cases h
/-! tuple(x), list(x) of lists and tuples -/
def φTuple : List D → Option RV
  | [.list xs] => some (.d (.tuple xs))
  | [.tuple xs] => some (.d (.tuple xs))
  | _ => none
theorem ru_tuple {K : PySem.W.Frag} : RuleL K (fun xs H Q => ∃ p ys, xs = [.ref p] ∧ ((SqL K H p ys ∧ ∀ l, H l = none → Q (.ref l) (upd H l (.tup ys))) ∨ (SqT K H p ys ∧ Q (.ref p) H))) φTuple := fun F H Z xs ds rv Q hs r h q => by
  unfold φTuple at h
  split at h
  · cases h
    obtain ⟨x, rfl, rx⟩ := paired1 r
    obtain ⟨p, vs, rfl, hp, r1⟩ := rx.list hs
    exact ⟨p, vs, rfl, .inl ⟨.of hp, new_tup hs r1 q⟩⟩
  · cases h
    obtain ⟨x, rfl, rx⟩ := paired1 r
    obtain ⟨p, vs, rfl, hf, hp, r1⟩ := rx.tuple hs
    exact ⟨p, vs, rfl, .inr ⟨hp, back hs (.tup hf r1) q⟩⟩
  · cases h
def φList : List D → Option RV
  | [.list xs] => some (.f xs)
  | [.tuple xs] => some (.f xs)
  | _ => none
theorem ru_list {K : PySem.W.Frag} : RuleL K (fun xs H Q => ∃ p ys, xs = [.ref p] ∧ (SqL K H p ys ∨ SqT K H p ys) ∧ ∀ l, H l = none → Q (.ref l) (upd H l (.lst ys))) φList := fun F H Z xs ds rv Q hs r h q => by
  unfold φList at h
  split at h
  · cases h
    obtain ⟨x, rfl, rx⟩ := paired1 r
    obtain ⟨p, vs, rfl, hp, r1⟩ := rx.list hs
    exact ⟨p, vs, rfl, .inl (.of hp), new_list hs r1 q⟩
  · cases h
    obtain ⟨x, rfl, rx⟩ := paired1 r
    obtain ⟨p, vs, rfl, hf, hp, r1⟩ := rx.tuple hs
    exact ⟨p, vs, rfl, .inr hp, new_list hs r1 q⟩
  · cases h
/-! sorted of a list of alike data -/
def dle (a b : D) : Bool := PySem.W.dataLe false (fun x : D => x) a b
def sortD (ds : List D) : List D := ds.mergeSort dle
def sortOk (ds : List D) : Bool := (ds.all fun d => ds.all fun e => PySem.W.alike d e) && ((ds.all fun d => match d with | .tuple (_ :: _) => true | _ => false) || (ds.all fun d => match d with | .none => false | .tuple _ => false | _ => true)) &&
  (ds.all fun d => decide (d.depth ≤ 60))
theorem sortOk_spec {ds : List D} (h : sortOk ds = true) : PySem.W.AllAlike ds ∧ PySem.W.Sortable ds ∧ ∀ d ∈ ds, d.depth ≤ 60 := by
  unfold sortOk at h
  simp only [Bool.and_eq_true, Bool.or_eq_true, List.all_eq_true, decide_eq_true_eq] at h
  obtain ⟨⟨h1, h2⟩, h3⟩ := h
  refine ⟨fun d hd e he => h1 d hd e he, ?_, h3⟩
  rcases h2 with h2 | h2
  · left
    intro d hd
    have := h2 d hd
    split at this
    · exact ⟨_, _, rfl⟩
    · cases this
  · right
    intro d hd
    have := h2 d hd
    split at this
    · cases this
    · cases this
    · rename_i a b
      exact ⟨a, b⟩
def rSortedD (K : PySem.W.Frag) : List V → Hp → VK → Prop := fun vs H Q => ∃ (a : Addr) (xs : List V) (ds : List D), vs = [V.ref a] ∧ SqL K H a xs ∧ DpAll K H xs ds ∧ sortOk ds = true ∧
  ∀ (p : Addr) (zs : List (V × D)), zs.map (·.2) = sortD ds → (∀ z ∈ zs, z ∈ xs.zip ds) → H p = none → Q (.ref p) (upd H p (.lst (zs.map (·.1))))
theorem dpAll_len {K : PySem.W.Frag} {H : Hp} : ∀ {vs : List V} {ds : List D}, DpAll K H vs ds → vs.length = ds.length
  | _, _, .nil => rfl
  | _, _, .cons _ r => congrArg (· + 1) (dpAll_len r)
theorem each_zip {K : PySem.W.Frag} {X : Cx} {pins : List (Addr × Obj)} {σ : L2.St} {H : Hp} {s : Shared} (I : Inv X pins σ H s) : ∀ {xs : List V} {ds : List D} {us : List Value}, DpAll X.K H xs ds → Vals xs us →
    PySem.W.EachIs (fun (u : Value) (b : V × D) => RelV b.1 u) us (xs.zip ds) ∧ PySem.W.EachIs (fun (u : Value) (b : V × D) => ∃ as, Reads s.heap u b.2 as) us (xs.zip ds)
  | [], _, _, .nil, .nil => ⟨.nil, .nil⟩
  | x :: xs, d :: ds, u :: us, .cons a r, .cons b t => by
    obtain ⟨h1, h2⟩ := each_zip (K := K) I r t
    exact ⟨.cons b h1, .cons (Dp.reads I d x u a b) h2⟩
theorem each_vals : ∀ {us : List Value} {zs : List (V × D)}, PySem.W.EachIs (fun (u : Value) (b : V × D) => RelV b.1 u) us zs → Vals (zs.map (·.1)) us
  | _, _, .nil => .nil
  | _, _, .cons a r => .cons a (each_vals r)
theorem cr_sortedD {X : Cx} (hu : X.A.units + 64 < cLine) : CallR X (.builtin "sorted") (rSortedD X.K) := by
  intro pins s σ H vs us Q I r h
  obtain ⟨a, xs, ds, rfl, hl, hd, hk, q⟩ := h
  obtain ⟨its, rv, pl, hz⟩ := I.list hl
  rw [Vals.ref1 r]
  obtain ⟨e1, e2⟩ := each_zip (K := X.K) I hd rv
  have hlen := dpAll_len hd
  obtain ⟨k1, k2, k3⟩ := sortOk_spec hk
  have ez : (xs.zip ds).map (fun b : V × D => b.2) = ds := List.map_snd_zip (by omega)
  have hzl : (xs.zip ds).length = xs.length := by rw [List.length_zip]; omega
  refine PySem.W.sorted_data (enc := fun b : V × D => b.2) pl.isList e1 e2 (by rw [ez]; exact k1) (by rw [ez]; exact k2) (by rw [hzl]; exact hz) (fun b hb => ?_) fun out ho eo => ?_
  · have := k3 b.2 (by rw [← ez]; exact List.mem_map_of_mem hb)
    omega
  · have rv2 := each_vals eo
    obtain ⟨ep, he'⟩ := PyProof.Rows.sortedAll_at s.heap its out.toArray
    have hl2 : (((xs.zip ds).mergeSort (PySem.W.dataLe false fun b : V × D => b.2)).map (·.1)).length ≤ sizeLine := by
      rw [List.length_map, List.length_mergeSort, hzl]
      exact hz
    refine ⟨.ref _, _, I.laid (t' := s.toks) (o := .lst (((xs.zip ds).mergeSort (PySem.W.dataLe false fun b : V × D => b.2)).map (·.1))) (fun _ _ => PyProof.Rows.sortedAll_old) (Nat.le_succ _) ⟨hl2, out, ep, rv2, he'⟩, rfl, q _ _ ?_ (fun z hz' => ?_) (I.hok.fresh (Nat.le_succ _))⟩
    · rw [PySem.W.sort_maps (r := PySem.W.dataLe false fun b : V × D => b.2) (s := dle) (fun b : V × D => b.2) (fun _ _ _ _ => rfl), ez]
      rfl
    · exact (List.mergeSort_perm _ _).mem_iff.mp hz'
def φSorted : List D → Option RV
  | [.list xs] => if (sortOk xs && SeqAt.shaped (.list xs)) = true then some (.f (sortD xs)) else none
  | _ => none
theorem RpAll.zip {K : PySem.W.Frag} {F : Hp} : ∀ {vs : List V} {ds : List D}, RpAll K F vs ds → ∀ z ∈ vs.zip ds, Rp K F z.1 z.2
  | _, _, .nil, z, h => by simp at h
  | _, _, .cons a r, z, h => by
    rw [List.zip_cons_cons] at h
    rcases List.mem_cons.mp h with rfl | h
    · exact a
    · exact r.zip z h
theorem RpAll.of_zs {K : PySem.W.Frag} {F : Hp} : ∀ {zs : List (V × D)}, (∀ z ∈ zs, Rp K F z.1 z.2) → RpAll K F (zs.map (·.1)) (zs.map (·.2))
  | [], _ => .nil
  | z :: zs, h => .cons (h z List.mem_cons_self) (RpAll.of_zs fun y hy => h y (List.mem_cons_of_mem _ hy))
theorem ru_sorted {K : PySem.W.Frag} : RuleL K (rSortedD K) φSorted := fun F H Z xs ds rv Q hs r h q => by
  unfold φSorted at h
  split at h
  · split at h
    · rename_i zs hc
      rw [Bool.and_eq_true] at hc
      cases h
      obtain ⟨x, rfl, rx⟩ := paired1 r
      obtain ⟨p, vs, rfl, hp, r1⟩ := rx.list hs
      refine ⟨p, vs, zs, rfl, .of hp, (hs.rpAll r1).dp _ _ ?_, hc.1, fun p' ws e1 e2 hp' => ?_⟩
      · have := SeqAt.canLay_of_shaped hc.2
        simpa [PyData.canLay0] using this
      · have r2 : RpAll K F (ws.map (·.1)) (ws.map (·.2)) := RpAll.of_zs fun z hz => r1.zip z (e2 z hz)
        rw [e1] at r2
        exact new_list hs r2 q p' hp'
    · cases h
  · cases h
/-! isinstance -/
def tyD : D → String
  | .none => "NoneType"
  | .bool _ => "bool"
  | .int _ => "int"
  | .str _ => "str"
  | .list _ => "list"
  | .tuple _ => "tuple"
  | .dict _ => "dict"
end Sd

namespace Sd
open PySem PySem.Spec L2
/-! ### Sd6: tests, displays, slices, calls -/
theorem RepR.back {K : PySem.W.Frag} {H₀ H₁ F H : Hp} {v : V} {r : R} {ps : Addr} {k : GK} {σ : L2.St} {ρ : List Sl} (h : RepR K H₁ F H ps k σ ρ v r) (hl : ∀ a, H₁ a = none → H₀ a = none) : RepR K H₀ F H ps k σ ρ v r := by
  cases r with
  | d d => exact h
  | o i => exact h
  | st => exact h
  | f xs =>
    obtain ⟨p, vs, e, h0, r⟩ := h
    exact ⟨p, vs, e, hl _ h0, r⟩
  | fd t es =>
    obtain ⟨p, ks, vs, ds, e, h0, r⟩ := h
    exact ⟨p, ks, vs, ds, e, hl _ h0, r⟩
/-- a truth value as a test -/
def tst (f : ES) : EB := fun ρ g => (vw f ρ g).bind fun p => match p.1 with | .bool b => some (b, p.2) | _ => none
def bNot (f : EB) : EB := fun ρ g => (f ρ g).map fun p => (!p.1, p.2)
def bAnd (f h : EB) : EB := fun ρ g => (f ρ g).bind fun p => if p.1 = true then h ρ p.2 else some (false, p.2)
def bOr (f h : EB) : EB := fun ρ g => (f ρ g).bind fun p => if p.1 = true then some (true, p.2) else h ρ p.2
def fIf (c : EB) (a b : ES) : ES := fun ρ g => (c ρ g).bind fun p => if p.1 = true then a ρ p.2 else b ρ p.2
def fAnd (a b : ES) : ES := fun ρ g => (tst a ρ g).bind fun p => if p.1 = true then b ρ p.2 else some (.d (.bool false), p.2)
def fOr (a b : ES) : ES := fun ρ g => (tst a ρ g).bind fun p => if p.1 = true then some (.d (.bool true), p.2) else b ρ p.2
def fNot (a : ES) : ES := fun ρ g => (tst a ρ g).map fun p => (.d (.bool (!p.1)), p.2)
section
variable {K : PySem.W.Frag}
theorem Wp.tstG {ta : TE} {fa : ES} (a : Wp K ta fa) {σ : L2.St} {ρ : List Sl} {g : G} {F H : Hp} {ps pc : Addr} {b : Bool} {g' : G} {Q : VK} (E : RepE K F H ps pc σ ρ g) (e : tst fa ρ g = some (b, g'))
    (q : ∀ F' H', g'.kd = g.kd → Step (Ex g.kd ps pc) F H F' H' → RepE K F' H' ps pc σ ρ g' → Q (.bl b) H') : ta σ H Q := by
  obtain ⟨⟨d, g1⟩, e1, e⟩ := bind_some e
  dsimp only at e
  split at e
  · rename_i d' b' 
    injection e with e
    injection e with e2 e3
    subst e2 e3
    refine a.vw σ ρ g F H ps pc _ _ _ E e1 fun v F1 H1 hk x1 E1 r1 => ?_
    rw [r1.bool]
    exact q F1 H1 hk x1 E1
  · cases e
theorem WpB.val {ta : TE} {fa : ES} (a : Wp K ta fa) : WpB K (tB ta) (tst fa) := fun σ ρ g F H ps pc b g' Q E e q =>
  a.tstG E e fun F' H' hk x E' => ⟨b, rfl, q F' H' hk x E'⟩
theorem WpB.test {ta : TE} {fa : ES} (a : Wp K ta fa) : WpB K (tTest ta) (tst fa) := fun σ ρ g F H ps pc b g' Q E e q =>
  a.tstG E e fun F' H' hk x E' => ⟨b, rfl, q F' H' hk x E'⟩
theorem WpB.not {t : TT} {f : EB} (a : WpB K t f) : WpB K (tNot t) (bNot f) := fun σ ρ g F H ps pc b g' Q E e q => by
  obtain ⟨⟨c, g1⟩, e1, e2⟩ := map_some e
  cases e2
  exact a σ ρ g F H ps pc _ _ _ E e1 fun F1 H1 hk x1 E1 => q F1 H1 hk x1 E1
theorem WpB.and {t u : TT} {f h : EB} (a : WpB K t f) (b : WpB K u h) : WpB K (tAnd t u) (bAnd f h) := fun σ ρ g F H ps pc r g' Q E e q => by
  obtain ⟨⟨c, g1⟩, e1, e⟩ := bind_some e
  refine a σ ρ g F H ps pc _ _ _ E e1 fun F1 H1 hk x1 E1 => ?_
  dsimp only at e
  by_cases hc : c = true
  · rw [if_pos hc] at e ⊢
    refine b σ ρ g1 F1 H1 ps pc _ _ _ E1 e fun F2 H2 hk2 x2 E2 => ?_
    rw [hk] at x2
    exact q F2 H2 (hk2.trans hk) (x1.same x2) E2
  · rw [if_neg hc] at e ⊢
    cases e
    exact q F1 H1 hk x1 E1
theorem WpB.or {t u : TT} {f h : EB} (a : WpB K t f) (b : WpB K u h) : WpB K (tOr t u) (bOr f h) := fun σ ρ g F H ps pc r g' Q E e q => by
  obtain ⟨⟨c, g1⟩, e1, e⟩ := bind_some e
  refine a σ ρ g F H ps pc _ _ _ E e1 fun F1 H1 hk x1 E1 => ?_
  dsimp only at e
  by_cases hc : c = true
  · rw [if_pos hc] at e ⊢
    cases e
    exact q F1 H1 hk x1 E1
  · rw [if_neg hc] at e ⊢
    refine b σ ρ g1 F1 H1 ps pc _ _ _ E1 e fun F2 H2 hk2 x2 E2 => ?_
    rw [hk] at x2
    exact q F2 H2 (hk2.trans hk) (x1.same x2) E2
theorem Wp.then {t : TE} {f : ES} (a : Wp K t f) {σ : L2.St} {ρ : List Sl} {g g0 : G} {F F0 H H0 : Hp} {ps pc : Addr} {r : R} {g' : G} {Q : VK} (hk : g.kd = g0.kd) (x : Step (Ex g0.kd ps pc) F0 H0 F H) (E : RepE K F H ps pc σ ρ g) (e : f ρ g = some (r, g'))
    (q : ∀ v F' H', g'.kd = g0.kd → Step (Ex g0.kd ps pc) F0 H0 F' H' → RepE K F' H' ps pc σ ρ g' → RepR K H0 F' H' ps g0.kd σ ρ v r → Q v H') : t σ H Q :=
  a σ ρ g F H ps pc _ _ _ E e fun v F' H' hk2 x2 E2 r2 => by
    rw [hk] at x2 r2
    exact q v F' H' (hk2.trans hk) (x.same x2) E2 (r2.back x.live)
theorem Wp.ifE {c : TT} {fc : EB} {ta tb : TE} {fa fb : ES} (hc : WpB K c fc) (a : Wp K ta fa) (b : Wp K tb fb) : Wp K (tIf c ta tb) (fIf fc fa fb) := fun σ ρ g F H ps pc r g' Q E e q => by
  obtain ⟨⟨z, g1⟩, e1, e⟩ := bind_some e
  refine hc σ ρ g F H ps pc _ _ _ E e1 fun F1 H1 hk x1 E1 => ?_
  dsimp only at e
  by_cases hz : z = true
  · rw [if_pos hz] at e ⊢
    exact a.then hk x1 E1 e q
  · rw [if_neg hz] at e ⊢
    exact b.then hk x1 E1 e q
theorem Wp.andV {ta tb : TE} {fa fb : ES} (a : Wp K ta fa) (b : Wp K tb fb) : Wp K (tAndV ta tb) (fAnd fa fb) := fun σ ρ g F H ps pc r g' Q E e q => by
  obtain ⟨⟨z, g1⟩, e1, e⟩ := bind_some e
  refine a.tstG E e1 fun F1 H1 hk x1 E1 => ⟨z, rfl, ?_⟩
  dsimp only at e
  by_cases hz : z = true
  · rw [if_pos hz] at e ⊢
    exact b.then hk x1 E1 e q
  · rw [if_neg hz] at e ⊢
    cases e
    exact q _ F1 H1 hk x1 E1 (.bl false)
theorem Wp.orV {ta tb : TE} {fa fb : ES} (a : Wp K ta fa) (b : Wp K tb fb) : Wp K (tOrV ta tb) (fOr fa fb) := fun σ ρ g F H ps pc r g' Q E e q => by
  obtain ⟨⟨z, g1⟩, e1, e⟩ := bind_some e
  refine a.tstG E e1 fun F1 H1 hk x1 E1 => ⟨z, rfl, ?_⟩
  dsimp only at e
  by_cases hz : z = true
  · rw [if_pos hz] at e ⊢
    cases e
    exact q _ F1 H1 hk x1 E1 (.bl true)
  · rw [if_neg hz] at e ⊢
    exact b.then hk x1 E1 e q
theorem Wp.notV {ta : TE} {fa : ES} (a : Wp K ta fa) : Wp K (tNotV ta) (fNot fa) := fun σ ρ g F H ps pc r g' Q E e q => by
  obtain ⟨⟨z, g1⟩, e1, e2⟩ := map_some e
  cases e2
  exact a.tstG E e1 fun F1 H1 hk x1 E1 => ⟨z, rfl, q _ F1 H1 hk x1 E1 (.bl _)⟩
end
section
variable {ι : Type} {Xs : ι → Cx} {K : PySem.W.Frag} {a b c : Expr} {fa fb fc : ES} {ca cb : EB} {pos : Pos} {rest : List Expr}
theorem st_val (h : SdE Xs K a fa) (he : ∀ i whole, isTrue a (Xs i).env whole = (do let v ← whole; standAt a.pos; holding [v] (truthy v)) := by intro _ _; rfl) : SdT Xs K a (tst fa) := by
  obtain ⟨t, p, w⟩ := h
  exact ⟨_, fun i => pt_val (p i) (he i), .val w⟩
theorem st_cmp {op : CmpOp} {r : R2} {φ : D → D → Option RV} (ho : ∀ i, OpR (Xs i) (compareOp op) r) (h : Rule2 K r φ) (ha : SdE Xs K a fa) (hb : SdE Xs K b fb) (hm : behindInMarks op b = false) : SdT Xs K (.Compare a [op] [b] pos) (tst (op2 φ fa fb)) := by
  obtain ⟨ta, pa, wa⟩ := ha
  obtain ⟨tb, pb, wb⟩ := hb
  exact ⟨_, fun i => pt_cmpR (ho i) (pa i) (pb i) hm, .test (wa.op2 wb h)⟩
theorem st_not (h : SdT Xs K a ca) : SdT Xs K (.UnaryOp .Not a pos) (bNot ca) := by
  obtain ⟨t, p, w⟩ := h
  exact ⟨_, fun i => pt_not (p i), .not w⟩
theorem sw_and1 (h : SdT Xs K a ca) : SdW Xs K (.BoolOp .And [a] pos) ca := by
  obtain ⟨t, p, w⟩ := h
  exact ⟨_, fun i => pw_and1 (p i), w⟩
theorem sw_or1 (h : SdT Xs K a ca) : SdW Xs K (.BoolOp .Or [a] pos) ca := by
  obtain ⟨t, p, w⟩ := h
  exact ⟨_, fun i => pw_or1 (p i), w⟩
theorem sw_and (h : SdT Xs K a ca) (h2 : SdW Xs K (.BoolOp .And (b :: rest) pos) cb) : SdW Xs K (.BoolOp .And (a :: b :: rest) pos) (bAnd ca cb) := by
  obtain ⟨t, p, w⟩ := h
  obtain ⟨t2, p2, w2⟩ := h2
  exact ⟨_, fun i => pw_and (p i) (p2 i), .and w w2⟩
theorem sw_or (h : SdT Xs K a ca) (h2 : SdW Xs K (.BoolOp .Or (b :: rest) pos) cb) : SdW Xs K (.BoolOp .Or (a :: b :: rest) pos) (bOr ca cb) := by
  obtain ⟨t, p, w⟩ := h
  obtain ⟨t2, p2, w2⟩ := h2
  exact ⟨_, fun i => pw_or (p i) (p2 i), .or w w2⟩
theorem st_w (h : SdW Xs K a ca) : SdT Xs K a ca := by
  obtain ⟨t, p, w⟩ := h
  exact ⟨_, fun i => (p i).pt, w⟩
theorem sd_if (hc : SdT Xs K c ca) (ha : SdE Xs K a fa) (hb : SdE Xs K b fb) : SdE Xs K (.IfExp c a b pos) (fIf ca fa fb) := by
  obtain ⟨tc, pc, wc⟩ := hc
  obtain ⟨ta, pa, wa⟩ := ha
  obtain ⟨tb, pb, wb⟩ := hb
  exact ⟨_, fun i => pe_ifExp (pc i) (pa i) (pb i), .ifE wc wa wb⟩
theorem sd_one {op : BoolOp} (h : SdE Xs K a fa) : SdE Xs K (.BoolOp op [a] pos) fa := by
  obtain ⟨t, p, w⟩ := h
  exact ⟨_, fun i => pe_one (p i), w⟩
theorem sd_and (h : SdE Xs K a fa) (h2 : SdE Xs K (.BoolOp .And (b :: rest) pos) fb) : SdE Xs K (.BoolOp .And (a :: b :: rest) pos) (fAnd fa fb) := by
  obtain ⟨t, p, w⟩ := h
  obtain ⟨t2, p2, w2⟩ := h2
  exact ⟨_, fun i => pe_and (p i) (p2 i), .andV w w2⟩
theorem sd_or (h : SdE Xs K a fa) (h2 : SdE Xs K (.BoolOp .Or (b :: rest) pos) fb) : SdE Xs K (.BoolOp .Or (a :: b :: rest) pos) (fOr fa fb) := by
  obtain ⟨t, p, w⟩ := h
  obtain ⟨t2, p2, w2⟩ := h2
  exact ⟨_, fun i => pe_or (p i) (p2 i), .orV w w2⟩
theorem sd_not (h : SdE Xs K a fa) : SdE Xs K (.UnaryOp .Not a pos) (fNot fa) := by
  obtain ⟨t, p, w⟩ := h
  exact ⟨_, fun i => pe_not (p i), .notV w⟩
end
/-! chains a < b < c -/
def fChain (φ ψ : D → D → Option RV) (fa fb fc : ES) : ES := fun ρ g => (vw fa ρ g).bind fun p => (vw fb ρ p.2).bind fun q => match φ p.1 q.1 with
  | some (.d (.bool true)) => (vw fc ρ q.2).bind fun r => (ψ q.1 r.1).map fun s => (s.r, r.2)
  | some (.d (.bool false)) => some (.d (.bool false), q.2)
  | _ => none
/-! displays -/
def fTup (fa : EA) : ES := fun ρ g => (fa ρ g).bind fun p => if p.1.length ≤ 1000 then some (.d (.tuple p.1), p.2) else none
def fLst (fa : EA) : ES := fun ρ g => (fa ρ g).bind fun p => if p.1.length ≤ 1000 then some (.f p.1, p.2) else none
section
variable {K : PySem.W.Frag}
theorem thousand {n : Nat} (h : n ≤ 1000) : n ≤ sizeLine := by
  rw [sizeLine_eq]
  omega
theorem WpAV.tup {t : TA} {f : EA} (a : WpAV K t f) : Wp K (tTup t) (fTup f) := fun σ ρ g F H ps pc r g' Q E e q => by
  obtain ⟨⟨ds, g1⟩, e1, e⟩ := bind_some e
  dsimp only at e
  split at e
  · rename_i hl
    cases e
    refine a σ ρ g F H ps pc _ _ _ E e1 fun vs F1 H1 hk x1 E1 r1 => ⟨by rw [r1.length]; exact thousand hl, new_tup E1.sub r1 fun v F2 H2 x2 s2 r2 => ?_⟩
    exact q v F2 H2 hk (x1.trans x2 fun _ z => z.elim) (E1.pure x2 s2) r2
  · cases e
theorem WpAV.lst {t : TA} {f : EA} (a : WpAV K t f) : Wp K (tLst t) (fLst f) := fun σ ρ g F H ps pc r g' Q E e q => by
  obtain ⟨⟨ds, g1⟩, e1, e⟩ := bind_some e
  dsimp only at e
  split at e
  · rename_i hl
    cases e
    refine a σ ρ g F H ps pc _ _ _ E e1 fun vs F1 H1 hk x1 E1 r1 => ⟨by rw [r1.length]; exact thousand hl, new_list E1.sub r1 fun v F2 H2 x2 s2 r2 => ?_⟩
    exact q v F2 H2 hk (x1.trans x2 fun _ z => z.elim) (E1.pure x2 s2) (RepV.r (rv := .f ds) r2 x1.live)
  · cases e
theorem Wp.chain {r r' : R2} {φ ψ : D → D → Option RV} {ta tb tc : TE} {fa fb fc : ES} (h : Rule2 K r φ) (h' : Rule2 K r' ψ) (a : Wp K ta fa) (b : Wp K tb fb) (c : Wp K tc fc) : Wp K (tChain r r' ta tb tc) (fChain φ ψ fa fb fc) := fun σ ρ g F H ps pc rr g' Q E e q => by
  obtain ⟨⟨d, g1⟩, e1, e⟩ := bind_some e
  obtain ⟨⟨d2, g2⟩, e2, e⟩ := bind_some e
  dsimp only at e
  refine a.vw σ ρ g F H ps pc _ _ _ E e1 fun v F1 H1 hk x1 E1 r1 => ?_
  refine b.vw σ ρ g1 F1 H1 ps pc _ _ _ E1 e2 fun v2 F2 H2 hk2 x2 E2 r2 => ?_
  have y2 := x2.mono E1.exZ
  rw [hk] at x2
  split at e
  · rename_i e3
    obtain ⟨⟨d3, g3⟩, e4, e⟩ := bind_some e
    obtain ⟨rv, e5, e6⟩ := map_some e
    cases e6
    refine h F2 H2 _ v v2 d d2 _ _ E2.sub (r1.step y2) r2 e3 fun z F3 H3 x3 s3 r3 => ?_
    cases (show Rp K F3 z (.bool true) from r3)
    refine ⟨true, rfl, ?_⟩
    rw [if_pos rfl]
    have E3 := E2.pure x3 s3
    have x3' : Step (Ex g.kd ps pc) F2 H2 F3 H3 := x3.mono fun _ z => z.elim
    refine c.vw σ ρ g2 F3 H3 ps pc _ _ _ E3 e4 fun v3 F4 H4 hk4 x4 E4 r4 => ?_
    have y3 : Step (ZO σ ρ) F2 H2 F3 H3 := x3.mono fun _ z => z.elim
    have y4 := x4.mono E3.exZ
    rw [hk2, hk] at x4
    refine h' F4 H4 _ v2 v3 d2 d3 _ _ E4.sub ((r2.step y3).step y4) r4 e5 fun z F5 H5 x5 s5 r5 => ?_
    exact q _ F5 H5 ((hk4.trans hk2).trans hk) ((((x1.same x2).same x3').same x4).trans x5 fun _ z => z.elim) (E4.pure x5 s5) (r5.r (((x1.same x2).same x3').same x4).live)
  · rename_i e3
    cases e
    refine h F2 H2 _ v v2 d d2 _ _ E2.sub (r1.step y2) r2 e3 fun z F3 H3 x3 s3 r3 => ?_
    cases (show Rp K F3 z (.bool false) from r3)
    refine ⟨false, rfl, ?_⟩
    rw [if_neg Bool.false_ne_true]
    exact q _ F3 H3 (hk2.trans hk) ((x1.same x2).trans x3 fun _ z => z.elim) (E2.pure x3 s3) (.bl false)
  · cases e
end
section
variable {ι : Type} {Xs : ι → Cx} {K : PySem.W.Frag} {a b c : Expr} {fa fb fc : ES} {pos : Pos}
theorem sd_chain {op op' : CmpOp} {r r' : R2} {φ ψ : D → D → Option RV} (ho : ∀ i, OpR (Xs i) (compareOp op) r) (h : Rule2 K r φ) (ho' : ∀ i, OpR (Xs i) (compareOp op') r') (h' : Rule2 K r' ψ) (ha : SdE Xs K a fa) (hb : SdE Xs K b fb) (hc : SdE Xs K c fc)
    (hm : lastMarks [op, op'] [b, c] = false := by with_unfolding_all rfl) : SdE Xs K (.Compare a [op, op'] [b, c] pos) (fChain φ ψ fa fb fc) := by
  obtain ⟨ta, pa, wa⟩ := ha
  obtain ⟨tb, pb, wb⟩ := hb
  obtain ⟨tc, pc, wc⟩ := hc
  exact ⟨_, fun i => pe_chain (ho i) (ho' i) (pa i) (pb i) (pc i) hm, .chain h h' wa wb wc⟩
theorem st_chain {op op' : CmpOp} {r r' : R2} {φ ψ : D → D → Option RV} (ho : ∀ i, OpR (Xs i) (compareOp op) r) (h : Rule2 K r φ) (ho' : ∀ i, OpR (Xs i) (compareOp op') r') (h' : Rule2 K r' ψ) (ha : SdE Xs K a fa) (hb : SdE Xs K b fb) (hc : SdE Xs K c fc)
    (hm : lastMarks [op, op'] [b, c] = false := by with_unfolding_all rfl) : SdT Xs K (.Compare a [op, op'] [b, c] pos) (tst (fChain φ ψ fa fb fc)) := by
  obtain ⟨ta, pa, wa⟩ := ha
  obtain ⟨tb, pb, wb⟩ := hb
  obtain ⟨tc, pc, wc⟩ := hc
  exact ⟨_, fun i => pt_chain (ho i) (ho' i) (pa i) (pb i) (pc i) hm, .test (.chain h h' wa wb wc)⟩
theorem sd_tup {es : List Expr} {f : EA} {k : Nat} (h : SdAV Xs K es f) : SdE Xs K (.Tuple es k pos) (fTup f) := by
  obtain ⟨t, p, w⟩ := h
  exact ⟨_, fun i => pe_tup (p i), WpAV.tup w⟩
theorem sd_lst {es : List Expr} {f : EA} (h : SdAV Xs K es f) : SdE Xs K (.List es pos) (fLst f) := by
  obtain ⟨t, p, w⟩ := h
  exact ⟨_, fun i => pe_lst (p i), WpAV.lst w⟩
end

/-! slices -/
def cutD (xs : List D) (lo hi : Option Int) : List D := (xs.drop (HT.sIx xs.length 0 lo)).take (HT.sIx xs.length xs.length hi - HT.sIx xs.length 0 lo)
/-- a slice's part -/
abbrev EO := List Sl → G → Option (Option Int × G)
def fNoPart : EO := fun _ g => some (none, g)
def fPart (f : ES) : EO := fun ρ g => (vw f ρ g).bind fun p => match p.1 with | .int i => some (some i, p.2) | _ => none
def fSlice (fa : ES) (fl fh : EO) : ES := fun ρ g => (vw fa ρ g).bind fun p => (fl ρ p.2).bind fun l => (fh ρ l.2).bind fun h => match p.1 with
  | .list xs => some (.f (cutD xs l.1 h.1), h.2)
  | .tuple xs => some (.d (.tuple (cutD xs l.1 h.1)), h.2)
  | _ => none
def WpO (K : PySem.W.Frag) (t : TO) (f : EO) : Prop := ∀ (σ : L2.St) (ρ : List Sl) (g : G) (F H : Hp) (ps pc : Addr) (o : Option Int) (g' : G) (Q : Option Int → Hp → Prop), RepE K F H ps pc σ ρ g → f ρ g = some (o, g') →
  (∀ F' H', g'.kd = g.kd → Step (Ex g.kd ps pc) F H F' H' → RepE K F' H' ps pc σ ρ g' → Q o H') → t σ H Q
structure SdO {ι : Type} (Xs : ι → Cx) (K : PySem.W.Frag) (e : Option Expr) (f : EO) : Prop where
  ex : ∃ t, (∀ i, PO (Xs i) e t) ∧ WpO K t f
def rSlX (K : PySem.W.Frag) : V → Option Int → Option Int → Hp → VK → Prop := fun x lo hi H Q => rSlL K x lo hi H Q ∨ rSlA K x lo hi H Q
theorem sl_any {X : Cx} : SlR X (rSlX X.K) := sl_list.or sl_tupA
theorem RpAll.cut {K : PySem.W.Frag} {F : Hp} {vs : List V} {ds : List D} (r : RpAll K F vs ds) (lo hi : Option Int) : RpAll K F (cutV vs lo hi) (cutD ds lo hi) := by
  unfold cutV cutD
  rw [r.length]
  exact (r.drop _).take _
theorem WpO.no {K : PySem.W.Frag} : WpO K tNoPart fNoPart := fun σ ρ g F H ps pc o g' Q E e q => by
  cases e
  exact q F H rfl .refl E
theorem WpO.part {K : PySem.W.Frag} {t : TE} {f : ES} (a : Wp K t f) : WpO K (tPart t) (fPart f) := fun σ ρ g F H ps pc o g' Q E e q => by
  obtain ⟨⟨d, g1⟩, e1, e⟩ := bind_some e
  dsimp only at e
  split at e
  · injection e with e
    injection e with e2 e3
    subst e2 e3
    exact a.vw σ ρ g F H ps pc _ _ _ E e1 fun v F1 H1 hk x1 E1 r1 => ⟨_, r1.int, q F1 H1 hk x1 E1⟩
  · cases e
theorem Wp.slice {K : PySem.W.Frag} {ta : TE} {tl th : TO} {fa : ES} {fl fh : EO} (a : Wp K ta fa) (l : WpO K tl fl) (h : WpO K th fh) : Wp K (tSl (rSlX K) ta tl th) (fSlice fa fl fh) := fun σ ρ g F H ps pc r g' Q E e q => by
  obtain ⟨⟨d, g1⟩, e1, e⟩ := bind_some e
  obtain ⟨⟨lo, g2⟩, e2, e⟩ := bind_some e
  obtain ⟨⟨hi, g3⟩, e3, e⟩ := bind_some e
  dsimp only at e
  refine a.vw σ ρ g F H ps pc _ _ _ E e1 fun v F1 H1 hk x1 E1 r1 => ?_
  refine l σ ρ g1 F1 H1 ps pc _ _ _ E1 e2 fun F2 H2 hk2 x2 E2 => ?_
  have r2 := r1.step (x2.mono E1.exZ)
  rw [hk] at x2
  refine h σ ρ g2 F2 H2 ps pc _ _ _ E2 e3 fun F3 H3 hk3 x3 E3 => ?_
  have r3 := r2.step (x3.mono E2.exZ)
  rw [hk2, hk] at x3
  have hk' := (hk3.trans hk2).trans hk
  have x := (x1.same x2).same x3
  split at e
  · cases e
    obtain ⟨p, vs, rfl, hp, rr⟩ := r3.list E3.sub
    exact .inl ⟨p, vs, rfl, .of hp, new_list E3.sub (rr.cut lo hi) fun v F4 H4 x4 s4 r4 => q v F4 H4 hk' (x.trans x4 fun _ z => z.elim) (E3.pure x4 s4) (RepV.r (rv := .f _) r4 x.live)⟩
  · cases e
    obtain ⟨p, vs, rfl, hf, hp, rr⟩ := r3.tuple E3.sub
    refine .inr ⟨p, vs, rfl, hp, fun hw => ?_, fun _ => new_tup E3.sub (rr.cut lo hi) fun v F4 H4 x4 s4 r4 => q v F4 H4 hk' (x.trans x4 fun _ z => z.elim) (E3.pure x4 s4) r4⟩
    have ec : ∀ xs : List D, xs.length = vs.length → cutD xs lo hi = xs := fun xs hl => by
      unfold cutD
      rw [hl, hw.1, hw.2, List.drop_zero, Nat.sub_zero]
      exact List.take_of_length_le (by omega)
    rw [ec _ rr.length.symm] at q
    exact q _ F3 H3 hk' x E3 (.tup hf rr)
  · cases e
section
variable {ι : Type} {Xs : ι → Cx} {K : PySem.W.Frag} {e : Expr} {f : ES} {lo hi : Option Expr} {fl fh : EO} {pos p2 : Pos}
theorem so_none : SdO Xs K none fNoPart := ⟨_, fun _ => po_none, .no⟩
theorem so_some (h : SdE Xs K e f) : SdO Xs K (some e) (fPart f) := by
  obtain ⟨t, p, w⟩ := h
  exact ⟨_, fun i => po_some (p i), .part w⟩
theorem sd_slice (hK : ∀ i, (Xs i).K = K) (he : SdE Xs K e f) (hl : SdO Xs K lo fl) (hu : SdO Xs K hi fh) : SdE Xs K (.Subscript e (.Slice lo hi none p2) pos) (fSlice f fl fh) := by
  obtain ⟨t, p, w⟩ := he
  obtain ⟨tl, pl, wl⟩ := hl
  obtain ⟨th, ph, wh⟩ := hu
  exact ⟨_, fun i => pe_slice (by rw [← hK i]; exact sl_any) (p i) (pl i) (ph i), .slice w wl wh⟩
end
/-! calls of defs -/
abbrev DF := List Sl → G → Option (D × G)
/-- what the def m promises -/
def spD (K : PySem.W.Frag) (n : Nat) (m : DF) : Sp := fun vs H Q _ => ∃ (F : Hp) (ps pc : Addr) (ss : List Sl) (g : G) (d : D) (g' : G), vs.length = n ∧ Sub F H ∧ Paired (RpU K F ps g.kd) vs ss ∧ RpG F H ps pc g ∧ m ss g = some (d, g') ∧
  ∀ v F' H', g'.kd = g.kd → Step (Ex g.kd ps pc) F H F' H' → Sub F' H' → RpG F' H' ps pc g' → Rp K F' v d → Q v H'
/-- the def x of the text, at level k: n parameters -/
structure Callee (P : Program) (w : World) (K : PySem.W.Frag) (mg : Str → Option Value) (base : Heap) (k : Nat) (x : Str) (n : Nat) (m : DF) : Prop where
  ex : ∃ (f : Addr) (fd : FuncData) (ps : List Str), FnOk P w K mg base CX0 k f fd ps (spD K n m) ∧ mg x = some (.ref f) ∧ PySem.W.keepIn K (.ref f) = true ∧ Binds K fd ps []
def fCall (n : Nat) (m : DF) (fa : EU) : ES := fun ρ g => (fa ρ g).bind fun p => if p.1.length = n then (m p.1 p.2).map fun q => (.d q.1, q.2) else none
theorem Paired.len {α β : Type} {R : α → β → Prop} : ∀ {xs : List α} {ys : List β}, Paired R xs ys → xs.length = ys.length
  | _, _, .nil => rfl
  | _, _, .cons _ r => congrArg (· + 1) (Paired.len r)
theorem WpU.call {K : PySem.W.Frag} {t : TA} {fa : EU} {n : Nat} {m : DF} (a : WpU K t fa) : Wp K (tCall (spD K n m) [] E0 t) (fCall n m fa) := fun σ ρ g F H ps pc r g' Q E e q => by
  obtain ⟨⟨ss, g1⟩, e1, e⟩ := bind_some e
  dsimp only at e
  split at e
  · rename_i hn
    obtain ⟨⟨d, g2⟩, e2, e3⟩ := map_some e
    cases e3
    refine a σ ρ g F H ps pc _ _ _ E e1 fun vs F1 H1 hk x1 E1 r1 => ?_
    rw [← hk] at r1
    refine ⟨F1, ps, pc, ss, g1, d, g2, by rw [List.append_nil, Paired.len r1]; exact hn, E1.sub, by rw [List.append_nil]; exact r1, E1.st, e2, fun v F2 H2 hk2 x2 s2 st2 r2 => ?_⟩
    have E2 : RepE K F2 H2 ps pc σ ρ g2 := E1.step x2 s2 hk2 st2
    rw [hk] at x2
    exact q v F2 H2 (hk2.trans hk) (x1.same x2) E2 r2
  · cases e
section
variable {ι : Type} {Xs : ι → Cx} {P : Program} {w : World} {K : PySem.W.Frag} {mg : Str → Option Value} {base : Heap} {k j n : Nat} {m : DF} {x : Str} {p pos : Pos} {e : Expr} {es : List Expr} {f : EU}
theorem sd_call (fam : Fam Xs P w K mg base j) (C : Callee P w K mg base k x n m) (hkj : k ≤ j) (hg : ∀ i, Gl (Xs i) x) (ha : SdU Xs K (e :: es) f) (hdb : (x == ("__debug__" : Str)) = false := by decide)
    (he : ∀ i, starEach (e :: es) (Xs i).env = (false, eval e (Xs i).env) :: starEach es (Xs i).env := by intro _; rfl) (hpl : ∀ i, (backTo pos (starEach es (Xs i).env)).any (·.1) = false := by intro _; rfl) :
    SdE Xs K (.Call (.Name x p) (e :: es) [] pos) (fCall n m f) := by
  obtain ⟨t, pa, wa⟩ := ha
  obtain ⟨fa, fd, ps, ok, hm, hk, hb⟩ := C
  refine ⟨_, fun i => ?_, wa.call⟩
  have ok' : FnOk (Xs i).prog (Xs i).w (Xs i).K (Xs i).mg (Xs i).base CX0 k fa fd ps (spD K n m) := by
    rw [fam.prog i, fam.w i, fam.K i, fam.mg i, fam.base i]
    exact ok
  exact pe_call ok' ((fam.room i).mono hkj) (hg i) (by rw [fam.mg i]; exact hm) (by rw [fam.K i]; exact hk) (by rw [fam.K i]; exact hb) .nil pass0 (pa i) hdb (he i) (hpl i)
end
end Sd

namespace Sd
open PySem PySem.Spec L2
/-! ### Sd7: targets, what is walked, comprehensions -/
section
variable {K : PySem.W.Frag} {F H : Hp} {ps pc : Addr} {σ : L2.St} {ρ : List Sl} {g : G}
theorem getSet {α : Type} {xs : List α} {i j : Nat} {a b : α} (h : (xs.set i a)[j]? = some b) : (i = j ∧ b = a ∧ i < xs.length) ∨ (i ≠ j ∧ xs[j]? = some b) := by
  by_cases e : i = j
  · subst e
    by_cases hl : i < xs.length
    · rw [List.getElem?_set_self hl] at h
      exact .inl ⟨rfl, (Option.some.inj h).symm, hl⟩
    · rw [List.getElem?_eq_none (by simpa using hl)] at h
      cases h
  · rw [List.getElem?_set_ne e] at h
    exact .inr ⟨e, h⟩
/-- a slot is stored, nothing owned -/
theorem RepE.setN (E : RepE K F H ps pc σ ρ g) (i : Nat) (x : Option V) (s : Sl) (hs : ¬ s.own) (r : i < σ.length → RepS K F H ps pc g.kd (some x) s) : RepE K F H ps pc (σ.set i x) (ρ.set i s) g := by
  refine ⟨E.sub, by rw [List.length_set, List.length_set]; exact E.len, fun j s' h => ?_, fun j k s1 s2 p hjk h1 h2 o1 o2 e => ?_, E.st⟩
  · rcases getSet h with ⟨rfl, rfl, hl⟩ | ⟨ne, h⟩
    · have hl' : i < σ.length := by rw [E.len]; exact hl
      rw [List.getElem?_set_self hl']
      exact r hl'
    · rw [List.getElem?_set_ne ne]
      exact E.slot j s' h
  · rcases getSet h1 with ⟨_, rfl, _⟩ | ⟨n1, h1⟩
    · exact absurd o1 hs
    · rcases getSet h2 with ⟨_, rfl, _⟩ | ⟨n2, h2⟩
      · exact absurd o2 hs
      · rw [List.getElem?_set_ne n1] at e
        rw [List.getElem?_set_ne n2]
        exact E.sep j k s1 s2 p hjk h1 h2 o1 o2 e
theorem RepE.setSh (E : RepE K F H ps pc σ ρ g) (i : Nat) {v : V} {d : D} (r : Rp K F v d) : RepE K F H ps pc (σ.set i (some v)) (ρ.set i (.sh d)) g :=
  E.setN i _ _ id fun _ => ⟨v, rfl, r⟩
def wipeS (ρ : List Sl) : List Nat → List Sl
  | [] => ρ
  | v :: vs => (wipeS ρ vs).set v .no
theorem RepE.wipe (E : RepE K F H ps pc σ ρ g) : ∀ vs : List Nat, RepE K F H ps pc (L2.wipe σ vs) (wipeS ρ vs) g
  | [] => E
  | v :: vs => (RepE.wipe E vs).setN v _ _ id fun _ => trivial
/-- an object is changed that is neither shared nor owned by a slot -/
theorem RepE.upd (E : RepE K F H ps pc σ ρ g) {p : Addr} {o : HO} (hf : F p = none) (hx : ¬ Ex g.kd ps pc p) (ho : ∀ (i : Nat) (s : Sl), ρ[i]? = some s → s.own → σ[i]? ≠ some (some (.ref p))) : RepE K F (L2.upd H p o) ps pc σ ρ g := by
  have keep : ∀ a u, a ≠ p → H a = some u → L2.upd H p o a = some u := fun a u n q => by
    rw [upd_ne n]
    exact q
  refine ⟨E.sub.upd hf, E.len, fun i s h => ?_, E.sep, ?_⟩
  · have q := E.slot i s h
    cases s with
    | no => trivial
    | sh d => exact q
    | ol xs =>
      obtain ⟨p', vs, e, hp, r⟩ := q
      exact ⟨p', vs, e, keep _ _ (fun z => ho i _ h trivial (by rw [← z]; exact e)) hp, r⟩
    | od t es =>
      obtain ⟨p', ks, vs, ds, e, hp, r⟩ := q
      exact ⟨p', ks, vs, ds, e, hp.congr fun u hu => keep _ _ (fun z => ho i _ h trivial (by rw [← z]; exact e)) hu, r⟩
    | st => exact q
  · have q := E.st
    cases g with
    | no => trivial
    | k1 cells seed =>
      obtain ⟨h0, h1, h2, h3⟩ := q
      exact ⟨h0, keep _ _ (fun z => hx (.inl z.symm)) h1, keep _ _ (fun z => hx (.inr z.symm)) h2, h3⟩
    | k2 a b =>
      obtain ⟨h1, h2⟩ := q
      exact ⟨keep _ _ (fun z => hx z.symm) h1, h2⟩
end
/-! targets -/
abbrev FG := D → List Sl → Option (List Sl)
abbrev FGs := List D → List Sl → Option (List Sl)
def WpG (K : PySem.W.Frag) (t : TG) (f : FG) (sl : List Nat) : Prop := ∀ (σ : L2.St) (ρ : List Sl) (g : G) (F H : Hp) (ps pc : Addr) (v : V) (d : D) (ρ' : List Sl) (Q : L2.St → Hp → Prop), RepE K F H ps pc σ ρ g → Rp K F v d → f d ρ = some ρ' →
  (∀ σ', RepE K F H ps pc σ' ρ' g → (∀ vs : List Nat, (∀ i ∈ sl, i ∈ vs) → L2.wipe σ' vs = L2.wipe σ vs) → (∀ (i : Nat) (s : Sl), ρ'[i]? = some s → s.own → ρ[i]? = some s ∧ σ'[i]? = σ[i]?) → Q σ' H) → t v σ H Q
def WpGs (K : PySem.W.Frag) (t : TGs) (f : FGs) (sl : List Nat) : Prop := ∀ (σ : L2.St) (ρ : List Sl) (g : G) (F H : Hp) (ps pc : Addr) (vs : List V) (ds : List D) (ρ' : List Sl) (Q : L2.St → Hp → Prop), RepE K F H ps pc σ ρ g → RpAll K F vs ds → f ds ρ = some ρ' →
  (∀ σ', RepE K F H ps pc σ' ρ' g → (∀ vs : List Nat, (∀ i ∈ sl, i ∈ vs) → L2.wipe σ' vs = L2.wipe σ vs) → (∀ (i : Nat) (s : Sl), ρ'[i]? = some s → s.own → ρ[i]? = some s ∧ σ'[i]? = σ[i]?) → Q σ' H) → t vs σ H Q
def gn (i : Nat) : FG := fun d ρ => some (ρ.set i (.sh d))
def gsN : FGs := fun ds ρ => match ds with | [] => some ρ | _ => none
def gsC (f : FG) (fs : FGs) : FGs := fun ds ρ => match ds with | d :: r => (f d ρ).bind fun ρ1 => fs r ρ1 | [] => none
def gt (n : Nat) (fs : FGs) : FG := fun d ρ => match d with | .tuple ds => if ds.length = n then fs ds ρ else none | _ => none
theorem wipe_set (σ : L2.St) (i : Nat) (x : Option V) : ∀ vs : List Nat, i ∈ vs → L2.wipe (σ.set i x) vs = L2.wipe σ vs
  | [], h => by cases h
  | v :: vs, h => by
    show (L2.wipe (σ.set i x) vs).set v none = (L2.wipe σ vs).set v none
    by_cases hi : i ∈ vs
    · rw [wipe_set σ i x vs hi]
    · have e : i = v := by
        rcases List.mem_cons.mp h with e | e
        · exact e
        · exact absurd e hi
      subst e
      have comm : ∀ vs : List Nat, i ∉ vs → L2.wipe (σ.set i x) vs = (L2.wipe σ vs).set i x := by
        intro vs
        induction vs with
        | nil => intro _; rfl
        | cons u us ih =>
          intro hn
          rw [List.mem_cons, not_or] at hn
          show (L2.wipe (σ.set i x) us).set u none = ((L2.wipe σ us).set u none).set i x
          rw [ih hn.2, List.set_comm _ _ hn.1]
      rw [comm vs hi, List.set_set]
section
variable {K : PySem.W.Frag}
theorem WpG.name (i : Nat) : WpG K (gName i) (gn i) [i] := fun σ ρ g F H ps pc v d ρ' Q E r e q => by
  cases e
  refine q _ (E.setSh i r) (fun vs h => wipe_set σ i _ vs (h i (by simp))) fun j s h ho => ?_
  rcases getSet h with ⟨rfl, rfl, _⟩ | ⟨ne, h⟩
  · exact ho.elim
  · exact ⟨h, List.getElem?_set_ne ne⟩
theorem WpGs.nil : WpGs K gNil gsN [] := fun σ ρ g F H ps pc vs ds ρ' Q E r e q => by
  unfold gsN at e
  split at e
  · cases e
    cases r
    exact ⟨rfl, q σ E (fun _ _ => rfl) fun _ _ h _ => ⟨h, rfl⟩⟩
  · cases e
theorem WpGs.cons {t : TG} {u : TGs} {f : FG} {fs : FGs} {sl sls : List Nat} (a : WpG K t f sl) (b : WpGs K u fs sls) : WpGs K (gCons t u) (gsC f fs) (sl ++ sls) := fun σ ρ g F H ps pc vs ds ρ' Q E r e q => by
  unfold gsC at e
  split at e
  · rename_i d r'
    obtain ⟨ρ1, e1, e2⟩ := bind_some e
    cases r with
    | cons r1 r2 =>
      refine ⟨_, _, rfl, a σ ρ g F H ps pc _ _ _ _ E r1 e1 fun σ1 E1 w1 o1 => ?_⟩
      refine b σ1 ρ1 g F H ps pc _ _ _ _ E1 r2 e2 fun σ2 E2 w2 o2 => q σ2 E2 (fun vs h => ?_) fun i s h ho => ?_
      · rw [w2 vs fun i hi => h i (List.mem_append_right _ hi), w1 vs fun i hi => h i (List.mem_append_left _ hi)]
      · obtain ⟨h2, e2'⟩ := o2 i s h ho
        obtain ⟨h1, e1'⟩ := o1 i s h2 ho
        exact ⟨h1, e2'.trans e1'⟩
  · cases e
theorem WpG.tup {n : Nat} {t : TGs} {fs : FGs} {sl : List Nat} (a : WpGs K t fs sl) : WpG K (gTup K n t) (gt n fs) sl := fun σ ρ g F H ps pc v d ρ' Q E r e q => by
  unfold gt at e
  split at e
  · split at e
    · rename_i ds hl
      cases r with
      | tup h r => exact ⟨_, _, rfl, .of (E.sub.tup h), by rw [r.length]; exact hl, a σ ρ g F H ps pc _ _ _ _ E r e q⟩
    · cases e
  · cases e
end
section
variable {ι : Type} (Xs : ι → Cx) (K : PySem.W.Frag)
structure SdG (target : Expr) (f : FG) (sl : List Nat) : Prop where
  ex : ∃ t, (∀ i, PG (Xs i) target t) ∧ WpG K t f sl
structure SdGs (ts : List Expr) (f : FGs) (sl : List Nat) : Prop where
  ex : ∃ t, (∀ i, PGs (Xs i) ts t) ∧ WpGs K t f sl
end
section
variable {ι : Type} {Xs : ι → Cx} {K : PySem.W.Frag} {pos : Pos}
theorem sg_name (i : Nat) {x : Str} (hN : ∀ j, (Xs j).N.Nodup) (hi : ∀ j, (Xs j).N[i]? = some x := by intro _; rfl) (hx : ∀ j, Loc (Xs j).env.scope x := by intro _; first | exact Or.inl rfl | exact Or.inr rfl)
    (hf : ∀ j, (Xs j).fn x = true ∨ (Xs j).env.scope.names.lookup x = some .local := by intro _; first | exact Or.inl rfl | exact Or.inr rfl) : SdG Xs K (.Name x pos) (gn i) [i] := ⟨_, fun j => pg_name (hN j) (hi j) (hx j) (hf j), .name i⟩
theorem sgs_nil : SdGs Xs K [] gsN [] := ⟨_, fun _ => pgs_nil, .nil⟩
theorem sgs_cons {e : Expr} {es : List Expr} {f : FG} {fs : FGs} {sl sls : List Nat} (a : SdG Xs K e f sl) (b : SdGs Xs K es fs sls)
    (hs : ∀ i, (assignEach (e :: es) (Xs i).env).map (·.2) = assign e (Xs i).env :: (assignEach es (Xs i).env).map (·.2) := by intro _; rfl) : SdGs Xs K (e :: es) (gsC f fs) (sl ++ sls) := by
  obtain ⟨t, p, w⟩ := a
  obtain ⟨u, p2, w2⟩ := b
  exact ⟨_, fun i => pgs_cons (p i) (p2 i) (hs i), .cons w w2⟩
theorem sg_tup {es : List Expr} {k n : Nat} {fs : FGs} {sl : List Nat} (hK : ∀ i, (Xs i).K = K) (hc : ∀ i, (Xs i).calm = true) (h : SdGs Xs K es fs sl) (hn : ∀ i, (assignEach es (Xs i).env).length = n := by intro _; rfl) (hst : ∀ i, (assignEach es (Xs i).env).findIdx? (·.1) = none := by intro _; rfl) :
    SdG Xs K (.Tuple es k pos) (gt n fs) sl := by
  obtain ⟨t, p, w⟩ := h
  exact ⟨_, fun i => by rw [← hK i]; exact pg_tup (hc i) (p i) (hn i) (hst i), .tup w⟩
end
/-! what is walked -/
structure ItOk (K : PySem.W.Frag) (Z : Addr → Prop) (J : It) (ds : List D) (F0 H0 : Hp) : Prop where
  go : ∀ (i : Nat) (F1 H1 : Hp) (d : D), Sub F1 H1 → Step Z F0 H0 F1 H1 → ds[i]? = some d → J.go i H1 ∧ ∀ x H2, J.yld i H1 x H2 → ∃ F2, Step NoZ F1 H1 F2 H2 ∧ Sub F2 H2 ∧ Rp K F2 x d
  stop : ∀ (i : Nat) (F1 H1 : Hp), Sub F1 H1 → Step Z F0 H0 F1 H1 → ds.length ≤ i → J.stop i H1
theorem ItOk.mono {K : PySem.W.Frag} {Z Z' : Addr → Prop} {J : It} {ds : List D} {F0 H0 : Hp} (h : ItOk K Z J ds F0 H0) (hz : ∀ a, Z' a → Z a) : ItOk K Z' J ds F0 H0 :=
  ⟨fun i F1 H1 d s x e => h.go i F1 H1 d s (x.mono hz) e, fun i F1 H1 s x e => h.stop i F1 H1 s (x.mono hz) e⟩
abbrev EI := List Sl → G → Option (List D × G)
/-- shared data is walked: whatever the turns change -/
def WpI (K : PySem.W.Frag) (wi : TI) (f : EI) : Prop := ∀ (σ : L2.St) (ρ : List Sl) (g : G) (F H : Hp) (ps pc : Addr) (ds : List D) (g' : G) (Q : It → Hp → Prop), RepE K F H ps pc σ ρ g → f ρ g = some (ds, g') →
  (∀ J F' H', g'.kd = g.kd → Step (Ex g.kd ps pc) F H F' H' → RepE K F' H' ps pc σ ρ g' → (∀ Z : Addr → Prop, (∀ a, F' a ≠ none → ¬ Z a) → ItOk K Z J ds F' H') → Q J H') → wi σ H Q
/-- neither owned nor shared -/
def ZV (F : Hp) (σ : L2.St) (ρ : List Sl) (a : Addr) : Prop := ZO σ ρ a ∧ F a = none
/-- .. or what a slot owns: the turns change nothing of what stood but the state -/
def WpIv (K : PySem.W.Frag) (wi : TI) (f : EI) : Prop := ∀ (σ : L2.St) (ρ : List Sl) (g : G) (F H : Hp) (ps pc : Addr) (ds : List D) (g' : G) (Q : It → Hp → Prop), RepE K F H ps pc σ ρ g → f ρ g = some (ds, g') →
  (∀ J F' H', g'.kd = g.kd → Step (Ex g.kd ps pc) F H F' H' → RepE K F' H' ps pc σ ρ g' → ItOk K (ZV F' σ ρ) J ds F' H' → Q J H') → wi σ H Q
theorem WpI.view {K : PySem.W.Frag} {wi : TI} {f : EI} (h : WpI K wi f) : WpIv K wi f := fun σ ρ g F H ps pc ds g' Q E e q => h σ ρ g F H ps pc ds g' Q E e fun J F' H' hk x E' io => q J F' H' hk x E' (io _ fun a h z => h z.2)
section
variable {ι : Type} (Xs : ι → Cx) (K : PySem.W.Frag)
structure SdI (tg iter : Expr) (f : EI) : Prop where
  ex : ∃ t, (∀ i, PI (Xs i) tg iter t) ∧ WpI K t f
structure SdIv (tg iter : Expr) (f : EI) : Prop where
  ex : ∃ t, (∀ i, PI (Xs i) tg iter t) ∧ WpIv K t f
end
theorem SdI.view {ι : Type} {Xs : ι → Cx} {K : PySem.W.Frag} {tg iter : Expr} {f : EI} (h : SdI Xs K tg iter f) : SdIv Xs K tg iter f := by
  obtain ⟨t, p, w⟩ := h
  exact ⟨t, p, w.view⟩
theorem PI.or {X : Cx} {tg iter : Expr} {wi wi' : TI} (h : PI X tg iter wi) (h' : PI X tg iter wi') : PI X tg iter (fun σ H R => wi σ H R ∨ wi' σ H R) :=
  ⟨fun pins s σ H R I w => w.elim (h.run pins s σ H R I) (h'.run pins s σ H R I)⟩
def seqOf : D → Option (List D)
  | .list xs => some xs
  | .tuple xs => some xs
  | _ => none
/-- over a list or a tuple; seen -/
def iSeq (f : ES) : EI := fun ρ g => (vl f ρ g).bind fun p => (seqOf p.1).map fun ds => (ds, p.2)
def iSeqV (f : ES) : EI := fun ρ g => (vw f ρ g).bind fun p => (seqOf p.1).map fun ds => (ds, p.2)
section
variable {K : PySem.W.Frag}
theorem itl_ok {Z : Addr → Prop} {p : Addr} {vs : List V} {ds : List D} {F H : Hp} (h : ∀ F1 H1, Sub F1 H1 → Step Z F H F1 H1 → H1 p = some (.lst vs)) (r : RpAll K F vs ds) : ItOk K Z (Itl K p) ds F H where
  go := fun i F1 H1 d s x e => by
    obtain ⟨v, hv, rv⟩ := r.get e
    have hp := h F1 H1 s x
    refine ⟨⟨vs, v, .of hp, hv⟩, fun y H2 hy => ?_⟩
    obtain ⟨rfl, hy⟩ := hy
    have ey : y = v := Option.some.inj ((hy vs (.of hp)).symm.trans hv)
    subst ey
    exact ⟨F1, .refl, s, x.sub.rp rv⟩
  stop := fun i F1 H1 s x e => ⟨vs, .of (h F1 H1 s x), by rw [r.length]; exact e⟩
theorem itt_ok {Z : Addr → Prop} {p : Addr} {vs : List V} {ds : List D} {F H : Hp} (h : F p = some (.tup vs)) (r : RpAll K F vs ds) : ItOk K Z (Itt K p) ds F H where
  go := fun i F1 H1 d s x e => by
    obtain ⟨v, hv, rv⟩ := r.get e
    have hp := s.tup (x.le _ _ h)
    refine ⟨⟨vs, v, .of hp, hv⟩, fun y H2 hy => ?_⟩
    obtain ⟨rfl, hy⟩ := hy
    have ey : y = v := Option.some.inj ((hy vs (.of hp)).symm.trans hv)
    subst ey
    exact ⟨F1, .refl, s, x.sub.rp rv⟩
  stop := fun i F1 H1 s x e => ⟨vs, .of (s.tup (x.le _ _ h)), by rw [r.length]; exact e⟩
theorem Wp.seq {t : TE} {f : ES} (a : Wp K t f) : WpI K (fun σ H R => iList K t σ H R ∨ iTup K t σ H R) (iSeq f) := fun σ ρ g F H ps pc ds g' Q E e q => by
  obtain ⟨⟨d, g1⟩, e1, e⟩ := bind_some e
  obtain ⟨ds', e2, e3⟩ := map_some e
  cases e3
  cases d with
  | list xs =>
    cases e2
    refine .inl (a.vl σ ρ g F H ps pc _ _ _ E e1 fun v F1 H1 hk x1 E1 r1 => ?_)
    cases r1 with
    | lst h r => exact ⟨_, rfl, ⟨_, .of (E1.sub.lst h)⟩, q _ F1 H1 hk x1 E1 fun Z _ => itl_ok (fun F2 H2 s x => s.lst (x.le _ _ h)) r⟩
  | tuple xs =>
    cases e2
    refine .inr (a.vl σ ρ g F H ps pc _ _ _ E e1 fun v F1 H1 hk x1 E1 r1 => ?_)
    cases r1 with
    | tup h r => exact ⟨_, rfl, ⟨_, .of (E1.sub.tup h)⟩, q _ F1 H1 hk x1 E1 fun Z _ => itt_ok h r⟩
  | _ => cases e2
theorem Wp.seqV {t : TE} {f : ES} (a : Wp K t f) : WpIv K (fun σ H R => iList K t σ H R ∨ iTup K t σ H R) (iSeqV f) := fun σ ρ g F H ps pc ds g' Q E e q => by
  obtain ⟨⟨d, g1⟩, e1, e⟩ := bind_some e
  obtain ⟨ds', e2, e3⟩ := map_some e
  cases e3
  cases d with
  | list xs =>
    cases e2
    refine .inl (a.vw σ ρ g F H ps pc _ _ _ E e1 fun v F1 H1 hk x1 E1 r1 => ?_)
    cases r1 with
    | sh r1 =>
      cases r1 with
      | lst h r => exact ⟨_, rfl, ⟨_, .of (E1.sub.lst h)⟩, q _ F1 H1 hk x1 E1 (itl_ok (fun F2 H2 s x => s.lst (x.le _ _ h)) r)⟩
    | ol hp hz r => 
      exact ⟨_, rfl, ⟨_, .of hp⟩, q _ F1 H1 hk x1 E1 (itl_ok (fun F2 H2 s x => x.keep _ _ hp fun z => hz z.1) r)⟩
  | tuple xs =>
    cases e2
    refine .inr (a.vw σ ρ g F H ps pc _ _ _ E e1 fun v F1 H1 hk x1 E1 r1 => ?_)
    obtain ⟨p, vs, rfl, hf, hp, r⟩ := r1.tuple E1.sub
    exact ⟨_, rfl, ⟨_, hp⟩, q _ F1 H1 hk x1 E1 (itt_ok hf r)⟩
  | _ => cases e2
/-- ranges -/
def rngD (lo : Int) (n : Nat) : List D := (List.range n).map fun i => .int (lo + (i : Nat))
def smallR (i : Int) : Bool := decide (-(2 ^ 62) ≤ i) && decide (i < 2 ^ 62)
def iRange1 (f : EA) : EI := fun ρ g => (f ρ g).bind fun p => match p.1 with | [.int j] => if smallR j = true then some (rngD 0 j.toNat, p.2) else none | _ => none
def iRange2 (f : EA) : EI := fun ρ g => (f ρ g).bind fun p => match p.1 with | [.int i, .int j] => if (smallR i && smallR j) = true then some (rngD i (j - i).toNat, p.2) else none | _ => none
theorem rngD_get {lo : Int} {n i : Nat} {d : D} (h : (rngD lo n)[i]? = some d) : i < n ∧ d = .int (lo + (i : Nat)) := by
  unfold rngD at h
  rw [List.getElem?_map] at h
  by_cases hi : i < n
  · rw [List.getElem?_range hi] at h
    exact ⟨hi, (Option.some.inj h).symm⟩
  · rw [List.getElem?_eq_none (by simpa using hi)] at h
    cases h
theorem itr_ok {Z : Addr → Prop} {lo : Int} {n : Nat} {F H : Hp} : ItOk K Z (Itr lo n) (rngD lo n) F H where
  go := fun i F1 H1 d s x e => by
    obtain ⟨hi, rfl⟩ := rngD_get e
    refine ⟨hi, fun y H2 hy => ?_⟩
    obtain ⟨rfl, rfl⟩ := hy
    exact ⟨F1, .refl, s, .int _⟩
  stop := fun i F1 H1 s x e => by
    have e : (rngD lo n).length ≤ i := e
    unfold rngD at e
    rw [List.length_map, List.length_range] at e
    exact e
theorem smallR_ok {i : Int} (h : smallR i = true) : -(2 ^ 62) ≤ i ∧ i < 2 ^ 62 := by
  simp only [smallR, Bool.and_eq_true, decide_eq_true_eq] at h
  exact h
theorem WpA.range1 {t : TA} {f : EA} (a : WpA K t f) : WpI K (iRng1 t) (iRange1 f) := fun σ ρ g F H ps pc ds g' Q E e q => by
  obtain ⟨⟨l, g1⟩, e1, e⟩ := bind_some e
  dsimp only at e
  split at e
  · split at e
    · rename_i j hj
      injection e with e
      injection e with e2 e3
      subst e2 e3
      refine a σ ρ g F H ps pc _ _ _ E e1 fun vs F1 H1 hk x1 E1 r1 => ?_
      obtain ⟨x, rfl, rx⟩ := paired1 r1
      obtain ⟨h1, h2⟩ := smallR_ok hj
      exact ⟨j, by rw [rx.int], h1, h2, q _ F1 H1 hk x1 E1 fun Z _ => itr_ok⟩
    · cases e
  · cases e
theorem WpA.range2 {t : TA} {f : EA} (a : WpA K t f) : WpI K (iRng2 t) (iRange2 f) := fun σ ρ g F H ps pc ds g' Q E e q => by
  obtain ⟨⟨l, g1⟩, e1, e⟩ := bind_some e
  dsimp only at e
  split at e
  · split at e
    · rename_i i j hj
      rw [Bool.and_eq_true] at hj
      injection e with e
      injection e with e2 e3
      subst e2 e3
      refine a σ ρ g F H ps pc _ _ _ E e1 fun vs F1 H1 hk x1 E1 r1 => ?_
      obtain ⟨x, y, rfl, rx, ry⟩ := paired2 r1
      obtain ⟨h1, h2⟩ := smallR_ok hj.1
      obtain ⟨h3, h4⟩ := smallR_ok hj.2
      exact ⟨i, j, by rw [rx.int, ry.int], ⟨h1, h2, h3, h4⟩, q _ F1 H1 hk x1 E1 fun Z _ => itr_ok⟩
    · cases e
  · cases e
/-- enumerate(list), zip(list, list) -/
def enumD : Nat → List D → List D
  | _, [] => []
  | n, d :: ds => .tuple [.int (n : Nat), d] :: enumD (n + 1) ds
def zipD : List D → List D → List D
  | x :: xs, y :: ys => .tuple [x, y] :: zipD xs ys
  | _, _ => []
def iEnumD (f : EA) : EI := fun ρ g => (f ρ g).bind fun p => match p.1 with | [.list xs] => some (enumD 0 xs, p.2) | _ => none
def iZipD (f : EA) : EI := fun ρ g => (f ρ g).bind fun p => match p.1 with | [.list xs, .list ys] => some (zipD xs ys, p.2) | _ => none
theorem enumD_get : ∀ {ds : List D} {n i : Nat} {d : D}, (enumD n ds)[i]? = some d → ∃ z, ds[i]? = some z ∧ d = .tuple [.int ((n + i : Nat) : Int), z]
  | [], _, _, _, h => by simp [enumD] at h
  | x :: ds, n, 0, d, h => by
    have h : some (PyData.tuple [.int (n : Nat), x]) = some d := by simpa [enumD] using h
    exact ⟨x, rfl, (Option.some.inj h).symm⟩
  | x :: ds, n, i + 1, d, h => by
    obtain ⟨z, h1, h2⟩ := enumD_get (ds := ds) (n := n + 1) (i := i) (by simpa [enumD] using h)
    refine ⟨z, by simpa using h1, ?_⟩
    rw [h2, show n + 1 + i = n + (i + 1) by omega]
theorem enumD_len : ∀ (ds : List D) (n : Nat), (enumD n ds).length = ds.length
  | [], _ => rfl
  | _ :: ds, n => congrArg (· + 1) (enumD_len ds (n + 1))
theorem zipD_get : ∀ {xs ys : List D} {i : Nat} {d : D}, (zipD xs ys)[i]? = some d → ∃ x y, xs[i]? = some x ∧ ys[i]? = some y ∧ d = .tuple [x, y]
  | [], _, _, _, h => by simp [zipD] at h
  | _ :: _, [], _, _, h => by simp [zipD] at h
  | x :: xs, y :: ys, 0, d, h => by
    have h : some (PyData.tuple [x, y]) = some d := by simpa [zipD] using h
    exact ⟨x, y, rfl, rfl, (Option.some.inj h).symm⟩
  | x :: xs, y :: ys, i + 1, d, h => by
    obtain ⟨a, b, h1, h2, h3⟩ := zipD_get (xs := xs) (ys := ys) (i := i) (by simpa [zipD] using h)
    exact ⟨a, b, by simpa using h1, by simpa using h2, h3⟩
theorem zipD_len : ∀ (xs ys : List D), (zipD xs ys).length = min xs.length ys.length
  | [], ys => by simp [zipD]
  | _ :: _, [] => by simp [zipD]
  | x :: xs, y :: ys => by
    rw [zipD, List.length_cons, zipD_len xs ys, List.length_cons, List.length_cons]
    omega
theorem pair_new {F1 H1 : Hp} {T : Addr} {vs : List V} {ds : List D} (s : Sub F1 H1) (hT : H1 T = none) (r : RpAll K F1 vs ds) : ∃ F2, Step NoZ F1 H1 F2 (upd H1 T (.tup vs)) ∧ Sub F2 (upd H1 T (.tup vs)) ∧ Rp K F2 (.ref T) (.tuple ds) := by
  have x : Step NoZ F1 H1 (upd F1 T (.tup vs)) (upd H1 T (.tup vs)) := .new s hT
  exact ⟨_, x, s.upd2, .tup upd_same (x.sub.rpAll r)⟩
theorem seenL {Z : Addr → Prop} {v : V} {ds : List D} {F H : Hp} (hs : Sub F H) (h : RpS K F H Z v (.list ds)) : ∃ p vs, v = .ref p ∧ H p = some (.lst vs) ∧ RpAll K F vs ds ∧ ∀ F1 H1, Sub F1 H1 → Step (fun a => Z a ∧ F a = none) F H F1 H1 → H1 p = some (.lst vs) := by
  cases h with
  | sh r =>
    cases r with
    | lst h r => exact ⟨_, _, rfl, hs.lst h, r, fun F1 H1 s x => s.lst (x.le _ _ h)⟩
  | ol hp hz r => exact ⟨_, _, rfl, hp, r, fun F1 H1 s x => x.keep _ _ hp fun z => hz z.1⟩
theorem WpA.enum {t : TA} {f : EA} (a : WpA K t f) : WpIv K (iEnum K t) (iEnumD f) := fun σ ρ g F H ps pc ds g' Q E e q => by
  obtain ⟨⟨l, g1⟩, e1, e⟩ := bind_some e
  dsimp only at e
  split at e
  · injection e with e
    injection e with e2 e3
    subst e2 e3
    refine a σ ρ g F H ps pc _ _ _ E e1 fun vs F1 H1 hk x1 E1 r1 => ?_
    obtain ⟨x, rfl, rx⟩ := paired1 r1
    obtain ⟨p, vs, rfl, hp, r, hst⟩ := seenL E1.sub rx
    refine ⟨p, vs, rfl, .of hp, q _ F1 H1 hk x1 E1 ⟨fun i F2 H2 d s x e => ?_, fun i F2 H2 s x e => ⟨vs, .of (hst F2 H2 s x), by rw [r.length]; rw [enumD_len] at e; exact e⟩⟩⟩
    obtain ⟨z, hz, rfl⟩ := enumD_get e
    obtain ⟨v, hv, rv⟩ := r.get hz
    have hp2 := hst F2 H2 s x
    refine ⟨⟨vs, v, .of hp2, hv⟩, fun y H3 hy => ?_⟩
    obtain ⟨T, w, rfl, hT, rfl, hy⟩ := hy
    have ew : w = v := Option.some.inj ((hy vs (.of hp2)).symm.trans hv)
    subst ew
    rw [Nat.zero_add]
    exact pair_new s hT (.cons (.int _) (.cons (x.sub.rp rv) .nil))
  · cases e
theorem WpA.zip {t : TA} {f : EA} (a : WpA K t f) : WpIv K (iZip K t) (iZipD f) := fun σ ρ g F H ps pc ds g' Q E e q => by
  obtain ⟨⟨l, g1⟩, e1, e⟩ := bind_some e
  dsimp only at e
  split at e
  · injection e with e
    injection e with e2 e3
    subst e2 e3
    refine a σ ρ g F H ps pc _ _ _ E e1 fun vs F1 H1 hk x1 E1 r1 => ?_
    obtain ⟨x, y, rfl, rx, ry⟩ := paired2 r1
    obtain ⟨p, vs, rfl, hp, r, hst⟩ := seenL E1.sub rx
    obtain ⟨p', vs', rfl, hp', r', hst'⟩ := seenL E1.sub ry
    refine ⟨p, p', vs, vs', rfl, .of hp, .of hp', q _ F1 H1 hk x1 E1 ⟨fun i F2 H2 d s x e => ?_, fun i F2 H2 s x e => ⟨vs, vs', .of (hst F2 H2 s x), .of (hst' F2 H2 s x), ?_⟩⟩⟩
    · obtain ⟨z, z', hz, hz', rfl⟩ := zipD_get e
      obtain ⟨v, hv, rv⟩ := r.get hz
      obtain ⟨v', hv', rv'⟩ := r'.get hz'
      have hp2 := hst F2 H2 s x
      have hp2' := hst' F2 H2 s x
      refine ⟨⟨vs, vs', v, v', .of hp2, .of hp2', hv, hv'⟩, fun y H3 hy => ?_⟩
      obtain ⟨T, w, w', rfl, hT, rfl, hy, hy'⟩ := hy
      have ew : w = v := Option.some.inj ((hy vs (.of hp2)).symm.trans hv)
      have ew' : w' = v' := Option.some.inj ((hy' vs' (.of hp2')).symm.trans hv')
      subst ew ew'
      exact pair_new s hT (.cons (x.sub.rp rv) (.cons (x.sub.rp rv') .nil))
    · rw [r.length, r'.length]
      rw [zipD_len] at e
      omega
  · cases e
end
section
variable {ι : Type} {Xs : ι → Cx} {K : PySem.W.Frag} {P : Program} {w : World} {mg : Str → Option Value} {base : Heap} {k : Nat} {tg e e2 : Expr} {f : ES} {fa : EA} {p pos tpos : Pos}
theorem si_seq (hK : ∀ i, (Xs i).K = K) (h : SdE Xs K e f) : SdI Xs K tg e (iSeq f) := by
  obtain ⟨t, p, w⟩ := h
  exact ⟨_, fun i => by rw [← hK i]; exact Sd.PI.or (pi_list (p i)) (pi_tup (p i)), w.seq⟩
theorem si_seqV (hK : ∀ i, (Xs i).K = K) (h : SdE Xs K e f) : SdIv Xs K tg e (iSeqV f) := by
  obtain ⟨t, p, w⟩ := h
  exact ⟨_, fun i => by rw [← hK i]; exact Sd.PI.or (pi_list (p i)) (pi_tup (p i)), w.seqV⟩
theorem si_range1 (hg : ∀ i, Gl (Xs i) "range") (hm : ∀ i, (Xs i).mg "range" = none) (h : SdA Xs K [e] fa) (hs : ∀ i, starEach [e] (Xs i).env = [(false, eval e (Xs i).env)] := by intro _; rfl) : SdI Xs K tg (.Call (.Name "range" p) [e] [] pos) (iRange1 fa) := by
  obtain ⟨t, pa, w⟩ := h
  exact ⟨_, fun i => pi_range1 (hg i) (hm i) (pa i) (hs i), w.range1⟩
theorem si_range2 (hg : ∀ i, Gl (Xs i) "range") (hm : ∀ i, (Xs i).mg "range" = none) (h : SdA Xs K [e, e2] fa) (hs : ∀ i, starEach [e, e2] (Xs i).env = [(false, eval e (Xs i).env), (false, eval e2 (Xs i).env)] := by intro _; rfl) (hs2 : ∀ i, starEach [e2] (Xs i).env = [(false, eval e2 (Xs i).env)] := by intro _; rfl) :
    SdI Xs K tg (.Call (.Name "range" p) [e, e2] [] pos) (iRange2 fa) := by
  obtain ⟨t, pa, w⟩ := h
  exact ⟨_, fun i => pi_range2 (hg i) (hm i) (pa i) (hs i) (hs2 i), w.range2⟩
theorem si_enum {elts : List Expr} {kk : Nat} (hK : ∀ i, (Xs i).K = K) (hg : ∀ i, Gl (Xs i) "enumerate") (hm : ∀ i, (Xs i).mg "enumerate" = none) (h : SdA Xs K [e] fa) (hs : ∀ i, starEach [e] (Xs i).env = [(false, eval e (Xs i).env)] := by intro _; rfl) :
    SdIv Xs K (.Tuple elts kk tpos) (.Call (.Name "enumerate" p) [e] [] pos) (iEnumD fa) := by
  obtain ⟨t, pa, w⟩ := h
  exact ⟨_, fun i => by rw [← hK i]; exact pi_enum (hg i) (hm i) (pa i) (hs i), w.enum⟩
theorem si_zip {elts : List Expr} {kk : Nat} (hK : ∀ i, (Xs i).K = K) (hg : ∀ i, Gl (Xs i) "zip") (hm : ∀ i, (Xs i).mg "zip" = none) (h : SdA Xs K [e, e2] fa) (hs : ∀ i, starEach [e, e2] (Xs i).env = (false, eval e (Xs i).env) :: starEach [e2] (Xs i).env := by intro _; rfl)
    (hpl : ∀ i, (backTo pos (starEach [e2] (Xs i).env)).any (·.1) = false := by intro _; rfl) : SdIv Xs K (.Tuple elts kk tpos) (.Call (.Name "zip" p) [e, e2] [] pos) (iZipD fa) := by
  obtain ⟨t, pa, w⟩ := h
  exact ⟨_, fun i => by rw [← hK i]; exact pi_zip (hg i) (hm i) (pa i) (hs i) (hpl i), w.zip⟩
end
end Sd

namespace Sd
open PySem PySem.Spec L2
/-! ### Sd8: list comprehensions -/
def compL (step : D → G → Option (List D × G)) : List D → G → Option (List D × G)
  | [], g => some ([], g)
  | d :: ds, g => (step d g).bind fun p => (compL step ds p.2).map fun q => (p.1 ++ q.1, q.2)
def bYes : EB := fun _ g => some (true, g)
def cStep (ρ : List Sl) (tg : FG) (tt : EB) (fe : ES) : D → G → Option (List D × G) := fun d g => (tg d ρ).bind fun ρ1 => (tt ρ1 g).bind fun b => if b.1 = true then (vl fe ρ1 b.2).map fun e => ([e.1], e.2) else some ([], b.2)
/-- [fe for tg in fi if tt], vs: the comprehension's own slots -/
def fComp (vs : List Nat) (fi : EI) (tg : FG) (tt : EB) (fe : ES) : ES := fun ρ g => (fi ρ g).bind fun p => (compL (cStep (wipeS ρ vs) tg tt fe) p.1 p.2).bind fun q => if q.1.length ≤ sizeLine then some (.f q.1, q.2) else none
def cStep2 (ρ : List Sl) (tg : FG) (tt : EB) (fi1 : EI) (vs1 : List Nat) (tg1 : FG) (tt1 : EB) (fe : ES) : D → G → Option (List D × G) := fun d g => (tg d ρ).bind fun ρ1 => (tt ρ1 g).bind fun b =>
  if b.1 = true then (fi1 ρ1 b.2).bind fun p => compL (cStep (wipeS ρ1 vs1) tg1 tt1 fe) p.1 p.2 else some ([], b.2)
/-- [fe for tg in fi if tt for tg1 in fi1 if tt1] -/
def fComp2 (vs : List Nat) (fi : EI) (tg : FG) (tt : EB) (fi1 : EI) (vs1 : List Nat) (tg1 : FG) (tt1 : EB) (fe : ES) : ES := fun ρ g => (fi ρ g).bind fun p => (compL (cStep2 (wipeS ρ vs) tg tt fi1 vs1 tg1 tt1 fe) p.1 p.2).bind fun q => if q.1.length ≤ sizeLine then some (.f q.1, q.2) else none
theorem compL_drop {step : D → G → Option (List D × G)} {ds : List D} {i : Nat} {d : D} (h : ds[i]? = some d) {g g' : G} {r : List D} (e : compL step (ds.drop i) g = some (r, g')) :
    ∃ p q, step d g = some p ∧ compL step (ds.drop (i + 1)) p.2 = some (q, g') ∧ r = p.1 ++ q := by
  have hl : i < ds.length := (List.getElem?_eq_some_iff.mp h).1
  have hd : ds[i] = d := (List.getElem?_eq_some_iff.mp h).2
  rw [List.drop_eq_getElem_cons hl, hd] at e
  obtain ⟨p, e1, e2⟩ := bind_some (show (step d g).bind (fun p => (compL step (ds.drop (i + 1)) p.2).map fun q => (p.1 ++ q.1, q.2)) = some (r, g') from e)
  obtain ⟨q, e3, e4⟩ := map_some e2
  obtain ⟨q1, q2⟩ := q
  injection e4 with e5 e6
  dsimp only at e5 e6
  subst e6
  exact ⟨p, q1, e1, e3, e5.symm⟩
/-- a step that leaves alone what the slots own -/
theorem RepE.move {K : PySem.W.Frag} {ps pc : Addr} {F H F' H' : Hp} {σ : L2.St} {ρ : List Sl} {g g' : G} {Z : Addr → Prop} (E : RepE K F H ps pc σ ρ g) (x : Step Z F H F' H') (hz : ∀ a, Z a → ZO σ ρ a) (s : Sub F' H') (hk : g'.kd = g.kd) (st : RpG F' H' ps pc g') : RepE K F' H' ps pc σ ρ g' := by
  have no : ∀ (p : Addr) (i : Nat) (sl : Sl), ρ[i]? = some sl → sl.own → σ[i]? = some (some (.ref p)) → F' p = none ∧ ∀ u, H p = some u → H' p = some u := fun p i sl h ho e => by
    obtain ⟨u, hu, ht, hf, _⟩ := E.ownAt h ho e
    have nz : ¬ Z p := fun z => hz p z ⟨i, sl, h, ho, e⟩
    refine ⟨?_, fun w hw => x.keep _ _ hw nz⟩
    cases q : F' p with
    | none => rfl
    | some w =>
      rcases x.newF p (by rw [q]; exact fun z => by cases z) with z | z | z | ⟨ys, z⟩
      · exact absurd hf z
      · rw [hu] at z; cases z
      · exact absurd z nz
      · rw [hu] at z
        exact absurd (Option.some.inj z) (ht ys)
  refine ⟨s, E.len, fun i sl h => ?_, E.sep, st⟩
  rw [hk]
  have q := E.slot i sl h
  cases sl with
  | no => trivial
  | sh d =>
    obtain ⟨v, e, r⟩ := q
    exact ⟨v, e, x.sub.rp r⟩
  | ol xs =>
    obtain ⟨p, vs, e, hp, hf, hx, r⟩ := q
    obtain ⟨h1, h2⟩ := no p i _ h trivial e
    exact ⟨p, vs, e, h2 _ hp, h1, hx, x.sub.rpAll r⟩
  | od t es =>
    obtain ⟨p, ks, vs, ds, e, hp, hf, hx, r, z⟩ := q
    obtain ⟨h1, h2⟩ := no p i _ h trivial e
    exact ⟨p, ks, vs, ds, e, hp.congr h2, h1, hx, x.sub.rpAll r, z⟩
  | st => exact q
section
variable {K : PySem.W.Frag} {ps pc : Addr}
/-- the list D is being filled, all else but the state stands as it stood at (F0, H0) -/
structure Fill (K : PySem.W.Frag) (ps pc : Addr) (F0 H0 : Hp) (k : GK) (σ : L2.St) (ρ : List Sl) (Dl : Addr) (F H : Hp) (g : G) (acc : List D) : Prop where
  kd : g.kd = k
  x : Step (fun a => Ex k ps pc a ∨ H0 a = none) F0 H0 F H
  E : RepE K F H ps pc σ ρ g
  fr : F Dl = none
  at_ : ∃ vs, H Dl = some (.lst vs) ∧ RpAll K F vs acc
variable {F0 H0 : Hp} {k : GK} {σ : L2.St} {ρ : List Sl} {Dl : Addr} {F H : Hp} {g : G} {acc : List D}
/-- a step that changes the state alone -/
theorem Fill.step (f : Fill K ps pc F0 H0 k σ ρ Dl F H g acc) (h0 : H0 Dl = none) (E0 : ∃ g0 : G, g0.kd = k ∧ RepE K F0 H0 ps pc σ ρ g0) {F' H' : Hp} {g' : G} (hk : g'.kd = g.kd) (x : Step (Ex g.kd ps pc) F H F' H') (s : Sub F' H') (st : RpG F' H' ps pc g') : Fill K ps pc F0 H0 k σ ρ Dl F' H' g' acc := by
  obtain ⟨vs, e, r⟩ := f.at_
  obtain ⟨g0, hg0, E0⟩ := E0
  have hx : ¬ Ex g.kd ps pc Dl := by
    rw [f.kd, ← hg0]
    exact fresh_ex E0 h0
  refine ⟨hk.trans f.kd, f.x.trans x fun a z => .inl (.inl (by rw [← f.kd]; exact z)), f.E.step x s hk st, ?_, vs, x.keep _ _ e hx, x.sub.rpAll r⟩
  cases q : F' Dl with
  | none => rfl
  | some u =>
    rcases x.newF Dl (by rw [q]; exact fun z => by cases z) with z | z | z | ⟨ys, z⟩
    · exact absurd f.fr z
    · rw [e] at z; cases z
    · exact absurd z hx
    · rw [e] at z; cases z
theorem Fill.push (f : Fill K ps pc F0 H0 k σ ρ Dl F H g acc) (h0 : H0 Dl = none) (E0 : ∃ g0 : G, g0.kd = k ∧ RepE K F0 H0 ps pc σ ρ g0) {y : V} {d : D} (r : Rp K F y d) :
    ∃ vs, H Dl = some (.lst vs) ∧ vs.length = acc.length ∧ Fill K ps pc F0 H0 k σ ρ Dl F (upd H Dl (.lst (vs ++ [y]))) g (acc ++ [d]) := by
  obtain ⟨vs, e, ra⟩ := f.at_
  obtain ⟨g0, hg0, E0⟩ := E0
  have hx : ¬ Ex g.kd ps pc Dl := by
    rw [f.kd, ← hg0]
    exact fresh_ex E0 h0
  refine ⟨vs, e, ra.length, f.kd, f.x.same (.write (.inr h0) (fun xs z => by rw [e] at z; cases z) (by rw [e]; exact fun z => by cases z)), f.E.upd f.fr hx fun i s h ho z => ?_, f.fr, _, upd_same, ra.append (.one r)⟩
  obtain ⟨u, hu, _⟩ := E0.ownAt h ho z
  rw [h0] at hu
  cases hu
/-- the turns of one source: from turn i on, what they make is told by compL -/
theorem fill_loop {J : It} {ds : List D} {step : D → G → Option (List D × G)} {body : V → Hp → (Hp → Prop) → Prop} {End : Hp → Prop} {full : List D} {g9 : G} {F1 H1 : Hp} {g1 : G} {accs : List D}
    (h0 : H0 Dl = none) (E0 : ∃ g0 : G, g0.kd = k ∧ RepE K F0 H0 ps pc σ ρ g0)
    (io : ∀ i F H g acc, Fill K ps pc F0 H0 k σ ρ Dl F H g acc → Step (fun a => Ex k ps pc a ∨ a = Dl) F1 H1 F H → (∀ d, ds[i]? = some d → J.go i H ∧ ∀ x H2, J.yld i H x H2 → ∃ F2, Step NoZ F H F2 H2 ∧ Sub F2 H2 ∧ Rp K F2 x d) ∧ (ds.length ≤ i → J.stop i H))
    (f1 : Fill K ps pc F0 H0 k σ ρ Dl F1 H1 g1 accs) (e : compL step ds g1 = some (full, g9)) (hlen : accs.length + full.length ≤ sizeLine)
    (turn : ∀ x d F H g acc p (Q : Hp → Prop), Fill K ps pc F0 H0 k σ ρ Dl F H g acc → Step (fun a => Ex k ps pc a ∨ a = Dl) F1 H1 F H → Rp K F x d → step d g = some p → acc.length + p.1.length ≤ sizeLine → (∀ F' H', Fill K ps pc F0 H0 k σ ρ Dl F' H' p.2 (acc ++ p.1) → Step (fun a => Ex k ps pc a ∨ a = Dl) F H F' H' → Q H') → body x H Q)
    (fin : ∀ F H, Fill K ps pc F0 H0 k σ ρ Dl F H g9 (accs ++ full) → Step (fun a => Ex k ps pc a ∨ a = Dl) F1 H1 F H → End H) :
    ∃ W : Nat → Nat → Hp → Prop, (∃ m, W 0 m H1) ∧ ∀ i m H, W i m H → (J.stop i H ∧ End H) ∨ (J.go i H ∧ ∃ Nx : Hp → Prop, (∀ H', Nx H' → ∃ m', m' < m ∧ W (i + 1) m' H') ∧ ∀ x H', J.yld i H x H' → body x H' Nx) := by
  refine ⟨fun i m H => i ≤ ds.length ∧ m = ds.length - i ∧ ∃ F g acc rest, Fill K ps pc F0 H0 k σ ρ Dl F H g (accs ++ acc) ∧ Step (fun a => Ex k ps pc a ∨ a = Dl) F1 H1 F H ∧ compL step (ds.drop i) g = some (rest, g9) ∧ acc ++ rest = full,
    ⟨ds.length, Nat.zero_le _, rfl, F1, g1, [], full, by rw [List.append_nil]; exact f1, .refl, e, rfl⟩, ?_⟩
  rintro i m H ⟨hi, rfl, F, g, acc, rest, f, x, e9, rfl⟩
  obtain ⟨hgo, hstop⟩ := io i F H g _ f x
  by_cases hlt : i < ds.length
  · have hd : ds[i]? = some ds[i] := List.getElem?_eq_getElem hlt
    obtain ⟨p, q, e1, e2, rfl⟩ := compL_drop hd e9
    obtain ⟨h1, h2⟩ := hgo _ hd
    refine .inr ⟨h1, fun H' => ∃ F', Fill K ps pc F0 H0 k σ ρ Dl F' H' p.2 ((accs ++ acc) ++ p.1) ∧ Step (fun a => Ex k ps pc a ∨ a = Dl) F1 H1 F' H', fun H' ⟨F', f', x'⟩ => ⟨_, by omega, hlt, rfl, F', p.2, acc ++ p.1, q, by rw [← List.append_assoc]; exact f', x', e2, by rw [List.append_assoc]⟩, fun y H2 hy => ?_⟩
    obtain ⟨F2, x2, s2, r2⟩ := h2 y H2 hy
    have f2 : Fill K ps pc F0 H0 k σ ρ Dl F2 H2 g (accs ++ acc) := by
      obtain ⟨g0, hg0, E0⟩ := E0
      obtain ⟨vs, ea, ra⟩ := f.at_
      have hx : ¬ Ex k ps pc Dl := by
        rw [← hg0]
        exact fresh_ex E0 h0
      refine ⟨f.kd, f.x.trans x2 fun _ z => z.elim, f.E.pure x2 s2, ?_, vs, x2.keep _ _ ea id, x2.sub.rpAll ra⟩
      cases q : F2 Dl with
      | none => rfl
      | some u =>
        rcases x2.newF Dl (by rw [q]; exact fun z => by cases z) with z | z | z | ⟨ys, z⟩
        · exact absurd f.fr z
        · rw [ea] at z; cases z
        · exact z.elim
        · rw [ea] at z; cases z
    refine turn y _ F2 H2 g _ p _ f2 (x.trans x2 fun _ z => z.elim) r2 e1 ?_ fun F3 H3 f3 x3 => ⟨F3, f3, (x.trans x2 fun _ z => z.elim).same x3⟩
    simp only [List.length_append] at hlen ⊢
    omega
  · have e0 : ds.drop i = [] := List.drop_eq_nil_iff.mpr (by omega)
    rw [e0] at e9
    cases e9
    rw [List.append_nil] at hlen fin
    exact .inl ⟨hstop (by omega), fin F H f x⟩
end

theorem wipe_get (σ : L2.St) : ∀ (vs : List Nat) (i : Nat), (L2.wipe σ vs)[i]? = if i ∈ vs then σ[i]?.map (fun _ => none) else σ[i]?
  | [], i => by simp [L2.wipe]
  | v :: vs, i => by
    show ((L2.wipe σ vs).set v none)[i]? = _
    have ih := wipe_get σ vs i
    by_cases e : v = i
    · subst e
      rw [if_pos List.mem_cons_self]
      by_cases hl : v < σ.length
      · rw [List.getElem?_set_self (by rw [wipe_length]; exact hl), List.getElem?_eq_getElem hl]
        rfl
      · rw [List.getElem?_eq_none (by rw [List.length_set, wipe_length]; omega), List.getElem?_eq_none (by omega)]
        rfl
    · rw [List.getElem?_set_ne e, ih]
      by_cases hi : i ∈ vs
      · rw [if_pos hi, if_pos (List.mem_cons_of_mem _ hi)]
      · rw [if_neg hi, if_neg fun z => (List.mem_cons.mp z).elim (fun z => e z.symm) hi]
theorem wipe_wipe (σ : L2.St) (vs : List Nat) : L2.wipe (L2.wipe σ vs) vs = L2.wipe σ vs := by
  refine List.ext_getElem? fun i => ?_
  rw [wipe_get, wipe_get]
  by_cases h : i ∈ vs
  · rw [if_pos h, if_pos h, Option.map_map]
    rfl
  · rw [if_neg h, if_neg h]
theorem wipeS_own (σ : L2.St) (ρ : List Sl) : ∀ (vs : List Nat) (i : Nat) (s : Sl), (wipeS ρ vs)[i]? = some s → s.own → ρ[i]? = some s ∧ (L2.wipe σ vs)[i]? = σ[i]?
  | [], i, s, h, _ => ⟨h, rfl⟩
  | v :: vs, i, s, h, ho => by
    rcases getSet (show ((wipeS ρ vs).set v .no)[i]? = some s from h) with ⟨_, rfl, _⟩ | ⟨ne, h⟩
    · exact ho.elim
    · obtain ⟨h1, h2⟩ := wipeS_own σ ρ vs i s h ho
      exact ⟨h1, (List.getElem?_set_ne ne).trans h2⟩
section
variable {K : PySem.W.Frag} {ps pc : Addr}
theorem Fill.start {F0 H0 : Hp} {σ : L2.St} {ρ : List Sl} {g : G} (E : RepE K F0 H0 ps pc σ ρ g) {Dl : Addr} (h0 : H0 Dl = none) : Fill K ps pc F0 H0 g.kd σ ρ Dl F0 (upd H0 Dl (.lst [])) g [] := by
  have hf := E.sub.none h0
  refine ⟨rfl, .own h0, E.upd hf (fresh_ex E h0) fun i s h ho z => ?_, hf, [], upd_same, .nil⟩
  obtain ⟨u, hu, _⟩ := E.ownAt h ho z
  rw [h0] at hu
  cases hu
/-- one turn of the innermost source -/
theorem turn1 {g : TG} {tg : FG} {sl vs : List Nat} {tt : TT} {ft : EB} {te : TE} {fe : ES} (hg : WpG K g tg sl) (hsl : ∀ i ∈ sl, i ∈ vs) (ht : WpB K tt ft) (he : Wp K te fe)
    {F0 H0 : Hp} {k : GK} {σ : L2.St} {ρ : List Sl} {Dl : Addr} (h0 : H0 Dl = none) (E0 : ∃ g0 : G, g0.kd = k ∧ RepE K F0 H0 ps pc σ ρ g0)
    {σw : L2.St} {ρw : List Sl} (x : V) (d : D) (F H : Hp) (gg : G) (acc : List D) (p : List D × G) (Q : Hp → Prop) (f : Fill K ps pc F0 H0 k σ ρ Dl F H gg acc) (Ew : RepE K F H ps pc (L2.wipe σw vs) (wipeS ρw vs) gg) (r : Rp K F x d)
    (e : cStep (wipeS ρw vs) tg ft fe d gg = some p) (hl : acc.length + p.1.length ≤ sizeLine) (q : ∀ F' H', Fill K ps pc F0 H0 k σ ρ Dl F' H' p.2 (acc ++ p.1) → Step (fun a => Ex k ps pc a ∨ a = Dl) F H F' H' → Q H') :
    g x (L2.wipe σw vs) H fun σ2 H2 => L2.wipe σ2 vs = L2.wipe σw vs ∧ tt σ2 H2 fun b H3 => if b = true then te σ2 H3 fun y H4 => ∃ acc, H4 Dl = some (.lst acc) ∧ acc.length < sizeLine ∧ Q (upd H4 Dl (.lst (acc ++ [y]))) else Q H3 := by
  obtain ⟨ρ1, e1, e⟩ := bind_some e
  obtain ⟨⟨b, g2⟩, e2, e⟩ := bind_some e
  dsimp only at e
  refine hg (L2.wipe σw vs) (wipeS ρw vs) gg F H ps pc x d ρ1 _ Ew r e1 fun σ2 E2 w2 o2 => ⟨by rw [w2 vs hsl, wipe_wipe], ?_⟩
  refine ht σ2 ρ1 gg F H ps pc _ _ _ E2 e2 fun F3 H3 hk3 x3 E3 => ?_
  have f3 := f.step h0 E0 hk3 x3 E3.sub E3.st
  have y3 : Step (fun a => Ex k ps pc a ∨ a = Dl) F H F3 H3 := x3.mono fun a z => .inl (by rw [← f.kd]; exact z)
  by_cases hb : b = true
  · rw [if_pos hb] at e ⊢
    obtain ⟨⟨d4, g4⟩, e4, e5⟩ := map_some e
    cases e5
    refine he.vl σ2 ρ1 g2 F3 H3 ps pc _ _ _ E3 e4 fun y F4 H4 hk4 x4 E4 r4 => ?_
    have f4 := f3.step h0 E0 hk4 x4 E4.sub E4.st
    have y4 : Step (fun a => Ex k ps pc a ∨ a = Dl) F3 H3 F4 H4 := x4.mono fun a z => .inl (by rw [← f3.kd]; exact z)
    obtain ⟨vs4, h4, l4, f5⟩ := f4.push h0 E0 r4
    refine ⟨vs4, h4, by rw [l4]; simp only [List.length_singleton] at hl; omega, q _ _ f5 ?_⟩
    exact (y3.same y4).same (.write (.inr rfl) (fun xs z => by rw [h4] at z; cases z) (by rw [h4]; exact fun z => by cases z))
  · rw [if_neg hb] at e ⊢
    cases e
    refine q _ _ ?_ y3
    rw [List.append_nil]
    exact f3
theorem zv_fill {F0 H0 : Hp} {σ : L2.St} {ρ : List Sl} {g0 : G} (E0 : RepE K F0 H0 ps pc σ ρ g0) (a : Addr) (h : Ex g0.kd ps pc a ∨ H0 a = none) : ZV F0 σ ρ a := by
  refine ⟨?_, h.elim (fun h => (E0.st.has h).choose_spec.2) fun h => E0.sub.none h⟩
  rcases h with h | h
  · exact E0.exZ a h
  · rintro ⟨i, s, h1, h2, h3⟩
    obtain ⟨u, hu, _⟩ := E0.ownAt h1 h2 h3
    rw [h] at hu
    cases hu
/-- what a comprehension makes -/
theorem comp_core {g : TG} {tg : FG} {sl vs : List Nat} {tt : TT} {ft : EB} {te : TE} {fe : ES} (hg : WpG K g tg sl) (hsl : ∀ i ∈ sl, i ∈ vs) (ht : WpB K tt ft) (he : Wp K te fe)
    {σ : L2.St} {ρ : List Sl} {g1 g9 : G} {F1 H1 : Hp} {J : It} {ds full : List D} {Q : VK} (E1 : RepE K F1 H1 ps pc σ ρ g1) (io : ItOk K (ZV F1 σ ρ) J ds F1 H1) (e2 : compL (cStep (wipeS ρ vs) tg ft fe) ds g1 = some (full, g9)) (hlen : full.length ≤ sizeLine)
    (q : ∀ v F' H', g9.kd = g1.kd → Step (Ex g1.kd ps pc) F1 H1 F' H' → RepE K F' H' ps pc σ ρ g9 → RepR K H1 F' H' ps g1.kd σ ρ v (.f full) → Q v H') :
    ∀ Dl, H1 Dl = none → ∃ W : Nat → Nat → Hp → Prop, (∃ m, W 0 m (upd H1 Dl (.lst []))) ∧ ∀ i m H, W i m H →
      (J.stop i H ∧ Q (.ref Dl) H) ∨ (J.go i H ∧ ∃ Nx : Hp → Prop, (∀ H', Nx H' → ∃ m', m' < m ∧ W (i + 1) m' H') ∧ ∀ x H', J.yld i H x H' → g x (L2.wipe σ vs) H' fun σ2 H2 => L2.wipe σ2 vs = L2.wipe σ vs ∧ tt σ2 H2 fun b H3 =>
        if b = true then te σ2 H3 fun y H4 => ∃ acc, H4 Dl = some (.lst acc) ∧ acc.length < sizeLine ∧ Nx (upd H4 Dl (.lst (acc ++ [y]))) else Nx H3) := fun Dl hD => by
  have E0 : ∃ g0 : G, g0.kd = g1.kd ∧ RepE K F1 H1 ps pc σ ρ g0 := ⟨g1, rfl, E1⟩
  refine fill_loop (body := fun x H Nx => g x (L2.wipe σ vs) H fun σ2 H2 => L2.wipe σ2 vs = L2.wipe σ vs ∧ tt σ2 H2 fun b H3 => if b = true then te σ2 H3 fun y H4 => ∃ acc, H4 Dl = some (.lst acc) ∧ acc.length < sizeLine ∧ Nx (upd H4 Dl (.lst (acc ++ [y]))) else Nx H3)
    (End := fun H => Q (.ref Dl) H) hD E0 (fun i F2 H2 g2 acc f2 _ => ?_) (Fill.start E1 hD) e2 (by rw [List.length_nil, Nat.zero_add]; exact hlen) (fun x d F2 H2 g2 acc p Q2 f2 _ r2 ep hl q2 => ?_) fun F2 H2 f2 _ => ?_
  · have y := f2.x.mono (zv_fill E1)
    exact ⟨fun d hd => io.go i F2 H2 d f2.E.sub y hd, io.stop i F2 H2 f2.E.sub y⟩
  · exact turn1 hg hsl ht he hD E0 x d F2 H2 g2 acc p Q2 f2 (f2.E.wipe vs) r2 ep hl q2
  · rw [List.nil_append] at f2
    obtain ⟨vs2, h2, rr⟩ := f2.at_
    exact q _ F2 H2 f2.kd (Step.trans .refl f2.x fun a z => z) f2.E ⟨Dl, vs2, rfl, hD, h2, f2.fr, rr⟩
theorem Wp.comp {wi : TI} {fi : EI} {g : TG} {tg : FG} {sl vs : List Nat} {tt : TT} {ft : EB} {te : TE} {fe : ES} (hi : WpIv K wi fi) (hg : WpG K g tg sl) (hsl : ∀ i ∈ sl, i ∈ vs) (ht : WpB K tt ft) (he : Wp K te fe) :
    Wp K (tLc wi g tt te vs) (fComp vs fi tg ft fe) := fun σ ρ gg F H ps pc r g' Q E e q => by
  obtain ⟨⟨ds, g1⟩, e1, e⟩ := bind_some e
  obtain ⟨⟨full, g9⟩, e2, e⟩ := bind_some e
  dsimp only at e e2
  split at e
  · rename_i hlen
    cases e
    refine hi σ ρ gg F H ps pc _ _ _ E e1 fun J F1 H1 hk x1 E1 io => ?_
    refine comp_core hg hsl ht he E1 io e2 hlen fun v F2 H2 hk2 x2 E2 r2 => ?_
    rw [hk] at x2 r2
    exact q v F2 H2 (hk2.trans hk) (x1.same x2) E2 (r2.back x1.live)
  · cases e
theorem Wp.comp2 {wi wi1 : TI} {fi fi1 : EI} {g g1 : TG} {tg tg1 : FG} {sl vs sl1 vs1 : List Nat} {tt tt1 : TT} {ft ft1 : EB} {te : TE} {fe : ES} (hi : WpIv K wi fi) (hg : WpG K g tg sl) (hsl : ∀ i ∈ sl, i ∈ vs) (ht : WpB K tt ft)
    (hi1 : WpIv K wi1 fi1) (hg1 : WpG K g1 tg1 sl1) (hsl1 : ∀ i ∈ sl1, i ∈ vs1) (ht1 : WpB K tt1 ft1) (he : Wp K te fe) :
    Wp K (tLc2 wi g tt wi1 g1 tt1 te vs vs1) (fComp2 vs fi tg ft fi1 vs1 tg1 ft1 fe) := fun σ ρ gg F H ps pc r g' Q E e q => by
  obtain ⟨⟨ds, ga⟩, e1, e⟩ := bind_some e
  obtain ⟨⟨full, g9⟩, e2, e⟩ := bind_some e
  dsimp only at e e2
  split at e
  · rename_i hlen
    cases e
    refine hi σ ρ gg F H ps pc _ _ _ E e1 fun J F1 H1 hk x1 E1 io Dl hD => ?_
    have E0 : ∃ g0 : G, g0.kd = ga.kd ∧ RepE K F1 H1 ps pc σ ρ g0 := ⟨ga, rfl, E1⟩
    refine fill_loop (body := fun x H Nx => g x (L2.wipe σ vs) H fun σ2 H2 => L2.wipe σ2 vs = L2.wipe σ vs ∧ tt σ2 H2 fun b H3 =>
        if b = true then wi1 σ2 H3 fun J1 H4 => ∃ W1 : Nat → Nat → Hp → Prop, (∃ m, W1 0 m H4) ∧ ∀ j k H, W1 j k H →
          (J1.stop j H ∧ Nx H) ∨ (J1.go j H ∧ ∃ Nx1 : Hp → Prop, (∀ H', Nx1 H' → ∃ k', k' < k ∧ W1 (j + 1) k' H') ∧ ∀ x H', J1.yld j H x H' → g1 x (L2.wipe σ2 vs1) H' fun σ3 H5 => L2.wipe σ3 vs1 = L2.wipe σ2 vs1 ∧ tt1 σ3 H5 fun b H6 =>
            if b = true then te σ3 H6 fun y H7 => ∃ acc, H7 Dl = some (.lst acc) ∧ acc.length < sizeLine ∧ Nx1 (upd H7 Dl (.lst (acc ++ [y]))) else Nx1 H6)
        else Nx H3)
      (End := fun H => Q (.ref Dl) H) hD E0 (fun i F2 H2 g2 acc f2 _ => ?_) (Fill.start E1 hD) e2 (by rw [List.length_nil, Nat.zero_add]; exact hlen) (fun x d F2 H2 g2 acc p Q2 f2 _ r2 ep hl q2 => ?_) fun F2 H2 f2 _ => ?_
    · have y := f2.x.mono (zv_fill E1)
      exact ⟨fun d hd => io.go i F2 H2 d f2.E.sub y hd, io.stop i F2 H2 f2.E.sub y⟩
    · obtain ⟨ρ1, p1, ep⟩ := bind_some ep
      obtain ⟨⟨b, g3⟩, p2, ep⟩ := bind_some ep
      dsimp only at ep
      refine hg (L2.wipe σ vs) (wipeS ρ vs) g2 F2 H2 ps pc x d ρ1 _ (f2.E.wipe vs) r2 p1 fun σ2 E2 w2 o2 => ⟨by rw [w2 vs hsl, wipe_wipe], ?_⟩
      refine ht σ2 ρ1 g2 F2 H2 ps pc _ _ _ E2 p2 fun F3 H3 hk3 x3 E3 => ?_
      have f3 := f2.step hD E0 hk3 x3 E3.sub E3.st
      have y3 : Step (fun a => Ex ga.kd ps pc a ∨ a = Dl) F2 H2 F3 H3 := x3.mono fun a z => .inl (by rw [← f2.kd]; exact z)
      by_cases hb : b = true
      · rw [if_pos hb] at ep ⊢
        obtain ⟨⟨ds1, g4⟩, p3, ep⟩ := bind_some ep
        dsimp only at ep
        refine hi1 σ2 ρ1 g3 F3 H3 ps pc _ _ _ E3 p3 fun J1 F4 H4 hk4 x4 E4 io1 => ?_
        have f4 := f3.step hD E0 hk4 x4 E4.sub E4.st
        have y4 : Step (fun a => Ex ga.kd ps pc a ∨ a = Dl) F3 H3 F4 H4 := x4.mono fun a z => .inl (by rw [← f3.kd]; exact z)
        have zo : ∀ a, (Ex ga.kd ps pc a ∨ a = Dl) → ZO σ2 ρ1 a := fun a z => by
          rintro ⟨i, s, h1, h2, h3⟩
          obtain ⟨h4, h5⟩ := o2 i s h1 h2
          obtain ⟨h6, h7⟩ := wipeS_own σ ρ vs i s h4 h2
          exact (zv_fill E1 a (z.imp id fun z => by rw [z]; exact hD)).1 ⟨i, s, h6, h2, by rw [← h7, ← h5]; exact h3⟩
        have zv : ∀ a, (Ex ga.kd ps pc a ∨ a = Dl) → ZV F4 σ2 ρ1 a := fun a z => ⟨zo a z, z.elim (fun z => (E4.st.has (by rw [f4.kd]; exact z)).choose_spec.2) fun z => by rw [z]; exact f4.fr⟩
        refine fill_loop (F1 := F4) (H1 := H4) (accs := acc) (ds := ds1) (body := fun x H Nx1 => g1 x (L2.wipe σ2 vs1) H fun σ3 H5 => L2.wipe σ3 vs1 = L2.wipe σ2 vs1 ∧ tt1 σ3 H5 fun b H6 =>
            if b = true then te σ3 H6 fun y H7 => ∃ acc, H7 Dl = some (.lst acc) ∧ acc.length < sizeLine ∧ Nx1 (upd H7 Dl (.lst (acc ++ [y]))) else Nx1 H6)
          (End := Q2) hD E0 (fun i F5 H5 g5 acc5 f5 x5 => ?_) f4 ep hl (fun x5 d5 F5 H5 g5 acc5 p5 Q5 f5 z5 r5 ep5 hl5 q5 => ?_) fun F5 H5 f5 x5 => ?_
        · have y := x5.mono zv
          exact ⟨fun d hd => io1.go i F5 H5 d f5.E.sub y hd, io1.stop i F5 H5 f5.E.sub y⟩
        · exact turn1 hg1 hsl1 ht1 he hD E0 x5 d5 F5 H5 g5 acc5 p5 Q5 f5 ((E4.move z5 zo f5.E.sub (f5.kd.trans f4.kd.symm) f5.E.st).wipe vs1) r5 ep5 hl5 q5
        · exact q2 F5 H5 f5 ((y3.same y4).same x5)
      · rw [if_neg hb] at ep ⊢
        cases ep
        refine q2 _ _ ?_ y3
        rw [List.append_nil]
        exact f3
    · rw [List.nil_append] at f2
      obtain ⟨vs2, h2, rr⟩ := f2.at_
      have hH : H Dl = none := x1.live _ hD
      refine q _ F2 H2 (f2.kd.trans hk) (x1.trans f2.x fun a z => ?_) f2.E ⟨Dl, vs2, rfl, hH, h2, f2.fr, rr⟩
      rcases z with z | z
      · exact .inl (by rw [← hk]; exact z)
      · exact .inr (x1.live _ z)
  · cases e
end

/-! blocks -/
structure BI (ι : Type) where
  i : ι
  s : Shared
  H : Hp
  C : Addr
  cl : List (Str × Addr)
  fp : List Addr
/-- the contexts of a comprehension's block -/
def blkF {ι : Type} (Xs : ι → Cx) (scope : Scope) : BI ι → Cx := fun b => (Xs b.i).blk b.s b.H scope (compEnvC scope b.cl b.C (Xs b.i).env) b.fp
structure SdTs {ι : Type} (Xs : ι → Cx) (K : PySem.W.Frag) (es : List Expr) (f : EB) : Prop where
  ex : ∃ t, (∀ i, PTs (Xs i) es t) ∧ WpB K t f
theorem sts_nil {ι : Type} {Xs : ι → Cx} {K : PySem.W.Frag} : SdTs Xs K [] bYes := ⟨_, fun _ => pts_nil, fun σ ρ g F H ps pc b g' Q E e q => by
  cases e
  exact q F H rfl .refl E⟩
theorem sts_one {ι : Type} {Xs : ι → Cx} {K : PySem.W.Frag} {c : Expr} {f : EB} (h : SdT Xs K c f) : SdTs Xs K [c] f := by
  obtain ⟨t, p, w⟩ := h
  exact ⟨_, fun i => pts_one (p i), w⟩
theorem Fam.blk {ι : Type} {Xs : ι → Cx} {P : Program} {w : World} {K : PySem.W.Frag} {mg : Str → Option Value} {base : Heap} {k : Nat} (f : Fam Xs P w K mg base k) (scope : Scope) : Fam (blkF Xs scope) P w K mg base k :=
  ⟨fun b => f.prog b.i, fun b => f.w b.i, fun b => f.K b.i, fun b => f.mg b.i, fun b => f.base b.i, fun b => f.calm b.i, fun b => f.nd b.i, fun b => f.room b.i⟩
section
variable {ι : Type} {Xs : ι → Cx} {P : Program} {w : World} {K : PySem.W.Frag} {mg : Str → Option Value} {base : Heap} {k : Nat}
theorem sd_comp (fam : Fam Xs P w K mg base k) {elt tg iter : Expr} {ifs : List Expr} {scope : Scope} {pos : Pos} {fi : EI} {gf : FG} {sl : List Nat} {ft : EB} {fe : ES} (own : List (Str × Nat)) (hi : SdIv Xs K tg iter fi) (hb : ∀ i, blkC (Xs i).N (Xs i).env.scope scope own = true)
    (hg : SdG (blkF Xs scope) K tg gf sl) (hsl : (sl.all fun i => (own.map (·.2)).contains i) = true) (ht : SdTs (blkF Xs scope) K ifs ft) (he : SdE (blkF Xs scope) K elt fe) (hs : ∀ i x, foldedSetIterable iter (Xs i).env x = pure x := by intro _ _; rfl) :
    SdE Xs K (.ListComp elt [⟨tg, iter, ifs, 0⟩] scope pos) (fComp (own.map (·.2)) fi gf ft fe) := by
  obtain ⟨ti, pi, wi⟩ := hi
  obtain ⟨tg', pg, wg⟩ := hg
  obtain ⟨tt, pt, wt⟩ := ht
  obtain ⟨te, pe, we⟩ := he
  refine ⟨_, fun i => pe_lc (fam.calm i) (fam.nd i) (pi i) (blkOk_by (hb i)) (fun s H C cl fp => pg ⟨i, s, H, C, cl, fp⟩) (fun s H C cl fp => pt ⟨i, s, H, C, cl, fp⟩) (fun s H C cl fp => pe ⟨i, s, H, C, cl, fp⟩) (hs i), Wp.comp wi wg (fun j hj => ?_) wt we⟩
  have := List.all_eq_true.mp hsl j hj
  simpa using this
theorem sd_comp2 (fam : Fam Xs P w K mg base k) {elt tg iter tg1 iter1 : Expr} {ifs ifs1 : List Expr} {scope : Scope} {pos : Pos} {fi fi1 : EI} {gf gf1 : FG} {sl sl1 : List Nat} {ft ft1 : EB} {fe : ES} (own : List (Str × Nat)) (vs1 : List Nat) (hi : SdIv Xs K tg iter fi) (hb : ∀ i, blkC (Xs i).N (Xs i).env.scope scope own = true)
    (hg : SdG (blkF Xs scope) K tg gf sl) (hsl : (sl.all fun i => (own.map (·.2)).contains i) = true) (ht : SdTs (blkF Xs scope) K ifs ft) (hi1 : SdIv (blkF Xs scope) K tg1 iter1 fi1) (hg1 : SdG (blkF Xs scope) K tg1 gf1 sl1) (hsl1 : (sl1.all fun i => vs1.contains i) = true) (hv : (vs1.all fun i => (own.map (·.2)).contains i) = true)
    (ht1 : SdTs (blkF Xs scope) K ifs1 ft1) (he : SdE (blkF Xs scope) K elt fe) (hs : ∀ i x, foldedSetIterable iter (Xs i).env x = pure x := by intro _ _; rfl) (hs1 : ∀ env x, foldedSetIterable iter1 env x = pure x := by intro _ _; rfl) :
    SdE Xs K (.ListComp elt [⟨tg, iter, ifs, 0⟩, ⟨tg1, iter1, ifs1, 0⟩] scope pos) (fComp2 (own.map (·.2)) fi gf ft fi1 vs1 gf1 ft1 fe) := by
  obtain ⟨ti, pi, wi⟩ := hi
  obtain ⟨tg', pg, wg⟩ := hg
  obtain ⟨tt, pt, wt⟩ := ht
  obtain ⟨ti1, pi1, wi1⟩ := hi1
  obtain ⟨tg1', pg1, wg1⟩ := hg1
  obtain ⟨tt1, pt1, wt1⟩ := ht1
  obtain ⟨te, pe, we⟩ := he
  have al : ∀ {sl vs : List Nat}, (sl.all fun i => vs.contains i) = true → ∀ i ∈ sl, i ∈ vs := fun h j hj => by
    have := List.all_eq_true.mp h j hj
    simpa using this
  exact ⟨_, fun i => pe_lc2 (fam.calm i) (fam.nd i) (pi i) (blkOk_by (hb i)) (al hv) (fun s H C cl fp => pg ⟨i, s, H, C, cl, fp⟩) (fun s H C cl fp => pt ⟨i, s, H, C, cl, fp⟩) (fun s H C cl fp => pi1 ⟨i, s, H, C, cl, fp⟩) (fun s H C cl fp => pg1 ⟨i, s, H, C, cl, fp⟩) (fun s H C cl fp => pt1 ⟨i, s, H, C, cl, fp⟩)
    (fun s H C cl fp => pe ⟨i, s, H, C, cl, fp⟩) (hs i) hs1, Wp.comp2 wi wg (al hsl) wt wi1 wg1 (al hsl1) wt1 we⟩
end
end Sd

namespace Sd
open PySem PySem.Spec L2
/-! ### Sd9: statements -/
inductive Fl where
  | nx
  | ret (d : D)
  | bk
  | ct
abbrev BS := List Sl → G → Option (Fl × List Sl × G)
def OwnA (σ : L2.St) (ρ : List Sl) (a : Addr) : Prop := ∃ (i : Nat) (s : Sl), ρ[i]? = some s ∧ s.own ∧ σ[i]? = some (some (.ref a))
/-- what a statement may change -/
def ZS (k : GK) (ps pc : Addr) (σ : L2.St) (ρ : List Sl) (a : Addr) : Prop := Ex k ps pc a ∨ OwnA σ ρ a
structure StepS (ps pc : Addr) (F H : Hp) (σ : L2.St) (ρ : List Sl) (g : G) (F' H' : Hp) (σ' : L2.St) (ρ' : List Sl) (g' : G) : Prop where
  kd : g'.kd = g.kd
  x : Step (ZS g.kd ps pc σ ρ) F H F' H'
  own : ∀ a, OwnA σ' ρ' a → OwnA σ ρ a ∨ H a = none
section
variable {ps pc : Addr} {F H F1 H1 F2 H2 : Hp} {σ σ1 σ2 : L2.St} {ρ ρ1 ρ2 : List Sl} {g g1 g2 : G}
theorem StepS.refl : StepS ps pc F H σ ρ g F H σ ρ g := ⟨rfl, .refl, fun _ h => .inl h⟩
theorem StepS.trans (a : StepS ps pc F H σ ρ g F1 H1 σ1 ρ1 g1) (b : StepS ps pc F1 H1 σ1 ρ1 g1 F2 H2 σ2 ρ2 g2) : StepS ps pc F H σ ρ g F2 H2 σ2 ρ2 g2 where
  kd := b.kd.trans a.kd
  x := a.x.trans b.x fun z h => by
    rcases h with h | h
    · exact .inl (.inl (by rw [← a.kd]; exact h))
    · rcases a.own z h with h | h
      · exact .inl (.inr h)
      · exact .inr h
  own := fun z h => by
    rcases b.own z h with h | h
    · exact a.own z h
    · exact .inr (a.x.live z h)
theorem StepS.ex (k : g1.kd = g.kd) (x : Step (Ex g.kd ps pc) F H F1 H1) : StepS ps pc F H σ ρ g F1 H1 σ ρ g1 := ⟨k, x.mono fun _ h => .inl h, fun _ h => .inl h⟩
end
/-- what is wanted behind a statement, by how it ends -/
def Post (K : PySem.W.Frag) (ps pc : Addr) (F H : Hp) (σ : L2.St) (ρ : List Sl) (g : G) (ρ' : List Sl) (g' : G) (E : Ends) : Fl → Prop
  | .nx => ∀ σ' F' H', StepS ps pc F H σ ρ g F' H' σ' ρ' g' → RepE K F' H' ps pc σ' ρ' g' → E.nx σ' H'
  | .bk => ∀ σ' F' H', StepS ps pc F H σ ρ g F' H' σ' ρ' g' → RepE K F' H' ps pc σ' ρ' g' → E.bk σ' H'
  | .ct => ∀ σ' F' H', StepS ps pc F H σ ρ g F' H' σ' ρ' g' → RepE K F' H' ps pc σ' ρ' g' → E.ct σ' H'
  | .ret d => ∀ v F' H', g'.kd = g.kd → Step (ZS g.kd ps pc σ ρ) F H F' H' → Sub F' H' → RpG F' H' ps pc g' → Rp K F' v d → E.rt v H'
def WpT (K : PySem.W.Frag) (t : TS) (f : BS) : Prop := ∀ (σ : L2.St) (ρ : List Sl) (g : G) (F H : Hp) (ps pc : Addr) (fl : Fl) (ρ' : List Sl) (g' : G) (E : Ends), RepE K F H ps pc σ ρ g → f ρ g = some (fl, ρ', g') → Post K ps pc F H σ ρ g ρ' g' E fl → t E σ H
section
variable {K : PySem.W.Frag} {ps pc : Addr} {F H F1 H1 : Hp} {σ σ1 : L2.St} {ρ ρ1 ρ' : List Sl} {g g1 g' : G} {E : Ends} {fl : Fl}
/-- a first step, then the rest -/
theorem Post.after (s : StepS ps pc F H σ ρ g F1 H1 σ1 ρ1 g1) (p : Post K ps pc F H σ ρ g ρ' g' E fl) : Post K ps pc F1 H1 σ1 ρ1 g1 ρ' g' E fl := by
  cases fl with
  | nx => exact fun σ' F' H' s' => p σ' F' H' (s.trans s')
  | bk => exact fun σ' F' H' s' => p σ' F' H' (s.trans s')
  | ct => exact fun σ' F' H' s' => p σ' F' H' (s.trans s')
  | ret d =>
    intro v F' H' hk x s' st r
    refine p v F' H' (hk.trans s.kd) ?_ s' st r
    exact s.x.trans x fun z h => by
      rcases h with h | h
      · exact .inl (.inl (by rw [← s.kd]; exact h))
      · rcases s.own z h with h | h
        · exact .inl (.inr h)
        · exact .inr h
end
section
variable {ι : Type} (Xs : ι → Cx) (K : PySem.W.Frag)
structure SdS (st : Stmt) (f : BS) : Prop where
  ex : ∃ t, (∀ i, PS (Xs i) st t) ∧ WpT K t f
structure SdSs (sts : List Stmt) (f : BS) : Prop where
  ex : ∃ t, (∀ i, PSs (Xs i) sts t) ∧ WpT K t f
end
/-! the statements' functions -/
def sNx : BS := fun ρ g => some (.nx, ρ, g)
def sBk : BS := fun ρ g => some (.bk, ρ, g)
def sCt : BS := fun ρ g => some (.ct, ρ, g)
def sSeq (f h : BS) : BS := fun ρ g => (f ρ g).bind fun p => match p.1 with
  | .nx => h p.2.1 p.2.2
  | .ret d => some (.ret d, p.2)
  | .bk => some (.bk, p.2)
  | .ct => some (.ct, p.2)
def sIf (c : EB) (f h : BS) : BS := fun ρ g => (c ρ g).bind fun p => if p.1 = true then f ρ p.2 else h ρ p.2
/-- a return; an own list or dict is shared from now on -/
def sRet (f : ES) : BS := fun ρ g => (vw f ρ g).map fun p => (.ret p.1, ρ, p.2)
def sRetN : BS := fun ρ g => some (.ret .none, ρ, g)
def stSl : R → Option Sl
  | .d d => some (.sh d)
  | .f xs => some (.ol xs)
  | .fd t es => some (.od t es)
  | .st => some .st
  | .o _ => none
/-- x = e -/
def sAsg (i : Nat) (f : ES) : BS := fun ρ g => (f ρ g).bind fun p => (stSl p.1).map fun s => (.nx, ρ.set i s, p.2)
/-- targets = e, e's value shared -/
def sAsgG (fg : FG) (f : ES) : BS := fun ρ g => (vl f ρ g).bind fun p => (fg p.1 ρ).map fun ρ' => (.nx, ρ', p.2)
/-- x, y = a, b -/
def sPar (i j : Nat) (f : EA) : BS := fun ρ g => (f ρ g).bind fun p => match p.1 with | [a, b] => some (.nx, (ρ.set i (.sh a)).set j (.sh b), p.2) | _ => none
/-- x += e, ints -/
def sInc (i : Nat) (f : ES) : BS := fun ρ g => match ρ[i]? with
  | some (.sh (.int a)) => (vw f ρ g).bind fun p => match p.1 with | .int b => some (.nx, ρ.set i (.sh (.int (a + b))), p.2) | _ => none
  | _ => none
/-- d[k] = v by what the slot owns -/
def setAt : Sl → D → D → Option Sl
  | .ol xs, .int i, v => (ixN xs.length i).map fun j => .ol (xs.set j v)
  | .od t es, k, v => if ((if t = true then isT k else isK k) && decide (es.length < sizeLine)) = true then some (.od t (dput es k v)) else none
  | _, _, _ => none
/-- x[k] = e: e first, then the place -/
def sPut (i : Nat) (fk fv : ES) : BS := fun ρ g => (vl fv ρ g).bind fun p => (vl fk ρ p.2).bind fun q => match ρ[i]? with | some s => (setAt s q.1 p.1).map fun s' => (.nx, ρ.set i s', q.2) | none => none
/-- x.append(e) -/
def sApp (i : Nat) (f : ES) : BS := fun ρ g => (vl f ρ g).bind fun p => match ρ[i]? with | some (.ol xs) => if xs.length < sizeLine then some (.nx, ρ.set i (.ol (xs ++ [p.1])), p.2) else none | _ => none
/-- an expression's value is dropped -/
def sDrop (f : ES) : BS := fun ρ g => (vl f ρ g).map fun p => (.nx, ρ, p.2)
/-- from here on the i-th slot's own list or dict is shared -/
def sFrz (i : Nat) (f : BS) : BS := fun ρ g => match ρ[i]? with
  | some (.ol xs) => f (ρ.set i (.sh (.list xs))) g
  | some (.od _ es) => f (ρ.set i (.sh (.dict es))) g
  | _ => f ρ g
def forL (fg : FG) (b : BS) : List D → BS
  | [], ρ, g => some (.nx, ρ, g)
  | d :: ds, ρ, g => (fg d ρ).bind fun ρ1 => (b ρ1 g).bind fun p => match p.1 with
    | .nx => forL fg b ds p.2.1 p.2.2
    | .ct => forL fg b ds p.2.1 p.2.2
    | .bk => some (.nx, p.2)
    | .ret d => some (.ret d, p.2)
def sFor (fi : EI) (fg : FG) (b : BS) : BS := fun ρ g => (fi ρ g).bind fun p => forL fg b p.1 ρ p.2
def whileL (c : EB) (b : BS) : Nat → BS
  | 0, _, _ => none
  | n + 1, ρ, g => (c ρ g).bind fun p => if p.1 = true then (b ρ p.2).bind fun q => match q.1 with
      | .nx => whileL c b n q.2.1 q.2.2
      | .ct => whileL c b n q.2.1 q.2.2
      | .bk => some (.nx, q.2)
      | .ret d => some (.ret d, q.2)
    else some (.nx, ρ, p.2)
open Classical in
/-- while: the turns that it takes, if they end -/
noncomputable def sWhile (c : EB) (b : BS) : BS := fun ρ g => if h : ∃ n r, whileL c b n ρ g = some r then whileL c b h.choose ρ g else none
theorem whileL_mono {c : EB} {b : BS} : ∀ {n m : Nat} {ρ : List Sl} {g : G} {r : Fl × List Sl × G}, whileL c b n ρ g = some r → n ≤ m → whileL c b m ρ g = some r
  | 0, _, _, _, _, h, _ => by cases h
  | n + 1, 0, _, _, _, _, hm => by omega
  | n + 1, m + 1, ρ, g, r, h, hm => by
    unfold whileL at h ⊢
    obtain ⟨p, e1, h⟩ := bind_some h
    rw [e1]
    show (if p.1 = true then _ else _) = _
    split at h
    · rename_i hp
      rw [if_pos hp]
      obtain ⟨q, e2, h⟩ := bind_some h
      rw [e2]
      show (match q.1 with | .nx => _ | .ct => _ | .bk => _ | .ret d => _) = _
      split at h
      · exact whileL_mono h (by omega)
      · exact whileL_mono h (by omega)
      · exact h
      · exact h
    · rename_i hp
      rw [if_neg hp]
      exact h
theorem sWhile_of {c : EB} {b : BS} {n : Nat} {ρ : List Sl} {g : G} {r : Fl × List Sl × G} (h : whileL c b n ρ g = some r) : sWhile c b ρ g = some r := by
  have hx : ∃ n r, whileL c b n ρ g = some r := ⟨n, r, h⟩
  unfold sWhile
  rw [dif_pos hx]
  obtain ⟨r', h'⟩ := hx.choose_spec
  rw [h']
  rcases Nat.le_total n hx.choose with k | k
  · rw [whileL_mono h k] at h'
    exact h'.symm
  · rw [whileL_mono h' k] at h
    exact h
theorem sWhile_inv {c : EB} {b : BS} {ρ : List Sl} {g : G} {r : Fl × List Sl × G} (h : sWhile c b ρ g = some r) : ∃ n, whileL c b n ρ g = some r := by
  unfold sWhile at h
  split at h
  · exact ⟨_, h⟩
  · cases h

section
variable {K : PySem.W.Frag} {F H : Hp} {ps pc : Addr} {σ : L2.St} {ρ : List Sl} {g : G}
theorem ownA_setN {i : Nat} {x : Option V} {s : Sl} (hs : ¬ s.own) (a : Addr) (h : OwnA (σ.set i x) (ρ.set i s) a) : OwnA σ ρ a := by
  obtain ⟨j, t, h1, h2, h3⟩ := h
  rcases getSet h1 with ⟨_, rfl, _⟩ | ⟨ne, h1⟩
  · exact absurd h2 hs
  · rw [List.getElem?_set_ne ne] at h3
    exact ⟨j, t, h1, h2, h3⟩
/-- a fresh object goes to a slot that owns it -/
theorem RepE.setOwn (E : RepE K F H ps pc σ ρ g) (i : Nat) {p : Addr} {s : Sl} (hp : ∀ a, OwnA σ ρ a → a ≠ p) (r : RepS K F H ps pc g.kd (some (some (.ref p))) s) : RepE K F H ps pc (σ.set i (some (.ref p))) (ρ.set i s) g := by
  refine ⟨E.sub, by rw [List.length_set, List.length_set]; exact E.len, fun j s' h => ?_, fun j k s1 s2 q hjk h1 h2 o1 o2 e e2 => ?_, E.st⟩
  · rcases getSet h with ⟨rfl, rfl, hl⟩ | ⟨ne, h⟩
    · rw [List.getElem?_set_self (by rw [E.len]; exact hl)]
      exact r
    · rw [List.getElem?_set_ne ne]
      exact E.slot j s' h
  · rcases getSet h1 with ⟨rfl, rfl, hl1⟩ | ⟨n1, h1'⟩
    · rw [List.getElem?_set_self (by rw [E.len]; exact hl1)] at e
      injection e with e; injection e with e; injection e with e
      subst e
      rcases getSet h2 with ⟨rfl, _, _⟩ | ⟨n2, h2⟩
      · exact hjk rfl
      · rw [List.getElem?_set_ne n2] at e2
        exact hp _ ⟨k, s2, h2, o2, e2⟩ rfl
    · rw [List.getElem?_set_ne n1] at e
      rcases getSet h2 with ⟨rfl, rfl, hl2⟩ | ⟨n2, h2'⟩
      · rw [List.getElem?_set_self (by rw [E.len]; exact hl2)] at e2
        injection e2 with e2; injection e2 with e2; injection e2 with e2
        subst e2
        exact hp _ ⟨j, s1, h1', o1, e⟩ rfl
      · rw [List.getElem?_set_ne n2] at e2
        exact E.sep j k s1 s2 q hjk h1' h2' o1 o2 e e2
theorem ownA_set {i : Nat} {p : Addr} {s : Sl} (a : Addr) (h : OwnA (σ.set i (some (.ref p))) (ρ.set i s) a) : OwnA σ ρ a ∨ a = p := by
  obtain ⟨j, t, h1, h2, h3⟩ := h
  by_cases e : i = j
  · subst e
    rcases getSet h3 with ⟨_, h, _⟩ | ⟨ne, _⟩
    · injection h with h; injection h with h
      exact .inr h
    · exact absurd rfl ne
  · rw [List.getElem?_set_ne e] at h1 h3
    exact .inl ⟨j, t, h1, h2, h3⟩
theorem fresh_own {E : RepE K F H ps pc σ ρ g} {p : Addr} (h : H p = none) (a : Addr) (ho : OwnA σ ρ a) : a ≠ p := by
  rintro rfl
  obtain ⟨i, s, h1, h2, h3⟩ := ho
  obtain ⟨u, hu, _⟩ := E.ownAt h1 h2 h3
  rw [h] at hu
  cases hu
end
section
variable {K : PySem.W.Frag}
theorem WpT.nx : WpT K tNext sNx := fun σ ρ g F H ps pc fl ρ' g' E R e q => by
  cases e
  exact q σ F H .refl R
theorem WpT.bk : WpT K tBreak sBk := fun σ ρ g F H ps pc fl ρ' g' E R e q => by
  cases e
  exact q σ F H .refl R
theorem WpT.ct : WpT K tCont sCt := fun σ ρ g F H ps pc fl ρ' g' E R e q => by
  cases e
  exact q σ F H .refl R
theorem WpT.seq {t u : TS} {f h : BS} (a : WpT K t f) (b : WpT K u h) : WpT K (tSeq t u) (sSeq f h) := fun σ ρ g F H ps pc fl ρ' g' E R e q => by
  obtain ⟨⟨f1, ρ1, g1⟩, e1, e⟩ := bind_some e
  refine a σ ρ g F H ps pc _ _ _ _ R e1 ?_
  cases f1 with
  | nx =>
    intro σ1 F1 H1 s1 R1
    exact b σ1 ρ1 g1 F1 H1 ps pc _ _ _ E R1 e (q.after s1)
  | bk => cases e; exact q
  | ct => cases e; exact q
  | ret d => cases e; exact q
theorem WpT.ifS {c : TT} {t u : TS} {fc : EB} {f h : BS} (hc : WpB K c fc) (a : WpT K t f) (b : WpT K u h) : WpT K (tIfS c t u) (sIf fc f h) := fun σ ρ g F H ps pc fl ρ' g' E R e q => by
  obtain ⟨⟨z, g1⟩, e1, e⟩ := bind_some e
  refine hc σ ρ g F H ps pc _ _ _ R e1 fun F1 H1 hk x1 R1 => ?_
  have s1 : StepS ps pc F H σ ρ g F1 H1 σ ρ g1 := .ex hk x1
  dsimp only at e
  by_cases hz : z = true
  · rw [if_pos hz] at e ⊢
    exact a σ ρ g1 F1 H1 ps pc _ _ _ E R1 e (q.after s1)
  · rw [if_neg hz] at e ⊢
    exact b σ ρ g1 F1 H1 ps pc _ _ _ E R1 e (q.after s1)
theorem WpT.retN : WpT K tRetN sRetN := fun σ ρ g F H ps pc fl ρ' g' E R e q => by
  cases e
  exact q .non F H rfl .refl R.sub R.st .non
/-- what is seen at the top becomes shared -/
theorem share_seen {F H : Hp} {ps pc : Addr} {σ : L2.St} {ρ : List Sl} {g : G} (R : RepE K F H ps pc σ ρ g) {v : V} {d : D} (r : RpS K F H (ZO σ ρ) v d) :
    ∃ F', Step (ZS g.kd ps pc σ ρ) F H F' H ∧ Sub F' H ∧ RpG F' H ps pc g ∧ Rp K F' v d := by
  have own : ∀ {p : Addr} {o : HO}, H p = some o → ¬ ZO σ ρ p → Step (ZS g.kd ps pc σ ρ) F H (upd F p o) H ∧ Sub (upd F p o) H ∧ RpG (upd F p o) H ps pc g ∧ Sub F (upd F p o) := fun {p o} hp hz => by
    have ho : OwnA σ ρ p := Classical.byContradiction fun h => hz h
    obtain ⟨i, s, h1, h2, h3⟩ := ho
    obtain ⟨u, hu, _, hf, hx⟩ := R.ownAt h1 h2 h3
    have x : Step (ZS g.kd ps pc σ ρ) F H (upd F p o) H := .share hf (.inl (.inr ⟨i, s, h1, h2, h3⟩))
    refine ⟨x, R.sub.share hp, ?_, x.sub⟩
    have q := R.st
    cases g with
    | no => trivial
    | k1 cells seed =>
      obtain ⟨e0, e1, e2, e3, e4⟩ := q
      exact ⟨e0, e1, e2, by rw [upd_ne fun z => hx (.inl z.symm)]; exact e3, by rw [upd_ne fun z => hx (.inr z.symm)]; exact e4⟩
    | k2 a b =>
      obtain ⟨e1, e2⟩ := q
      exact ⟨e1, by rw [upd_ne fun z => hx z.symm]; exact e2⟩
  cases r with
  | sh r => exact ⟨F, .refl, R.sub, R.st, r⟩
  | ol hp hz r =>
    obtain ⟨x, s, st, le⟩ := own hp hz
    exact ⟨_, x, s, st, .lst upd_same (le.rpAll r)⟩
  | od hp hz r =>
    obtain ⟨u, hu, _, _⟩ := hp.has
    obtain ⟨x, s, st, le⟩ := own hu hz
    refine ⟨_, x, s, st, .dct (DicW.dicO (t := _) (hp.congr fun u' hu' => ?_)) (le.rpAll r) rfl⟩
    rw [hu] at hu'
    cases hu'
    exact upd_same
theorem WpT.ret {t : TE} {f : ES} (a : Wp K t f) : WpT K (tRet t) (sRet f) := fun σ ρ g F H ps pc fl ρ' g' E R e q => by
  obtain ⟨⟨d, g1⟩, e1, e2⟩ := map_some e
  cases e2
  refine a.vw σ ρ g F H ps pc _ _ _ R e1 fun v F1 H1 hk x1 R1 r1 => ?_
  obtain ⟨F2, x2, s2, st2, r2⟩ := share_seen R1 r1
  refine q v F2 H1 hk ((x1.mono fun _ z => .inl z).trans x2 fun z h => ?_) s2 st2 r2
  rcases h with h | h
  · exact .inl (.inl (by rw [← hk]; exact h))
  · exact .inl (.inr h)
theorem WpT.drop {t : TE} {f : ES} (a : Wp K t f) : WpT K (tDrop t) (sDrop f) := fun σ ρ g F H ps pc fl ρ' g' E R e q => by
  obtain ⟨⟨d, g1⟩, e1, e2⟩ := map_some e
  cases e2
  exact a.vl σ ρ g F H ps pc _ _ _ R e1 fun v F1 H1 hk x1 R1 r1 => q σ F1 H1 (.ex hk x1) R1
theorem WpT.asg {t : TE} {f : ES} {i : Nat} (a : Wp K t f) : WpT K (tAsg t (gName i)) (sAsg i f) := fun σ ρ g F H ps pc fl ρ' g' E R e q => by
  obtain ⟨⟨r, g1⟩, e1, e⟩ := bind_some e
  obtain ⟨s, e2, e3⟩ := map_some e
  cases e3
  dsimp only at e2
  refine a σ ρ g F H ps pc _ _ _ R e1 fun v F1 H1 hk x1 R1 r1 => ?_
  have s1 : StepS ps pc F H σ ρ g F1 H1 σ ρ g1 := .ex hk x1
  have fr : ∀ {p : Addr}, H p = none → ∀ a, OwnA σ ρ a → a ≠ p := fun h a ho => fresh_own (E := R) h a ho
  cases r with
  | d d =>
    cases e2
    exact q _ F1 H1 (s1.trans ⟨rfl, .refl, fun z h => .inl (ownA_setN id z h)⟩) (R1.setSh i r1)
  | o j => cases e2
  | st =>
    cases e2
    obtain ⟨rfl, hn⟩ := r1
    exact q _ F1 H1 (s1.trans ⟨rfl, .refl, fun z h => .inl (ownA_setN id z h)⟩) (R1.setN i _ _ id fun _ => ⟨rfl, by rw [hk]; exact hn⟩)
  | f xs =>
    cases e2
    obtain ⟨p, vs, rfl, h0, hp, hf, r⟩ := r1
    refine q _ F1 H1 ⟨hk, s1.x, fun z h => ?_⟩ (R1.setOwn i (fr h0) ⟨p, vs, rfl, hp, hf, by rw [hk]; exact fresh_ex R h0, r⟩)
    rcases ownA_set z h with h | rfl
    · exact .inl h
    · exact .inr h0
  | fd t' es =>
    cases e2
    obtain ⟨p, ks, vs, ds, rfl, h0, hp, hf, r, ez⟩ := r1
    refine q _ F1 H1 ⟨hk, s1.x, fun z h => ?_⟩ (R1.setOwn i (fr h0) ⟨p, ks, vs, ds, rfl, hp, hf, by rw [hk]; exact fresh_ex R h0, r, ez⟩)
    rcases ownA_set z h with h | rfl
    · exact .inl h
    · exact .inr h0
theorem WpT.asgG {t : TE} {gg : TG} {f : ES} {fg : FG} {sl : List Nat} (a : Wp K t f) (hg : WpG K gg fg sl) : WpT K (tAsg t gg) (sAsgG fg f) := fun σ ρ g F H ps pc fl ρ' g' E R e q => by
  obtain ⟨⟨d, g1⟩, e1, e⟩ := bind_some e
  obtain ⟨ρ2, e2, e3⟩ := map_some e
  cases e3
  refine a.vl σ ρ g F H ps pc _ _ _ R e1 fun v F1 H1 hk x1 R1 r1 => ?_
  refine hg σ ρ g1 F1 H1 ps pc v d ρ' _ R1 r1 e2 fun σ2 R2 _ o2 => ?_
  refine q σ2 F1 H1 ⟨hk, x1.mono fun _ z => .inl z, fun z h => ?_⟩ R2
  obtain ⟨i, s, h1, h2, h3⟩ := h
  obtain ⟨h4, h5⟩ := o2 i s h1 h2
  exact .inl ⟨i, s, h4, h2, by rw [← h5]; exact h3⟩
theorem WpT.par {t : TA} {f : EA} {i j : Nat} (a : WpAV K t f) : WpT K (tPar i j t) (sPar i j f) := fun σ ρ g F H ps pc fl ρ' g' E R e q => by
  obtain ⟨⟨ds, g1⟩, e1, e⟩ := bind_some e
  dsimp only at e
  split at e
  · cases e
    refine a σ ρ g F H ps pc _ _ _ R e1 fun vs F1 H1 hk x1 R1 r1 => ?_
    cases r1 with
    | cons ra r1 =>
      cases r1 with
      | cons rb r1 =>
        cases r1
        exact ⟨_, _, rfl, q _ F1 H1 ⟨hk, x1.mono fun _ z => .inl z, fun z h => .inl (ownA_setN id z (ownA_setN id z h))⟩ ((R1.setSh i ra).setSh j rb)⟩
  · cases e
theorem WpT.inc {t : TE} {f : ES} {i : Nat} (a : Wp K t f) : WpT K (tAug i t (ipI fun i j => i + j)) (sInc i f) := fun σ ρ g F H ps pc fl ρ' g' E R e q => by
  unfold sInc at e
  split at e
  · rename_i z hz
    obtain ⟨⟨d, g1⟩, e1, e⟩ := bind_some e
    dsimp only at e
    split at e
    · cases e
      obtain ⟨v, hv, rv⟩ := R.slot i _ hz
      cases rv
      refine ⟨_, hv, a.vw σ ρ g F H ps pc _ _ _ R e1 fun v F1 H1 hk x1 R1 r1 => ⟨_, _, rfl, r1.int, ?_⟩⟩
      exact q _ F1 H1 ⟨hk, x1.mono fun _ z => .inl z, fun z h => .inl (ownA_setN id z h)⟩ (R1.setSh i (.int _))
    · cases e
  · cases e
end
end Sd

namespace Sd
open PySem PySem.Spec L2
/-! ### Sd10: stores in place, loops -/
section
variable {X : Cx}
def rSetX : V → V → V → Hp → (Hp → Prop) → Prop := fun o i v H Q => rSetL o i v H Q ∨ ∃ a H', o = .ref a ∧ DPut H a i v H' ∧ Q H'
theorem set_any (hu : X.A.units + 1 < cLine) : PSet X rSetX := by
  intro pins s σ H o i v ov iv u Q I ro ri rv h
  rcases h with h | ⟨a, H', rfl, g, q⟩
  · exact set_list pins s σ H o i v ov iv u Q I ro ri rv h
  · obtain rfl : ov = Value.ref a := ro
    exact d_setItem hu I g ri rv fun s4 I4 => ⟨H', I4, q⟩
end
section
variable {K : PySem.W.Frag} {F H : Hp} {ps pc : Addr} {σ : L2.St} {ρ : List Sl} {g : G}
theorem key_K {k : D} {y : V} (hk : isK k = true) (ry : Rp K F y k) : y = kV (toK k) := by
  cases ry <;> first | rfl | cases hk
theorem key_T {k : D} {y : V} (hk : isT k = true) (ry : Rp K F y k) : ∃ b, y = .ref b ∧ F b = some (.tup ((toT k).map kV)) := by
  cases ry <;> first | cases hk | skip
  rename_i b xs zs e q
  exact ⟨b, rfl, by show F b = some (.tup ((zs.map toK).map kV)); rw [← keysV zs xs q hk]; exact e⟩
theorem put_gen {κ : Type} [DecidableEq κ] {kd : κ → D} (he : ∀ a b, PyData.eqv (kd a) (kd b) = decide (a = b)) (k : κ) {v : V} {d : D} (rv : Rp K F v d) (kvs : List (κ × V)) (ds : List D) (r : RpAll K F (kvs.map (·.2)) ds) :
    ∃ ds', RpAll K F ((putK kvs k v).map (·.2)) ds' ∧ dput ((kvs.map fun p => kd p.1).zip ds) (kd k) d = ((putK kvs k v).map fun p => kd p.1).zip ds' := by
  have ha : ∀ (kvs : List (κ × V)) (ds : List D), RpAll K F (kvs.map (·.2)) ds → (((kvs.map fun p => kd p.1).zip ds).any fun p => PyData.eqv p.1 (kd k)) = kvs.any fun kv => decide (kv.1 = k) := by
    intro kvs
    induction kvs with
    | nil =>
      intro ds r
      rfl
    | cons p kvs ih =>
      intro ds r
      cases r with
      | cons r1 r2 =>
        rw [List.map_cons, List.zip_cons_cons, List.any_cons, List.any_cons, ih _ r2, he]
  unfold dput putK
  rw [ha kvs ds r]
  by_cases h : (kvs.any fun kv => decide (kv.1 = k)) = true
  · rw [if_pos h, if_pos h]
    clear h
    induction kvs generalizing ds with
    | nil =>
      cases r
      exact ⟨[], .nil, rfl⟩
    | cons p kvs ih =>
      cases r with
      | cons r1 r2 =>
        rename_i d1 ds1
        obtain ⟨ds', h1, h2⟩ := ih _ r2
        simp only [List.map_cons, List.zip_cons_cons]
        rw [h2]
        by_cases e : p.1 = k
        · refine ⟨d :: ds', ?_, ?_⟩
          · rw [if_pos e]
            exact .cons rv h1
          · rw [if_pos e, if_pos (by rw [he]; exact decide_eq_true e), List.zip_cons_cons]
        · refine ⟨d1 :: ds', ?_, ?_⟩
          · rw [if_neg e]
            exact .cons r1 h1
          · rw [if_neg e, if_neg (by rw [he, decide_eq_false e]; exact Bool.false_ne_true), List.zip_cons_cons]
  · rw [if_neg h, if_neg h]
    refine ⟨ds ++ [d], ?_, ?_⟩
    · rw [List.map_append]
      exact r.append (.one rv)
    · rw [List.map_append]
      have hl : (kvs.map fun p => kd p.1).length = ds.length := by
        have := r.length
        rw [List.length_map] at this ⊢
        exact this
      rw [List.zip_append hl]
      rfl
/-- the object that slot i owns is changed -/
theorem RepE.ownUpd (E : RepE K F H ps pc σ ρ g) {i : Nat} {s s' : Sl} {p : Addr} {o : HO} (h : ρ[i]? = some s) (ho : s.own) (e : σ[i]? = some (some (.ref p))) (hs' : s'.own) (r : RepS K F (L2.upd H p o) ps pc g.kd (some (some (.ref p))) s') :
    RepE K F (L2.upd H p o) ps pc σ (ρ.set i s') g ∧ StepS ps pc F H σ ρ g F (L2.upd H p o) σ (ρ.set i s') g := by
  obtain ⟨u, hu, ht, hf, hx⟩ := E.ownAt h ho e
  have oth : ∀ (j : Nat) (t : Sl), i ≠ j → ρ[j]? = some t → t.own → σ[j]? ≠ some (some (.ref p)) := fun j t ne h2 o2 => E.sep i j s t p ne h h2 ho o2 e
  refine ⟨⟨E.sub.upd hf, by rw [List.length_set]; exact E.len, fun j t h2 => ?_, fun j k s1 s2 q hjk h1 h2 o1 o2 e1 => ?_, ?_⟩, ⟨rfl, .write (.inr ⟨i, s, h, ho, e⟩) (fun xs z => by rw [hu] at z; exact ht xs (Option.some.inj z)) (by rw [hu]; exact fun z => by cases z), fun a ha => .inl ?_⟩⟩
  · rcases getSet h2 with ⟨rfl, rfl, _⟩ | ⟨ne, h2⟩
    · rw [e]
      exact r
    · have q := E.slot j t h2
      cases t with
      | no => trivial
      | sh d => exact q
      | ol xs =>
        obtain ⟨p', vs, e', hp, q⟩ := q
        exact ⟨p', vs, e', by rw [upd_ne fun z => oth j _ ne h2 trivial (by rw [← z]; exact e')]; exact hp, q⟩
      | od t es =>
        obtain ⟨p', ks, vs, ds, e', hp, q⟩ := q
        exact ⟨p', ks, vs, ds, e', hp.congr fun u hu => by rw [upd_ne fun z => oth j _ ne h2 trivial (by rw [← z]; exact e')]; exact hu, q⟩
      | st => exact q
  · rcases getSet h1 with ⟨rfl, rfl, _⟩ | ⟨n1, h1'⟩
    · rw [e] at e1
      injection e1 with e1; injection e1 with e1; injection e1 with e1
      subst e1
      rcases getSet h2 with ⟨rfl, _, _⟩ | ⟨n2, h2'⟩
      · exact absurd rfl hjk
      · exact oth k s2 n2 h2' o2
    · rcases getSet h2 with ⟨rfl, rfl, _⟩ | ⟨n2, h2'⟩
      · intro e2
        rw [e] at e2
        injection e2 with e2; injection e2 with e2; injection e2 with e2
        subst e2
        exact oth j s1 n1 h1' o1 e1
      · exact E.sep j k s1 s2 q hjk h1' h2' o1 o2 e1
  · have q := E.st
    cases g with
    | no => trivial
    | k1 cells seed =>
      obtain ⟨e0, e1, e2, e3, e4⟩ := q
      exact ⟨e0, by rw [upd_ne fun z => hx (.inl z.symm)]; exact e1, by rw [upd_ne fun z => hx (.inr z.symm)]; exact e2, e3, e4⟩
    | k2 a b =>
      obtain ⟨e1, e2⟩ := q
      exact ⟨by rw [upd_ne fun z => hx z.symm]; exact e1, e2⟩
  · obtain ⟨j, t, h1, h2, h3⟩ := ha
    rcases getSet h1 with ⟨rfl, rfl, _⟩ | ⟨n1, h1'⟩
    · exact ⟨i, s, h, ho, h3⟩
    · exact ⟨j, t, h1', h2, h3⟩
end
section
variable {K : PySem.W.Frag}
theorem WpT.put {tv tk : TE} {fk fv : ES} {i : Nat} (a : Wp K tv fv) (b : Wp K tk fk) : WpT K (tAsg tv (gSub (tVar i) tk rSetX)) (sPut i fk fv) := fun σ ρ g F H ps pc fl ρ' g' E R e q => by
  obtain ⟨⟨d, g1⟩, e1, e⟩ := bind_some e
  obtain ⟨⟨k, g2⟩, e2, e⟩ := bind_some e
  dsimp only at e e2
  split at e
  · rename_i s hs
    obtain ⟨s', e3, e4⟩ := map_some e
    cases e4
    refine a.vl σ ρ g F H ps pc _ _ _ R e1 fun v F1 H1 hk x1 R1 r1 => ?_
    have own : s.own := by
      cases s <;> first | trivial | cases e3
    obtain ⟨p0, ev⟩ : ∃ p0, σ[i]? = some (some (.ref p0)) := by
      have q0 := R.slot i s hs
      cases s with
      | ol xs => obtain ⟨p, _, e, _⟩ := q0; exact ⟨p, e⟩
      | od t es => obtain ⟨p, _, _, _, e, _⟩ := q0; exact ⟨p, e⟩
      | _ => cases e3
    refine ⟨_, ev, b.vl σ ρ g1 F1 H1 ps pc _ _ _ R1 e2 fun y F2 H2 hk2 x2 R2 r2 => ?_⟩
    have s12 : StepS ps pc F H σ ρ g F2 H2 σ ρ g' := (StepS.ex hk x1).trans (.ex hk2 x2)
    have q0 := R2.slot i s hs
    have r1' := x2.sub.rp r1
    cases s with
    | no => cases e3
    | sh d => cases e3
    | st => cases e3
    | ol xs =>
      cases k with
      | int n =>
        obtain ⟨j, hj, e5⟩ := map_some e3
        subst e5
        obtain ⟨p, vs, e', hp, hf, hx, r⟩ := q0
        rw [ev] at e'
        injection e' with e'; injection e' with e'; injection e' with e'
        subst e'
        cases r2
        refine .inl ⟨p0, vs, n, j, rfl, rfl, hp, by rw [r.length]; exact hj, ?_⟩
        obtain ⟨R3, s3⟩ := R2.ownUpd (o := .lst (vs.set j v)) (s' := .ol (xs.set j d)) hs trivial ev trivial ⟨p0, _, rfl, upd_same, hf, hx, r.set r1' j⟩
        exact q _ _ _ (s12.trans s3) R3
      | _ => cases e3
    | od t es =>
      obtain ⟨p, ks, vs, ds, e', hp, hf, hx, r, ez⟩ := q0
      rw [ev] at e'
      injection e' with e'; injection e' with e'; injection e' with e'
      subst e'
      cases t with
      | false =>
        have e3' : (if (isK k && decide (es.length < sizeLine)) = true then some (Sl.od false (dput es k d)) else none) = some s' := by
          cases k <;> exact e3
        split at e3'
        · rename_i hc
          rw [Bool.and_eq_true, decide_eq_true_eq] at hc
          cases e3'
          obtain ⟨kvs, hp, rfl, rfl⟩ := hp
          have hk1 : isK k = true := hc.1
          have hy := key_K hk1 r2
          subst hy
          obtain ⟨ds', h1, h2⟩ := put_gen (kd := keyD) eqv_keyD (toK k) r1' kvs ds r
          rw [keyD_toK hk1] at h2
          have hl : kvs.length < sizeLine := by
            have e6 := r.length
            rw [ez, List.length_zip, List.length_map] at hc
            rw [List.length_map] at e6
            omega
          refine .inr ⟨p0, _, rfl, .k hp hl, ?_⟩
          obtain ⟨R3, s3⟩ := R2.ownUpd (o := .dK (putK kvs (toK k) v)) (s' := .od false (dput es k d)) hs trivial ev trivial ⟨p0, _, _, ds', rfl, ⟨_, upd_same, rfl, rfl⟩, hf, hx, h1, by rw [ez]; exact h2⟩
          exact q _ _ _ (s12.trans s3) R3
        · cases e3'
      | true =>
        have e3' : (if (isT k && decide (es.length < sizeLine)) = true then some (Sl.od true (dput es k d)) else none) = some s' := by
          cases k <;> exact e3
        split at e3'
        · rename_i hc
          rw [Bool.and_eq_true, decide_eq_true_eq] at hc
          cases e3'
          obtain ⟨kvs, hp, rfl, rfl⟩ := hp
          have hk1 : isT k = true := hc.1
          obtain ⟨b, rfl, hb⟩ := key_T hk1 r2
          obtain ⟨ds', h1, h2⟩ := put_gen (kd := keyTD) eqv_keyTD (toT k) r1' kvs ds r
          rw [keyTD_toT hk1] at h2
          have hl : kvs.length < sizeLine := by
            have e6 := r.length
            rw [ez, List.length_zip, List.length_map] at hc
            rw [List.length_map] at e6
            omega
          refine .inr ⟨p0, _, rfl, .t hp (R2.sub.tup hb) hl, ?_⟩
          obtain ⟨R3, s3⟩ := R2.ownUpd (o := .dT (putK kvs (toT k) v)) (s' := .od true (dput es k d)) hs trivial ev trivial ⟨p0, _, _, ds', rfl, ⟨_, upd_same, rfl, rfl⟩, hf, hx, h1, by rw [ez]; exact h2⟩
          exact q _ _ _ (s12.trans s3) R3
        · cases e3'
  · cases e
/-- x.append(e) -/
theorem WpT.app {ta : TA} {fa : ES} {i : Nat} (a : WpAV K ta (fConsV fa fNilA)) : WpT K (tDrop (tBM K "list" rAppend (tVar i) ta)) (sApp i fa) := fun σ ρ g F H ps pc fl ρ' g' E R e q => by
  obtain ⟨⟨d, g1⟩, e1, e⟩ := bind_some e
  dsimp only at e
  split at e
  · rename_i xs hs
    split at e
    · rename_i hl
      cases e
      have q0 := R.slot i _ hs
      obtain ⟨p, vs, ev, hp, hf, hx, r⟩ := q0
      refine ⟨_, ev, .inl ⟨rfl, _, .of hp⟩, a σ ρ g F H ps pc [d] g' _ R (by unfold fConsV; rw [e1]; rfl) fun ws F1 H1 hk x1 R1 r1 => ?_⟩
      cases r1 with
      | cons r1 r1' =>
        cases r1'
        obtain ⟨p', vs', ev', hp', hf', hx', r'⟩ := R1.slot i _ hs
        rw [ev] at ev'
        injection ev' with ev'; injection ev' with ev'; injection ev' with ev'
        subst ev'
        refine ⟨p, vs', _, rfl, rfl, hp', by rw [r'.length]; exact hl, ?_⟩
        obtain ⟨R3, s3⟩ := R1.ownUpd (o := .lst (vs' ++ [_])) (s' := .ol (xs ++ [d])) hs trivial ev trivial ⟨p, _, rfl, upd_same, hf', hx', r'.append (.one r1)⟩
        exact q _ _ _ ((StepS.ex hk x1).trans s3) R3
    · cases e
  · cases e
/-- an own list or dict becomes shared -/
theorem WpT.frz {t : TS} {f : BS} {i : Nat} (a : WpT K t f) : WpT K t (sFrz i f) := fun σ ρ g F H ps pc fl ρ' g' E R e q => by
  have main : ∀ {s : Sl} {p : Addr} {o : HO} {d : D}, ρ[i]? = some s → s.own → σ[i]? = some (some (.ref p)) → H p = some o → Rp K (upd F p o) (.ref p) d → f (ρ.set i (.sh d)) g = some (fl, ρ', g') → t E σ H := fun {s p o d} h ho e1 hp r ef => by
    obtain ⟨u, hu, ht, hf, hx⟩ := R.ownAt h ho e1
    have x : Step (ZS g.kd ps pc σ ρ) F H (upd F p o) H := .share hf (.inl (.inr ⟨i, s, h, ho, e1⟩))
    have hσ : σ.set i (some (.ref p)) = σ := by
      refine List.ext_getElem? fun j => ?_
      by_cases ej : i = j
      · subst ej
        have hl : i < σ.length := (List.getElem?_eq_some_iff.mp e1).1
        rw [List.getElem?_set_self hl, e1]
      · rw [List.getElem?_set_ne ej]
    have R1 : RepE K F H ps pc σ (ρ.set i .no) g := by
      have := R.setN i (some (.ref p)) .no id fun _ => trivial
      rwa [hσ] at this
    have R2 : RepE K (upd F p o) H ps pc σ (ρ.set i .no) g := R1.shareL hp hf hx fun j s' h2 ho2 e2 => by
      rcases getSet h2 with ⟨_, rfl, _⟩ | ⟨ne, h2⟩
      · exact ho2
      · exact R.sep i j s s' p ne h h2 ho ho2 e1 e2
    have R3 : RepE K (upd F p o) H ps pc σ (ρ.set i (.sh d)) g := by
      have := R2.setN i (some (.ref p)) (.sh d) id fun _ => ⟨_, rfl, r⟩
      rw [hσ, List.set_set] at this
      exact this
    refine a σ _ g _ H ps pc _ _ _ E R3 ef (q.after ⟨rfl, x, fun z hz => ?_⟩)
    have hz' : OwnA (σ.set i (some (.ref p))) (ρ.set i (.sh d)) z := by rw [hσ]; exact hz
    exact .inl (ownA_setN id z hz')
  unfold sFrz at e
  split at e
  · rename_i xs h
    obtain ⟨p, vs, e1, hp, hf, hx, r⟩ := R.slot i _ h
    have le : Sub F (upd F p (.lst vs)) := Sub.of_le fun a u z => by rw [upd_ne (ne_of_none z hf)]; exact z
    exact main h trivial e1 hp (.lst upd_same (le.rpAll r)) e
  · rename_i t' es h
    obtain ⟨p, ks, vs, ds, e1, hp, hf, hx, r, ez⟩ := R.slot i _ h
    obtain ⟨u, hu, _, _⟩ := hp.has
    have le : Sub F (upd F p u) := Sub.of_le fun a w z => by rw [upd_ne (ne_of_none z hf)]; exact z
    refine main h trivial e1 hu (.dct (DicW.dicO (t := t') (hp.congr fun u' hu' => ?_)) (le.rpAll r) ez) e
    rw [hu] at hu'
    cases hu'
    exact upd_same
  · exact a σ ρ g F H ps pc _ _ _ E R e q
/-! loops -/
theorem WpT.whileS {c : TT} {t : TS} {fc : EB} {f : BS} (hc : WpB K c fc) (a : WpT K t f) : WpT K (tWhile c t) (sWhile fc f) := fun σ ρ g F H ps pc fl ρ' g' E R e q => by
  obtain ⟨n, e⟩ := sWhile_inv e
  refine ⟨fun m σ1 H1 => ∃ F1 ρ1 g1, RepE K F1 H1 ps pc σ1 ρ1 g1 ∧ StepS ps pc F H σ ρ g F1 H1 σ1 ρ1 g1 ∧ whileL fc f m ρ1 g1 = some (fl, ρ', g'), ⟨n, F, ρ, g, R, .refl, e⟩, ?_⟩
  rintro m σ1 H1 ⟨F1, ρ1, g1, R1, s1, e1⟩
  cases m with
  | zero => cases e1
  | succ m =>
    obtain ⟨⟨b, g2⟩, e2, e1⟩ := bind_some e1
    dsimp only at e1
    refine hc σ1 ρ1 g1 F1 H1 ps pc _ _ _ R1 e2 fun F2 H2 hk2 x2 R2 => ?_
    have s2 : StepS ps pc F H σ ρ g F2 H2 σ1 ρ1 g2 := s1.trans (.ex hk2 x2)
    by_cases hb : b = true
    · rw [if_pos hb] at e1 ⊢
      obtain ⟨⟨f3, ρ3, g3⟩, e3, e4⟩ := bind_some e1
      refine ⟨fun σ' H' => ∃ F' , RepE K F' H' ps pc σ' ρ3 g3 ∧ StepS ps pc F H σ ρ g F' H' σ' ρ3 g3 ∧ whileL fc f m ρ3 g3 = some (fl, ρ', g'), fun σ' H' ⟨F', R', s', w'⟩ => ⟨m, Nat.lt_succ_self m, F', ρ3, g3, R', s', w'⟩, ?_⟩
      refine a σ1 ρ1 g2 F2 H2 ps pc _ _ _ _ R2 e3 ?_
      cases f3 with
      | nx => exact fun σ' F' H' s' R' => ⟨F', R', s2.trans s', e4⟩
      | ct => exact fun σ' F' H' s' R' => ⟨F', R', s2.trans s', e4⟩
      | bk =>
        cases e4
        exact fun σ' F' H' s' R' => q σ' F' H' (s2.trans s') R'
      | ret d =>
        cases e4
        exact Post.after (fl := .ret d) s2 q
    · rw [if_neg hb] at e1 ⊢
      cases e1
      exact q _ F2 H2 s2 R2
theorem forL_drop {fg : FG} {b : BS} {ds : List D} {i : Nat} {d : D} (h : ds[i]? = some d) : forL fg b (ds.drop i) = forL fg b (d :: ds.drop (i + 1)) := by
  have hl : i < ds.length := (List.getElem?_eq_some_iff.mp h).1
  have hd : ds[i] = d := (List.getElem?_eq_some_iff.mp h).2
  rw [List.drop_eq_getElem_cons hl, hd]
/-- the turns of a for loop -/
theorem for_core {gg : TG} {t : TS} {fg : FG} {sl : List Nat} {f : BS} (hg : WpG K gg fg sl) (a : WpT K t f) {σ : L2.St} {ρ : List Sl} {g1 : G} {F1 H1 : Hp} {ps pc : Addr} {J : It} {ds : List D} {fl : Fl} {ρ' : List Sl} {g' : G} {E : Ends}
    (R1 : RepE K F1 H1 ps pc σ ρ g1) (it : ItOk K (ZS g1.kd ps pc σ ρ) J ds F1 H1) (e : forL fg f ds ρ g1 = some (fl, ρ', g')) (q : Post K ps pc F1 H1 σ ρ g1 ρ' g' E fl) :
    ∃ W : Nat → Nat → L2.St → Hp → Prop, (∃ m, W 0 m σ H1) ∧ ∀ i m σ H, W i m σ H →
      (J.stop i H ∧ E.nx σ H) ∨ (J.go i H ∧ ∃ N : L2.St → Hp → Prop, (∀ σ' H', N σ' H' → ∃ m', m' < m ∧ W (i + 1) m' σ' H') ∧ ∀ x H', J.yld i H x H' → gg x σ H' fun σ2 H2 => t { E with nx := N, ct := N, bk := E.nx } σ2 H2) := by
  refine ⟨fun i m σ2 H2 => i ≤ ds.length ∧ m = ds.length - i ∧ ∃ F2 ρ2 g2, RepE K F2 H2 ps pc σ2 ρ2 g2 ∧ StepS ps pc F1 H1 σ ρ g1 F2 H2 σ2 ρ2 g2 ∧ forL fg f (ds.drop i) ρ2 g2 = some (fl, ρ', g'), ⟨ds.length, Nat.zero_le _, rfl, F1, ρ, g1, R1, .refl, e⟩, ?_⟩
  rintro i m σ2 H2 ⟨hil, rfl, F2, ρ2, g2, R2, s2, e2⟩
  have xz : Step (ZS g1.kd ps pc σ ρ) F1 H1 F2 H2 := s2.x
  by_cases hlt : i < ds.length
  · have hd : ds[i]? = some ds[i] := List.getElem?_eq_getElem hlt
    rw [forL_drop hd] at e2
    obtain ⟨ρ3, e3, e4⟩ := bind_some e2
    obtain ⟨⟨f5, ρ5, g5⟩, e5, e6⟩ := bind_some e4
    obtain ⟨h1, h2⟩ := it.go i F2 H2 _ R2.sub xz hd
    refine .inr ⟨h1, fun σ' H' => ∃ F', RepE K F' H' ps pc σ' ρ5 g5 ∧ StepS ps pc F1 H1 σ ρ g1 F' H' σ' ρ5 g5 ∧ forL fg f (ds.drop (i + 1)) ρ5 g5 = some (fl, ρ', g'), fun σ' H' ⟨F', R', s', w'⟩ => ⟨_, by omega, hlt, rfl, F', ρ5, g5, R', s', w'⟩, fun y H3 hy => ?_⟩
    obtain ⟨F3, x3, sb3, r3⟩ := h2 y H3 hy
    have R3 := R2.pure x3 sb3
    refine hg σ2 ρ2 g2 F3 H3 ps pc y _ ρ3 _ R3 r3 e3 fun σ4 R4 _ o4 => ?_
    have s4 : StepS ps pc F1 H1 σ ρ g1 F3 H3 σ4 ρ3 g2 := s2.trans ⟨rfl, x3.mono fun _ z => z.elim, fun z hz => by
      obtain ⟨j, s, h1, h2, h3⟩ := hz
      obtain ⟨h4, h5⟩ := o4 j s h1 h2
      exact .inl ⟨j, s, h4, h2, by rw [← h5]; exact h3⟩⟩
    refine a σ4 ρ3 g2 F3 H3 ps pc _ _ _ _ R4 e5 ?_
    cases f5 with
    | nx => exact fun σ' F' H' s' R' => ⟨F', R', s4.trans s', e6⟩
    | ct => exact fun σ' F' H' s' R' => ⟨F', R', s4.trans s', e6⟩
    | bk =>
      cases e6
      exact fun σ' F' H' s' R' => q σ' F' H' (s4.trans s') R'
    | ret d =>
      cases e6
      exact Post.after (fl := .ret d) s4 q
  · have e0 : ds.drop i = [] := List.drop_eq_nil_iff.mpr (by omega)
    rw [e0] at e2
    cases e2
    exact .inl ⟨it.stop i F2 H2 R2.sub xz (by omega), q _ F2 H2 s2 R2⟩
theorem zs_shared {F1 H1 : Hp} {ps pc : Addr} {σ : L2.St} {ρ : List Sl} {g1 : G} (R1 : RepE K F1 H1 ps pc σ ρ g1) (a : Addr) (h : F1 a ≠ none) : ¬ ZS g1.kd ps pc σ ρ a := fun z => by
  rcases z with z | ⟨i, s, h1, h2, h3⟩
  · exact h (R1.st.has z).choose_spec.2
  · obtain ⟨_, _, _, hf, _⟩ := R1.ownAt h1 h2 h3
    exact h hf
theorem WpT.forS {wi : TI} {gg : TG} {t : TS} {fi : EI} {fg : FG} {sl : List Nat} {f : BS} (hi : WpI K wi fi) (hg : WpG K gg fg sl) (a : WpT K t f) : WpT K (tFor wi gg t) (sFor fi fg f) := fun σ ρ g F H ps pc fl ρ' g' E R e q => by
  obtain ⟨⟨ds, g1⟩, e1, e⟩ := bind_some e
  dsimp only at e
  refine hi σ ρ g F H ps pc _ _ _ R e1 fun J F1 H1 hk x1 R1 io => ?_
  exact for_core hg a R1 (io _ (zs_shared R1)) e (q.after (.ex hk x1))
end
end Sd

namespace Sd
open PySem PySem.Spec L2
/-! ### Sd11: dicts walked; the statements' derivations; defs -/
section
variable {K : PySem.W.Frag} {F H F' H' : Hp} {ps pc d : Addr} {σ : L2.St} {ρ : List Sl} {g : G} {u : HO} {od : Obj}
/-- a shared dict is locked or unlocked -/
theorem RepE.chg (E : RepE K F H ps pc σ ρ g) {o : HO} (h : F d = some u) (ho : o = u ∨ (isDct u ∧ ∃ od, o = .frz od u)) : RepE K F (L2.upd H d o) ps pc σ ρ g := by
  have ne : ∀ a, F a = none → a ≠ d := fun a n e => by rw [e, h] at n; cases n
  refine ⟨fun a w q => ?_, E.len, fun i s hs => ?_, E.sep, ?_⟩
  · by_cases e : a = d
    · subst e
      rw [h] at q
      cases q
      rw [upd_same]
      rcases ho with rfl | ⟨h1, od, rfl⟩
      · exact .inl rfl
      · exact .inr ⟨h1, od, rfl⟩
    · rw [upd_ne e]
      exact E.sub a w q
  · have q := E.slot i s hs
    cases s with
    | no => trivial
    | sh d => exact q
    | ol xs =>
      obtain ⟨p', vs, e', hp, hf, q⟩ := q
      exact ⟨p', vs, e', by rw [upd_ne (ne _ hf)]; exact hp, hf, q⟩
    | od t es =>
      obtain ⟨p', ks, vs, ds, e', hp, hf, q⟩ := q
      exact ⟨p', ks, vs, ds, e', hp.congr fun u hu => by rw [upd_ne (ne _ hf)]; exact hu, hf, q⟩
    | st => exact q
  · have q := E.st
    cases g with
    | no => trivial
    | k1 cells seed =>
      obtain ⟨e0, e1, e2, e3, e4⟩ := q
      exact ⟨e0, by rw [upd_ne (ne _ e3)]; exact e1, by rw [upd_ne (ne _ e4)]; exact e2, e3, e4⟩
    | k2 a b =>
      obtain ⟨e1, e2⟩ := q
      exact ⟨by rw [upd_ne (ne _ e2)]; exact e1, e2⟩
/-- a step under the lock, seen from without -/
theorem Step.unlock {Z : Addr → Prop} (h : H d = some u) (hn : ∀ xs, u ≠ .tup xs) (x : Step Z F (upd H d (.frz od u)) F' H') : Step Z F H F' (upd H' d u) where
  le := x.le
  keep := fun a w q n => by
    by_cases e : a = d
    · subst e
      rw [h] at q
      cases q
      exact upd_same
    · rw [upd_ne e]
      exact x.keep a w (by rw [upd_ne e]; exact q) n
  newF := fun a q => by
    rcases x.newF a q with z | z | z | ⟨xs, z⟩
    · exact .inl z
    · by_cases e : a = d
      · subst e
        rw [upd_same] at z
        cases z
      · rw [upd_ne e] at z
        exact .inr (.inl z)
    · exact .inr (.inr (.inl z))
    · by_cases e : a = d
      · subst e
        rw [upd_same] at z
        cases z
      · rw [upd_ne e] at z
        exact .inr (.inr (.inr ⟨xs, z⟩))
  live := fun a q => by
    by_cases e : a = d
    · subst e
      rw [upd_same] at q
      cases q
    · rw [upd_ne e] at q
      have := x.live a q
      rwa [upd_ne e] at this
  tups := fun a xs q => by
    by_cases e : a = d
    · subst e
      rw [h] at q
      exact absurd (Option.some.inj q) (hn xs)
    · rw [upd_ne e]
      exact x.tups a xs (by rw [upd_ne e]; exact q)
theorem RpG.chg {o : HO} (q : RpG F H ps pc g) (h : F d = some u) : RpG F (upd H d o) ps pc g := by
  have ne : ∀ a, F a = none → a ≠ d := fun a n e => by rw [e, h] at n; cases n
  cases g with
  | no => trivial
  | k1 cells seed =>
    obtain ⟨e0, e1, e2, e3, e4⟩ := q
    exact ⟨e0, by rw [upd_ne (ne _ e3)]; exact e1, by rw [upd_ne (ne _ e4)]; exact e2, e3, e4⟩
  | k2 a b =>
    obtain ⟨e1, e2⟩ := q
    exact ⟨by rw [upd_ne (ne _ e2)]; exact e1, e2⟩
end
/-- the keys of the dict in slot j -/
def iKeysD (j : Nat) : EI := fun ρ g => match ρ[j]? with | some (.sh (.dict es)) => some (es.map (·.1), g) | _ => none
theorem itk_ok {K : PySem.W.Frag} {Z : Addr → Prop} {d : Addr} {o : Obj} {kvs : List (Key × V)} {ds : List D} {F H : Hp} (h : H d = some (.frz o (.dK kvs))) (hz : ¬ Z d) (hl : kvs.length = ds.length) : ItOk K Z (Itk d o kvs) (((kvs.map fun p => keyD p.1).zip ds).map (·.1)) F H where
  go := fun i F1 H1 k s x e => by
    have e' : ((kvs.map fun p => keyD p.1).zip ds).map (·.1) = kvs.map fun p => keyD p.1 := List.map_fst_zip (by rw [List.length_map]; omega)
    rw [e', List.getElem?_map] at e
    cases q : kvs[i]? with
    | none => rw [q] at e; cases e
    | some kv =>
      rw [q] at e
      have e : keyD kv.1 = k := Option.some.inj e
      refine ⟨⟨x.keep _ _ h hz, (List.getElem?_eq_some_iff.mp q).1⟩, fun y H2 hy => ?_⟩
      obtain ⟨rfl, k', v, h2, rfl⟩ := hy
      rw [q] at h2
      have h2 := Option.some.inj h2
      refine ⟨F1, .refl, s, ?_⟩
      rw [← e, h2]
      cases k' with
      | inl i => exact .int i
      | inr x => exact .str x
  stop := fun i F1 H1 s x e => ⟨x.keep _ _ h hz, by
    rw [List.length_map, List.length_zip, List.length_map] at e
    omega⟩
theorem rp_keys {K : PySem.W.Frag} {F : Hp} : ∀ k : List Key, RpAll K F (k.map kV) (k.map keyD)
  | [] => .nil
  | .inl i :: k => .cons (.int i) (rp_keys k)
  | .inr x :: k => .cons (.str x) (rp_keys k)
theorem itkt_ok {K : PySem.W.Frag} {Z : Addr → Prop} {d : Addr} {o : Obj} {kvs : List (List Key × V)} {ds : List D} {F H : Hp} (h : H d = some (.frz o (.dT kvs))) (hz : ¬ Z d) (hl : kvs.length = ds.length) : ItOk K Z (Itkt d o kvs) (((kvs.map fun p => keyTD p.1).zip ds).map (·.1)) F H where
  go := fun i F1 H1 k s x e => by
    have e' : ((kvs.map fun p => keyTD p.1).zip ds).map (·.1) = kvs.map fun p => keyTD p.1 := List.map_fst_zip (by rw [List.length_map]; omega)
    rw [e', List.getElem?_map] at e
    cases q : kvs[i]? with
    | none => rw [q] at e; cases e
    | some kv =>
      rw [q] at e
      have e : keyTD kv.1 = k := Option.some.inj e
      refine ⟨⟨x.keep _ _ h hz, (List.getElem?_eq_some_iff.mp q).1⟩, fun y H2 hy => ?_⟩
      obtain ⟨rfl, k', v, b, h2, rfl, hb⟩ := hy
      rw [q] at h2
      have h2 := Option.some.inj h2
      rw [← e, h2]
      have tup : ∀ F2 : Hp, F2 b = some (.tup (k'.map kV)) → Rp K F2 (.ref b) (keyTD k') := fun F2 h => .tup h (rp_keys k')
      cases hf : F1 b with
      | none => exact ⟨_, .share hf (.inr (.inr ⟨_, hb⟩)), s.share hb, tup _ upd_same⟩
      | some w =>
        have : F1 b = some (.tup (k'.map kV)) := by
          rcases s b w hf with z | ⟨_, _, z⟩
          · rw [hf, ← z, hb]
          · rw [hb] at z
            cases z
        exact ⟨F1, .refl, s, tup _ this⟩
  stop := fun i F1 H1 s x e => ⟨x.keep _ _ h hz, by
    rw [List.length_map, List.length_zip, List.length_map] at e
    omega⟩
section
variable {K : PySem.W.Frag}
/-- the dict in slot j -/
theorem RepE.dictAt {F H : Hp} {ps pc : Addr} {σ : L2.St} {ρ : List Sl} {g : G} (R : RepE K F H ps pc σ ρ g) {j : Nat} {es : List (D × D)} (h : ρ[j]? = some (.sh (.dict es))) :
    ∃ d ks vs ds, σ[j]? = some (some (.ref d)) ∧ DicO F d ks vs ∧ RpAll K F vs ds ∧ es = ks.zip ds ∧ F d ≠ none := by
  obtain ⟨v, e, r⟩ := R.slot j _ h
  cases r with
  | dct h r ez =>
    refine ⟨_, _, _, _, e, h, r, ez, ?_⟩
    rcases h with ⟨kvs, h | ⟨o, h⟩, _⟩ | ⟨kvs, h | ⟨o, h⟩, _⟩ <;> (rw [h]; exact fun z => by cases z)
/-- the keys are walked where the dict is locked -/
theorem keys_it {F H : Hp} {ps pc d : Addr} {σ : L2.St} {ρ : List Sl} {g : G} {j : Nat} {ks : List D} {vs : List V} {ds : List D} {Q : It → Hp → Prop} (R : RepE K F H ps pc σ ρ g) (e : σ[j]? = some (some (.ref d))) (h : DicO F d ks vs) (r : RpAll K F vs ds) (hl : ∃ o u, H d = some (.frz o u))
    (q : ∀ J, (∀ Z : Addr → Prop, (∀ a, F a ≠ none → ¬ Z a) → ItOk K Z J ((ks.zip ds).map (·.1)) F H) → Q J H) : iKeys (tVar j) σ H Q := by
  refine ⟨_, e, ?_⟩
  have fr : ∀ {u : HO}, (∀ o z, u ≠ .frz o z) → Rd F d u → F d ≠ none ∧ ∃ o, H d = some (.frz o u) := fun {u} hu h => by
    rcases h with h | ⟨o, h⟩
    · refine ⟨(by rw [h]; exact fun z => (by cases z)), ?_⟩
      rcases R.sub d u h with z | ⟨_, o, z⟩
      · obtain ⟨o, w, hw⟩ := hl
        rw [z] at hw
        exact absurd (Option.some.inj hw) (hu o w)
      · exact ⟨o, z⟩
    · refine ⟨(by rw [h]; exact fun z => (by cases z)), ?_⟩
      rcases R.sub d _ h with z | ⟨z, _⟩
      · exact ⟨o, z⟩
      · exact z.elim
  have hlen := r.length
  rcases h with ⟨kvs, h, rfl, rfl⟩ | ⟨kvs, h, rfl, rfl⟩
  · obtain ⟨hf, o, ho⟩ := fr (fun _ _ z => by cases z) h
    exact ⟨d, o, rfl, .inl ⟨kvs, ho, q _ fun Z hz => itk_ok ho (hz d hf) (by rw [List.length_map] at hlen; exact hlen)⟩⟩
  · obtain ⟨hf, o, ho⟩ := fr (fun _ _ z => by cases z) h
    exact ⟨d, o, rfl, .inr ⟨kvs, ho, q _ fun Z hz => itkt_ok ho (hz d hf) (by rw [List.length_map] at hlen; exact hlen)⟩⟩
theorem dic_cases {F H : Hp} {d : Addr} {ks : List D} {vs : List V} (s : Sub F H) (h : DicO F d ks vs) : (∃ o u, H d = some (.frz o u)) ∨ ∃ u, F d = some u ∧ H d = some u ∧ isDct u ∧ Mut (some u) ∧ ∀ xs, u ≠ .tup xs := by
  have go : ∀ {u : HO}, isDct u → Mut (some u) → (∀ xs, u ≠ .tup xs) → Rd F d u → (∃ o u, H d = some (.frz o u)) ∨ ∃ u, F d = some u ∧ H d = some u ∧ isDct u ∧ Mut (some u) ∧ ∀ xs, u ≠ .tup xs := fun {u} h1 h2 h3 h => by
    rcases h with h | ⟨o, h⟩
    · rcases s d u h with z | ⟨_, o, z⟩
      · exact .inr ⟨u, h, z, h1, h2, h3⟩
      · exact .inl ⟨o, u, z⟩
    · rcases s d _ h with z | ⟨z, _⟩
      · exact .inl ⟨o, u, z⟩
      · exact z.elim
  rcases h with ⟨kvs, h, _⟩ | ⟨kvs, h, _⟩
  · exact go (u := .dK kvs) trivial trivial (fun _ z => by cases z) h
  · exact go (u := .dT kvs) trivial trivial (fun _ z => by cases z) h
def tFree (t : TS) : TS := fun E σ H => tLock t E σ H ∨ t E σ H
def tFreeE (t : TE) : TE := fun σ H Q => tLockE t σ H Q ∨ t σ H Q
/-- for k in d -/
theorem WpT.forKeys {gg : TG} {t : TS} {fg : FG} {sl : List Nat} {f : BS} {j : Nat} (hg : WpG K gg fg sl) (a : WpT K t f) : WpT K (tFree (tFor (iKeys (tVar j)) gg t)) (sFor (iKeysD j) fg f) := fun σ ρ g F H ps pc fl ρ' g' E R e q => by
  obtain ⟨⟨ds0, g1⟩, e1, e⟩ := bind_some e
  dsimp only at e
  unfold iKeysD at e1
  split at e1
  · rename_i es hj
    cases e1
    obtain ⟨d, ks, vs, ds, ev, hd, r, rfl, hf⟩ := R.dictAt hj
    rcases dic_cases R.sub hd with hl | ⟨u, hu, hH, h1, h2, h3⟩
    · exact .inr (keys_it R ev hd r hl fun J io => for_core hg a R (io _ (zs_shared R)) e q)
    · refine .inl ⟨d, u, hH, h2, fun od => ?_⟩
      have R1 : RepE K F (upd H d (.frz od u)) ps pc σ ρ g := R.chg hu (.inr ⟨h1, od, rfl⟩)
      refine keys_it R1 ev hd r ⟨od, u, upd_same⟩ fun J io => for_core hg a R1 (io _ (zs_shared R1)) e ?_
      have hz := zs_shared R1 d (by rw [hu]; exact fun z => by cases z)
      have loop : ∀ {σ' : L2.St} {F' H' : Hp}, StepS ps pc F (upd H d (.frz od u)) σ ρ g F' H' σ' ρ' g' → RepE K F' H' ps pc σ' ρ' g' → H' d = some (.frz od u) ∧ StepS ps pc F H σ ρ g F' (upd H' d u) σ' ρ' g' ∧ RepE K F' (upd H' d u) ps pc σ' ρ' g' := fun {σ' F' H'} s' R' =>
        ⟨s'.x.keep _ _ upd_same hz, ⟨s'.kd, s'.x.unlock hH h3, fun a ha => (s'.own a ha).imp id fun z => by
          by_cases e : a = d
          · subst e
            rw [upd_same] at z
            cases z
          · rwa [upd_ne e] at z⟩, R'.chg (s'.x.le _ _ hu) (.inl rfl)⟩
      cases fl with
      | nx => exact fun σ' F' H' s' R' => ⟨(loop s' R').1, q σ' F' _ (loop s' R').2.1 (loop s' R').2.2⟩
      | bk => exact fun σ' F' H' s' R' => ⟨(loop s' R').1, q σ' F' _ (loop s' R').2.1 (loop s' R').2.2⟩
      | ct => exact fun σ' F' H' s' R' => ⟨(loop s' R').1, q σ' F' _ (loop s' R').2.1 (loop s' R').2.2⟩
      | ret d' =>
        intro v F' H' hk x s' st r'
        refine ⟨x.keep _ _ upd_same hz, q v F' _ hk (x.unlock hH h3) (fun b w hb => ?_) (st.chg (x.le _ _ hu)) r'⟩
        by_cases e : b = d
        · subst e
          rw [x.le _ _ hu] at hb
          cases hb
          rw [upd_same]
          exact .inl rfl
        · rw [upd_ne e]
          exact s' b w hb
  · cases e1
/-- [.. for k in d ..] -/
theorem Wp.compKeys {g : TG} {tg : FG} {sl vs : List Nat} {tt : TT} {ft : EB} {te : TE} {fe : ES} {j : Nat} (hg : WpG K g tg sl) (hsl : ∀ i ∈ sl, i ∈ vs) (ht : WpB K tt ft) (he : Wp K te fe) :
    Wp K (tFreeE (tLc (iKeys (tVar j)) g tt te vs)) (fComp vs (iKeysD j) tg ft fe) := fun σ ρ gg F H ps pc r g' Q R e q => by
  obtain ⟨⟨ds0, g1⟩, e1, e⟩ := bind_some e
  obtain ⟨⟨full, g9⟩, e2, e9⟩ := bind_some e
  dsimp only at e9 e2
  unfold iKeysD at e1
  split at e1
  · rename_i es hj
    cases e1
    split at e9
    · rename_i hlen
      cases e9
      obtain ⟨d, ks, vs, ds, ev, hd, r, rfl, hf⟩ := R.dictAt hj
      rcases dic_cases R.sub hd with hl | ⟨u, hu, hH, h1, h2, h3⟩
      · exact .inr (keys_it R ev hd r hl fun J io => comp_core hg hsl ht he R (io _ fun a h z => h z.2) e2 hlen q)
      · refine .inl ⟨d, u, hH, h2, fun od => ?_⟩
        have R1 : RepE K F (upd H d (.frz od u)) ps pc σ ρ gg := R.chg hu (.inr ⟨h1, od, rfl⟩)
        refine keys_it R1 ev hd r ⟨od, u, upd_same⟩ fun J io => comp_core (Q := fun v H' => H' d = some (.frz od u) ∧ Q v (upd H' d u)) hg hsl ht he R1 (io _ fun a h z => h z.2) e2 hlen fun v F' H' hk x E' r' => ?_
        have hz : ¬ Ex gg.kd ps pc d := fun z => by
          have := (R.st.has z).choose_spec.2
          rw [hu] at this
          cases this
        refine ⟨x.keep _ _ upd_same hz, q v F' _ hk (x.unlock hH h3) (E'.chg (x.le _ _ hu) (.inl rfl)) ?_⟩
        obtain ⟨p, vs', rfl, h0, hp, hfp, rr⟩ := r'
        have ne : p ≠ d := by
          rintro rfl
          rw [upd_same] at h0
          cases h0
        exact ⟨p, vs', rfl, by rwa [upd_ne ne] at h0, by rw [upd_ne ne]; exact hp, hfp, rr⟩
    · cases e9
  · cases e1
end
section
variable {X : Cx}
theorem PS.or {st : Stmt} {t t' : TS} (h : PS X st t) (h' : PS X st t') : PS X st (fun D σ H => t D σ H ∨ t' D σ H) :=
  ⟨fun pins s σ H D I w => w.elim (h.run pins s σ H D I) (h'.run pins s σ H D I)⟩
theorem PE.or {e : Expr} {t t' : TE} (h : PE X e t) (h' : PE X e t') : PE X e (fun σ H Q => t σ H Q ∨ t' σ H Q) :=
  ⟨fun pins s σ H Q I w => w.elim (h.run pins s σ H Q I) (h'.run pins s σ H Q I)⟩
end
/-! ### derivations of statements -/
section
variable {ι : Type} {Xs : ι → Cx} {P : Program} {w : World} {K : PySem.W.Frag} {mg : Str → Option Value} {base : Heap} {k : Nat} {st : Stmt} {sts : List Stmt} {f h : BS} {fe : ES} {e : Expr} {pos pos' py : Pos}
theorem ss_nil : SdSs Xs K [] sNx := ⟨_, fun _ => pss_nil, .nx⟩
theorem ss_one (a : SdS Xs K st f) : SdSs Xs K [st] f := by
  obtain ⟨t, p, w⟩ := a
  exact ⟨_, fun i => pss_one (p i), w⟩
theorem ss_cons (a : SdS Xs K st f) (b : SdSs Xs K sts h) : SdSs Xs K (st :: sts) (sSeq f h) := by
  obtain ⟨t, p, w⟩ := a
  obtain ⟨u, p2, w2⟩ := b
  exact ⟨_, fun i => pss_cons (p i) (p2 i), .seq w w2⟩
/-- ghost: slot i is shared from here on -/
theorem ss_frz (i : Nat) (b : SdSs Xs K sts f) : SdSs Xs K sts (sFrz i f) := by
  obtain ⟨t, p, w⟩ := b
  exact ⟨_, p, .frz w⟩
theorem s_pass : SdS Xs K (.Pass pos) sNx := ⟨_, fun _ => ps_pass, .nx⟩
theorem s_break : SdS Xs K (.Break pos) sBk := ⟨_, fun _ => ps_break, .bk⟩
theorem s_cont : SdS Xs K (.Continue pos) sCt := ⟨_, fun _ => ps_continue, .ct⟩
theorem s_ret (a : SdE Xs K e fe) : SdS Xs K (.Return (some e) pos) (sRet fe) := by
  obtain ⟨t, p, w⟩ := a
  exact ⟨_, fun i => ps_ret (p i), .ret w⟩
theorem s_retN : SdS Xs K (.Return none pos) sRetN := ⟨_, fun _ => ps_retN, .retN⟩
theorem s_if {c : Expr} {fc : EB} {a b : List Stmt} (hc : SdT Xs K c fc) (ha : SdSs Xs K a f) (hb : SdSs Xs K b h) : SdS Xs K (.If c a b pos) (sIf fc f h) := by
  obtain ⟨tc, pc, wc⟩ := hc
  obtain ⟨t, p, w⟩ := ha
  obtain ⟨u, p2, w2⟩ := hb
  exact ⟨_, fun i => ps_if (pc i) (p i) (p2 i), .ifS wc w w2⟩
theorem s_set (fam : Fam Xs P w K mg base k) (i : Nat) {x : Str} (a : SdE Xs K e fe) (hi : ∀ j, (Xs j).N[i]? = some x := by intro _; rfl) (hx : ∀ j, Loc (Xs j).env.scope x := by intro _; first | exact Or.inl rfl | exact Or.inr rfl) (hs : ∀ j, swapsWith e (some (.Name x pos')) pos.line (Xs j).env = pure false := by intro _; rfl)
    (hf : ∀ j, (Xs j).fn x = true ∨ (Xs j).env.scope.names.lookup x = some .local := by intro _; first | exact Or.inl rfl | exact Or.inr rfl) : SdS Xs K (.Assign [.Name x pos'] e pos) (sAsg i fe) := by
  obtain ⟨t, p, w⟩ := a
  exact ⟨_, fun j => ps_set (fam.nd j) (hi j) (hx j) (p j) (hs j) (hf j), .asg w⟩
theorem s_asgG {tg : Expr} {fg : FG} {sl : List Nat} (a : SdE Xs K e fe) (b : SdG Xs K tg fg sl) (hs : ∀ j, swapsWithSole [tg] e pos.line (Xs j).env = pure false := by intro _; rfl) (hw : ∀ j, swappedStores [tg] e (Xs j).env = pure none := by intro _; rfl)
    (h1 : ∀ j, (assignEach [tg] (Xs j).env).map (·.2) = [assign tg (Xs j).env] := by intro _; rfl) : SdS Xs K (.Assign [tg] e pos) (sAsgG fg fe) := by
  obtain ⟨t, p, w⟩ := a
  obtain ⟨u, p2, w2⟩ := b
  exact ⟨_, fun j => ps_asg (p j) (p2 j) (hs j) (hw j) (h1 := h1 j), .asgG w w2⟩
theorem s_inc (fam : Fam Xs P w K mg base k) (i : Nat) {x : Str} (a : SdE Xs K e fe) (hi : ∀ j, (Xs j).N[i]? = some x := by intro _; rfl) (hx : ∀ j, Loc (Xs j).env.scope x := by intro _; first | exact Or.inl rfl | exact Or.inr rfl)
    (hf : ∀ j, (Xs j).fn x = true ∨ (Xs j).env.scope.names.lookup x = some .local := by intro _; first | exact Or.inl rfl | exact Or.inr rfl) : SdS Xs K (.AugAssign (.Name x pos') .Add e pos) (sInc i fe) := by
  obtain ⟨t, p, w⟩ := a
  exact ⟨_, fun j => ps_aug (fam.nd j) (hi j) (hx j) (p j) ip_add (hf j), .inc w⟩
theorem s_put (fam : Fam Xs P w K mg base k) (i : Nat) {x : Str} {ek : Expr} {fk : ES} (a : SdE Xs K e fe) (b : SdE Xs K ek fk) (hN : ∀ j, (Xs j).N[i]? = some x := by intro _; rfl) (hv : ∀ j, Vis (Xs j).env.scope x := by intro _; first | exact Or.inl rfl | exact Or.inr (Or.inl rfl) | exact Or.inr (Or.inr rfl))
    (hd : (x == ("__debug__" : Str)) = false := by decide) (hcd : (x == ("__classdict__" : Str)) = false := by decide)
    (ha : ∀ j v, assign (.Subscript (.Name x py) ek pos') (Xs j).env v = (do
      let ov ← holding [v] (eval (.Name x py) (Xs j).env)
      let iv ← holding [v, ov] (eval ek (Xs j).env)
      standAt pos'
      holding [v, ov, iv] (setItem ov iv v)
      release [v, ov, iv] []) := by intro _ _; rfl)
    (hs : ∀ j, swapsWithSole [.Subscript (.Name x py) ek pos'] e pos.line (Xs j).env = pure false := by intro _; rfl) (hw : ∀ j, swappedStores [.Subscript (.Name x py) ek pos'] e (Xs j).env = pure none := by intro _; rfl) :
    SdS Xs K (.Assign [.Subscript (.Name x py) ek pos'] e pos) (sPut i fk fe) := by
  obtain ⟨t, p, w⟩ := a
  obtain ⟨u, p2, w2⟩ := b
  exact ⟨_, fun j => ps_asg (p j) (pg_sub (pe_var (hN j) (hv j) hd hcd) (p2 j) (set_any (hu_of (fam.room j))) (ha j)) (hs j) (hw j), .put w w2⟩
theorem s_append (fam : Fam Xs P w K mg base k) (i : Nat) {x : Str} {apos cpos : Pos} (a : SdE Xs K e fe) (hN : ∀ j, (Xs j).N[i]? = some x := by intro _; rfl) (hv : ∀ j, Vis (Xs j).env.scope x := by intro _; first | exact Or.inl rfl | exact Or.inr (Or.inl rfl) | exact Or.inr (Or.inr rfl))
    (hd : (x == ("__debug__" : Str)) = false := by decide) (hcd : (x == ("__classdict__" : Str)) = false := by decide)
    (hbase : ∀ j, attributeBase (.Name x py) "append" (Xs j).env (eval (.Name x py) (Xs j).env) = eval (.Name x py) (Xs j).env := by intro _; rfl)
    (hfew : ∀ j, ((backTo cpos (starEach [e] (Xs j).env)).all (fun x => !x.1) && (backToKw cpos (keywordEach [] (Xs j).env)).all (fun x => x.1.isSome)
      && decide (([e] : List Expr).length + ([] : List Keyword).length + (if ([] : List Keyword).isEmpty then 0 else 1) < 30)) = true := by intro _; rfl)
    (hline : (apos.endLine == cpos.line) = true := by rfl) (hs : ∀ j, starEach [e] (Xs j).env = (false, eval e (Xs j).env) :: starEach [] (Xs j).env := by intro _; rfl) (hplain : ∀ j, (backTo cpos (starEach [] (Xs j).env)).any (·.1) = false := by intro _; rfl)
    (hsw : ∀ j, swapsWith (.Call (.Attribute (.Name x py) "append" apos) [e] [] cpos) none pos.line (Xs j).env = pure false := by intro _; rfl) :
    SdS Xs K (.Expr (.Call (.Attribute (.Name x py) "append" apos) [e] [] cpos) pos) (sApp i fe) := by
  obtain ⟨t, p, w⟩ := a
  refine ⟨tDrop (tBM K "list" rAppend (tVar i) (tCons t tNil)), fun j => ?_, .app (.cons w .nil)⟩
  rw [← fam.K j]
  exact ps_expr (pe_bm PySem.F.plainAttrs_list PySem.F.slot_list_append PySem.F.type_list_append mt_append (pe_var (hN j) (hv j) hd hcd) (pa_cons (p j) pa_nil (hs j)) (hbase j) (hfew j) hline (hs j) (hplain j)) (hsw j)
theorem s_for (fam : Fam Xs P w K mg base k) {tg iter : Expr} {fi : EI} {fg : FG} {sl : List Nat} (hp : ∀ j, PassesOwn (model (Xs j).prog (Xs j).w) (Xs j).A (Xs j).env (Xs j).xe) (hi : SdI Xs K tg iter fi) (hg : SdG Xs K tg fg sl) (hb : SdSs Xs K sts f) (hs : ∀ j x, foldedSetIterable iter (Xs j).env x = pure x := by intro _ _; rfl) :
    SdS Xs K (.For tg iter sts [] pos) (sFor fi fg f) := by
  obtain ⟨t, p, w⟩ := hi
  obtain ⟨u, p2, w2⟩ := hg
  obtain ⟨v, p3, w3⟩ := hb
  exact ⟨_, fun j => ps_for (hp j) (fam.calm j) (p j) (p2 j) (p3 j) (hs j), .forS w w2 w3⟩
theorem s_while {c : Expr} {fc : EB} (hp : ∀ j, PassesOwn (model (Xs j).prog (Xs j).w) (Xs j).A (Xs j).env (Xs j).xe) (hc : SdT Xs K c fc) (hb : SdSs Xs K sts f) : SdS Xs K (.While c sts [] pos) (sWhile fc f) := by
  obtain ⟨t, p, w⟩ := hc
  obtain ⟨u, p2, w2⟩ := hb
  exact ⟨_, fun j => ps_while (hp j) (p j) (p2 j), .whileS w w2⟩
theorem s_forKeys (fam : Fam Xs P w K mg base k) (i : Nat) {x : Str} {tg : Expr} {fg : FG} {sl : List Nat} (hp : ∀ j, PassesOwn (model (Xs j).prog (Xs j).w) (Xs j).A (Xs j).env (Xs j).xe) (hg : SdG Xs K tg fg sl) (hb : SdSs Xs K sts f) (hN : ∀ j, (Xs j).N[i]? = some x := by intro _; rfl) (hv : ∀ j, Vis (Xs j).env.scope x := by intro _; first | exact Or.inl rfl | exact Or.inr (Or.inl rfl) | exact Or.inr (Or.inr rfl))
    (hd : (x == ("__debug__" : Str)) = false := by decide) (hcd : (x == ("__classdict__" : Str)) = false := by decide) (hs : ∀ j y, foldedSetIterable (.Name x py) (Xs j).env y = pure y := by intro _ _; rfl) : SdS Xs K (.For tg (.Name x py) sts [] pos) (sFor (iKeysD i) fg f) := by
  obtain ⟨u, p2, w2⟩ := hg
  obtain ⟨v, p3, w3⟩ := hb
  refine ⟨_, fun j => ?_, .forKeys (j := i) w2 w3⟩
  have q := ps_for (hp j) (fam.calm j) (pi_keys (tg := tg) (pe_var (hN j) (hv j) hd hcd)) (p2 j) (p3 j) (hs j) (pos := pos)
  exact Sd.PS.or (ps_lock q) q
theorem sd_compKeys (fam : Fam Xs P w K mg base k) (i : Nat) {x : Str} {elt tg : Expr} {ifs : List Expr} {scope : Scope} {gf : FG} {sl : List Nat} {ft : EB} {fe : ES} (own : List (Str × Nat)) (hb : ∀ i, blkC (Xs i).N (Xs i).env.scope scope own = true)
    (hg : SdG (blkF Xs scope) K tg gf sl) (hsl : (sl.all fun i => (own.map (·.2)).contains i) = true) (ht : SdTs (blkF Xs scope) K ifs ft) (he : SdE (blkF Xs scope) K elt fe) (hN : ∀ j, (Xs j).N[i]? = some x := by intro _; rfl) (hv : ∀ j, Vis (Xs j).env.scope x := by intro _; first | exact Or.inl rfl | exact Or.inr (Or.inl rfl) | exact Or.inr (Or.inr rfl))
    (hd : (x == ("__debug__" : Str)) = false := by decide) (hcd : (x == ("__classdict__" : Str)) = false := by decide) (hs : ∀ i y, foldedSetIterable (.Name x py) (Xs i).env y = pure y := by intro _ _; rfl) :
    SdE Xs K (.ListComp elt [⟨tg, .Name x py, ifs, 0⟩] scope pos) (fComp (own.map (·.2)) (iKeysD i) gf ft fe) := by
  obtain ⟨tg', pg, wg⟩ := hg
  obtain ⟨tt, pt, wt⟩ := ht
  obtain ⟨te, pe, we⟩ := he
  refine ⟨_, fun j => ?_, Wp.compKeys (j := i) wg (fun j hj => ?_) wt we⟩
  · have q := pe_lc (pos := pos) (fam.calm j) (fam.nd j) (pi_keys (tg := tg) (pe_var (hN j) (hv j) hd hcd)) (blkOk_by (hb j)) (fun s H C cl fp => pg ⟨j, s, H, C, cl, fp⟩) (fun s H C cl fp => pt ⟨j, s, H, C, cl, fp⟩) (fun s H C cl fp => pe ⟨j, s, H, C, cl, fp⟩) (hs j)
    exact Sd.PE.or (pe_lock q) q
  · have := List.all_eq_true.mp hsl j hj
    simpa using this
end
end Sd

namespace Sd
open PySem PySem.Spec L2
/-! ### Sd12: assignments of comprehensions, displays of dicts, insert, isinstance, ranges as lists, sets sorted; defs -/
section
variable {ι : Type} {Xs : ι → Cx} {P : Program} {w : World} {K : PySem.W.Frag} {mg : Str → Option Value} {base : Heap} {k : Nat} {e : Expr} {fe : ES} {pos pos' py spos : Pos}
theorem s_setC (fam : Fam Xs P w K mg base k) (i : Nat) {y : Str} {elt tg iter : Expr} {ifs : List Expr} {scope : Scope} {fi : EI} {gf : FG} {sl : List Nat} {ft : EB} {fe : ES} (own : List (Str × Nat)) (hi : SdIv Xs K tg iter fi) (hb : ∀ i, blkC (Xs i).N (Xs i).env.scope scope own = true)
    (hg : SdG (blkF Xs scope) K tg gf sl) (hsl : (sl.all fun i => (own.map (·.2)).contains i) = true) (ht : SdTs (blkF Xs scope) K ifs ft) (he : SdE (blkF Xs scope) K elt fe)
    (hsw : ∀ j, swapsWith (.ListComp elt [⟨tg, iter, ifs, 0⟩] scope pos) (some (.Name y py)) spos.line (Xs j).env = pure true)
    (hy : ∀ j, (Xs j).N[i]? = some y := by intro _; rfl) (hyl : ∀ j, (Xs j).env.scope.names.lookup y = some .local := by intro _; rfl) (hs : ∀ i x, foldedSetIterable iter (Xs i).env x = pure x := by intro _ _; rfl) :
    SdS Xs K (.Assign [.Name y py] (.ListComp elt [⟨tg, iter, ifs, 0⟩] scope pos) spos) (sAsg i (fComp (own.map (·.2)) fi gf ft fe)) := by
  obtain ⟨ti, pi, wi⟩ := hi
  obtain ⟨tg', pg, wg⟩ := hg
  obtain ⟨tt, pt, wt⟩ := ht
  obtain ⟨te, pe, we⟩ := he
  refine ⟨_, fun j => ps_setLc (fam.calm j) (fam.nd j) (hy j) (hyl j) (hsw j) (pi j) (blkOk_by (hb j)) (fun s H C cl fp => pg ⟨j, s, H, C, cl, fp⟩) (fun s H C cl fp => pt ⟨j, s, H, C, cl, fp⟩) (fun s H C cl fp => pe ⟨j, s, H, C, cl, fp⟩) (hs j), .asg (Wp.comp wi wg (fun j hj => ?_) wt we)⟩
  have := List.all_eq_true.mp hsl j hj
  simpa using this
theorem s_setC2 (fam : Fam Xs P w K mg base k) (i : Nat) {y : Str} {elt tg iter tg1 iter1 : Expr} {ifs ifs1 : List Expr} {scope : Scope} {fi fi1 : EI} {gf gf1 : FG} {sl sl1 : List Nat} {ft ft1 : EB} {fe : ES} (own : List (Str × Nat)) (vs1 : List Nat) (hi : SdIv Xs K tg iter fi) (hb : ∀ i, blkC (Xs i).N (Xs i).env.scope scope own = true)
    (hg : SdG (blkF Xs scope) K tg gf sl) (hsl : (sl.all fun i => (own.map (·.2)).contains i) = true) (ht : SdTs (blkF Xs scope) K ifs ft) (hi1 : SdIv (blkF Xs scope) K tg1 iter1 fi1) (hg1 : SdG (blkF Xs scope) K tg1 gf1 sl1) (hsl1 : (sl1.all fun i => vs1.contains i) = true) (hv : (vs1.all fun i => (own.map (·.2)).contains i) = true)
    (ht1 : SdTs (blkF Xs scope) K ifs1 ft1) (he : SdE (blkF Xs scope) K elt fe)
    (hsw : ∀ j, swapsWith (.ListComp elt [⟨tg, iter, ifs, 0⟩, ⟨tg1, iter1, ifs1, 0⟩] scope pos) (some (.Name y py)) spos.line (Xs j).env = pure true)
    (hy : ∀ j, (Xs j).N[i]? = some y := by intro _; rfl) (hyl : ∀ j, (Xs j).env.scope.names.lookup y = some .local := by intro _; rfl) (hs : ∀ i x, foldedSetIterable iter (Xs i).env x = pure x := by intro _ _; rfl) (hs1 : ∀ env x, foldedSetIterable iter1 env x = pure x := by intro _ _; rfl) :
    SdS Xs K (.Assign [.Name y py] (.ListComp elt [⟨tg, iter, ifs, 0⟩, ⟨tg1, iter1, ifs1, 0⟩] scope pos) spos) (sAsg i (fComp2 (own.map (·.2)) fi gf ft fi1 vs1 gf1 ft1 fe)) := by
  obtain ⟨ti, pi, wi⟩ := hi
  obtain ⟨tg', pg, wg⟩ := hg
  obtain ⟨tt, pt, wt⟩ := ht
  obtain ⟨ti1, pi1, wi1⟩ := hi1
  obtain ⟨tg1', pg1, wg1⟩ := hg1
  obtain ⟨tt1, pt1, wt1⟩ := ht1
  obtain ⟨te, pe, we⟩ := he
  have al : ∀ {sl vs : List Nat}, (sl.all fun i => vs.contains i) = true → ∀ i ∈ sl, i ∈ vs := fun h j hj => by
    have := List.all_eq_true.mp h j hj
    simpa using this
  exact ⟨_, fun j => ps_setLc2 (fam.calm j) (fam.nd j) (hy j) (hyl j) (hsw j) (pi j) (blkOk_by (hb j)) (al hv) (fun s H C cl fp => pg ⟨j, s, H, C, cl, fp⟩) (fun s H C cl fp => pt ⟨j, s, H, C, cl, fp⟩) (fun s H C cl fp => pi1 ⟨j, s, H, C, cl, fp⟩) (fun s H C cl fp => pg1 ⟨j, s, H, C, cl, fp⟩) (fun s H C cl fp => pt1 ⟨j, s, H, C, cl, fp⟩)
    (fun s H C cl fp => pe ⟨j, s, H, C, cl, fp⟩) (hs j) hs1, .asg (Wp.comp2 wi wg (al hsl) wt wi1 wg1 (al hsl1) wt1 we)⟩
theorem s_par (fam : Fam Xs P w K mg base k) (i j : Nat) {x y : Str} {a b : Expr} {px py pt : Pos} {kt k2 : Nat} {pt2 : Pos} {fa fb : ES} (ha : SdE Xs K a fa) (hb : SdE Xs K b fb) (hij : i ≠ j := by decide)
    (h : ∀ m (t : TA), PA (Xs m) [a, b] t → PS (Xs m) (.Assign [.Tuple [.Name x px, .Name y py] kt pt] (.Tuple [a, b] k2 pt2) pos) (tPar i j t))
    (hs : ∀ i, starEach (a :: [b]) (Xs i).env = (false, eval a (Xs i).env) :: starEach [b] (Xs i).env := by intro _; rfl) (hs2 : ∀ i, starEach (b :: []) (Xs i).env = (false, eval b (Xs i).env) :: starEach [] (Xs i).env := by intro _; rfl) :
    SdS Xs K (.Assign [.Tuple [.Name x px, .Name y py] kt pt] (.Tuple [a, b] k2 pt2) pos) (sPar i j (fConsV fa (fConsV fb fNilA))) := by
  obtain ⟨ta, pa, wa⟩ := ha
  obtain ⟨tb, pb, wb⟩ := hb
  exact ⟨_, fun m => h m _ (pa_cons (pa m) (pa_cons (pb m) pa_nil (hs2 m)) (hs m)), .par (.cons wa (.cons wb .nil))⟩
end
/-! dicts made -/
def fDnew (t : Bool) : ES := fun _ g => some (.fd t [], g)
section
variable {K : PySem.W.Frag}
theorem Wp.dnewK : Wp K tDNewK (fDnew false) := fun σ ρ g F H ps pc r g' Q E e q => by
  cases e
  intro p hp
  have hf := E.sub.none hp
  refine q _ F _ rfl (.own hp) (E.pure (.own hp) (E.sub.upd hf)) ⟨p, [], [], [], rfl, hp, ⟨[], upd_same, rfl, rfl⟩, hf, .nil, rfl⟩
theorem Wp.dnewT : Wp K tDNewT (fDnew true) := fun σ ρ g F H ps pc r g' Q E e q => by
  cases e
  intro p hp
  have hf := E.sub.none hp
  refine q _ F _ rfl (.own hp) (E.pure (.own hp) (E.sub.upd hf)) ⟨p, [], [], [], rfl, hp, ⟨[], upd_same, rfl, rfl⟩, hf, .nil, rfl⟩
/-- {k: v}, k an int or a text -/
def fD1 (fk fv : ES) : ES := fun ρ g => (vl fk ρ g).bind fun p => (vl fv ρ p.2).bind fun q => if isK p.1 = true then some (.fd false [(p.1, q.1)], q.2) else none
theorem Wp.d1 {tk tv : TE} {fk fv : ES} (a : Wp K tk fk) (b : Wp K tv fv) : Wp K (tDisp [(tk, tv)]) (fD1 fk fv) := fun σ ρ g F H ps pc r g' Q E e q => by
  obtain ⟨⟨k, g1⟩, e1, e⟩ := bind_some e
  obtain ⟨⟨v, g2⟩, e2, e⟩ := bind_some e
  dsimp only at e e2
  split at e
  · rename_i hk
    cases e
    intro p hp
    have hf := E.sub.none hp
    have x0 : Step (Ex g.kd ps pc) F H F (upd H p (.dK [])) := .own hp
    have E0 := E.pure (.own (o := .dK []) hp) (E.sub.upd hf)
    have hx := fresh_ex E hp
    refine a.vl σ ρ g F _ ps pc _ _ _ E0 e1 fun kv F1 H1 hk1 x1 E1 r1 => ?_
    refine b.vl σ ρ g1 F1 H1 ps pc _ _ _ E1 e2 fun vv F2 H2 hk2 x2 E2 r2 => ?_
    rw [hk1] at x2
    have hp2 : H2 p = some (.dK []) := x2.keep _ _ (x1.keep _ _ upd_same hx) hx
    have hf2 : F2 p = none := by
      cases z : F2 p with
      | none => rfl
      | some u =>
        rcases (x1.same x2).newF p (by rw [z]; exact fun z => by cases z) with z | z | z | ⟨ys, z⟩
        · exact absurd hf z
        · rw [upd_same] at z; cases z
        · exact absurd z hx
        · rw [upd_same] at z; cases z
    refine ⟨hp2, [(toK k, vv)], ?_, Nat.le_of_ble_eq_true rfl, ?_⟩
    · rw [key_K hk r1]
      rfl
    · have ho : ∀ (i : Nat) (s : Sl), ρ[i]? = some s → s.own → σ[i]? ≠ some (some (.ref p)) := fun i s h h2 z => by
        obtain ⟨u, hu, _⟩ := E.ownAt h h2 z
        rw [hp] at hu
        cases hu
      have hx2 : ¬ Ex g'.kd ps pc p := by
        rw [hk2, hk1]
        exact hx
      refine q _ F2 _ (hk2.trans hk1) ?_ (E2.upd hf2 hx2 ho) ⟨p, [k], [vv], [v], rfl, hp, ⟨_, upd_same, by rw [show mergeK [] [(toK k, vv)] = [(toK k, vv)] from rfl]; exact congrArg (fun z => [z]) (keyD_toK hk).symm, rfl⟩, hf2, .one r2, rfl⟩
      refine ((x0.same x1).same x2).trans (S' := fun a => a = p) (.write rfl (fun xs z => by rw [hp2] at z; cases z) (by rw [hp2]; exact fun z => by cases z)) fun a z => .inr (by rw [z]; exact hp)
  · cases e
end
section
variable {ι : Type} {Xs : ι → Cx} {K : PySem.W.Frag} {pos : Pos}
theorem sd_dnewK : SdE Xs K (.Dict [] [] pos) (fDnew false) := ⟨_, fun _ => pe_dnewK, .dnewK⟩
theorem sd_dnewT : SdE Xs K (.Dict [] [] pos) (fDnew true) := ⟨_, fun _ => pe_dnewT, .dnewT⟩
theorem sd_d1 {a b : Expr} {fa fb : ES} (ha : SdE Xs K a fa) (hb : SdE Xs K b fb) : SdE Xs K (.Dict [some a] [b] pos) (fD1 fa fb) := by
  obtain ⟨ta, pa, wa⟩ := ha
  obtain ⟨tb, pb, wb⟩ := hb
  exact ⟨_, fun i => pe_disp (pps_cons (pa i) (pb i) pps_nil) (by rfl) (by rfl) (fun z => by cases z) (Nat.le_of_ble_eq_true rfl), .d1 wa wb⟩
end
/-! isinstance(e, T) -/
def isiD (T : String) (d : D) : Option Bool := match d with
  | .dict _ => none
  | _ => some (tyD d == T || (tyD d == "bool" && T == "int"))
def fIsi (T : String) (f : ES) : ES := fun ρ g => (vw f ρ g).bind fun p => (isiD T p.1).map fun b => (.d (.bool b), p.2)
section
variable {K : PySem.W.Frag}
theorem tyX_of {F H : Hp} {Z : Addr → Prop} {v : V} {d : D} (hs : Sub F H) (r : RpS K F H Z v d) (hd : ∀ es, d ≠ .dict es) : TyX K H v (.type (tyD d)) := by
  cases d with
  | none => rw [r.non]; exact .base .non
  | bool b => rw [r.bool]; exact .base (.bl b)
  | int i => rw [r.int]; exact .base (.int i)
  | str x => rw [r.str]; exact .base (.str x)
  | list xs =>
    obtain ⟨p, vs, rfl, hp, _⟩ := r.list hs
    exact .base (.lst hp)
  | tuple xs =>
    obtain ⟨p, vs, rfl, hf, _, _⟩ := r.tuple hs
    exact .base (.tup (hs.tup hf))
  | dict es => exact absurd rfl (hd es)
theorem tyD_mem {d : D} (hd : ∀ es, d ≠ .dict es) : tyD d ∈ ["NoneType", "bool", "int", "str", "list", "tuple"] := by
  cases d with
  | dict es => exact absurd rfl (hd es)
  | none => exact .head _
  | bool _ => exact .tail _ (.head _)
  | int _ => exact .tail _ (.tail _ (.head _))
  | str _ => exact .tail _ (.tail _ (.tail _ (.head _)))
  | list _ => exact .tail _ (.tail _ (.tail _ (.tail _ (.head _))))
  | tuple _ => exact .tail _ (.tail _ (.tail _ (.tail _ (.tail _ (.head _)))))
theorem isiD_eq {d : D} {T : String} {b : Bool} (hd : ∀ es, d ≠ .dict es) (e : isiD T d = some b) : some (tyD d == T || (tyD d == "bool" && T == "int")) = some b := by
  cases d with
  | dict es => exact absurd rfl (hd es)
  | none => exact e
  | bool _ => exact e
  | int _ => exact e
  | str _ => exact e
  | list _ => exact e
  | tuple _ => exact e
theorem Wp.isi {t : TE} {f : ES} {T : String} (a : Wp K t f) (hT : (["NoneType", "bool", "int", "str", "list", "tuple"].all fun a => kitB a T == some (a == T || (a == "bool" && T == "int"))) = true) : Wp K (tCB (rIsi K) (tCons t (tCons (tC (.ty T)) tNil))) (fIsi T f) := fun σ ρ g F H ps pc r g' Q E e q => by
  obtain ⟨⟨d, g1⟩, e1, e⟩ := bind_some e
  obtain ⟨b, e2, e3⟩ := map_some e
  cases e3
  refine a.vw σ ρ g F H ps pc _ _ _ E e1 fun v F1 H1 hk x1 E1 r1 => ?_
  have hd : ∀ es, d ≠ .dict es := fun es z => by subst z; cases e2
  have hk2 : kitB (tyD d) T = some b := by
    have all := List.all_eq_true.mp hT (tyD d) (tyD_mem hd)
    have all' := beq_iff_eq.mp all
    rw [all']
    exact isiD_eq hd e2
  exact ⟨v, .ty T, _, _, b, rfl, .ty T, tyX_of E1.sub r1 hd, kit_ty hk2, q _ F1 H1 hk x1 E1 (.bl b)⟩
end
section
variable {ι : Type} {Xs : ι → Cx} {K : PySem.W.Frag} {pos p p2 : Pos} {e : Expr} {f : ES}
theorem sd_isi {x : Str} (T : String) (hK : ∀ i, (Xs i).K = K) (hT : (["NoneType", "bool", "int", "str", "list", "tuple"].all fun a => kitB a T == some (a == T || (a == "bool" && T == "int"))) = true) (h : SdE Xs K e f) (hg : ∀ i, Gl (Xs i) "isinstance") (hm : ∀ i, (Xs i).mg "isinstance" = none) (hg2 : ∀ i, Gl (Xs i) x) (hm2 : ∀ i, (Xs i).mg x = none) (hv : bootBuiltins x = some (.type T))
    (hi : bootBuiltins "isinstance" = some (.builtin "isinstance")) (hn : x ≠ "__name__" := by decide) (hd : (x == ("__debug__" : Str)) = false := by decide)
    (hs : ∀ i, starEach (e :: [.Name x p2]) (Xs i).env = (false, eval e (Xs i).env) :: starEach [.Name x p2] (Xs i).env := by intro _; rfl) (hs2 : ∀ i, starEach [.Name x p2] (Xs i).env = (false, eval (.Name x p2) (Xs i).env) :: starEach [] (Xs i).env := by intro _; rfl)
    (hpl : ∀ i, (backTo pos (starEach [.Name x p2] (Xs i).env)).any (·.1) = false := by intro _; rfl) : SdE Xs K (.Call (.Name "isinstance" p) [e, .Name x p2] [] pos) (fIsi T f) := by
  obtain ⟨t, pe, w⟩ := h
  refine ⟨_, fun i => ?_, w.isi hT⟩
  have q := pe_callB (p := p) (pos := pos) (call_isi (X := Xs i)) (hg i) (hm i) hi (pa_cons (pe i) (pa_cons (pe_bltn (v := .ty T) (hg2 i) (hm2 i) hv rfl hn hd) pa_nil (hs2 i)) (hs i)) (by decide) (by decide) (hs i) (hpl i)
  rw [hK i] at q
  exact q
end
/-! list(range(..)), tuple(range(..)) -/
def rgOk (i j : Int) : Bool := smallR i && smallR j && decide ((j - i).toNat ≤ 2 ^ 24)
def fRg1 (tp : Bool) (f : ES) : ES := fun ρ g => (vw f ρ g).bind fun p => match p.1 with | .int j => if rgOk 0 j = true then some (if tp = true then .d (.tuple (rngD 0 j.toNat)) else .f (rngD 0 j.toNat), p.2) else none | _ => none
def fRg2 (tp : Bool) (f h : ES) : ES := fun ρ g => (vw f ρ g).bind fun p => (vw h ρ p.2).bind fun q => match p.1, q.1 with | .int i, .int j => if rgOk i j = true then some (if tp = true then .d (.tuple (rngD i (j - i).toNat)) else .f (rngD i (j - i).toNat), q.2) else none | _, _ => none
section
variable {K : PySem.W.Frag} {F : Hp}
theorem rp_rg (a b : Int) : RpAll K F (rgV a b) (rngD a (b - a).toNat) := by
  unfold rgV rngD
  generalize (b - a).toNat = n
  have : ∀ l : List Nat, RpAll K F (l.map fun i => V.int (a + (i : Nat))) (l.map fun i => PyData.int (a + (i : Nat))) := by
    intro l
    induction l with
    | nil => exact .nil
    | cons x l ih => exact .cons (.int _) ih
  exact this _
theorem rp_rg0 (b : Int) : RpAll K F (rgV 0 b) (rngD 0 b.toNat) := by
  have := rp_rg (K := K) (F := F) 0 b
  rwa [Int.sub_zero] at this
theorem rgOk_ok {i j : Int} (h : rgOk i j = true) : RgOk i j := by
  simp only [rgOk, Bool.and_eq_true, decide_eq_true_eq] at h
  obtain ⟨⟨h1, h2⟩, h3⟩ := h
  obtain ⟨a1, a2⟩ := smallR_ok h1
  obtain ⟨b1, b2⟩ := smallR_ok h2
  exact ⟨a1, a2, b1, b2, h3⟩
theorem Wp.rg1 {t : TE} {f : ES} (a : Wp K t f) : Wp K (tLstRg (tRg1 t)) (fRg1 false f) := fun σ ρ g F H ps pc r g' Q E e q => by
  obtain ⟨⟨d, g1⟩, e1, e⟩ := bind_some e
  dsimp only at e
  split at e
  · split at e
    · rename_i j hj
      cases e
      refine a.vw σ ρ g F H ps pc _ _ _ E e1 fun v F1 H1 hk x1 E1 r1 => ⟨j, r1.int, rgOk_ok hj, ?_⟩
      refine new_list E1.sub (rp_rg0 (K := K) j) fun v F2 H2 x2 s2 r2 => ?_
      exact q v F2 H2 hk (x1.trans x2 fun _ z => z.elim) (E1.pure x2 s2) (RepV.r (rv := .f _) r2 x1.live)
    · cases e
  · cases e
theorem Wp.rg1t {t : TE} {f : ES} (a : Wp K t f) : Wp K (tTupRg (tRg1 t)) (fRg1 true f) := fun σ ρ g F H ps pc r g' Q E e q => by
  obtain ⟨⟨d, g1⟩, e1, e⟩ := bind_some e
  dsimp only at e
  split at e
  · split at e
    · rename_i j hj
      cases e
      refine a.vw σ ρ g F H ps pc _ _ _ E e1 fun v F1 H1 hk x1 E1 r1 => ⟨j, r1.int, rgOk_ok hj, ?_⟩
      refine new_tup E1.sub (rp_rg0 (K := K) j) fun v F2 H2 x2 s2 r2 => ?_
      exact q v F2 H2 hk (x1.trans x2 fun _ z => z.elim) (E1.pure x2 s2) r2
    · cases e
  · cases e
theorem Wp.rg2 {t u : TE} {f h : ES} (a : Wp K t f) (b : Wp K u h) : Wp K (tLstRg (tRg2 t u)) (fRg2 false f h) := fun σ ρ g F H ps pc r g' Q E e q => by
  obtain ⟨⟨d, g1⟩, e1, e⟩ := bind_some e
  obtain ⟨⟨d2, g2⟩, e2, e⟩ := bind_some e
  dsimp only at e e2
  split at e
  · rename_i i j _
    split at e
    · rename_i hj
      cases e
      refine a.vw σ ρ g F H ps pc _ _ _ E e1 fun v F1 H1 hk x1 E1 r1 => ?_
      refine b.vw σ ρ g1 F1 H1 ps pc _ _ _ E1 e2 fun v F2 H2 hk2 x2 E2 r2 => ⟨i, j, r1.int, r2.int, rgOk_ok hj, ?_⟩
      rw [hk] at x2
      refine new_list E2.sub (rp_rg (K := K) i j) fun v F3 H3 x3 s3 r3 => ?_
      exact q v F3 H3 (hk2.trans hk) ((x1.same x2).trans x3 fun _ z => z.elim) (E2.pure x3 s3) (RepV.r (rv := .f _) r3 (x1.same x2).live)
    · cases e
  · cases e
end
section
variable {ι : Type} {Xs : ι → Cx} {K : PySem.W.Frag} {pos p p2 pos2 : Pos} {e : Expr} {f : ES}
theorem sd_listRg1 (hc : ∀ i, (Xs i).calm = true) (h : SdE Xs K e f) (hg : ∀ i, Gl (Xs i) "list") (hm : ∀ i, (Xs i).mg "list" = none) (hg2 : ∀ i, Gl (Xs i) "range") (hm2 : ∀ i, (Xs i).mg "range" = none)
    (hs : ∀ i, starEach [e] (Xs i).env = (false, eval e (Xs i).env) :: starEach [] (Xs i).env := by intro _; rfl) (hs2 : ∀ i, starEach [.Call (.Name "range" p2) [e] [] pos2] (Xs i).env = (false, eval (.Call (.Name "range" p2) [e] [] pos2) (Xs i).env) :: starEach [] (Xs i).env := by intro _; rfl) :
    SdE Xs K (.Call (.Name "list" p) [.Call (.Name "range" p2) [e] [] pos2] [] pos) (fRg1 false f) := by
  obtain ⟨t, pe, w⟩ := h
  exact ⟨_, fun i => pe_listRg (hc i) (hg i) (hm i) (prg_1 (hg2 i) (hm2 i) (pe i) (hs i)) (hs2 i), w.rg1⟩
theorem sd_tupRg1 (hc : ∀ i, (Xs i).calm = true) (h : SdE Xs K e f) (hg : ∀ i, Gl (Xs i) "tuple") (hm : ∀ i, (Xs i).mg "tuple" = none) (hg2 : ∀ i, Gl (Xs i) "range") (hm2 : ∀ i, (Xs i).mg "range" = none)
    (hs : ∀ i, starEach [e] (Xs i).env = (false, eval e (Xs i).env) :: starEach [] (Xs i).env := by intro _; rfl) (hs2 : ∀ i, starEach [.Call (.Name "range" p2) [e] [] pos2] (Xs i).env = (false, eval (.Call (.Name "range" p2) [e] [] pos2) (Xs i).env) :: starEach [] (Xs i).env := by intro _; rfl) :
    SdE Xs K (.Call (.Name "tuple" p) [.Call (.Name "range" p2) [e] [] pos2] [] pos) (fRg1 true f) := by
  obtain ⟨t, pe, w⟩ := h
  exact ⟨_, fun i => pe_tupRg (hc i) (hg i) (hm i) (prg_1 (hg2 i) (hm2 i) (pe i) (hs i)) (hs2 i), w.rg1t⟩
end
/-! x.insert(i, e) -/
def sIns (i : Nat) (fk fv : ES) : BS := fun ρ g => (vl fk ρ g).bind fun p => (vl fv ρ p.2).bind fun q => match ρ[i]?, p.1 with
  | some (.ol xs), .int n => if xs.length < sizeLine ∧ 0 ≤ n ∧ n < 2 ^ 63 then some (.nx, ρ.set i (.ol (xs.take n.toNat ++ [q.1] ++ xs.drop n.toNat)), q.2) else none
  | _, _ => none
def rIns : V → List V → Hp → VK → Prop := fun x vs H Q => ∃ (l : Addr) (xs : List V) (i : Int) (y : V), x = .ref l ∧ vs = [.int i, y] ∧ H l = some (.lst xs) ∧ xs.length < sizeLine ∧ 0 ≤ i ∧ i < 2 ^ 63 ∧
    Q .non (upd H l (.lst (xs.take i.toNat ++ [y] ++ xs.drop i.toNat)))
theorem WpT.ins {K : PySem.W.Frag} {tk tv : TE} {fk fv : ES} {i : Nat} (a : Wp K tk fk) (b : Wp K tv fv) : WpT K (tDrop (tBM K "list" rIns (tVar i) (tCons tk (tCons tv tNil)))) (sIns i fk fv) := fun σ ρ g F H ps pc fl ρ' g' E R e q => by
  obtain ⟨⟨k, g1⟩, e1, e⟩ := bind_some e
  obtain ⟨⟨d, g2⟩, e2, e⟩ := bind_some e
  dsimp only at e e2
  cases hs : ρ[i]? with
  | none => rw [hs] at e; cases e
  | some s =>
  rw [hs] at e
  split at e
  · rename_i xs n h1 h2
    cases h1
    split at e
    · rename_i hc
      cases e
      obtain ⟨p, vs, ev, hp, hf, hx, r⟩ := R.slot i _ hs
      refine ⟨_, ev, .inl ⟨rfl, _, .of hp⟩, a.vl σ ρ g F H ps pc _ _ _ R e1 fun kv F1 H1 hk x1 R1 r1 => b.vl σ ρ g1 F1 H1 ps pc _ _ _ R1 e2 fun dv F2 H2 hk2 x2 R2 r2 => ?_⟩
      obtain ⟨p', vs', ev', hp', hf', hx', r'⟩ := R2.slot i _ hs
      rw [ev] at ev'
      injection ev' with ev'; injection ev' with ev'; injection ev' with ev'
      subst ev'
      cases r1
      refine ⟨p, vs', n, _, rfl, rfl, hp', by rw [r'.length]; exact hc.1, hc.2.1, hc.2.2, ?_⟩
      obtain ⟨R3, s3⟩ := R2.ownUpd (o := .lst (vs'.take n.toNat ++ [dv] ++ vs'.drop n.toNat)) (s' := .ol (xs.take n.toNat ++ [d] ++ xs.drop n.toNat)) hs trivial ev trivial ⟨p, _, rfl, upd_same, hf', hx', ((r'.take _).append (.one r2)).append (r'.drop _)⟩
      exact q _ _ _ (((StepS.ex hk x1).trans (.ex hk2 x2)).trans s3) R3
    · cases e
  · cases e
section
variable {ι : Type} {Xs : ι → Cx} {P : Program} {w : World} {K : PySem.W.Frag} {mg : Str → Option Value} {base : Heap} {k : Nat} {pos py : Pos}
theorem s_insert (fam : Fam Xs P w K mg base k) (i : Nat) {x : Str} {ek e : Expr} {fk fe : ES} {apos cpos : Pos} (a : SdE Xs K ek fk) (b : SdE Xs K e fe) (hN : ∀ j, (Xs j).N[i]? = some x := by intro _; rfl) (hv : ∀ j, Vis (Xs j).env.scope x := by intro _; first | exact Or.inl rfl | exact Or.inr (Or.inl rfl) | exact Or.inr (Or.inr rfl))
    (hd : (x == ("__debug__" : Str)) = false := by decide) (hcd : (x == ("__classdict__" : Str)) = false := by decide)
    (hbase : ∀ j, attributeBase (.Name x py) "insert" (Xs j).env (eval (.Name x py) (Xs j).env) = eval (.Name x py) (Xs j).env := by intro _; rfl)
    (hfew : ∀ j, ((backTo cpos (starEach [ek, e] (Xs j).env)).all (fun x => !x.1) && (backToKw cpos (keywordEach [] (Xs j).env)).all (fun x => x.1.isSome)
      && decide (([ek, e] : List Expr).length + ([] : List Keyword).length + (if ([] : List Keyword).isEmpty then 0 else 1) < 30)) = true := by intro _; rfl)
    (hline : (apos.endLine == cpos.line) = true := by rfl) (hs : ∀ j, starEach [ek, e] (Xs j).env = (false, eval ek (Xs j).env) :: starEach [e] (Xs j).env := by intro _; rfl) (hs2 : ∀ j, starEach [e] (Xs j).env = (false, eval e (Xs j).env) :: starEach [] (Xs j).env := by intro _; rfl) (hplain : ∀ j, (backTo cpos (starEach [e] (Xs j).env)).any (·.1) = false := by intro _; rfl)
    (hsw : ∀ j, swapsWith (.Call (.Attribute (.Name x py) "insert" apos) [ek, e] [] cpos) none pos.line (Xs j).env = pure false := by intro _; rfl) :
    SdS Xs K (.Expr (.Call (.Attribute (.Name x py) "insert" apos) [ek, e] [] cpos) pos) (sIns i fk fe) := by
  obtain ⟨t, p, wt⟩ := a
  obtain ⟨u, p2, w2⟩ := b
  refine ⟨_, fun j => ?_, .ins wt w2⟩
  rw [← fam.K j]
  exact ps_expr (pe_bm PySem.F.plainAttrs_list PySem.F.slot_list_insert PySem.F.type_list_insert mt_insert (pe_var (hN j) (hv j) hd hcd) (pa_cons (p j) (pa_cons (p2 j) pa_nil (hs2 j)) (hs j)) (hbase j) (hfew j) hline (hs j) (hplain j)) (hsw j)
end
/-! ### defs -/
def runB (n : Nat) (b : BS) : DF := fun ss g => match b (ss ++ List.replicate (n - ss.length) .no) g with
  | some (.ret d, _, g') => some (d, g')
  | some (.nx, _, g') => some (.none, g')
  | _ => none
theorem rpu_noOwn {K : PySem.W.Frag} {F : Hp} {ps : Addr} {kd : GK} {vs : List V} {ss : List Sl} (r : Paired (RpU K F ps kd) vs ss) : ∀ (i : Nat) (s : Sl), ss[i]? = some s → ¬ s.own := by
  induction r with
  | nil => intro i s h; simp at h
  | cons a _ ih =>
    intro i s h
    cases i with
    | zero =>
      simp at h
      subst h
      cases a <;> exact fun z => z
    | succ i => exact ih i s (by simpa using h)
theorem rpu_get {K : PySem.W.Frag} {F H : Hp} {ps pc : Addr} {kd : GK} {vs : List V} {ss : List Sl} (r : Paired (RpU K F ps kd) vs ss) : ∀ (i : Nat) (s : Sl), ss[i]? = some s → RepS K F H ps pc kd (vs[i]?.map some) s := by
  induction r with
  | nil => intro i s h; simp at h
  | cons a _ ih =>
    intro i s h
    cases i with
    | zero =>
      simp at h
      subst h
      cases a with
      | sh r => exact ⟨_, rfl, r⟩
      | st hk => exact ⟨rfl, hk⟩
    | succ i => simpa using ih i s (by simpa using h)
theorem start_rep {K : PySem.W.Frag} {F H : Hp} {ps pc : Addr} {g : G} (hs : Sub F H) (st : RpG F H ps pc g) (n : Nat) {vs : List V} {ss : List Sl} (r : Paired (RpU K F ps g.kd) vs ss) :
    RepE K F H ps pc (vs.map some ++ List.replicate (n - vs.length) none) (ss ++ List.replicate (n - ss.length) .no) g ∧ ∀ a, ¬ OwnA (vs.map some ++ List.replicate (n - vs.length) none) (ss ++ List.replicate (n - ss.length) .no) a := by
  have hl := Paired.len r
  have noOwn : ∀ (i : Nat) (s : Sl), (ss ++ List.replicate (n - ss.length) Sl.no)[i]? = some s → ¬ s.own := fun i s h ho => by
    by_cases hi : i < ss.length
    · rw [List.getElem?_append_left hi] at h
      exact rpu_noOwn r i s h ho
    · rw [List.getElem?_append_right (by omega), List.getElem?_replicate] at h
      split at h
      · cases h; exact ho
      · cases h
  refine ⟨⟨hs, by simp only [List.length_append, List.length_map, List.length_replicate]; omega, fun i s h => ?_, fun i j s s' p _ h _ ho => absurd ho (noOwn i s h), st⟩, fun a ⟨i, s, h, ho, _⟩ => noOwn i s h ho⟩
  by_cases hi : i < ss.length
  · rw [List.getElem?_append_left hi] at h
    rw [List.getElem?_append_left (by rw [List.length_map]; omega), List.getElem?_map]
    exact rpu_get r i s h
  · rw [List.getElem?_append_right (by omega), List.getElem?_replicate] at h
    split at h
    · cases h; trivial
    · cases h
theorem def_ok {P : Program} {w : World} {K : PySem.W.Frag} {mg : Str → Option Value} {base : Heap} {x qual : Str} {st : Stmt} {f : Addr} {fd : FuncData} {N ps : List Str} {k : Nat} (F : Fun K x qual st f fd) (S : FnScope N ps (defScope st)) (body : BS)
    (hb : ∀ (Xs : Unit → Cx), Fam Xs P w K mg base k → (∀ i, (Xs i).N = N) → (∃ (cdv : Value) (A : Around) (outer : List Env) (s : Shared) (H : Hp) (E : XK), Xs = fun _ => (cxOf CX0 P w K mg base N qual (defScope st) f cdv A outer s H E).nox) → SdSs Xs K (defBody st) body) :
    FnOk P w K mg base CX0 (k + 1) f fd ps (spD K ps.length (runB N.length body)) := by
  refine F.ok S (fun vs H Q E h => ?_) (fun cdv A outer s H vs Q E hr h => ?_)
  · obtain ⟨_, _, _, _, _, _, _, hl, _⟩ := h
    exact hl
  · obtain ⟨F0, p0, c0, ss, g, d, g', hl, hs, r, stt, e, q⟩ := h
    obtain ⟨t, pt, wt⟩ := hb (fun _ => (cxOf CX0 P w K mg base N qual (defScope st) f cdv A outer s H E).nox) ⟨fun _ => rfl, fun _ => rfl, fun _ => rfl, fun _ => rfl, fun _ => rfl, fun _ => rfl, fun _ => S.nd, fun _ => hr⟩ (fun _ => rfl) ⟨cdv, A, outer, s, H, E, rfl⟩
    refine ⟨t, pt (), ?_⟩
    obtain ⟨R, no⟩ := start_rep hs stt N.length r
    have zs : ∀ a, ZS g.kd p0 c0 (vs.map some ++ List.replicate (N.length - vs.length) none) (ss ++ List.replicate (N.length - ss.length) .no) a → Ex g.kd p0 c0 a := fun a z => z.elim id fun z => absurd z (no a)
    unfold runB at e
    split at e
    · rename_i d' ρ' g'' e1
      cases e
      exact wt _ _ g F0 H p0 c0 _ _ _ _ R e1 fun v F' H' hk x s' st' r' => q v F' H' hk (x.mono zs) s' st' r'
    · rename_i ρ' g'' e1
      cases e
      exact wt _ _ g F0 H p0 c0 _ _ _ _ R e1 fun σ' F' H' s' R' => q .non F' H' s'.kd (s'.x.mono zs) R'.sub R'.st .non
    · cases e
end Sd

namespace Sd
open PySem PySem.Spec L2
/-! ### Sd13: sorted(set(..)) of pairs; the draws -/
def insU (x : Int) : List Int → List Int
  | [] => [x]
  | y :: l => if x < y then x :: y :: l else if x = y then y :: l else y :: insU x l
def ssI (l : List Int) : List Int := l.foldr insU []
theorem insU_mem {x z : Int} : ∀ {l : List Int}, z ∈ insU x l ↔ z = x ∨ z ∈ l
  | [] => by simp [insU]
  | y :: l => by
    unfold insU
    split
    · simp
    · split
      · rename_i h
        subst h
        simp
      · simp only [List.mem_cons, insU_mem (l := l)]
        constructor
        · rintro (h | h | h)
          · exact .inr (.inl h)
          · exact .inl h
          · exact .inr (.inr h)
        · rintro (h | h | h)
          · exact .inr (.inl h)
          · exact .inl h
          · exact .inr (.inr h)
theorem insU_sorted {x : Int} : ∀ {l : List Int}, l.Pairwise (· < ·) → (insU x l).Pairwise (· < ·)
  | [], _ => List.pairwise_singleton _ _
  | y :: l, h => by
    obtain ⟨h1, h2⟩ := List.pairwise_cons.mp h
    unfold insU
    split
    · rename_i hx
      refine List.pairwise_cons.mpr ⟨fun z hz => ?_, h⟩
      rcases List.mem_cons.mp hz with rfl | hz
      · exact hx
      · exact Int.lt_trans hx (h1 z hz)
    · split
      · exact h
      · refine List.pairwise_cons.mpr ⟨fun z hz => ?_, insU_sorted h2⟩
        rcases insU_mem.mp hz with rfl | hz
        · omega
        · exact h1 z hz
theorem ssI_mem {z : Int} {l : List Int} : z ∈ ssI l ↔ z ∈ l := by
  unfold ssI
  induction l with
  | nil => simp
  | cons a l ih => rw [List.foldr_cons, insU_mem, ih, List.mem_cons]
theorem ssI_sorted {l : List Int} : (ssI l).Pairwise (· < ·) := by
  unfold ssI
  induction l with
  | nil => exact .nil
  | cons a l ih => exact insU_sorted ih
theorem sorted_ext : ∀ {l m : List Int}, l.Pairwise (· < ·) → m.Pairwise (· < ·) → (∀ x, x ∈ l ↔ x ∈ m) → l = m
  | [], [], _, _, _ => rfl
  | [], b :: m, _, _, h => by have := (h b).mpr (.head _); simp at this
  | a :: l, [], _, _, h => by have := (h a).mp (.head _); simp at this
  | a :: l, b :: m, h1, h2, h => by
    obtain ⟨p1, p2⟩ := List.pairwise_cons.mp h1
    obtain ⟨q1, q2⟩ := List.pairwise_cons.mp h2
    have e : a = b := by
      rcases List.mem_cons.mp ((h a).mp (.head _)) with e | e
      · exact e
      · rcases List.mem_cons.mp ((h b).mpr (.head _)) with e2 | e2
        · exact e2.symm
        · have := q1 a e
          have := p1 b e2
          omega
    subst e
    congr 1
    refine sorted_ext p2 q2 fun x => ⟨fun hx => ?_, fun hx => ?_⟩
    · rcases List.mem_cons.mp ((h x).mp (.tail _ hx)) with e | e
      · subst e
        have := p1 x hx
        omega
      · exact e
    · rcases List.mem_cons.mp ((h x).mpr (.tail _ hx)) with e | e
      · subst e
        have := q1 x hx
        omega
      · exact e
def prOf : D → Option (Int × Int)
  | .tuple [.int a, .int b] => if 0 ≤ a ∧ a < 64 ∧ 0 ≤ b ∧ b < 64 then some (a, b) else none
  | _ => none
def prsOf : List D → Option (List (Int × Int))
  | [] => some []
  | d :: ds => match prOf d, prsOf ds with
    | some p, some ps => some (p :: ps)
    | _, _ => none
def unPr (c : Int) : D := .tuple [.int (c / 64), .int (c % 64)]
def cdPr (p : Int × Int) : Int := p.1 * 64 + p.2
def ssP (ps : List (Int × Int)) : List D := (ssI (ps.map cdPr)).map unPr
def fSSP (f : ES) : ES := fun ρ g => (vw f ρ g).bind fun p => match p.1 with
  | .list xs => match prsOf xs with
    | some ps => if ps.length < 64 then some (.f (ssP ps), p.2) else none
    | none => none
  | _ => none
section
variable {K : PySem.W.Frag}
theorem prOf_some {d : D} {p : Int × Int} (h : prOf d = some p) : d = .tuple [.int p.1, .int p.2] ∧ (0 ≤ p.1 ∧ p.1 < 64) ∧ (0 ≤ p.2 ∧ p.2 < 64) := by
  unfold prOf at h
  split at h
  · split at h
    · rename_i hc
      cases h
      exact ⟨rfl, ⟨hc.1, hc.2.1⟩, hc.2.2.1, hc.2.2.2⟩
    · cases h
  · cases h
theorem prs_addr {F : Hp} : ∀ {vs : List V} {ds : List D} {ps : List (Int × Int)}, RpAll K F vs ds → prsOf ds = some ps →
    ∃ ks : List (Addr × List Int), vs = ks.map (fun p => V.ref p.1) ∧ ks.map (·.2) = ps.map (fun p => [p.1, p.2]) ∧ (∀ p ∈ ks, F p.1 = some (.tup (p.2.map V.int))) ∧ ∀ p ∈ ps, (0 ≤ p.1 ∧ p.1 < 64) ∧ (0 ≤ p.2 ∧ p.2 < 64)
  | _, _, _, .nil, h => by
    cases h
    exact ⟨[], rfl, rfl, fun _ z => by simp at z, fun _ z => by simp at z⟩
  | _, _, _, .cons a r, h => by
    unfold prsOf at h
    split at h
    · rename_i p ps hp hps
      cases h
      obtain ⟨ks, e1, e2, e3, e4⟩ := prs_addr r hps
      obtain ⟨ed, b1, b2⟩ := prOf_some hp
      subst ed
      cases a with
      | tup hf rr =>
        cases rr with
        | cons x rr =>
          cases x
          cases rr with
          | cons y rr =>
            cases y
            cases rr
            refine ⟨(_, [p.1, p.2]) :: ks, by rw [e1, List.map_cons], by rw [List.map_cons, List.map_cons, e2], fun q hq => ?_, fun q hq => ?_⟩
            · rcases List.mem_cons.mp hq with rfl | hq
              · exact hf
              · exact e3 q hq
            · rcases List.mem_cons.mp hq with rfl | hq
              · exact ⟨b1, b2⟩
              · exact e4 q hq
    · cases h
theorem unPr_cd {a b : Int} (hb : 0 ≤ b ∧ b < 64) : unPr (a * 64 + b) = .tuple [.int a, .int b] := by
  unfold unPr
  rw [show (a * 64 + b) / 64 = a by omega, show (a * 64 + b) % 64 = b by omega]
def tSSP (K : PySem.W.Frag) (P : Program) (w : World) (t : TE) : TE := tCB (rSortedT K P w) (tCons (tCB (rSetOfT K P w) (tCons t tNil)) tNil)
theorem Wp.ssp {P : Program} {w : World} {t : TE} {f : ES} (a : Wp K t f) : Wp K (tSSP K P w t) (fSSP f) := fun σ ρ g F H ps pc r g' Q E e q => by
  obtain ⟨⟨d, g1⟩, e1, e⟩ := bind_some e
  dsimp only at e
  split at e
  · rename_i xs
    split at e
    · rename_i prs hprs
      split at e
      · rename_i hlen
        cases e
        refine a.vw σ ρ g F H ps pc _ _ _ E e1 fun v F1 H1 hk x1 E1 r1 => ?_
        obtain ⟨p, vs, rfl, hp, rl⟩ := r1.list E1.sub
        obtain ⟨ks, ev, ek, hks, hbd⟩ := prs_addr rl hprs
        subst ev
        have hkl : ks.length = prs.length := by
          have := congrArg List.length ek
          simpa using this
        have mem2 : ∀ q ∈ ks, ∃ z ∈ prs, q.2 = [z.1, z.2] := fun q hq => by
          have : q.2 ∈ ks.map (·.2) := List.mem_map_of_mem hq
          rw [ek] at this
          obtain ⟨z, hz, e⟩ := List.mem_map.mp this
          exact ⟨z, hz, e.symm⟩
        refine ⟨p, ks, rfl, .of hp, fun z hz => .inl (E1.sub.rd (fun _ _ z => by cases z) (.inl (hks z hz))), by omega, fun s L hn hsub hall => ?_⟩
        have E2 := E1.pure (.own (o := SetTO P w s L) hn) (E1.sub.upd (E1.sub.none hn))
        have x2 : Step NoZ F1 H1 F1 (upd H1 s (SetTO P w s L)) := .own hn
        refine ⟨s, L, 2, 64, rfl, upd_same, fun z hz => .inl (E2.sub.rd (fun _ _ z => by cases z) (.inl (hks z (hsub z hz)))), by decide, fun z hz => ?_, fun L' l pm nd few pw hl => ?_⟩
        · obtain ⟨u, hu, e⟩ := mem2 z (hsub z hz)
          rw [e]
          refine ⟨rfl, fun i hi => ?_⟩
          obtain ⟨b1, b2⟩ := hbd u hu
          simp at hi
          rcases hi with rfl | rfl
          · exact b1
          · exact b2
        · have memL : ∀ q ∈ L', ∃ z ∈ prs, q.2 = [z.1, z.2] := fun q hq => mem2 q (hsub q (pm.mem_iff.mp hq))
          have ecode : L'.map (fun q => TS.code 64 q.2) = ssI (prs.map cdPr) := by
            refine sorted_ext ?_ ssI_sorted fun x => ?_
            · rw [List.pairwise_map]
              have nd' : L'.Pairwise (fun a b => a.2 ≠ b.2) := List.pairwise_map.mp nd
              refine (pw.and nd').imp_of_mem fun {a b} ha hb ⟨h1, h2⟩ => ?_
              obtain ⟨u, hu, eu⟩ := memL a ha
              obtain ⟨v, hv, ev⟩ := memL b hb
              rw [eu, ev] at h1 h2 ⊢
              obtain ⟨bu1, bu2⟩ := hbd u hu
              obtain ⟨bv1, bv2⟩ := hbd v hv
              have := pair_lt h1 h2 bu1 bu2 bv1 bv2
              rw [code_pair, code_pair]
              omega
            · rw [ssI_mem, List.mem_map, List.mem_map]
              constructor
              · rintro ⟨q, hq, rfl⟩
                obtain ⟨u, hu, eu⟩ := memL q hq
                exact ⟨u, hu, by rw [eu, code_pair]; rfl⟩
              · rintro ⟨u, hu, rfl⟩
                have h1 : [u.1, u.2] ∈ ks.map (·.2) := by
                  rw [ek]
                  exact List.mem_map.mpr ⟨u, hu, rfl⟩
                obtain ⟨q, hq, eq⟩ := List.mem_map.mp h1
                obtain ⟨q', hq', eq'⟩ := List.mem_map.mp (hall q hq)
                exact ⟨q', pm.mem_iff.mpr hq', by rw [eq', eq, code_pair]; rfl⟩
          have edata : L'.map (fun q => (PyData.tuple (q.2.map PyData.int))) = ssP prs := by
            unfold ssP
            rw [← ecode, List.map_map]
            refine List.map_congr_left fun q hq => ?_
            obtain ⟨u, hu, eu⟩ := memL q hq
            obtain ⟨bu1, bu2⟩ := hbd u hu
            show PyData.tuple (q.2.map PyData.int) = unPr (TS.code 64 q.2)
            rw [eu, code_pair, unPr_cd bu2]
            rfl
          have rr : RpAll K F1 (L'.map fun q => V.ref q.1) (L'.map fun q => (PyData.tuple (q.2.map PyData.int))) := by
            have hF : ∀ q ∈ L', F1 q.1 = some (.tup (q.2.map V.int)) := fun q hq => hks q (hsub q (pm.mem_iff.mp hq))
            clear ecode edata memL pw few nd pm
            induction L' with
            | nil => exact .nil
            | cons q L' ih =>
              refine .cons (.tup (hF q (.head _)) ?_) (ih fun z hz => hF z (.tail _ hz))
              generalize q.2 = is
              induction is with
              | nil => exact .nil
              | cons i is ih => exact .cons (.int i) ih
          rw [edata] at rr
          refine new_list E2.sub rr (fun v F3 H3 x3 s3 r3 => ?_) l hl
          exact q v F3 H3 hk ((x1.trans x2 fun _ z => z.elim).trans x3 fun _ z => z.elim) (E2.pure x3 s3) (RepV.r (rv := .f _) r3 fun a ha => x1.live a (x2.live a ha))
      · cases e
    · cases e
  · cases e
end
section
variable {ι : Type} {Xs : ι → Cx} {P : Program} {w : World} {K : PySem.W.Frag} {mg : Str → Option Value} {base : Heap} {k : Nat} {pos p p2 pos2 : Pos} {e : Expr} {f : ES}
theorem sd_ssp (fam : Fam Xs P w K mg base k) (h : SdE Xs K e f) (hg : ∀ i, Gl (Xs i) "sorted") (hm : ∀ i, (Xs i).mg "sorted" = none) (hg2 : ∀ i, Gl (Xs i) "set") (hm2 : ∀ i, (Xs i).mg "set" = none)
    (hs : ∀ i, starEach [e] (Xs i).env = (false, eval e (Xs i).env) :: starEach [] (Xs i).env := by intro _; rfl) (hs2 : ∀ i, starEach [.Call (.Name "set" p2) [e] [] pos2] (Xs i).env = (false, eval (.Call (.Name "set" p2) [e] [] pos2) (Xs i).env) :: starEach [] (Xs i).env := by intro _; rfl) :
    SdE Xs K (.Call (.Name "sorted" p) [.Call (.Name "set" p2) [e] [] pos2] [] pos) (fSSP f) := by
  obtain ⟨t, pe, wt⟩ := h
  refine ⟨tSSP K P w t, fun i => ?_, wt.ssp⟩
  have c1 := cr_setOfT (X := Xs i) (fam.calm i) (by have := (fam.room i).un; omega)
  have c2 := cr_sortedT (X := Xs i) (fam.calm i)
  rw [fam.K i, fam.prog i, fam.w i] at c1 c2
  exact pe_callB c2 (hg i) (hm i) PyProof.Rows.boot_sorted (pa_cons (pe_callTy c1 (hg2 i) (hm2 i) PyProof.Rows.boot_set (pa_cons (pe i) pa_nil (hs i)) (by decide) (by decide) (hs i) rfl) pa_nil (hs2 i)) (by decide) (by decide) (hs2 i) rfl
end
end Sd

namespace Sd
open PySem PySem.Spec L2
/-! ### Sd14: the draws, the law's own state -/
def lcg (seed : Int) : Int := (seed * 48271 + 12345) % 2147483647
def dropZ : List Int → List Int
  | [] => []
  | v :: r => if v = 0 then dropZ r else v :: r
def drawI (cells : List Int) (seed many : Int) : Int × List Int × Int := match dropZ cells with
  | [] => (lcg seed / 64 % many, [], lcg seed)
  | v :: r => (v % many, v / many :: r, seed)
theorem drawI_bd {cells : List Int} {seed many : Int} (h : 0 < many) : 0 ≤ (drawI cells seed many).1 ∧ (drawI cells seed many).1 < many := by
  unfold drawI
  split
  · exact ⟨Int.emod_nonneg _ (by omega), Int.emod_lt_of_pos _ h⟩
  · exact ⟨Int.emod_nonneg _ (by omega), Int.emod_lt_of_pos _ h⟩
def mDraw : DF := fun ss g => match ss, g with
  | [.st, .sh (.int many)], .k1 cells seed => if 0 < many ∧ many < 1073741824 then some (.int (drawI cells seed many).1, .k1 (drawI cells seed many).2.1 (drawI cells seed many).2.2) else none
  | _, _ => none
theorem mDraw_eq {many : Int} {g : G} (hg : g.kd = .k1) (h : 0 < many) (h2 : many < 1073741824) : ∃ v g', mDraw [.st, .sh (.int many)] g = some (.int v, g') ∧ g'.kd = .k1 ∧ 0 ≤ v ∧ v < many := by
  cases g with
  | no => cases hg
  | k2 a b => cases hg
  | k1 cells seed =>
    obtain ⟨h3, h4⟩ := drawI_bd (cells := cells) (seed := seed) h
    exact ⟨_, _, if_pos ⟨h, h2⟩, rfl, h3, h4⟩
section
variable {K : PySem.W.Frag}
abbrev tMod : TE → TE → TE := tOp (rI (fun _ j => 0 < j) fun i j => .int (i % j))
abbrev tDivC : TE → TE → TE := tOp (rI CDiv fun i j => .int (i / j))
def rLenS (K : PySem.W.Frag) : List V → Hp → VK → Prop := fun xs H Q => ∃ p ys, xs = [.ref p] ∧ (SqL K H p ys ∨ SqT K H p ys) ∧ Q (.int ys.length) H
def rInt1 : List V → Hp → VK → Prop := fun xs H Q => (∃ i, xs = [.int i] ∧ Q (.int i) H) ∨ ∃ k, xs = [.bl k] ∧ Q (.int (if k then 1 else 0)) H
def tAtC (K : PySem.W.Frag) (i : Nat) (j : Int) : TE := tOp (rIxL K) (tVar i) (tC (.int j))
def tSome (K : PySem.W.Frag) : TT := tTest (tOp (rI0 fun i j => .bl (decide (j < i))) (tCB (rLenS K) (tCons (tVar 2) tNil)) (tC (.int 0)))
def tDrawB (K : PySem.W.Frag) : TS :=
  tSeq (tAsg (tAtC K 0 0) (gName 2))
  (tSeq (tWhile (tAnd (tSome K) (tTest (tOp rEq (tAtC K 2 0) (tC (.int 0))))) (tDrop (tBM K "list" rPopAt (tVar 2) (tCons (tC (.int 0)) tNil))))
  (tSeq (tIfS (tSome K) (tSeq (tAsg (tAtC K 2 0) (gName 3)) (tSeq (tAsg (tDivC (tVar 3) (tVar 1)) (gSub (tVar 2) (tC (.int 0)) rSetL)) (tRet (tMod (tCB rInt1 (tCons (tVar 3) tNil)) (tVar 1))))) tNext)
  (tSeq (tAsg (tMod (tCB rInt1 (tCons (tOp (rI0 fun i j => .int (i + j)) (tOp (rI CMul fun i j => .int (i * j)) (tAtC K 0 1) (tC (.int 48271))) (tC (.int 12345))) tNil)) (tC (.int 2147483647))) (gName 4))
  (tSeq (tAsg (tVar 4) (gSub (tVar 0) (tC (.int 1)) rSetL)) (tRet (tMod (tCB rInt1 (tCons (tDivC (tVar 4) (tC (.int 64))) tNil)) (tVar 1)))))))
theorem atI0 {α : Type} {x : α} {xs : List α} : atI (x :: xs) 0 = some x := atI_nat (j := 0) rfl
theorem upd_upd {H : Hp} {p : Addr} {o o' : HO} : upd (upd H p o) p o' = upd H p o' := by
  funext a
  by_cases h : a = p
  · subst h
    rw [upd_same, upd_same]
  · rw [upd_ne h, upd_ne h, upd_ne h]
theorem iteF {A B : Prop} (h : B) : if false = true then A else B := h
theorem iteT {A B : Prop} (h : A) : if true = true then A else B := h
theorem seq0 {n : Nat} (h : 0 < n) : seqIndex? 0 n = some 0 := by
  unfold seqIndex?
  have : (0 : Int) < (n : Int) := by omega
  simp [this]
  omega
theorem draw_wp {many seed : Int} {cells : List Int} {ps pc : Addr} {H : Hp} {D : Ends} {y2 y3 y4 : Option V} (hne : ps ≠ pc) (h1 : H ps = some (.lst [.ref pc, .int seed])) (h2 : H pc = some (.lst (cells.map V.int))) (hm : 0 < many) (hm2 : many < 1073741824)
    (q : ∀ H', (∀ a, a ≠ ps → a ≠ pc → H' a = H a) → H' ps = some (.lst [.ref pc, .int (drawI cells seed many).2.2]) → H' pc = some (.lst ((drawI cells seed many).2.1.map V.int)) → D.rt (.int (drawI cells seed many).1) H') :
    tDrawB K D [some (.ref ps), some (.int many), y2, y3, y4] H := by
  refine ⟨.ref ps, rfl, ps, _, 0, _, rfl, rfl, .of h1, atI0, ?_⟩
  refine ⟨fun m σ H' => ∃ cs : List Int, σ = [some (.ref ps), some (.int many), some (.ref pc), y3, y4] ∧ cs.length = m ∧ dropZ cs = dropZ cells ∧ (∀ a, a ≠ pc → H' a = H a) ∧ H' pc = some (.lst (cs.map V.int)), ⟨_, cells, rfl, rfl, rfl, fun _ _ => rfl, h2⟩, fun m σ H1 hW => ?_⟩
  obtain ⟨cs, rfl, rfl, ez, off, ec⟩ := hW
  refine ⟨.ref pc, rfl, pc, _, rfl, .inl (.of ec), _, _, rfl, rfl, _, rfl, ?_⟩
  cases cs with
  | nil =>
    have e0 : decide ((0 : Int) < (([] : List Int).map V.int).length) = false := rfl
    rw [e0]
    refine iteF (iteF ?_)
    have e1 : H1 ps = some (.lst [.ref pc, .int seed]) := by rw [off _ hne]; exact h1
    refine ⟨.ref pc, rfl, pc, _, rfl, .inl (.of ec), _, _, rfl, rfl, _, rfl, ?_⟩
    rw [e0]
    refine iteF ?_
    have ed : drawI cells seed many = (lcg seed / 64 % many, [], lcg seed) := by
      unfold drawI
      rw [← ez]
      rfl
    rw [ed] at q
    refine ⟨.ref ps, rfl, ps, _, 1, .int seed, rfl, rfl, .of e1, atI_nat (j := 1) rfl, seed, 48271, rfl, rfl, .inr (by decide), _, _, rfl, rfl, .inl ⟨_, rfl, _, _, rfl, rfl, (by show (0 : Int) < 2147483647; decide), ?_⟩⟩
    refine ⟨_, rfl, .ref ps, rfl, ps, _, 1, 1, rfl, rfl, e1, rfl, ?_⟩
    refine ⟨_, rfl, _, 64, rfl, rfl, ⟨by decide, by decide⟩, .inl ⟨_, rfl, .int many, rfl, _, _, rfl, rfl, hm, ?_⟩⟩
    refine q _ (fun a h3 h4 => by rw [upd_ne h3]; exact off a h4) upd_same ?_
    rw [upd_ne hne.symm]
    exact ec
  | cons v r =>
    have e0 : decide ((0 : Int) < (((v :: r).map V.int).length : Nat)) = true := decide_eq_true (by simp only [List.map_cons, List.length_cons]; omega)
    rw [e0]
    refine iteT ?_
    refine ⟨.ref pc, rfl, pc, _, 0, _, rfl, rfl, .of ec, atI0, rfl, _, rfl, ?_⟩
    by_cases hv : v = 0
    · subst hv
      rw [show decide (V.int 0 = V.int 0) = true from rfl]
      refine iteT ?_
      refine ⟨fun σ' H' => σ' = [some (.ref ps), some (.int many), some (.ref pc), y3, y4] ∧ (∀ a, a ≠ pc → H' a = H a) ∧ H' pc = some (.lst (r.map V.int)), fun σ' H' ⟨e1, e2, e3⟩ => ⟨r.length, by simp, r, e1, rfl, ?_, e2, e3⟩, ?_⟩
      · rw [← ez]
        rfl
      · refine ⟨.ref pc, rfl, .inl ⟨rfl, _, .of ec⟩, pc, _, 0, 0, _, rfl, rfl, ec, by decide, by decide, seq0 (by simp), rfl, rfl, fun a ha => ?_, upd_same⟩
        rw [upd_ne ha]
        exact off a ha
    · have e2 : decide (V.int v = V.int 0) = false := decide_eq_false fun z => hv (V.int.inj z)
      rw [e2]
      refine iteF ?_
      refine ⟨.ref pc, rfl, pc, _, rfl, .inl (.of ec), _, _, rfl, rfl, _, rfl, ?_⟩
      rw [e0]
      refine iteT ?_
      have ed : drawI cells seed many = (v % many, v / many :: r, seed) := by
        unfold drawI
        rw [← ez]
        show (match (if v = 0 then dropZ r else v :: r) with | [] => _ | v :: r => _) = _
        rw [if_neg hv]
      rw [ed] at q
      refine ⟨.ref pc, rfl, pc, _, 0, _, rfl, rfl, .of ec, atI0, ?_⟩
      refine ⟨.int v, rfl, .int many, rfl, v, many, rfl, rfl, ⟨hm, hm2⟩, .ref pc, rfl, pc, _, 0, 0, rfl, rfl, ec, ?_, ?_⟩
      · unfold ixN
        rw [if_pos (by decide), if_pos (by simp only [List.map_cons, List.length_cons]; omega)]
        rfl
      · refine ⟨.int v, rfl, .inl ⟨_, rfl, .int many, rfl, _, _, rfl, rfl, hm, ?_⟩⟩
        refine q _ (fun a h3 h4 => by rw [upd_ne h4]; exact off a h4) ?_ upd_same
        rw [upd_ne hne, off _ hne]
        exact h1
theorem draw_sp {vs : List V} {H : Hp} {Q : VK} {E : XK} (h : spD K 2 mDraw vs H Q E) : tDrawB K { nx := fun _ H' => Q .non H', rt := Q } (start ["state", "many", "cells", "value", "mixed"] vs) H := by
  obtain ⟨F, ps, pc, ss, g, d, g', hl, hs, r, st, e, q⟩ := h
  unfold mDraw at e
  split at e
  · rename_i many cells seed
    split at e
    · rename_i hm
      cases e
      cases r with
      | cons a r =>
        cases r with
        | cons b r =>
          cases r
          cases a
          cases b with
          | sh rb =>
            cases rb
            obtain ⟨hne, h1, h2, h3, h4⟩ := st
            refine draw_wp hne h1 h2 hm.1 hm.2 fun H' off e1 e2 => ?_
            refine q _ F H' rfl ⟨fun _ _ h => h, fun a u h n => ?_, fun _ h => .inl h, fun a h => ?_, fun a xs h => ?_⟩ (fun a u h => ?_) ⟨hne, e1, e2, h3, h4⟩ (.int _)
            · rw [off a (fun z => n (.inl z)) (fun z => n (.inr z))]
              exact h
            · by_cases z1 : a = ps
              · rw [z1, e1] at h; cases h
              · by_cases z2 : a = pc
                · rw [z2, e2] at h; cases h
                · rw [off a z1 z2] at h
                  exact h
            · by_cases z1 : a = ps
              · rw [z1, h1] at h; cases h
              · by_cases z2 : a = pc
                · rw [z2, h2] at h; cases h
                · rw [off a z1 z2]
                  exact h
            · by_cases z1 : a = ps
              · rw [z1, h3] at h; cases h
              · by_cases z2 : a = pc
                · rw [z2, h4] at h; cases h
                · rw [off a z1 z2]
                  exact hs a u h
    · cases e
  · cases e
end
end Sd

namespace Sd
open PySem PySem.Spec L2
/-! ### Sd15: the law's own state made of the script -/
theorem same_upd {H : Hp} {p : Addr} {o : HO} (h : H p = none) : Same H (upd H p o) := fun b x e => by
  rw [upd_ne (ne_of_none e h)]
  exact e
def spState (K : PySem.W.Frag) : Sp := fun vs H Q _ => ∃ (a : Addr) (ns : List Int), vs = [.ref a] ∧ SqL K H a (ns.map V.int) ∧ ns.length ≤ 63 ∧
  ∀ (H' : Hp) (ps pc : Addr) (cells : List Int) (seed : Int), ps ≠ pc → H' ps = some (.lst [.ref pc, .int seed]) → H' pc = some (.lst (cells.map V.int)) → Q (.ref ps) H'
def tStateB (K : PySem.W.Frag) : TS :=
  tSeq (tAsg (tC (.int 7)) (gName 1))
  (tSeq (tFor (iList K (tVar 0)) (gName 2) (tAsg (tMod (tCB rInt1 (tCons (tOp (rI0 fun i j => .int (i + j)) (tOp (rI CMul fun i j => .int (i * j)) (tVar 1) (tC (.int 31))) (tVar 2)) tNil)) (tC (.int 1000003))) (gName 1)))
  (tRet (tLst (tCons (tLc (iList K (tVar 0)) (gName 2) tYes (tCB (fun xs H Q => ∃ i, xs = [.int i] ∧ Q (.int (if i < 0 then -i else i)) H) (tCons (tVar 2) tNil)) [2]) (tCons (tOp (rI0 fun i j => .int (i + j)) (tVar 1) (tC (.int 1))) tNil)))))
theorem small63 {n : Nat} (h : n ≤ 64) : n < sizeLine := by rw [sizeLine_eq]; omega
theorem state_sp {K : PySem.W.Frag} {vs : List V} {H : Hp} {Q : VK} {E : XK} (h : spState K vs H Q E) : tStateB K { nx := fun _ H' => Q .non H', rt := Q } (start ["script", "seed", "cell"] vs) H := by
  obtain ⟨a, ns, rfl, hS, hl, q⟩ := h
  refine ⟨.ref a, rfl, a, rfl, ⟨_, hS⟩, fun i m σ H3 => ∃ s y2, σ = [some (.ref a), some (.int s), y2] ∧ i + m = ns.length ∧ H3 = H, ⟨ns.length, 7, none, rfl, by omega, rfl⟩, fun i m σ H3 hW => ?_⟩
  obtain ⟨s, y2, rfl, em, rfl⟩ := hW
  by_cases hi : i < ns.length
  · have g : (ns.map V.int)[i]? = some (.int ns[i]) := by
      rw [List.getElem?_map, List.getElem?_eq_getElem hi]
      rfl
    refine .inr ⟨⟨_, _, hS, g⟩, fun σ' H' => ∃ s y2, σ' = [some (.ref a), some (.int s), y2] ∧ H' = H3, fun σ' H' hN => ?_, fun v H' hy => ?_⟩
    · obtain ⟨s, y, e1, e2⟩ := hN
      exact ⟨m - 1, by omega, s, y, e1, by omega, e2⟩
    · obtain ⟨rfl, fv⟩ := hy
      have ev : v = .int ns[i] := Option.some.inj ((fv _ hS).symm.trans g)
      subst ev
      refine ⟨.int s, rfl, s, 31, rfl, rfl, .inr (by decide), .int ns[i], rfl, _, _, rfl, rfl, .inl ⟨_, rfl, _, 1000003, rfl, rfl, (by show (0 : Int) < 1000003; decide), ?_⟩⟩
      exact ⟨_, _, rfl, rfl⟩
  · refine .inl ⟨⟨_, hS, ?_⟩, ?_⟩
    · rw [List.length_map]
      omega
    refine ⟨.ref a, rfl, a, rfl, ⟨_, hS⟩, fun D hD => ?_⟩
    refine ⟨fun i m H4 => i + m = ns.length ∧ Same H3 H4 ∧ ∃ cs : List Int, H4 D = some (.lst (cs.map V.int)) ∧ cs.length = i, ⟨ns.length, by omega, same_upd hD, [], upd_same, rfl⟩, fun i m H4 hW => ?_⟩
    obtain ⟨em, sm, cs, eD, el⟩ := hW
    have hA : SqL K H4 a (ns.map V.int) := sm.seq hS
    by_cases hi : i < ns.length
    · have g : (ns.map V.int)[i]? = some (.int ns[i]) := by
        rw [List.getElem?_map, List.getElem?_eq_getElem hi]
        rfl
      refine .inr ⟨⟨_, _, hA, g⟩, fun H' => Same H3 H' ∧ ∃ cs : List Int, H' D = some (.lst (cs.map V.int)) ∧ cs.length = i + 1, fun H' hN => ⟨m - 1, by omega, by omega, hN.1, hN.2⟩, fun v H' hy => ?_⟩
      obtain ⟨rfl, fv⟩ := hy
      have ev : v = .int ns[i] := Option.some.inj ((fv _ hA).symm.trans g)
      subst ev
      refine ⟨rfl, ?_⟩
      refine ⟨_, rfl, _, rfl, _, eD, ?_, ?_⟩
      · rw [List.length_map]
        exact small63 (by omega)
      · refine ⟨fun b z e => ?_, cs ++ [if ns[i] < 0 then -ns[i] else ns[i]], ?_, ?_⟩
        · have nb : b ≠ D := ne_of_none e hD
          rw [upd_ne nb]
          exact sm _ _ e
        · rw [upd_same, List.map_append]
          rfl
        · rw [List.length_append, el]
          rfl
    · refine .inl ⟨⟨_, hA, ?_⟩, ?_⟩
      · rw [List.length_map]
        omega
      · refine ⟨.int s, rfl, _, 1, rfl, rfl, Nat.le_of_lt (small63 (by show 2 ≤ 64; decide)), fun p hp => ?_⟩
        have ne : p ≠ D := fun z => by rw [z, eD] at hp; cases hp
        exact q _ p D cs (s + 1) ne upd_same (by rw [upd_ne ne.symm]; exact eD)
end Sd

namespace Sd
open PySem PySem.Spec L2
/-! ### Sd16: short forms, for the printer -/
theorem b_len : bootBuiltins "len" = some (.builtin "len") := by decide +kernel
theorem b_sum : bootBuiltins "sum" = some (.builtin "sum") := by decide +kernel
theorem b_any : bootBuiltins "any" = some (.builtin "any") := by decide +kernel
theorem b_all : bootBuiltins "all" = some (.builtin "all") := by decide +kernel
theorem b_max : bootBuiltins "max" = some (.builtin "max") := by decide +kernel
theorem b_min : bootBuiltins "min" = some (.builtin "min") := by decide +kernel
theorem b_abs : bootBuiltins "abs" = some (.builtin "abs") := by decide +kernel
theorem b_sorted : bootBuiltins "sorted" = some (.builtin "sorted") := by decide +kernel
theorem b_isinstance : bootBuiltins "isinstance" = some (.builtin "isinstance") := by decide +kernel
theorem b_int : bootBuiltins "int" = some (.type "int") := by decide +kernel
theorem b_bool : bootBuiltins "bool" = some (.type "bool") := by decide +kernel
theorem b_str : bootBuiltins "str" = some (.type "str") := by decide +kernel
theorem b_list : bootBuiltins "list" = some (.type "list") := by decide +kernel
theorem b_tuple : bootBuiltins "tuple" = some (.type "tuple") := by decide +kernel
def φSub : D → D → Option RV := φI fun i j => .int (i - j)
def φDiv : D → D → Option RV := φIc cDiv fun i j => i / j
def φMod : D → D → Option RV := φIc cPos fun i j => i % j
def φPow : D → D → Option RV := φIc cSh fun i j => i ^ j.toNat
def φShl : D → D → Option RV := φIc cSh fun i j => i * 2 ^ j.toNat
def φShr : D → D → Option RV := φIc cNN fun i j => i / 2 ^ j.toNat
def φBand : D → D → Option RV := φI fun i j => .int (Builtin.bitAnd i j)
def φBor : D → D → Option RV := φI fun i j => .int (Builtin.bitOr i j)
def φBxor : D → D → Option RV := φI fun i j => .int (Builtin.bitXor i j)
def φLt : D → D → Option RV := φI fun i j => .bool (decide (i < j))
def φLe : D → D → Option RV := φI fun i j => .bool (decide (i ≤ j))
def φGt : D → D → Option RV := φI fun i j => .bool (decide (j < i))
def φGe : D → D → Option RV := φI fun i j => .bool (decide (j ≤ i))
def φNeg : D → Option RV := φU fun i => -i
section
variable {ι : Type} {Xs : ι → Cx} {P : Program} {w : World} {K : PySem.W.Frag} {mg : Str → Option Value} {base : Heap} {k : Nat} {pos p : Pos} {a b e : Expr} {es : List Expr} {fa fb : ES} {f : EA}
theorem sd_add (F : Fam Xs P w K mg base k) (ha : SdE Xs K a fa) (hb : SdE Xs K b fb) : SdE Xs K (.BinOp a .Add b pos) (op2 φAdd fa fb) := sd_op (r := rAddD K) (fun i => by rw [← F.K i]; exact op_addD) ru_add ha hb
theorem sd_mul (F : Fam Xs P w K mg base k) (ha : SdE Xs K a fa) (hb : SdE Xs K b fb) : SdE Xs K (.BinOp a .Mult b pos) (op2 φMul fa fb) := sd_op (r := rMulD K) (fun i => by rw [← F.K i]; exact op_mulD) ru_mul ha hb
theorem sd_sub (F : Fam Xs P w K mg base k) (ha : SdE Xs K a fa) (hb : SdE Xs K b fb) : SdE Xs K (.BinOp a .Sub b pos) (op2 φSub fa fb) := sd_op (fun _ => op_sub) ru_int ha hb
theorem sd_div (F : Fam Xs P w K mg base k) (ha : SdE Xs K a fa) (hb : SdE Xs K b fb) : SdE Xs K (.BinOp a .FloorDiv b pos) (op2 φDiv fa fb) := sd_op (fun _ => op_fdiv) (ru_intC cDiv_ok) ha hb
theorem sd_mod (F : Fam Xs P w K mg base k) (ha : SdE Xs K a fa) (hb : SdE Xs K b fb) : SdE Xs K (.BinOp a .Mod b pos) (op2 φMod fa fb) := sd_op (fun _ => op_mod) (ru_intC fun _ _ h => of_decide_eq_true h) ha hb
theorem sd_pow (F : Fam Xs P w K mg base k) (ha : SdE Xs K a fa) (hb : SdE Xs K b fb) : SdE Xs K (.BinOp a .Pow b pos) (op2 φPow fa fb) := sd_op (fun _ => op_pow) (ru_intC cSh_ok) ha hb
theorem sd_shl (F : Fam Xs P w K mg base k) (ha : SdE Xs K a fa) (hb : SdE Xs K b fb) : SdE Xs K (.BinOp a .LShift b pos) (op2 φShl fa fb) := sd_op (fun _ => op_shl) (ru_intC cSh_ok) ha hb
theorem sd_shr (F : Fam Xs P w K mg base k) (ha : SdE Xs K a fa) (hb : SdE Xs K b fb) : SdE Xs K (.BinOp a .RShift b pos) (op2 φShr fa fb) := sd_op (fun _ => op_shr) (ru_intC fun _ _ h => of_decide_eq_true h) ha hb
theorem sd_band (F : Fam Xs P w K mg base k) (ha : SdE Xs K a fa) (hb : SdE Xs K b fb) : SdE Xs K (.BinOp a .BitAnd b pos) (op2 φBand fa fb) := sd_op (fun _ => op_and) ru_int ha hb
theorem sd_bor (F : Fam Xs P w K mg base k) (ha : SdE Xs K a fa) (hb : SdE Xs K b fb) : SdE Xs K (.BinOp a .BitOr b pos) (op2 φBor fa fb) := sd_op (fun _ => op_or) ru_int ha hb
theorem sd_bxor (F : Fam Xs P w K mg base k) (ha : SdE Xs K a fa) (hb : SdE Xs K b fb) : SdE Xs K (.BinOp a .BitXor b pos) (op2 φBxor fa fb) := sd_op (fun _ => op_xor) ru_int ha hb
theorem sd_neg (ha : SdE Xs K a fa) : SdE Xs K (.UnaryOp .USub a pos) (op1 φNeg fa) := sd_un (fun _ => un_neg) ru_un ha
theorem sd_lt (F : Fam Xs P w K mg base k) (ha : SdE Xs K a fa) (hb : SdE Xs K b fb) : SdE Xs K (.Compare a [.Lt] [b] pos) (op2 φLt fa fb) := sd_cmp (fun _ => op_lt) ru_ib ha hb (nomark _)
theorem sd_le (F : Fam Xs P w K mg base k) (ha : SdE Xs K a fa) (hb : SdE Xs K b fb) : SdE Xs K (.Compare a [.LtE] [b] pos) (op2 φLe fa fb) := sd_cmp (fun _ => op_le) ru_ib ha hb (nomark _)
theorem sd_gt (F : Fam Xs P w K mg base k) (ha : SdE Xs K a fa) (hb : SdE Xs K b fb) : SdE Xs K (.Compare a [.Gt] [b] pos) (op2 φGt fa fb) := sd_cmp (fun _ => op_gt) ru_ib ha hb (nomark _)
theorem sd_ge (F : Fam Xs P w K mg base k) (ha : SdE Xs K a fa) (hb : SdE Xs K b fb) : SdE Xs K (.Compare a [.GtE] [b] pos) (op2 φGe fa fb) := sd_cmp (fun _ => op_ge) ru_ib ha hb (nomark _)
theorem sd_eq (F : Fam Xs P w K mg base k) (ha : SdE Xs K a fa) (hb : SdE Xs K b fb) : SdE Xs K (.Compare a [.Eq] [b] pos) (op2 φEq fa fb) := sd_cmp (r := rEqD K) (fun i => by rw [← F.K i]; exact op_eqD (by have := (F.room i).un; omega)) ru_eq ha hb (nomark _)
theorem sd_ne (F : Fam Xs P w K mg base k) (ha : SdE Xs K a fa) (hb : SdE Xs K b fb) : SdE Xs K (.Compare a [.NotEq] [b] pos) (op2 φNe fa fb) := sd_cmp (r := rNeD K) (fun i => by rw [← F.K i]; exact op_neD (by have := (F.room i).un; omega)) ru_ne ha hb (nomark _)
theorem sd_isN (F : Fam Xs P w K mg base k) (ha : SdE Xs K a fa) (hb : SdE Xs K b fb) : SdE Xs K (.Compare a [.Is] [b] pos) (op2 φIsN fa fb) := sd_cmp (fun _ => op_isN) ru_isN ha hb (nomark _)
theorem sd_isNotN (F : Fam Xs P w K mg base k) (ha : SdE Xs K a fa) (hb : SdE Xs K b fb) : SdE Xs K (.Compare a [.IsNot] [b] pos) (op2 φIsNotN fa fb) := sd_cmp (fun _ => op_notN) ru_isNotN ha hb (nomark _)
theorem sd_in (F : Fam Xs P w K mg base k) (ha : SdE Xs K a fa) (hb : SdE Xs K b fb) (hm : behindInMarks .In b = false := by rfl) : SdE Xs K (.Compare a [.In] [b] pos) (op2 φIn fa fb) := sd_cmp (r := rInX K) (fun i => by rw [← F.K i]; exact op_inX (by have := (F.room i).un; omega)) ru_in ha hb hm
theorem sd_notin (F : Fam Xs P w K mg base k) (ha : SdE Xs K a fa) (hb : SdE Xs K b fb) (hm : behindInMarks .NotIn b = false := by rfl) : SdE Xs K (.Compare a [.NotIn] [b] pos) (op2 φNotIn fa fb) := sd_cmp (r := rNotInX K) (fun i => by rw [← F.K i]; exact op_notInX (by have := (F.room i).un; omega)) ru_notIn ha hb hm
theorem st_lt (F : Fam Xs P w K mg base k) (ha : SdE Xs K a fa) (hb : SdE Xs K b fb) : SdT Xs K (.Compare a [.Lt] [b] pos) (tst (op2 φLt fa fb)) := st_cmp (fun _ => op_lt) ru_ib ha hb (nomark _)
theorem st_le (F : Fam Xs P w K mg base k) (ha : SdE Xs K a fa) (hb : SdE Xs K b fb) : SdT Xs K (.Compare a [.LtE] [b] pos) (tst (op2 φLe fa fb)) := st_cmp (fun _ => op_le) ru_ib ha hb (nomark _)
theorem st_gt (F : Fam Xs P w K mg base k) (ha : SdE Xs K a fa) (hb : SdE Xs K b fb) : SdT Xs K (.Compare a [.Gt] [b] pos) (tst (op2 φGt fa fb)) := st_cmp (fun _ => op_gt) ru_ib ha hb (nomark _)
theorem st_ge (F : Fam Xs P w K mg base k) (ha : SdE Xs K a fa) (hb : SdE Xs K b fb) : SdT Xs K (.Compare a [.GtE] [b] pos) (tst (op2 φGe fa fb)) := st_cmp (fun _ => op_ge) ru_ib ha hb (nomark _)
theorem st_eq (F : Fam Xs P w K mg base k) (ha : SdE Xs K a fa) (hb : SdE Xs K b fb) : SdT Xs K (.Compare a [.Eq] [b] pos) (tst (op2 φEq fa fb)) := st_cmp (r := rEqD K) (fun i => by rw [← F.K i]; exact op_eqD (by have := (F.room i).un; omega)) ru_eq ha hb (nomark _)
theorem st_ne (F : Fam Xs P w K mg base k) (ha : SdE Xs K a fa) (hb : SdE Xs K b fb) : SdT Xs K (.Compare a [.NotEq] [b] pos) (tst (op2 φNe fa fb)) := st_cmp (r := rNeD K) (fun i => by rw [← F.K i]; exact op_neD (by have := (F.room i).un; omega)) ru_ne ha hb (nomark _)
theorem st_isN (F : Fam Xs P w K mg base k) (ha : SdE Xs K a fa) (hb : SdE Xs K b fb) : SdT Xs K (.Compare a [.Is] [b] pos) (tst (op2 φIsN fa fb)) := st_cmp (fun _ => op_isN) ru_isN ha hb (nomark _)
theorem st_isNotN (F : Fam Xs P w K mg base k) (ha : SdE Xs K a fa) (hb : SdE Xs K b fb) : SdT Xs K (.Compare a [.IsNot] [b] pos) (tst (op2 φIsNotN fa fb)) := st_cmp (fun _ => op_notN) ru_isNotN ha hb (nomark _)
theorem st_in (F : Fam Xs P w K mg base k) (ha : SdE Xs K a fa) (hb : SdE Xs K b fb) (hm : behindInMarks .In b = false := by rfl) : SdT Xs K (.Compare a [.In] [b] pos) (tst (op2 φIn fa fb)) := st_cmp (r := rInX K) (fun i => by rw [← F.K i]; exact op_inX (by have := (F.room i).un; omega)) ru_in ha hb hm
theorem st_notin (F : Fam Xs P w K mg base k) (ha : SdE Xs K a fa) (hb : SdE Xs K b fb) (hm : behindInMarks .NotIn b = false := by rfl) : SdT Xs K (.Compare a [.NotIn] [b] pos) (tst (op2 φNotIn fa fb)) := st_cmp (r := rNotInX K) (fun i => by rw [← F.K i]; exact op_notInX (by have := (F.room i).un; omega)) ru_notIn ha hb hm
theorem sd_at (F : Fam Xs P w K mg base k) (ha : SdE Xs K a fa) (hb : SdE Xs K b fb) (hs : PlainIx b := by intro _ _; rfl) : SdE Xs K (.Subscript a b pos) (op2 φIxX fa fb) := sd_ix (r := rIxX K) (fun i => by rw [← F.K i]; exact ix_any (by have := (F.room i).un; omega)) ru_ixX ha hb hs
theorem sd_len (F : Fam Xs P w K mg base k) (hm : mg "len" = none) (hg : ∀ i, Gl (Xs i) "len") (ha : SdA Xs K (e :: es) f)
    (he : ∀ i, starEach (e :: es) (Xs i).env = (false, eval e (Xs i).env) :: starEach es (Xs i).env := by intro _; rfl) (hpl : ∀ i, (backTo pos (starEach es (Xs i).env)).any (·.1) = false := by intro _; rfl) : SdE Xs K (.Call (.Name "len" p) (e :: es) [] pos) (opL φLen' f) :=
  sd_callB (r := rLenX K) (fun i => by rw [← F.K i]; exact call_lenX) ru_len hg (fun i => by rw [F.mg i]; exact hm) b_len ha (by decide) (by decide) he hpl
theorem sd_sum (F : Fam Xs P w K mg base k) (hm : mg "sum" = none) (hg : ∀ i, Gl (Xs i) "sum") (ha : SdA Xs K (e :: es) f)
    (he : ∀ i, starEach (e :: es) (Xs i).env = (false, eval e (Xs i).env) :: starEach es (Xs i).env := by intro _; rfl) (hpl : ∀ i, (backTo pos (starEach es (Xs i).env)).any (·.1) = false := by intro _; rfl) : SdE Xs K (.Call (.Name "sum" p) (e :: es) [] pos) (opL φSum f) :=
  sd_callB (r := rSum K) (fun i => by rw [← F.K i]; exact cr_sum (F.calm i)) ru_sum hg (fun i => by rw [F.mg i]; exact hm) b_sum ha (by decide) (by decide) he hpl
theorem sd_any (F : Fam Xs P w K mg base k) (hm : mg "any" = none) (hg : ∀ i, Gl (Xs i) "any") (ha : SdA Xs K (e :: es) f)
    (he : ∀ i, starEach (e :: es) (Xs i).env = (false, eval e (Xs i).env) :: starEach es (Xs i).env := by intro _; rfl) (hpl : ∀ i, (backTo pos (starEach es (Xs i).env)).any (·.1) = false := by intro _; rfl) : SdE Xs K (.Call (.Name "any" p) (e :: es) [] pos) (opL φAny f) :=
  sd_callB (r := rAny K) (fun i => by rw [← F.K i]; exact cr_any (F.calm i)) ru_any hg (fun i => by rw [F.mg i]; exact hm) b_any ha (by decide) (by decide) he hpl
theorem sd_all (F : Fam Xs P w K mg base k) (hm : mg "all" = none) (hg : ∀ i, Gl (Xs i) "all") (ha : SdA Xs K (e :: es) f)
    (he : ∀ i, starEach (e :: es) (Xs i).env = (false, eval e (Xs i).env) :: starEach es (Xs i).env := by intro _; rfl) (hpl : ∀ i, (backTo pos (starEach es (Xs i).env)).any (·.1) = false := by intro _; rfl) : SdE Xs K (.Call (.Name "all" p) (e :: es) [] pos) (opL φAll f) :=
  sd_callB (r := rAll K) (fun i => by rw [← F.K i]; exact cr_all (F.calm i)) ru_all hg (fun i => by rw [F.mg i]; exact hm) b_all ha (by decide) (by decide) he hpl
theorem sd_max (F : Fam Xs P w K mg base k) (hm : mg "max" = none) (hg : ∀ i, Gl (Xs i) "max") (ha : SdA Xs K (e :: es) f)
    (he : ∀ i, starEach (e :: es) (Xs i).env = (false, eval e (Xs i).env) :: starEach es (Xs i).env := by intro _; rfl) (hpl : ∀ i, (backTo pos (starEach es (Xs i).env)).any (·.1) = false := by intro _; rfl) : SdE Xs K (.Call (.Name "max" p) (e :: es) [] pos) (opL φMax f) :=
  sd_callB (r := rMaxX K) (fun i => by rw [← F.K i]; exact call_maxX (F.calm i)) ru_max hg (fun i => by rw [F.mg i]; exact hm) b_max ha (by decide) (by decide) he hpl
theorem sd_min (F : Fam Xs P w K mg base k) (hm : mg "min" = none) (hg : ∀ i, Gl (Xs i) "min") (ha : SdA Xs K (e :: es) f)
    (he : ∀ i, starEach (e :: es) (Xs i).env = (false, eval e (Xs i).env) :: starEach es (Xs i).env := by intro _; rfl) (hpl : ∀ i, (backTo pos (starEach es (Xs i).env)).any (·.1) = false := by intro _; rfl) : SdE Xs K (.Call (.Name "min" p) (e :: es) [] pos) (opL φMin f) :=
  sd_callB (r := rMinX K) (fun i => by rw [← F.K i]; exact call_minX (F.calm i)) ru_min hg (fun i => by rw [F.mg i]; exact hm) b_min ha (by decide) (by decide) he hpl
theorem sd_abs (F : Fam Xs P w K mg base k) (hm : mg "abs" = none) (hg : ∀ i, Gl (Xs i) "abs") (ha : SdA Xs K (e :: es) f)
    (he : ∀ i, starEach (e :: es) (Xs i).env = (false, eval e (Xs i).env) :: starEach es (Xs i).env := by intro _; rfl) (hpl : ∀ i, (backTo pos (starEach es (Xs i).env)).any (·.1) = false := by intro _; rfl) : SdE Xs K (.Call (.Name "abs" p) (e :: es) [] pos) (opL φAbs f) :=
  sd_callB  (fun i => call_abs) ru_abs hg (fun i => by rw [F.mg i]; exact hm) b_abs ha (by decide) (by decide) he hpl
theorem sd_intof (F : Fam Xs P w K mg base k) (hm : mg "int" = none) (hg : ∀ i, Gl (Xs i) "int") (ha : SdA Xs K (e :: es) f)
    (he : ∀ i, starEach (e :: es) (Xs i).env = (false, eval e (Xs i).env) :: starEach es (Xs i).env := by intro _; rfl) (hpl : ∀ i, (backTo pos (starEach es (Xs i).env)).any (·.1) = false := by intro _; rfl) : SdE Xs K (.Call (.Name "int" p) (e :: es) [] pos) (opL φInt f) :=
  sd_callTy  (fun i => call_int1) ru_intC1 hg (fun i => by rw [F.mg i]; exact hm) b_int ha (by decide) (by decide) he hpl
theorem sd_sorted (F : Fam Xs P w K mg base k) (hm : mg "sorted" = none) (hg : ∀ i, Gl (Xs i) "sorted") (ha : SdA Xs K (e :: es) f)
    (he : ∀ i, starEach (e :: es) (Xs i).env = (false, eval e (Xs i).env) :: starEach es (Xs i).env := by intro _; rfl) (hpl : ∀ i, (backTo pos (starEach es (Xs i).env)).any (·.1) = false := by intro _; rfl) : SdE Xs K (.Call (.Name "sorted" p) (e :: es) [] pos) (opL φSorted f) :=
  sd_callB (r := rSortedD K) (fun i => by rw [← F.K i]; exact cr_sortedD (by have := (F.room i).un; omega)) ru_sorted hg (fun i => by rw [F.mg i]; exact hm) b_sorted ha (by decide) (by decide) he hpl
theorem sd_tuple (F : Fam Xs P w K mg base k) (hm : mg "tuple" = none) (hg : ∀ i, Gl (Xs i) "tuple") (ha : SdA Xs K (e :: es) f)
    (he : ∀ i, starEach (e :: es) (Xs i).env = (false, eval e (Xs i).env) :: starEach es (Xs i).env := by intro _; rfl) (hpl : ∀ i, (backTo pos (starEach es (Xs i).env)).any (·.1) = false := by intro _; rfl) : SdE Xs K (.Call (.Name "tuple" p) (e :: es) [] pos) (opL φTuple f) :=
  sd_callTy (fun i => by have q := call_tuple_of (X := Xs i); rw [F.K i] at q; exact q) ru_tuple hg (fun i => by rw [F.mg i]; exact hm) b_tuple ha (by decide) (by decide) he hpl
theorem sd_list (F : Fam Xs P w K mg base k) (hm : mg "list" = none) (hg : ∀ i, Gl (Xs i) "list") (ha : SdA Xs K (e :: es) f)
    (he : ∀ i, starEach (e :: es) (Xs i).env = (false, eval e (Xs i).env) :: starEach es (Xs i).env := by intro _; rfl) (hpl : ∀ i, (backTo pos (starEach es (Xs i).env)).any (·.1) = false := by intro _; rfl) : SdE Xs K (.Call (.Name "list" p) (e :: es) [] pos) (opL φList f) :=
  sd_callTy (fun i => by have q := call_list_of (X := Xs i); rw [F.K i] at q; exact q) ru_list hg (fun i => by rw [F.mg i]; exact hm) b_list ha (by decide) (by decide) he hpl
theorem sd_is_int (F : Fam Xs P w K mg base k) (hm : mg "isinstance" = none) (hm2 : mg "int" = none) (hg : ∀ i, Gl (Xs i) "isinstance") (hg2 : ∀ i, Gl (Xs i) "int") {p2 : Pos} (ha : SdE Xs K e fa)
    (hs : ∀ i, starEach (e :: [.Name "int" p2]) (Xs i).env = (false, eval e (Xs i).env) :: starEach [.Name "int" p2] (Xs i).env := by intro _; rfl) (hs2 : ∀ i, starEach [.Name "int" p2] (Xs i).env = (false, eval (.Name "int" p2) (Xs i).env) :: starEach [] (Xs i).env := by intro _; rfl)
    (hpl : ∀ i, (backTo pos (starEach [.Name "int" p2] (Xs i).env)).any (·.1) = false := by intro _; rfl) : SdE Xs K (.Call (.Name "isinstance" p) [e, .Name "int" p2] [] pos) (fIsi "int" fa) :=
  sd_isi "int" F.K (by decide +kernel) ha hg (fun i => by rw [F.mg i]; exact hm) hg2 (fun i => by rw [F.mg i]; exact hm2) b_int b_isinstance (by decide) (by decide) hs hs2 hpl
theorem sd_is_bool (F : Fam Xs P w K mg base k) (hm : mg "isinstance" = none) (hm2 : mg "bool" = none) (hg : ∀ i, Gl (Xs i) "isinstance") (hg2 : ∀ i, Gl (Xs i) "bool") {p2 : Pos} (ha : SdE Xs K e fa)
    (hs : ∀ i, starEach (e :: [.Name "bool" p2]) (Xs i).env = (false, eval e (Xs i).env) :: starEach [.Name "bool" p2] (Xs i).env := by intro _; rfl) (hs2 : ∀ i, starEach [.Name "bool" p2] (Xs i).env = (false, eval (.Name "bool" p2) (Xs i).env) :: starEach [] (Xs i).env := by intro _; rfl)
    (hpl : ∀ i, (backTo pos (starEach [.Name "bool" p2] (Xs i).env)).any (·.1) = false := by intro _; rfl) : SdE Xs K (.Call (.Name "isinstance" p) [e, .Name "bool" p2] [] pos) (fIsi "bool" fa) :=
  sd_isi "bool" F.K (by decide +kernel) ha hg (fun i => by rw [F.mg i]; exact hm) hg2 (fun i => by rw [F.mg i]; exact hm2) b_bool b_isinstance (by decide) (by decide) hs hs2 hpl
theorem sd_is_str (F : Fam Xs P w K mg base k) (hm : mg "isinstance" = none) (hm2 : mg "str" = none) (hg : ∀ i, Gl (Xs i) "isinstance") (hg2 : ∀ i, Gl (Xs i) "str") {p2 : Pos} (ha : SdE Xs K e fa)
    (hs : ∀ i, starEach (e :: [.Name "str" p2]) (Xs i).env = (false, eval e (Xs i).env) :: starEach [.Name "str" p2] (Xs i).env := by intro _; rfl) (hs2 : ∀ i, starEach [.Name "str" p2] (Xs i).env = (false, eval (.Name "str" p2) (Xs i).env) :: starEach [] (Xs i).env := by intro _; rfl)
    (hpl : ∀ i, (backTo pos (starEach [.Name "str" p2] (Xs i).env)).any (·.1) = false := by intro _; rfl) : SdE Xs K (.Call (.Name "isinstance" p) [e, .Name "str" p2] [] pos) (fIsi "str" fa) :=
  sd_isi "str" F.K (by decide +kernel) ha hg (fun i => by rw [F.mg i]; exact hm) hg2 (fun i => by rw [F.mg i]; exact hm2) b_str b_isinstance (by decide) (by decide) hs hs2 hpl
theorem sd_is_list (F : Fam Xs P w K mg base k) (hm : mg "isinstance" = none) (hm2 : mg "list" = none) (hg : ∀ i, Gl (Xs i) "isinstance") (hg2 : ∀ i, Gl (Xs i) "list") {p2 : Pos} (ha : SdE Xs K e fa)
    (hs : ∀ i, starEach (e :: [.Name "list" p2]) (Xs i).env = (false, eval e (Xs i).env) :: starEach [.Name "list" p2] (Xs i).env := by intro _; rfl) (hs2 : ∀ i, starEach [.Name "list" p2] (Xs i).env = (false, eval (.Name "list" p2) (Xs i).env) :: starEach [] (Xs i).env := by intro _; rfl)
    (hpl : ∀ i, (backTo pos (starEach [.Name "list" p2] (Xs i).env)).any (·.1) = false := by intro _; rfl) : SdE Xs K (.Call (.Name "isinstance" p) [e, .Name "list" p2] [] pos) (fIsi "list" fa) :=
  sd_isi "list" F.K (by decide +kernel) ha hg (fun i => by rw [F.mg i]; exact hm) hg2 (fun i => by rw [F.mg i]; exact hm2) b_list b_isinstance (by decide) (by decide) hs hs2 hpl
theorem sd_is_tuple (F : Fam Xs P w K mg base k) (hm : mg "isinstance" = none) (hm2 : mg "tuple" = none) (hg : ∀ i, Gl (Xs i) "isinstance") (hg2 : ∀ i, Gl (Xs i) "tuple") {p2 : Pos} (ha : SdE Xs K e fa)
    (hs : ∀ i, starEach (e :: [.Name "tuple" p2]) (Xs i).env = (false, eval e (Xs i).env) :: starEach [.Name "tuple" p2] (Xs i).env := by intro _; rfl) (hs2 : ∀ i, starEach [.Name "tuple" p2] (Xs i).env = (false, eval (.Name "tuple" p2) (Xs i).env) :: starEach [] (Xs i).env := by intro _; rfl)
    (hpl : ∀ i, (backTo pos (starEach [.Name "tuple" p2] (Xs i).env)).any (·.1) = false := by intro _; rfl) : SdE Xs K (.Call (.Name "isinstance" p) [e, .Name "tuple" p2] [] pos) (fIsi "tuple" fa) :=
  sd_isi "tuple" F.K (by decide +kernel) ha hg (fun i => by rw [F.mg i]; exact hm) hg2 (fun i => by rw [F.mg i]; exact hm2) b_tuple b_isinstance (by decide) (by decide) hs hs2 hpl
end
end Sd

namespace Sd
open PySem PySem.Spec L2
theorem FnOk.none {P : Program} {w : World} {K : PySem.W.Frag} {mg : Str → Option Value} {base : Heap} {k : Nat} {f : Addr} {fd : FuncData} {ps : List Str} {n : Nat} : FnOk P w K mg base CX0 k f fd ps (spD K n fun _ _ => Option.none) :=
  ⟨fun vs H Q E h => (by obtain ⟨_, _, _, _, _, _, _, _, _, _, _, e, _⟩ := h; cases e), fun A outer s H args us vs Q E hr he hb hv hs => by obtain ⟨_, _, _, _, _, _, _, _, _, _, _, e, _⟩ := hs; cases e⟩
theorem Callee.never {P : Program} {w : World} {K : PySem.W.Frag} {mg : Str → Option Value} {base : Heap} {k : Nat} {x : Str} {f : Addr} {fd : FuncData} {ps : List Str} {n : Nat} {m : DF} (hm : mg x = some (.ref f)) (kp : PySem.W.keepIn K (.ref f) = true) (hb : Binds K fd ps []) (h : m = fun _ _ => Option.none) : Callee P w K mg base k x n m := by
  subst h
  exact ⟨f, fd, ps, FnOk.none, hm, kp, hb⟩
end Sd

namespace Sd
open PySem PySem.Spec L2
/-! ### Sd18: stepping through the functions on data -/
def Ev (f : ES) (ρ : List Sl) (g : G) (Q : R → G → Prop) : Prop := ∃ r g', f ρ g = some (r, g') ∧ Q r g'
def Vw (f : ES) (ρ : List Sl) (g : G) (Q : D → G → Prop) : Prop := ∃ d g', vw f ρ g = some (d, g') ∧ Q d g'
def Vl (f : ES) (ρ : List Sl) (g : G) (Q : D → G → Prop) : Prop := ∃ d g', vl f ρ g = some (d, g') ∧ Q d g'
def Va (f : EA) (ρ : List Sl) (g : G) (Q : List D → G → Prop) : Prop := ∃ ds g', f ρ g = some (ds, g') ∧ Q ds g'
def Vu (f : EU) (ρ : List Sl) (g : G) (Q : List Sl → G → Prop) : Prop := ∃ ds g', f ρ g = some (ds, g') ∧ Q ds g'
def Tt (f : EB) (ρ : List Sl) (g : G) (Q : Bool → G → Prop) : Prop := ∃ b g', f ρ g = some (b, g') ∧ Q b g'
def Go (f : BS) (ρ : List Sl) (g : G) (Q : Fl → List Sl → G → Prop) : Prop := ∃ fl ρ' g', f ρ g = some (fl, ρ', g') ∧ Q fl ρ' g'
def Gm (m : DF) (ss : List Sl) (g : G) (Q : D → G → Prop) : Prop := ∃ d g', m ss g = some (d, g') ∧ Q d g'
section
variable {ρ : List Sl} {g g1 g2 : G} {f fa fb : ES} {fA : EA} {fU : EU} {c ca cb : EB} {b b1 b2 : BS} {d : D} {r : R}
theorem Ev.of {Q : R → G → Prop} (h : f ρ g = some (r, g1)) (q : Q r g1) : Ev f ρ g Q := ⟨_, _, h, q⟩
theorem Vw.of {Q : D → G → Prop} (h : vw f ρ g = some (d, g1)) (q : Q d g1) : Vw f ρ g Q := ⟨_, _, h, q⟩
theorem Vl.of {Q : D → G → Prop} (h : vl f ρ g = some (d, g1)) (q : Q d g1) : Vl f ρ g Q := ⟨_, _, h, q⟩
theorem Tt.of {x : Bool} {Q : Bool → G → Prop} (h : c ρ g = some (x, g1)) (q : Q x g1) : Tt c ρ g Q := ⟨_, _, h, q⟩
theorem Go.of {fl : Fl} {ρ' : List Sl} {Q : Fl → List Sl → G → Prop} (h : b ρ g = some (fl, ρ', g1)) (q : Q fl ρ' g1) : Go b ρ g Q := ⟨_, _, _, h, q⟩
theorem Gm.imp {m : DF} {ss : List Sl} {Q Q' : D → G → Prop} (h : Gm m ss g Q) (i : ∀ d g', Q d g' → Q' d g') : Gm m ss g Q' := by
  obtain ⟨d, g', e, q⟩ := h
  exact ⟨d, g', e, i _ _ q⟩
theorem Go.imp {Q Q' : Fl → List Sl → G → Prop} (h : Go b ρ g Q) (i : ∀ fl ρ' g', Q fl ρ' g' → Q' fl ρ' g') : Go b ρ g Q' := by
  obtain ⟨fl, ρ', g', e, q⟩ := h
  exact ⟨fl, ρ', g', e, i _ _ _ q⟩
/-- the data of a result, where it is no slot's own -/
def Rd' : R → Option D
  | .d d => some d
  | .f xs => some (.list xs)
  | .fd _ es => some (.dict es)
  | _ => none
theorem Vw.ev {Q : D → G → Prop} (h : Ev f ρ g fun r g' => ∃ d, Rd' r = some d ∧ Q d g') : Vw f ρ g Q := by
  obtain ⟨r, g', e, d, h, q⟩ := h
  refine ⟨d, g', ?_, q⟩
  unfold vw
  rw [e]
  cases r <;> first | (cases h; rfl) | cases h
theorem Vl.ev {Q : D → G → Prop} (h : Ev f ρ g fun r g' => ∃ d, Rd' r = some d ∧ Q d g') : Vl f ρ g Q := by
  obtain ⟨r, g', e, d, h, q⟩ := h
  refine ⟨d, g', ?_, q⟩
  unfold vl
  rw [e]
  cases r <;> first | (cases h; rfl) | cases h
def rvD : RV → D
  | .d d => d
  | .f xs => .list xs
  | .fd _ es => .dict es
theorem rd_rv (r : RV) : Rd' r.r = some (rvD r) := by cases r <;> rfl
theorem Ev.op2 {φ : D → D → Option RV} {Q : R → G → Prop} (h : Vw fa ρ g fun x g1 => Vw fb ρ g1 fun y g2 => ∃ r, φ x y = some r ∧ Q r.r g2) : Ev (op2 φ fa fb) ρ g Q := by
  obtain ⟨x, g1, e1, y, g2, e2, r, e3, q⟩ := h
  refine ⟨r.r, g2, ?_, q⟩
  unfold Sd.op2
  rw [e1]
  show (vw fb ρ g1).bind _ = _
  rw [e2]
  show (φ x y).map _ = _
  rw [e3]
  rfl
theorem Vw.op2 {φ : D → D → Option RV} {Q : D → G → Prop} (h : Vw fa ρ g fun x g1 => Vw fb ρ g1 fun y g2 => ∃ r, φ x y = some r ∧ Q (rvD r) g2) : Vw (op2 φ fa fb) ρ g Q := by
  obtain ⟨x, g1, e1, y, g2, e2, r, e3, q⟩ := h
  exact .ev (.op2 ⟨x, g1, e1, y, g2, e2, r, e3, _, rd_rv r, q⟩)
theorem Vl.op2 {φ : D → D → Option RV} {Q : D → G → Prop} (h : Vw fa ρ g fun x g1 => Vw fb ρ g1 fun y g2 => ∃ r, φ x y = some r ∧ Q (rvD r) g2) : Vl (op2 φ fa fb) ρ g Q := by
  obtain ⟨x, g1, e1, y, g2, e2, r, e3, q⟩ := h
  exact .ev (.op2 ⟨x, g1, e1, y, g2, e2, r, e3, _, rd_rv r, q⟩)
theorem Ev.opL {φ : List D → Option RV} {Q : R → G → Prop} (h : Va fA ρ g fun ds g1 => ∃ r, φ ds = some r ∧ Q r.r g1) : Ev (opL φ fA) ρ g Q := by
  obtain ⟨ds, g1, e1, r, e3, q⟩ := h
  refine ⟨r.r, g1, ?_, q⟩
  unfold Sd.opL
  rw [e1]
  show (φ ds).map _ = _
  rw [e3]
  rfl
theorem Vw.opL {φ : List D → Option RV} {Q : D → G → Prop} (h : Va fA ρ g fun ds g1 => ∃ r, φ ds = some r ∧ Q (rvD r) g1) : Vw (opL φ fA) ρ g Q := by
  obtain ⟨ds, g1, e1, r, e3, q⟩ := h
  exact .ev (.opL ⟨ds, g1, e1, r, e3, _, rd_rv r, q⟩)
theorem Vl.opL {φ : List D → Option RV} {Q : D → G → Prop} (h : Va fA ρ g fun ds g1 => ∃ r, φ ds = some r ∧ Q (rvD r) g1) : Vl (opL φ fA) ρ g Q := by
  obtain ⟨ds, g1, e1, r, e3, q⟩ := h
  exact .ev (.opL ⟨ds, g1, e1, r, e3, _, rd_rv r, q⟩)
theorem Va.nil {Q : List D → G → Prop} (q : Q [] g) : Va fNilA ρ g Q := ⟨_, _, rfl, q⟩
theorem Va.consA {fr : EA} {Q : List D → G → Prop} (h : Vw f ρ g fun d g1 => Va fr ρ g1 fun ds g2 => Q (d :: ds) g2) : Va (fConsA f fr) ρ g Q := by
  obtain ⟨d, g1, e1, ds, g2, e2, q⟩ := h
  refine ⟨_, _, ?_, q⟩
  unfold fConsA
  rw [e1]
  show (fr ρ g1).map _ = _
  rw [e2]
  rfl
theorem Va.consV {fr : EA} {Q : List D → G → Prop} (h : Vl f ρ g fun d g1 => Va fr ρ g1 fun ds g2 => Q (d :: ds) g2) : Va (fConsV f fr) ρ g Q := by
  obtain ⟨d, g1, e1, ds, g2, e2, q⟩ := h
  refine ⟨_, _, ?_, q⟩
  unfold fConsV
  rw [e1]
  show (fr ρ g1).map _ = _
  rw [e2]
  rfl
theorem Vu.nil {Q : List Sl → G → Prop} (q : Q [] g) : Vu fNilU ρ g Q := ⟨_, _, rfl, q⟩
theorem Vu.cons {fr : EU} {Q : List Sl → G → Prop} (h : Vl f ρ g fun d g1 => Vu fr ρ g1 fun ds g2 => Q (.sh d :: ds) g2) : Vu (fConsU f fr) ρ g Q := by
  obtain ⟨d, g1, e1, ds, g2, e2, q⟩ := h
  refine ⟨_, _, ?_, q⟩
  have ea : ar f ρ g = some (.sh d, g1) := by
    unfold ar
    rw [e1]
    split
    · rename_i e
      unfold vl at e1
      rw [e] at e1
      cases e1
    · rfl
  unfold fConsU
  rw [ea]
  show (fr ρ g1).map _ = _
  rw [e2]
  rfl
theorem Vu.consSt {i : Nat} {fr : EU} {Q : List Sl → G → Prop} (hi : ρ[i]? = some .st) (h : Vu fr ρ g fun ds g2 => Q (.st :: ds) g2) : Vu (fConsU (fVar i) fr) ρ g Q := by
  obtain ⟨ds, g2, e2, q⟩ := h
  refine ⟨_, _, ?_, q⟩
  have ea : ar (fVar i) ρ g = some (.st, g) := by
    unfold ar fVar
    rw [hi]
    rfl
  unfold fConsU
  rw [ea]
  show (fr ρ g).map _ = _
  rw [e2]
  rfl
theorem Ev.call {n : Nat} {m : DF} {Q : R → G → Prop} (h : Vu fU ρ g fun ss g1 => ss.length = n ∧ Gm m ss g1 fun d g2 => Q (.d d) g2) : Ev (fCall n m fU) ρ g Q := by
  obtain ⟨ss, g1, e1, hl, d, g2, e2, q⟩ := h
  refine ⟨_, _, ?_, q⟩
  unfold fCall
  rw [e1]
  show (if ss.length = n then _ else _) = _
  rw [if_pos hl, e2]
  rfl
theorem Vw.call {n : Nat} {m : DF} {Q : D → G → Prop} (h : Vu fU ρ g fun ss g1 => ss.length = n ∧ Gm m ss g1 Q) : Vw (fCall n m fU) ρ g Q := by
  obtain ⟨ss, g1, e1, hl, d, g2, e2, q⟩ := h
  exact .ev (.call ⟨ss, g1, e1, hl, d, g2, e2, _, rfl, q⟩)
theorem Vl.call {n : Nat} {m : DF} {Q : D → G → Prop} (h : Vu fU ρ g fun ss g1 => ss.length = n ∧ Gm m ss g1 Q) : Vl (fCall n m fU) ρ g Q := by
  obtain ⟨ss, g1, e1, hl, d, g2, e2, q⟩ := h
  exact .ev (.call ⟨ss, g1, e1, hl, d, g2, e2, _, rfl, q⟩)
theorem Ev.comp {vs : List Nat} {fi : EI} {tg : FG} {tt : EB} {fe : ES} {Q : R → G → Prop} (h : Va fi ρ g fun ds g1 => ∃ rs g2, compL (cStep (wipeS ρ vs) tg tt fe) ds g1 = some (rs, g2) ∧ rs.length ≤ sizeLine ∧ Q (.f rs) g2) : Ev (fComp vs fi tg tt fe) ρ g Q := by
  obtain ⟨ds, g1, e1, rs, g2, e2, hl, q⟩ := h
  refine ⟨_, _, ?_, q⟩
  unfold fComp
  rw [e1]
  show (compL _ ds g1).bind _ = _
  rw [e2]
  show (if rs.length ≤ sizeLine then _ else _) = _
  rw [if_pos hl]
theorem Vw.comp {vs : List Nat} {fi : EI} {tg : FG} {tt : EB} {fe : ES} {Q : D → G → Prop} (h : Va fi ρ g fun ds g1 => ∃ rs g2, compL (cStep (wipeS ρ vs) tg tt fe) ds g1 = some (rs, g2) ∧ rs.length ≤ sizeLine ∧ Q (.list rs) g2) : Vw (fComp vs fi tg tt fe) ρ g Q := by
  obtain ⟨ds, g1, e1, rs, g2, e2, hl, q⟩ := h
  exact .ev (.comp ⟨ds, g1, e1, rs, g2, e2, hl, _, rfl, q⟩)
theorem Vl.comp {vs : List Nat} {fi : EI} {tg : FG} {tt : EB} {fe : ES} {Q : D → G → Prop} (h : Va fi ρ g fun ds g1 => ∃ rs g2, compL (cStep (wipeS ρ vs) tg tt fe) ds g1 = some (rs, g2) ∧ rs.length ≤ sizeLine ∧ Q (.list rs) g2) : Vl (fComp vs fi tg tt fe) ρ g Q := by
  obtain ⟨ds, g1, e1, rs, g2, e2, hl, q⟩ := h
  exact .ev (.comp ⟨ds, g1, e1, rs, g2, e2, hl, _, rfl, q⟩)
theorem Va.seqV {Q : List D → G → Prop} (h : Vw f ρ g fun d g1 => ∃ ds, seqOf d = some ds ∧ Q ds g1) : Va (iSeqV f) ρ g Q := by
  obtain ⟨d, g1, e1, ds, e2, q⟩ := h
  refine ⟨_, _, ?_, q⟩
  unfold iSeqV
  rw [e1]
  show (seqOf d).map _ = _
  rw [e2]
  rfl
theorem Va.seq {Q : List D → G → Prop} (h : Vl f ρ g fun d g1 => ∃ ds, seqOf d = some ds ∧ Q ds g1) : Va (iSeq f) ρ g Q := by
  obtain ⟨d, g1, e1, ds, e2, q⟩ := h
  refine ⟨_, _, ?_, q⟩
  unfold iSeq
  rw [e1]
  show (seqOf d).map _ = _
  rw [e2]
  rfl
theorem Va.range1 {Q : List D → G → Prop} (h : Va fA ρ g fun ds g1 => ∃ j, ds = [.int j] ∧ smallR j = true ∧ Q (rngD 0 j.toNat) g1) : Va (iRange1 fA) ρ g Q := by
  obtain ⟨ds, g1, e1, j, rfl, hj, q⟩ := h
  refine ⟨_, _, ?_, q⟩
  unfold iRange1
  rw [e1]
  show (if smallR j = true then _ else _) = _
  rw [if_pos hj]
theorem Va.range2 {Q : List D → G → Prop} (h : Va fA ρ g fun ds g1 => ∃ i j, ds = [.int i, .int j] ∧ (smallR i && smallR j) = true ∧ Q (rngD i (j - i).toNat) g1) : Va (iRange2 fA) ρ g Q := by
  obtain ⟨ds, g1, e1, i, j, rfl, hj, q⟩ := h
  refine ⟨_, _, ?_, q⟩
  unfold iRange2
  rw [e1]
  show (if (smallR i && smallR j) = true then _ else _) = _
  rw [if_pos hj]
theorem Tt.tst {Q : Bool → G → Prop} (h : Vw f ρ g fun d g1 => ∃ x, d = .bool x ∧ Q x g1) : Tt (tst f) ρ g Q := by
  obtain ⟨d, g1, e1, x, rfl, q⟩ := h
  refine ⟨_, _, ?_, q⟩
  unfold Sd.tst
  rw [e1]
  rfl
theorem Tt.not {Q : Bool → G → Prop} (h : Tt c ρ g fun x g1 => Q (!x) g1) : Tt (bNot c) ρ g Q := by
  obtain ⟨x, g1, e1, q⟩ := h
  refine ⟨_, _, ?_, q⟩
  unfold bNot
  rw [e1]
  rfl
theorem Tt.and {Q : Bool → G → Prop} (h : Tt ca ρ g fun x g1 => if x = true then Tt cb ρ g1 Q else Q false g1) : Tt (bAnd ca cb) ρ g Q := by
  obtain ⟨x, g1, e1, q⟩ := h
  cases x with
  | true =>
    obtain ⟨y, g2, e2, q⟩ := q
    exact ⟨y, g2, by unfold bAnd; rw [e1]; exact e2, q⟩
  | false => exact ⟨false, g1, by unfold bAnd; rw [e1]; rfl, q⟩
theorem Tt.or {Q : Bool → G → Prop} (h : Tt ca ρ g fun x g1 => if x = true then Q true g1 else Tt cb ρ g1 Q) : Tt (bOr ca cb) ρ g Q := by
  obtain ⟨x, g1, e1, q⟩ := h
  cases x with
  | false =>
    obtain ⟨y, g2, e2, q⟩ := q
    exact ⟨y, g2, by unfold bOr; rw [e1]; exact e2, q⟩
  | true => exact ⟨true, g1, by unfold bOr; rw [e1]; rfl, q⟩
theorem Ev.fIf {Q : R → G → Prop} (h : Tt c ρ g fun x g1 => if x = true then Ev fa ρ g1 Q else Ev fb ρ g1 Q) : Ev (fIf c fa fb) ρ g Q := by
  obtain ⟨x, g1, e1, q⟩ := h
  cases x with
  | true =>
    obtain ⟨y, g2, e2, q⟩ := q
    exact ⟨y, g2, by unfold Sd.fIf; rw [e1]; exact e2, q⟩
  | false =>
    obtain ⟨y, g2, e2, q⟩ := q
    exact ⟨y, g2, by unfold Sd.fIf; rw [e1]; exact e2, q⟩
theorem Ev.fAnd {Q : R → G → Prop} (h : Tt (Sd.tst fa) ρ g fun x g1 => if x = true then Ev fb ρ g1 Q else Q (.d (.bool false)) g1) : Ev (fAnd fa fb) ρ g Q := by
  obtain ⟨x, g1, e1, q⟩ := h
  cases x with
  | true =>
    obtain ⟨y, g2, e2, q⟩ := q
    exact ⟨y, g2, by unfold Sd.fAnd; rw [e1]; exact e2, q⟩
  | false => exact ⟨_, g1, by unfold Sd.fAnd; rw [e1]; rfl, q⟩
theorem Ev.fOr {Q : R → G → Prop} (h : Tt (Sd.tst fa) ρ g fun x g1 => if x = true then Q (.d (.bool true)) g1 else Ev fb ρ g1 Q) : Ev (fOr fa fb) ρ g Q := by
  obtain ⟨x, g1, e1, q⟩ := h
  cases x with
  | false =>
    obtain ⟨y, g2, e2, q⟩ := q
    exact ⟨y, g2, by unfold Sd.fOr; rw [e1]; exact e2, q⟩
  | true => exact ⟨_, g1, by unfold Sd.fOr; rw [e1]; rfl, q⟩
theorem Ev.fNot {Q : R → G → Prop} (h : Tt (Sd.tst fa) ρ g fun x g1 => Q (.d (.bool (!x))) g1) : Ev (fNot fa) ρ g Q := by
  obtain ⟨x, g1, e1, q⟩ := h
  exact ⟨_, g1, by unfold Sd.fNot; rw [e1]; rfl, q⟩
theorem Ev.tup {Q : R → G → Prop} (h : Va fA ρ g fun ds g1 => ds.length ≤ 1000 ∧ Q (.d (.tuple ds)) g1) : Ev (fTup fA) ρ g Q := by
  obtain ⟨ds, g1, e1, hl, q⟩ := h
  exact ⟨_, g1, by unfold fTup; rw [e1]; show (if ds.length ≤ 1000 then _ else _) = _; rw [if_pos hl], q⟩
theorem Ev.lst {Q : R → G → Prop} (h : Va fA ρ g fun ds g1 => ds.length ≤ 1000 ∧ Q (.f ds) g1) : Ev (fLst fA) ρ g Q := by
  obtain ⟨ds, g1, e1, hl, q⟩ := h
  exact ⟨_, g1, by unfold fLst; rw [e1]; show (if ds.length ≤ 1000 then _ else _) = _; rw [if_pos hl], q⟩
/-! statements -/
theorem Go.seq {Q : Fl → List Sl → G → Prop} (h : Go b1 ρ g fun fl ρ1 g1 => match fl with | .nx => Go b2 ρ1 g1 Q | fl => Q fl ρ1 g1) : Go (sSeq b1 b2) ρ g Q := by
  obtain ⟨fl, ρ1, g1, e1, q⟩ := h
  cases fl with
  | nx =>
    obtain ⟨fl2, ρ2, g2, e2, q⟩ := q
    exact ⟨fl2, ρ2, g2, by unfold sSeq; rw [e1]; exact e2, q⟩
  | ret d => exact ⟨_, _, _, by unfold sSeq; rw [e1]; rfl, q⟩
  | bk => exact ⟨_, _, _, by unfold sSeq; rw [e1]; rfl, q⟩
  | ct => exact ⟨_, _, _, by unfold sSeq; rw [e1]; rfl, q⟩
theorem Go.nx {Q : Fl → List Sl → G → Prop} (q : Q .nx ρ g) : Go sNx ρ g Q := ⟨_, _, _, rfl, q⟩
theorem Go.ite {Q : Fl → List Sl → G → Prop} (h : Tt c ρ g fun x g1 => if x = true then Go b1 ρ g1 Q else Go b2 ρ g1 Q) : Go (sIf c b1 b2) ρ g Q := by
  obtain ⟨x, g1, e1, q⟩ := h
  cases x with
  | true =>
    obtain ⟨fl, ρ2, g2, e2, q⟩ := q
    exact ⟨_, _, _, by unfold sIf; rw [e1]; exact e2, q⟩
  | false =>
    obtain ⟨fl, ρ2, g2, e2, q⟩ := q
    exact ⟨_, _, _, by unfold sIf; rw [e1]; exact e2, q⟩
theorem Go.ret {Q : Fl → List Sl → G → Prop} (h : Vw f ρ g fun d g1 => Q (.ret d) ρ g1) : Go (sRet f) ρ g Q := by
  obtain ⟨d, g1, e1, q⟩ := h
  exact ⟨_, _, _, by unfold sRet; rw [e1]; rfl, q⟩
theorem Go.asg {i : Nat} {Q : Fl → List Sl → G → Prop} (h : Ev f ρ g fun r g1 => ∃ s, stSl r = some s ∧ Q .nx (ρ.set i s) g1) : Go (sAsg i f) ρ g Q := by
  obtain ⟨r, g1, e1, s, e2, q⟩ := h
  exact ⟨_, _, _, by unfold sAsg; rw [e1]; show (stSl r).map _ = _; rw [e2]; rfl, q⟩
theorem Go.asgG {fg : FG} {Q : Fl → List Sl → G → Prop} (h : Vl f ρ g fun d g1 => ∃ ρ', fg d ρ = some ρ' ∧ Q .nx ρ' g1) : Go (sAsgG fg f) ρ g Q := by
  obtain ⟨d, g1, e1, ρ', e2, q⟩ := h
  exact ⟨_, _, _, by unfold sAsgG; rw [e1]; show (fg d ρ).map _ = _; rw [e2]; rfl, q⟩
theorem Go.par {i j : Nat} {Q : Fl → List Sl → G → Prop} (h : Va fA ρ g fun ds g1 => ∃ x y, ds = [x, y] ∧ Q .nx ((ρ.set i (.sh x)).set j (.sh y)) g1) : Go (sPar i j fA) ρ g Q := by
  obtain ⟨ds, g1, e1, x, y, rfl, q⟩ := h
  exact ⟨_, _, _, by unfold sPar; rw [e1]; rfl, q⟩
theorem Go.inc {i : Nat} {a : Int} {Q : Fl → List Sl → G → Prop} (hi : ρ[i]? = some (.sh (.int a))) (h : Vw f ρ g fun d g1 => ∃ x, d = .int x ∧ Q .nx (ρ.set i (.sh (.int (a + x)))) g1) : Go (sInc i f) ρ g Q := by
  obtain ⟨d, g1, e1, x, rfl, q⟩ := h
  exact ⟨_, _, _, by unfold sInc; rw [hi]; show (vw f ρ g).bind _ = _; rw [e1]; rfl, q⟩
theorem Go.put {i : Nat} {s : Sl} {Q : Fl → List Sl → G → Prop} (hi : ρ[i]? = some s) (h : Vl fb ρ g fun x g1 => Vl fa ρ g1 fun k g2 => ∃ s', setAt s k x = some s' ∧ Q .nx (ρ.set i s') g2) : Go (sPut i fa fb) ρ g Q := by
  obtain ⟨x, g1, e1, k, g2, e2, s', e3, q⟩ := h
  exact ⟨_, _, _, by unfold sPut; rw [e1]; show (vl fa ρ g1).bind _ = _; rw [e2]; show (match ρ[i]? with | some s => _ | none => _) = _; rw [hi]; show (setAt s k x).map _ = _; rw [e3]; rfl, q⟩
theorem Go.app {i : Nat} {xs : List D} {Q : Fl → List Sl → G → Prop} (hi : ρ[i]? = some (.ol xs)) (hl : xs.length < sizeLine) (h : Vl f ρ g fun x g1 => Q .nx (ρ.set i (.ol (xs ++ [x]))) g1) : Go (sApp i f) ρ g Q := by
  obtain ⟨x, g1, e1, q⟩ := h
  refine ⟨_, _, _, ?_, q⟩
  unfold sApp
  rw [e1]
  show (match ρ[i]? with | some (.ol xs) => _ | _ => _) = _
  rw [hi]
  show (if xs.length < sizeLine then _ else _) = _
  rw [if_pos hl]
theorem Go.frzL {i : Nat} {xs : List D} {Q : Fl → List Sl → G → Prop} (hi : ρ[i]? = some (.ol xs)) (h : Go b (ρ.set i (.sh (.list xs))) g Q) : Go (sFrz i b) ρ g Q := by
  obtain ⟨fl, ρ', g', e, q⟩ := h
  exact ⟨_, _, _, by unfold sFrz; rw [hi]; exact e, q⟩
theorem Go.frzD {i : Nat} {t : Bool} {es : List (D × D)} {Q : Fl → List Sl → G → Prop} (hi : ρ[i]? = some (.od t es)) (h : Go b (ρ.set i (.sh (.dict es))) g Q) : Go (sFrz i b) ρ g Q := by
  obtain ⟨fl, ρ', g', e, q⟩ := h
  exact ⟨_, _, _, by unfold sFrz; rw [hi]; exact e, q⟩
theorem Go.frzS {i : Nat} {d : D} {Q : Fl → List Sl → G → Prop} (hi : ρ[i]? = some (.sh d)) (h : Go b ρ g Q) : Go (sFrz i b) ρ g Q := by
  obtain ⟨fl, ρ', g', e, q⟩ := h
  exact ⟨_, _, _, by unfold sFrz; rw [hi]; exact e, q⟩
theorem Go.loop {fi : EI} {fg : FG} {Q : Fl → List Sl → G → Prop} (h : Va fi ρ g fun ds g1 => Go (forL fg b ds) ρ g1 Q) : Go (sFor fi fg b) ρ g Q := by
  obtain ⟨ds, g1, e1, fl, ρ', g', e, q⟩ := h
  exact ⟨_, _, _, by unfold sFor; rw [e1]; exact e, q⟩
/-- a loop over l: I, by what has been walked; Rt: how it may return -/
theorem Go.forL {α : Type} {enc : α → D} {fg : FG} {Q : Fl → List Sl → G → Prop} (l : List α) (I : List α → List Sl → G → Prop) (h0 : I [] ρ g)
    (step : ∀ pre a post ρ g, l = pre ++ a :: post → I pre ρ g → ∃ ρ1, fg (enc a) ρ = some ρ1 ∧ Go b ρ1 g fun fl ρ2 g2 => match fl with
      | .nx => I (pre ++ [a]) ρ2 g2
      | .ct => I (pre ++ [a]) ρ2 g2
      | .bk => Q .nx ρ2 g2
      | .ret d => Q (.ret d) ρ2 g2)
    (fin : ∀ ρ g, I l ρ g → Q .nx ρ g) : Go (Sd.forL fg b (l.map enc)) ρ g Q := by
  have key : ∀ (post pre : List α) (ρ : List Sl) (g : G), l = pre ++ post → I pre ρ g → Go (Sd.forL fg b (post.map enc)) ρ g Q := by
    intro post
    induction post with
    | nil =>
      intro pre ρ g e h
      rw [List.append_nil] at e
      subst e
      exact ⟨_, _, _, rfl, fin _ _ h⟩
    | cons a post ih =>
      intro pre ρ g e h
      obtain ⟨ρ1, e1, fl, ρ2, g2, e2, q⟩ := step pre a post ρ g e h
      cases fl with
      | nx =>
        obtain ⟨fl3, ρ3, g3, e3, q3⟩ := ih (pre ++ [a]) ρ2 g2 (by rw [e]; simp) q
        exact ⟨fl3, ρ3, g3, (show Sd.forL fg b ((a :: post).map enc) ρ g = Sd.forL fg b (post.map enc) ρ2 g2 by
          show ((fg (enc a) ρ).bind _) = _
          rw [e1]
          show (b ρ1 g).bind _ = _
          rw [e2]
          rfl).trans e3, q3⟩
      | ct =>
        obtain ⟨fl3, ρ3, g3, e3, q3⟩ := ih (pre ++ [a]) ρ2 g2 (by rw [e]; simp) q
        exact ⟨fl3, ρ3, g3, (show Sd.forL fg b ((a :: post).map enc) ρ g = Sd.forL fg b (post.map enc) ρ2 g2 by
          show ((fg (enc a) ρ).bind _) = _
          rw [e1]
          show (b ρ1 g).bind _ = _
          rw [e2]
          rfl).trans e3, q3⟩
      | bk => exact ⟨_, _, _, (show Sd.forL fg b ((a :: post).map enc) ρ g = some (.nx, ρ2, g2) by
          show ((fg (enc a) ρ).bind _) = _
          rw [e1]
          show (b ρ1 g).bind _ = _
          rw [e2]
          rfl), q⟩
      | ret d => exact ⟨_, _, _, (show Sd.forL fg b ((a :: post).map enc) ρ g = some (.ret d, ρ2, g2) by
          show ((fg (enc a) ρ).bind _) = _
          rw [e1]
          show (b ρ1 g).bind _ = _
          rw [e2]
          rfl), q⟩
  exact key l [] ρ g rfl h0
/-- while, by a measure -/
theorem Go.while {Q : Fl → List Sl → G → Prop} (I : Nat → List Sl → G → Prop) {m0 : Nat} (h0 : I m0 ρ g)
    (step : ∀ m ρ g, I m ρ g → Tt c ρ g fun x g1 => if x = true then Go b ρ g1 fun fl ρ2 g2 => match fl with
      | .nx => ∃ m', m' < m ∧ I m' ρ2 g2
      | .ct => ∃ m', m' < m ∧ I m' ρ2 g2
      | .bk => Q .nx ρ2 g2
      | .ret d => Q (.ret d) ρ2 g2
      else Q .nx ρ g1) : Go (sWhile c b) ρ g Q := by
  have key : ∀ (k m : Nat) (ρ : List Sl) (g : G), m < k → I m ρ g → ∃ fl ρ' g', whileL c b k ρ g = some (fl, ρ', g') ∧ Q fl ρ' g' := by
    intro k
    induction k with
    | zero => intro m ρ g h; omega
    | succ k ih =>
      intro m ρ g hm h
      obtain ⟨x, g1, e1, q⟩ := step m ρ g h
      cases x with
      | false => exact ⟨_, _, _, by unfold whileL; rw [e1]; rfl, q⟩
      | true =>
        obtain ⟨fl, ρ2, g2, e2, q⟩ := q
        cases fl with
        | nx =>
          obtain ⟨m', hm', h'⟩ := q
          obtain ⟨fl3, ρ3, g3, e3, q3⟩ := ih m' ρ2 g2 (by omega) h'
          exact ⟨fl3, ρ3, g3, (show whileL c b (k + 1) ρ g = whileL c b k ρ2 g2 by
            rw [whileL, e1]
            show (b ρ g1).bind _ = _
            rw [e2]
            rfl).trans e3, q3⟩
        | ct =>
          obtain ⟨m', hm', h'⟩ := q
          obtain ⟨fl3, ρ3, g3, e3, q3⟩ := ih m' ρ2 g2 (by omega) h'
          exact ⟨fl3, ρ3, g3, (show whileL c b (k + 1) ρ g = whileL c b k ρ2 g2 by
            rw [whileL, e1]
            show (b ρ g1).bind _ = _
            rw [e2]
            rfl).trans e3, q3⟩
        | bk => exact ⟨_, _, _, (show whileL c b (k + 1) ρ g = some (.nx, ρ2, g2) by
            rw [whileL, e1]
            show (b ρ g1).bind _ = _
            rw [e2]
            rfl), q⟩
        | ret d => exact ⟨_, _, _, (show whileL c b (k + 1) ρ g = some (.ret d, ρ2, g2) by
            rw [whileL, e1]
            show (b ρ g1).bind _ = _
            rw [e2]
            rfl), q⟩
  obtain ⟨fl, ρ', g', e, q⟩ := key (m0 + 1) m0 ρ g (Nat.lt_succ_self _) h0
  exact ⟨fl, ρ', g', sWhile_of e, q⟩
theorem Gm.run {n : Nat} {ss : List Sl} {Q : D → G → Prop} (h : Go b (ss ++ List.replicate (n - ss.length) .no) g fun fl _ g' => match fl with
    | .ret d => Q d g'
    | .nx => Q .none g'
    | _ => False) : Gm (runB n b) ss g Q := by
  obtain ⟨fl, ρ', g', e, q⟩ := h
  cases fl with
  | ret d => exact ⟨_, _, by unfold runB; rw [e], q⟩
  | nx => exact ⟨_, _, by unfold runB; rw [e], q⟩
  | bk => exact q.elim
  | ct => exact q.elim
end
/-! comprehensions' lists -/
theorem compL_pure {α : Type} {enc : α → D} {step : D → G → Option (List D × G)} {h : α → List D} {g : G} : ∀ {l : List α}, (∀ a ∈ l, step (enc a) g = some (h a, g)) → compL step (l.map enc) g = some (l.flatMap h, g)
  | [], _ => rfl
  | a :: l, hs => by
    rw [List.map_cons, compL, hs a (.head _)]
    show (compL step (l.map enc) g).map _ = _
    rw [compL_pure fun b hb => hs b (.tail _ hb)]
    rfl
theorem flatMap_ff {α β : Type} (p : α → Bool) (f : α → β) : ∀ l : List α, (l.flatMap fun a => if p a = true then [f a] else []) = (l.filter p).map f
  | [] => rfl
  | a :: l => by
    rw [List.flatMap_cons, flatMap_ff p f l, List.filter_cons]
    cases p a <;> rfl
theorem compL_ff {α : Type} {enc : α → D} {step : D → G → Option (List D × G)} (p : α → Bool) (f : α → D) {g : G} {l : List α} (hs : ∀ a ∈ l, step (enc a) g = some (if p a = true then [f a] else [], g)) : compL step (l.map enc) g = some ((l.filter p).map f, g) := by
  rw [compL_pure hs, flatMap_ff]
theorem compL_map {α : Type} {enc : α → D} {step : D → G → Option (List D × G)} (f : α → D) {g : G} {l : List α} (hs : ∀ a ∈ l, step (enc a) g = some ([f a], g)) : compL step (l.map enc) g = some (l.map f, g) := by
  rw [compL_pure hs]
  congr 2
  induction l with
  | nil => rfl
  | cons a l ih => rw [List.flatMap_cons, ih fun b hb => hs b (.tail _ hb)]; rfl
/-- with draws: the state's kind stays, each member meets P -/
theorem compL_rel {α β : Type} {enc : α → D} {dec : β → D} {step : D → G → Option (List D × G)} (I : G → Prop) (P : α → β → Prop) : ∀ {l : List α} {g : G}, I g → (∀ a ∈ l, ∀ g, I g → ∃ b g', step (enc a) g = some ([dec b], g') ∧ I g' ∧ P a b) →
    ∃ bs g', compL step (l.map enc) g = some (bs.map dec, g') ∧ I g' ∧ Paired P l bs
  | [], g, h, _ => ⟨[], g, rfl, h, .nil⟩
  | a :: l, g, h, hs => by
    obtain ⟨b, g1, e1, h1, p1⟩ := hs a (.head _) g h
    obtain ⟨bs, g2, e2, h2, p2⟩ := compL_rel I P h1 fun b hb => hs b (.tail _ hb)
    refine ⟨b :: bs, g2, ?_, h2, .cons p1 p2⟩
    rw [List.map_cons, compL, e1]
    show (compL step (l.map enc) g1).map _ = _
    rw [e2]
    rfl
end Sd

namespace Sd
open PySem PySem.Spec L2
/-! ### Sd19: data of numbers and pairs -/
def nI (x : Nat) : D := .int (x : Int)
def nP (p : Nat × Nat) : D := .tuple [.int (p.1 : Int), .int (p.2 : Int)]
/-- d may be compared: no dict in it, at most c deep -/
def Sh (c : Nat) (d : D) : Prop := PyData.canLay0 d = true ∧ d.depth ≤ c
theorem Sh.ok {c : Nat} {d : D} (h : Sh c d) (hc : c ≤ 64) : SeqAt.shaped d = true := by
  unfold SeqAt.shaped
  rw [h.1, Bool.true_and]
  exact decide_eq_true (Nat.le_trans h.2 hc)
theorem Sh.mono {c c' : Nat} {d : D} (h : Sh c d) (hc : c ≤ c') : Sh c' d := ⟨h.1, Nat.le_trans h.2 hc⟩
theorem canAll {ds : List D} (h : ∀ d ∈ ds, PyData.canLay0 d = true) : PyData.canLayAll0 ds = true := by
  induction ds with
  | nil => rw [PyData.canLayAll0]
  | cons d ds ih =>
    rw [PyData.canLayAll0, h d (.head _), ih fun e he => h e (.tail _ he)]
    rfl
theorem depthAll_le {ds : List D} {c : Nat} (h : ∀ d ∈ ds, d.depth ≤ c) : PyData.depthAll ds ≤ c := by
  induction ds with
  | nil => rw [PyData.depthAll]; exact Nat.zero_le _
  | cons d ds ih =>
    rw [PyData.depthAll]
    exact Nat.max_le.mpr ⟨h d (.head _), ih fun e he => h e (.tail _ he)⟩
theorem Sh.int (i : Int) : Sh 0 (.int i) := ⟨by rw [PyData.canLay0], by rw [PyData.depth]; exact Nat.le_refl _⟩
theorem Sh.bool (b : Bool) : Sh 0 (.bool b) := ⟨by rw [PyData.canLay0], by rw [PyData.depth]; exact Nat.le_refl _⟩
theorem Sh.none : Sh 0 .none := ⟨by rw [PyData.canLay0], by rw [PyData.depth]; exact Nat.le_refl _⟩
theorem Sh.list {c : Nat} {ds : List D} (h : ∀ d ∈ ds, Sh c d) : Sh (c + 1) (.list ds) :=
  ⟨by rw [PyData.canLay0]; exact canAll fun d hd => (h d hd).1, by rw [PyData.depth]; exact Nat.succ_le_succ (depthAll_le fun d hd => (h d hd).2)⟩
theorem Sh.tuple {c : Nat} {ds : List D} (h : ∀ d ∈ ds, Sh c d) : Sh (c + 1) (.tuple ds) :=
  ⟨by rw [PyData.canLay0]; exact canAll fun d hd => (h d hd).1, by rw [PyData.depth]; exact Nat.succ_le_succ (depthAll_le fun d hd => (h d hd).2)⟩
theorem Sh.listM {α : Type} {c : Nat} {enc : α → D} {l : List α} (h : ∀ a, Sh c (enc a)) : Sh (c + 1) (.list (l.map enc)) := .list fun d hd => by
  obtain ⟨a, _, rfl⟩ := List.mem_map.mp hd
  exact h a
theorem Sh.tupleM {α : Type} {c : Nat} {enc : α → D} {l : List α} (h : ∀ a, Sh c (enc a)) : Sh (c + 1) (.tuple (l.map enc)) := .tuple fun d hd => by
  obtain ⟨a, _, rfl⟩ := List.mem_map.mp hd
  exact h a
theorem Sh.nI (x : Nat) : Sh 0 (nI x) := .int _
theorem Sh.nP (p : Nat × Nat) : Sh 1 (nP p) := .tuple fun d hd => by
  simp at hd
  rcases hd with rfl | rfl <;> exact .int _
/-! equality -/
def Eqv {α : Type} [BEq α] (enc : α → D) : Prop := ∀ a b, PyData.eqv (enc a) (enc b) = (a == b)
theorem eqv_int (i j : Int) : PyData.eqv (.int i) (.int j) = (i == j) := by rw [PyData.eqv]
theorem eqv_nI : Eqv nI := fun a b => by
  show PyData.eqv (.int _) (.int _) = _
  rw [eqv_int, Bool.eq_iff_iff, beq_iff_eq, beq_iff_eq]
  exact Int.ofNat_inj
theorem eqvAll_map {α : Type} [DecidableEq α] {enc : α → D} (h : Eqv enc) : ∀ l m : List α, PyData.eqvAll (l.map enc) (m.map enc) = decide (l = m)
  | [], [] => by simp [PyData.eqvAll]
  | [], b :: m => by simp [PyData.eqvAll]
  | a :: l, [] => by simp [PyData.eqvAll]
  | a :: l, b :: m => by
    rw [List.map_cons, List.map_cons, PyData.eqvAll, h a b, eqvAll_map h l m, Bool.eq_iff_iff]
    simp
theorem eqv_list {α : Type} [DecidableEq α] {enc : α → D} (h : Eqv enc) (l m : List α) : PyData.eqv (.list (l.map enc)) (.list (m.map enc)) = decide (l = m) := by rw [PyData.eqv, eqvAll_map h]
theorem eqv_tuple {α : Type} [DecidableEq α] {enc : α → D} (h : Eqv enc) (l m : List α) : PyData.eqv (.tuple (l.map enc)) (.tuple (m.map enc)) = decide (l = m) := by rw [PyData.eqv, eqvAll_map h]
theorem eqv_nP : Eqv nP := fun a b => by
  show PyData.eqv (.tuple [.int _, .int _]) (.tuple [.int _, .int _]) = _
  rw [PyData.eqv, PyData.eqvAll, PyData.eqvAll, PyData.eqvAll, eqv_int, eqv_int, Bool.eq_iff_iff]
  simp only [Bool.and_eq_true, beq_iff_eq, Int.ofNat_inj, and_true]
  constructor
  · rintro ⟨h1, h2⟩
    exact Prod.ext h1 h2
  · rintro rfl
    exact ⟨rfl, rfl⟩
theorem eqvAll_nil (ds : List D) : PyData.eqvAll ds [] = ds.isEmpty := by cases ds <;> simp [PyData.eqvAll]
theorem φEq_nil {c : Nat} {ds : List D} (h : ∀ d ∈ ds, Sh c d) (hc : c ≤ 62) : φEq (.list ds) (.list []) = some (.d (.bool ds.isEmpty)) := by
  unfold φEq
  rw [(Sh.list h).ok (by omega), (Sh.list (c := 0) (ds := []) fun d hd => by cases hd).ok (by omega)]
  show some (RV.d (.bool (PyData.eqv _ _))) = _
  rw [PyData.eqv, eqvAll_nil]
theorem φEq_ok {c c' : Nat} {d e : D} (h : Sh c d) (h' : Sh c' e) (hc : c ≤ 64) (hc' : c' ≤ 64) : φEq d e = some (.d (.bool (PyData.eqv d e))) := by
  unfold φEq
  rw [h.ok hc, h'.ok hc']
  rfl
theorem φNe_ok {c c' : Nat} {d e : D} (h : Sh c d) (h' : Sh c' e) (hc : c ≤ 64) (hc' : c' ≤ 64) : φNe d e = some (.d (.bool (!PyData.eqv d e))) := by
  unfold φNe
  rw [h.ok hc, h'.ok hc']
  rfl
theorem φEq_int (i j : Int) : φEq (.int i) (.int j) = some (.d (.bool (decide (i = j)))) := by
  rw [φEq_ok (.int i) (.int j) (by omega) (by omega), eqv_int]
  rfl
theorem φNe_int (i j : Int) : φNe (.int i) (.int j) = some (.d (.bool (!decide (i = j)))) := by
  rw [φNe_ok (.int i) (.int j) (by omega) (by omega), eqv_int]
  rfl
theorem φIn_list {c : Nat} {k : D} {ds : List D} (hk : Sh c k) (h : ∀ d ∈ ds, Sh c d) (hc : c ≤ 62) : φIn k (.list ds) = some (.d (.bool (ds.any fun z => PyData.eqv z k))) := by
  unfold φIn
  dsimp only
  rw [hk.ok (by omega), (Sh.list h).ok (by omega)]
  rfl
theorem φIn_tuple {c : Nat} {k : D} {ds : List D} (hk : Sh c k) (h : ∀ d ∈ ds, Sh c d) (hc : c ≤ 62) : φIn k (.tuple ds) = some (.d (.bool (ds.any fun z => PyData.eqv z k))) := by
  unfold φIn
  dsimp only
  rw [hk.ok (by omega), (Sh.list h).ok (by omega)]
  rfl
theorem φNotIn_list {c : Nat} {k : D} {ds : List D} (hk : Sh c k) (h : ∀ d ∈ ds, Sh c d) (hc : c ≤ 62) : φNotIn k (.list ds) = some (.d (.bool (!ds.any fun z => PyData.eqv z k))) := by
  unfold φNotIn
  dsimp only
  rw [hk.ok (by omega), (Sh.list h).ok (by omega)]
  rfl
theorem φNotIn_tuple {c : Nat} {k : D} {ds : List D} (hk : Sh c k) (h : ∀ d ∈ ds, Sh c d) (hc : c ≤ 62) : φNotIn k (.tuple ds) = some (.d (.bool (!ds.any fun z => PyData.eqv z k))) := by
  unfold φNotIn
  dsimp only
  rw [hk.ok (by omega), (Sh.list h).ok (by omega)]
  rfl
theorem any_eqv {α : Type} [DecidableEq α] {enc : α → D} (h : Eqv enc) (l : List α) (k : α) : ((l.map enc).any fun z => PyData.eqv z (enc k)) = decide (k ∈ l) := by
  rw [Bool.eq_iff_iff, List.any_eq_true, decide_eq_true_iff]
  constructor
  · rintro ⟨z, hz, e⟩
    obtain ⟨a, ha, rfl⟩ := List.mem_map.mp hz
    rw [h a k, beq_iff_eq] at e
    exact e ▸ ha
  · intro hk
    exact ⟨enc k, List.mem_map_of_mem hk, by rw [h k k, beq_iff_eq]⟩
theorem φIn_nats (k : Nat) (l : List Nat) : φIn (nI k) (.list (l.map nI)) = some (.d (.bool (decide (k ∈ l)))) := by
  rw [φIn_list (.nI k) (c := 0) (fun d hd => by obtain ⟨a, _, rfl⟩ := List.mem_map.mp hd; exact .nI a) (by omega), any_eqv eqv_nI]
theorem φIn_natsT (k : Nat) (l : List Nat) : φIn (nI k) (.tuple (l.map nI)) = some (.d (.bool (decide (k ∈ l)))) := by
  rw [φIn_tuple (.nI k) (c := 0) (fun d hd => by obtain ⟨a, _, rfl⟩ := List.mem_map.mp hd; exact .nI a) (by omega), any_eqv eqv_nI]
theorem φNotIn_nats (k : Nat) (l : List Nat) : φNotIn (nI k) (.list (l.map nI)) = some (.d (.bool (!decide (k ∈ l)))) := by
  rw [φNotIn_list (.nI k) (c := 0) (fun d hd => by obtain ⟨a, _, rfl⟩ := List.mem_map.mp hd; exact .nI a) (by omega), any_eqv eqv_nI]
theorem φNotIn_natsT (k : Nat) (l : List Nat) : φNotIn (nI k) (.tuple (l.map nI)) = some (.d (.bool (!decide (k ∈ l)))) := by
  rw [φNotIn_tuple (.nI k) (c := 0) (fun d hd => by obtain ⟨a, _, rfl⟩ := List.mem_map.mp hd; exact .nI a) (by omega), any_eqv eqv_nI]
/-! items -/
theorem at_nat {ds : List D} {i : Nat} {d : D} (h : ds[i]? = some d) : φIxX (.list ds) (.int (i : Int)) = some (.d d) := by
  show (atI ds (i : Int)).map _ = _
  rw [atI_nat h]
  rfl
theorem at_natT {ds : List D} {i : Nat} {d : D} (h : ds[i]? = some d) : φIxX (.tuple ds) (.int (i : Int)) = some (.d d) := by
  show (atI ds (i : Int)).map _ = _
  rw [atI_nat h]
  rfl
theorem map_get {α β : Type} {f : α → β} {l : List α} {i : Nat} {a : α} (h : l[i]? = some a) : (l.map f)[i]? = some (f a) := by
  rw [List.getElem?_map, h]
  rfl
theorem range_get {n i : Nat} (h : i < n) : (List.range n)[i]? = some i := by
  rw [List.getElem?_eq_getElem (by rw [List.length_range]; exact h), List.getElem_range]
theorem set_nat {ds : List D} {i : Nat} {d : D} (h : i < ds.length) : setAt (.ol ds) (.int (i : Int)) d = some (.ol (ds.set i d)) := by
  show (ixN ds.length (i : Int)).map _ = _
  unfold ixN
  rw [if_pos (by omega), if_pos (by omega)]
  rfl
theorem rng0 (n : Nat) : rngD 0 ((n : Int)).toNat = (List.range n).map nI := by
  unfold rngD nI
  rw [Int.toNat_natCast]
  refine List.map_congr_left fun i _ => ?_
  rw [Int.zero_add]
theorem rng2 (a n : Nat) : rngD (a : Int) ((n : Int) - (a : Int)).toNat = (List.range' a (n - a)).map nI := by
  unfold rngD nI
  rw [show ((n : Int) - (a : Int)).toNat = n - a by omega, List.range'_eq_map_range, List.map_map]
  refine List.map_congr_left fun i _ => ?_
  show PyData.int _ = PyData.int _
  congr 1
theorem small_nat {n : Nat} (h : n < 4611686018427387904) : smallR (n : Int) = true := by
  unfold smallR
  rw [Bool.and_eq_true, decide_eq_true_iff, decide_eq_true_iff]
  omega
/-! sorted -/
theorem alike_int (i j : Int) : PySem.W.alike (.int i) (.int j) = true := by rw [PySem.W.alike]
theorem sortOk_ints {α : Type} (f : α → Int) (l : List α) : sortOk (l.map fun a => PyData.int (f a)) = true := by
  unfold sortOk
  simp only [Bool.and_eq_true, Bool.or_eq_true, List.all_eq_true, decide_eq_true_iff]
  refine ⟨⟨fun d hd e he => ?_, .inr fun d hd => ?_⟩, fun d hd => ?_⟩
  · obtain ⟨a, _, rfl⟩ := List.mem_map.mp hd
    obtain ⟨b, _, rfl⟩ := List.mem_map.mp he
    exact alike_int _ _
  · obtain ⟨a, _, rfl⟩ := List.mem_map.mp hd
    rfl
  · obtain ⟨a, _, rfl⟩ := List.mem_map.mp hd
    exact Nat.le_trans (Sh.int _).2 (Nat.zero_le _)
theorem sortD_map {α : Type} {enc : α → D} {le : α → α → Bool} (h : PySem.W.dataLe false enc = le) (l : List α) : sortD (l.map enc) = (l.mergeSort le).map enc := by
  unfold sortD
  rw [List.map_mergeSort (s := dle) (f := enc) fun a _ b _ => by rw [← h]; rfl]
theorem sorted_nats (l : List Nat) : φSorted [.list (l.map nI)] = some (.f ((l.mergeSort (fun a b => decide (a ≤ b))).map nI)) := by
  have h1 : sortOk (l.map nI) = true := sortOk_ints (fun a : Nat => (a : Int)) l
  have h2 : SeqAt.shaped (.list (l.map nI)) = true := (Sh.listM (c := 0) Sh.nI).ok (by omega)
  unfold φSorted
  dsimp only
  rw [h1, h2]
  show some (RV.f (sortD _)) = _
  rw [sortD_map (le := fun a b => decide (a ≤ b))]
  have := PySem.W.dataLe_int (fun a : Nat => (a : Int))
  refine Eq.trans this ?_
  funext a b
  rw [Bool.eq_iff_iff, decide_eq_true_iff, decide_eq_true_iff]
  omega
def pairLe (p q : Nat × Nat) : Bool := decide (p.1 < q.1 ∨ (p.1 = q.1 ∧ p.2 ≤ q.2))
theorem sorted_pairs (l : List (Nat × Nat)) : φSorted [.list (l.map nP)] = some (.f ((l.mergeSort pairLe).map nP)) := by
  have h1 : sortOk (l.map nP) = true := by
    unfold sortOk
    simp only [Bool.and_eq_true, Bool.or_eq_true, List.all_eq_true, decide_eq_true_iff]
    refine ⟨⟨fun d hd e he => ?_, .inl fun d hd => ?_⟩, fun d hd => ?_⟩
    · obtain ⟨a, _, rfl⟩ := List.mem_map.mp hd
      obtain ⟨b, _, rfl⟩ := List.mem_map.mp he
      show PySem.W.alike (.tuple [.int _, .int _]) (.tuple [.int _, .int _]) = true
      rw [PySem.W.alike, PySem.W.alikeAll, PySem.W.alikeAll, PySem.W.alikeAll, alike_int, alike_int]
      rfl
    · obtain ⟨a, _, rfl⟩ := List.mem_map.mp hd
      rfl
    · obtain ⟨a, _, rfl⟩ := List.mem_map.mp hd
      exact Nat.le_trans (Sh.nP a).2 (by omega)
  have h2 : SeqAt.shaped (.list (l.map nP)) = true := (Sh.listM (c := 1) Sh.nP).ok (by omega)
  unfold φSorted
  dsimp only
  rw [h1, h2]
  show some (RV.f (sortD _)) = _
  rw [sortD_map (le := pairLe)]
  have := PySem.W.dataLe_ii (fun p : Nat × Nat => (p.1 : Int)) (fun p : Nat × Nat => (p.2 : Int))
  refine Eq.trans this ?_
  funext a b
  unfold pairLe
  rw [Bool.eq_iff_iff, decide_eq_true_iff, decide_eq_true_iff]
  omega
theorem boolsOf_map {α : Type} (f : α → Bool) : ∀ l : List α, boolsOf (l.map fun a => PyData.bool (f a)) = some (l.map f)
  | [] => rfl
  | a :: l => by
    have ih := boolsOf_map f l
    unfold boolsOf at ih ⊢
    rw [List.map_cons, List.mapM_cons, ih]
    rfl
theorem intsOf_map {α : Type} (f : α → Int) : ∀ l : List α, intsOf (l.map fun a => PyData.int (f a)) = some (l.map f)
  | [] => rfl
  | a :: l => by
    have ih := intsOf_map f l
    unfold intsOf at ih ⊢
    rw [List.map_cons, List.mapM_cons, ih]
    rfl
theorem φAny_map {α : Type} (f : α → Bool) (l : List α) : φAny [.list (l.map fun a => PyData.bool (f a))] = some (.d (.bool (l.any f))) := by
  show (boolsOf _).map _ = _
  rw [boolsOf_map]
  show some (RV.d (.bool ((l.map f).any id))) = _
  rw [List.any_map]
  rfl
theorem φAll_map {α : Type} (f : α → Bool) (l : List α) : φAll [.list (l.map fun a => PyData.bool (f a))] = some (.d (.bool (l.all f))) := by
  show (boolsOf _).map _ = _
  rw [boolsOf_map]
  show some (RV.d (.bool ((l.map f).all id))) = _
  rw [List.all_map]
  rfl
end Sd

namespace Sd
open PySem PySem.Spec L2
/-! ### Sd20: equations for what draws nothing; webs -/
section
variable {ρ ρ1 : List Sl} {g g1 : G} {f fa fb fc fe : ES} {c ca cb : EB} {tg : FG} {tt : EB} {d x y : D} {P B C : Bool}
theorem cStep_pure (h1 : tg d ρ = some ρ1) (h2 : tt ρ1 g = some (P, g)) (h3 : P = true → vl fe ρ1 g = some (x, g)) : cStep ρ tg tt fe d g = some (if P = true then [x] else [], g) := by
  unfold cStep
  rw [h1]
  show (tt ρ1 g).bind _ = _
  rw [h2]
  show (if P = true then _ else _) = _
  cases P with
  | true => rw [if_pos rfl, h3 rfl]; rfl
  | false => rfl
theorem cStep_map (h1 : tg d ρ = some ρ1) (h3 : vl fe ρ1 g = some (x, g)) : cStep ρ tg bYes fe d g = some ([x], g) := by
  unfold cStep
  rw [h1]
  show (vl fe ρ1 g).map _ = _
  rw [h3]
  rfl
theorem ev_op2 {φ : D → D → Option RV} {r : RV} (h1 : vw fa ρ g = some (x, g)) (h2 : vw fb ρ g = some (y, g)) (h3 : φ x y = some r) : op2 φ fa fb ρ g = some (r.r, g) := by
  obtain ⟨_, _, e, e1, e2⟩ : Ev (op2 φ fa fb) ρ g fun z g' => z = r.r ∧ g' = g := .op2 ⟨_, _, h1, _, _, h2, _, h3, rfl, rfl⟩
  rw [e, e1, e2]
theorem vw_op2 {φ : D → D → Option RV} {r : RV} (h1 : vw fa ρ g = some (x, g)) (h2 : vw fb ρ g = some (y, g)) (h3 : φ x y = some r) : vw (op2 φ fa fb) ρ g = some (rvD r, g) := by
  obtain ⟨_, _, e, e1, e2⟩ : Vw (op2 φ fa fb) ρ g fun z g' => z = rvD r ∧ g' = g := .op2 ⟨_, _, h1, _, _, h2, _, h3, rfl, rfl⟩
  rw [e, e1, e2]
theorem vl_op2 {φ : D → D → Option RV} {r : RV} (h1 : vw fa ρ g = some (x, g)) (h2 : vw fb ρ g = some (y, g)) (h3 : φ x y = some r) : vl (op2 φ fa fb) ρ g = some (rvD r, g) := by
  obtain ⟨_, _, e, e1, e2⟩ : Vl (op2 φ fa fb) ρ g fun z g' => z = rvD r ∧ g' = g := .op2 ⟨_, _, h1, _, _, h2, _, h3, rfl, rfl⟩
  rw [e, e1, e2]
theorem tt_tst (h : vw f ρ g = some (.bool B, g)) : tst f ρ g = some (B, g) := by
  unfold tst
  rw [h]
  rfl
theorem tt_op2 {φ : D → D → Option RV} (h1 : vw fa ρ g = some (x, g)) (h2 : vw fb ρ g = some (y, g)) (h3 : φ x y = some (.d (.bool B))) : tst (op2 φ fa fb) ρ g = some (B, g) := tt_tst (vw_op2 h1 h2 h3)
theorem tt_and (h1 : ca ρ g = some (B, g)) (h2 : B = true → cb ρ g = some (C, g)) : bAnd ca cb ρ g = some (B && C, g) := by
  unfold bAnd
  rw [h1]
  cases B with
  | true => exact h2 rfl
  | false => rfl
theorem tt_or (h1 : ca ρ g = some (B, g)) (h2 : B = false → cb ρ g = some (C, g)) : bOr ca cb ρ g = some (B || C, g) := by
  unfold bOr
  rw [h1]
  cases B with
  | false => exact h2 rfl
  | true => rfl
theorem tt_not (h1 : ca ρ g = some (B, g)) : bNot ca ρ g = some (!B, g) := by
  unfold bNot
  rw [h1]
  rfl
theorem vw_d (h : f ρ g = some (.d d, g)) : vw f ρ g = some (d, g) := by
  unfold vw
  rw [h]
theorem vl_d (h : f ρ g = some (.d d, g)) : vl f ρ g = some (d, g) := by
  unfold vl
  rw [h]
theorem vw_f {xs : List D} (h : f ρ g = some (.f xs, g)) : vw f ρ g = some (.list xs, g) := by
  unfold vw
  rw [h]
theorem vl_f {xs : List D} (h : f ρ g = some (.f xs, g)) : vl f ρ g = some (.list xs, g) := by
  unfold vl
  rw [h]
theorem ev_and (h1 : vw fa ρ g = some (.bool B, g)) (h2 : B = true → fb ρ g = some (.d (.bool C), g)) : fAnd fa fb ρ g = some (.d (.bool (B && C)), g) := by
  unfold fAnd
  rw [tt_tst h1]
  cases B with
  | true => exact h2 rfl
  | false => rfl
theorem ev_or (h1 : vw fa ρ g = some (.bool B, g)) (h2 : B = false → fb ρ g = some (.d (.bool C), g)) : fOr fa fb ρ g = some (.d (.bool (B || C)), g) := by
  unfold fOr
  rw [tt_tst h1]
  cases B with
  | false => exact h2 rfl
  | true => rfl
theorem ev_not (h1 : vw fa ρ g = some (.bool B, g)) : fNot fa ρ g = some (.d (.bool (!B)), g) := by
  unfold fNot
  rw [tt_tst h1]
  rfl
end
/-! webs -/
abbrev Ties := List (Nat × Nat)
def eW (ts : Ties) : D := .tuple (ts.map nP)
def nL (l : List Nat) : D := .list (l.map nI)
def nT (l : List Nat) : D := .tuple (l.map nI)
def nM (t : List (List Nat)) : D := .list (t.map nL)
def touch (p : Nat) (e : Nat × Nat) : Bool := decide (e.1 = p) || decide (e.2 = p)
def nbr (ts : Ties) (p : Nat) : List Nat := ((ts.filter (touch p)).map fun e => e.1 + e.2 - p).mergeSort fun a b => decide (a ≤ b)
theorem in2T (p a b : Nat) : φIn (nI p) (.tuple [nI a, nI b]) = some (.d (.bool (touch p (a, b)))) := by
  have := φIn_natsT p [a, b]
  refine this.trans ?_
  congr 3
  unfold touch
  rw [Bool.eq_iff_iff, decide_eq_true_iff, Bool.or_eq_true, decide_eq_true_iff, decide_eq_true_iff]
  simp only [List.mem_cons, List.not_mem_nil, or_false]
  exact or_congr eq_comm eq_comm
theorem in2L (p a b : Nat) : φIn (nI p) (.list [nI a, nI b]) = some (.d (.bool (touch p (a, b)))) := by
  have := φIn_nats p [a, b]
  refine this.trans ?_
  congr 3
  unfold touch
  rw [Bool.eq_iff_iff, decide_eq_true_iff, Bool.or_eq_true, decide_eq_true_iff, decide_eq_true_iff]
  simp only [List.mem_cons, List.not_mem_nil, or_false]
  exact or_congr eq_comm eq_comm
theorem other_end {p : Nat} {e : Nat × Nat} (h : touch p e = true) : (PyData.int ((e.1 : Int) + e.2 - p)) = nI (e.1 + e.2 - p) := by
  unfold touch at h
  rw [Bool.or_eq_true, decide_eq_true_iff, decide_eq_true_iff] at h
  show PyData.int _ = PyData.int _
  congr 1
  omega
theorem mem_nbr {ts : Ties} {p q : Nat} : q ∈ nbr ts p ↔ (p, q) ∈ ts ∨ (q, p) ∈ ts := by
  unfold nbr
  rw [(List.mergeSort_perm _ _).mem_iff, List.mem_map]
  constructor
  · rintro ⟨⟨a, b⟩, h, rfl⟩
    rw [List.mem_filter] at h
    obtain ⟨h, t⟩ := h
    unfold touch at t
    rw [Bool.or_eq_true, decide_eq_true_iff, decide_eq_true_iff] at t
    dsimp only at t ⊢
    rcases t with rfl | rfl
    · rw [Nat.add_sub_cancel_left]
      exact .inl h
    · rw [Nat.add_sub_cancel]
      exact .inr h
  · rintro (h | h)
    · refine ⟨(p, q), List.mem_filter.mpr ⟨h, ?_⟩, Nat.add_sub_cancel_left _ _⟩
      unfold touch
      simp
    · refine ⟨(q, p), List.mem_filter.mpr ⟨h, ?_⟩, Nat.add_sub_cancel _ _⟩
      unfold touch
      simp
end Sd

namespace Sd
open PySem PySem.Spec L2
/-! ### Sd21: steps in webs, the search by breadth -/
def Adj (ts : Ties) (a b : Nat) : Prop := (a, b) ∈ ts ∨ (b, a) ∈ ts
theorem Adj.symm {ts : Ties} {a b : Nat} (h : Adj ts a b) : Adj ts b a := h.elim .inr .inl
inductive Walk (ts : Ties) (x : Nat) : Nat → Nat → Prop
  | nil : Walk ts x 0 x
  | snoc {k y z : Nat} : Walk ts x k y → Adj ts y z → Walk ts x (k + 1) z
def IsD (ts : Ties) (x y k : Nat) : Prop := Walk ts x k y ∧ ∀ j, Walk ts x j y → k ≤ j
theorem IsD.uniq {ts : Ties} {x y k j : Nat} (h : IsD ts x y k) (h' : IsD ts x y j) : k = j := Nat.le_antisymm (h.2 _ h'.1) (h'.2 _ h.1)
theorem least {p : Nat → Prop} {n : Nat} (h : p n) : ∃ k, p k ∧ ∀ j, p j → k ≤ j := by
  have key : ∀ n, (∃ m, m ≤ n ∧ p m) → ∃ k, p k ∧ ∀ j, p j → k ≤ j := by
    intro n
    induction n with
    | zero =>
      rintro ⟨m, hm, h⟩
      have : m = 0 := by omega
      subst this
      exact ⟨0, h, fun j _ => Nat.zero_le j⟩
    | succ n ih =>
      rintro ⟨m, hm, h⟩
      by_cases q : ∃ m, m ≤ n ∧ p m
      · exact ih q
      · refine ⟨m, h, fun j hj => ?_⟩
        apply Classical.byContradiction
        intro hlt
        exact q ⟨j, by omega, hj⟩
  exact key n ⟨n, Nat.le_refl n, h⟩
theorem Walk.isD {ts : Ties} {x y k : Nat} (h : Walk ts x k y) : ∃ j, IsD ts x y j := least (p := fun k => Walk ts x k y) h
open Classical in
noncomputable def dst (ts : Ties) (x y : Nat) : Int := if h : ∃ k, IsD ts x y k then ((h.choose : Nat) : Int) else -1
theorem dst_of {ts : Ties} {x y k : Nat} (h : IsD ts x y k) : dst ts x y = (k : Int) := by
  have q : ∃ k, IsD ts x y k := ⟨k, h⟩
  unfold dst
  rw [dif_pos q, q.choose_spec.uniq h]
theorem dst_no {ts : Ties} {x y : Nat} (h : ∀ k, ¬ Walk ts x k y) : dst ts x y = -1 := by
  unfold dst
  rw [dif_neg fun ⟨k, q⟩ => h k q.1]
theorem IsD.pred {ts : Ties} {x y k : Nat} (h : IsD ts x y (k + 1)) : ∃ w, IsD ts x w k ∧ Adj ts w y := by
  obtain ⟨hw, hm⟩ := h
  cases hw with
  | snoc h1 h2 =>
    refine ⟨_, ⟨h1, fun j hj => ?_⟩, h2⟩
    have := hm (j + 1) (hj.snoc h2)
    omega
def tv (T : List Int) (v : Nat) : Int := T.getD v (-1)
theorem tv_set {T : List Int} {i v : Nat} {a : Int} (hi : i < T.length) : tv (T.set i a) v = if v = i then a else tv T v := by
  unfold tv
  rw [List.getD_eq_getElem?_getD, List.getD_eq_getElem?_getD]
  split
  · rename_i h
    subst h
    rw [List.getElem?_set_self hi]
    rfl
  · rename_i h
    rw [List.getElem?_set_ne fun z => h z.symm]
theorem tv_get {T : List Int} {v : Nat} (h : v < T.length) : T[v]? = some (tv T v) := by
  unfold tv
  rw [List.getD_eq_getElem?_getD, List.getElem?_eq_getElem h]
  rfl
structure QI (n : Nat) (ts : Ties) (x : Nat) (T : List Int) (o : List Nat) (at' : Nat) : Prop where
  len : T.length = n
  lt : ∀ v ∈ o, v < n
  nd : o.Nodup
  hx : x ∈ o
  out : ∀ v, v ∉ o → tv T v = -1
  dist : ∀ v ∈ o, ∃ k : Nat, tv T v = k ∧ IsD ts x v k
  mono : o.Pairwise fun a b => tv T a ≤ tv T b
  done : ∀ i u, i < at' → o[i]? = some u → ∀ w, Adj ts u w → w ∈ o
  top : ∀ u, o[at']? = some u → ∀ v ∈ o, tv T v ≤ tv T u + 1
theorem nodup_len {o : List Nat} {n : Nat} (hn : o.Nodup) (h : ∀ v ∈ o, v < n) : o.length ≤ n := by
  have := L2.nat_nodup_len o (List.range n) hn fun v hv => List.mem_range.mpr (h v hv)
  rwa [List.length_range] at this
theorem QI.near {n : Nat} {ts : Ties} {x : Nat} {T : List Int} {o : List Nat} {at' u : Nat} (B : QI n ts x T o at') (hu : o[at']? = some u) : ∀ (j v : Nat), IsD ts x v j → (j : Int) ≤ tv T u → v ∈ o := by
  intro j
  induction j with
  | zero =>
    intro v h _
    have hw := h.1
    cases hw
    exact B.hx
  | succ j ih =>
    intro v h hj
    obtain ⟨w, hw, ad⟩ := h.pred
    have wo := ih w hw (by omega)
    obtain ⟨k, e, hk⟩ := B.dist w wo
    have ek := hk.uniq hw
    subst ek
    obtain ⟨i, hi, ei⟩ := List.getElem_of_mem wo
    have ei' : o[i]? = some w := by rw [List.getElem?_eq_getElem hi, ei]
    refine B.done i w ?_ ei' v ad
    apply Classical.byContradiction
    intro hge
    have hlt := (List.getElem?_eq_some_iff.mp hu).1
    have eu := (List.getElem?_eq_some_iff.mp hu).2
    rcases Nat.eq_or_lt_of_le (Nat.le_of_not_lt hge) with q | q
    · subst q
      rw [ei] at eu
      subst eu
      omega
    · have := List.pairwise_iff_getElem.mp B.mono at' i hlt hi q
      rw [ei, eu] at this
      omega
/-- within the turn at u: the neighbours in pre are met -/
structure QJ (n : Nat) (ts : Ties) (x u : Nat) (o0 : List Nat) (T : List Int) (o : List Nat) (at' : Nat) (pre : List Nat) : Prop where
  len : T.length = n
  lt : ∀ v ∈ o, v < n
  nd : o.Nodup
  ext : ∃ new, o = o0 ++ new
  hx : x ∈ o
  out : ∀ v, v ∉ o → tv T v = -1
  dist : ∀ v ∈ o, ∃ k : Nat, tv T v = k ∧ IsD ts x v k
  mono : o.Pairwise fun a b => tv T a ≤ tv T b
  done : ∀ i u, i < at' → o[i]? = some u → ∀ w, Adj ts u w → w ∈ o
  top : ∀ v ∈ o, tv T v ≤ tv T u + 1
  hu : o[at']? = some u
  near : ∀ (j v : Nat), IsD ts x v j → (j : Int) ≤ tv T u → v ∈ o
  met : ∀ v ∈ pre, v ∈ o
theorem QI.turn {n : Nat} {ts : Ties} {x : Nat} {T : List Int} {o : List Nat} {at' u : Nat} (B : QI n ts x T o at') (hu : o[at']? = some u) : QJ n ts x u o T o at' [] :=
  ⟨B.len, B.lt, B.nd, ⟨[], (List.append_nil o).symm⟩, B.hx, B.out, B.dist, B.mono, B.done, B.top u hu, hu, B.near hu, fun _ h => by cases h⟩
theorem QJ.skip {n : Nat} {ts : Ties} {x u : Nat} {o0 : List Nat} {T : List Int} {o : List Nat} {at' : Nat} {pre : List Nat} {a : Nat} (B : QJ n ts x u o0 T o at' pre) (h : ¬ tv T a < 0) : QJ n ts x u o0 T o at' (pre ++ [a]) := by
  refine ⟨B.len, B.lt, B.nd, B.ext, B.hx, B.out, B.dist, B.mono, B.done, B.top, B.hu, B.near, fun v hv => ?_⟩
  rcases List.mem_append.mp hv with hv | hv
  · exact B.met v hv
  · have : v = a := by simpa using hv
    subst this
    apply Classical.byContradiction
    intro hn
    have := B.out v hn
    omega
theorem QJ.add {n : Nat} {ts : Ties} {x u : Nat} {o0 : List Nat} {T : List Int} {o : List Nat} {at' : Nat} {pre : List Nat} {a : Nat} (B : QJ n ts x u o0 T o at' pre) (h : tv T a < 0) (han : a < n) (ad : Adj ts u a) : QJ n ts x u o0 (T.set a (tv T u + 1)) (o ++ [a]) at' (pre ++ [a]) := by
  have hal : a < T.length := by rw [B.len]; exact han
  have hno : a ∉ o := fun ha => by
    obtain ⟨k, e, _⟩ := B.dist a ha
    omega
  have hut : u ∈ o := List.mem_of_getElem? B.hu
  have eo : ∀ v ∈ o, tv (T.set a (tv T u + 1)) v = tv T v := fun v hv => by
    rw [tv_set hal, if_neg]
    rintro rfl
    exact hno hv
  have ea : tv (T.set a (tv T u + 1)) a = tv T u + 1 := by rw [tv_set hal, if_pos rfl]
  have eu := eo u hut
  obtain ⟨ku, eku, dku⟩ := B.dist u hut
  have hD : IsD ts x a (ku + 1) := ⟨dku.1.snoc ad, fun j hj => by
    apply Classical.byContradiction
    intro hlt
    obtain ⟨i, hi⟩ := hj.isD
    have hij := hi.2 j hj
    exact hno (B.near i a hi (by omega))⟩
  refine ⟨by rw [List.length_set]; exact B.len, fun v hv => ?_, ?_, ?_, List.mem_append.mpr (.inl B.hx), fun v hv => ?_, fun v hv => ?_, ?_, fun i w hi hw z hz => ?_, fun v hv => ?_, ?_, fun j v hj hle => ?_, fun v hv => ?_⟩
  · rcases List.mem_append.mp hv with hv | hv
    · exact B.lt v hv
    · have : v = a := by simpa using hv
      exact this ▸ han
  · rw [List.nodup_append]
    refine ⟨B.nd, by simp, fun v hv w hw => ?_⟩
    have : w = a := by simpa using hw
    subst this
    rintro rfl
    exact hno hv
  · obtain ⟨new, e⟩ := B.ext
    exact ⟨new ++ [a], by rw [e, List.append_assoc]⟩
  · have h1 : v ∉ o := fun z => hv (List.mem_append.mpr (.inl z))
    have h2 : v ≠ a := fun z => hv (List.mem_append.mpr (.inr (by simp [z])))
    rw [tv_set hal, if_neg h2]
    exact B.out v h1
  · rcases List.mem_append.mp hv with hv | hv
    · rw [eo v hv]
      exact B.dist v hv
    · have : v = a := by simpa using hv
      subst this
      exact ⟨ku + 1, by rw [ea, eku]; omega, hD⟩
  · rw [List.pairwise_append]
    refine ⟨B.mono.imp_of_mem fun {p q} hp hq hpq => by rw [eo p hp, eo q hq]; exact hpq, by simp, fun v hv w hw => ?_⟩
    have : w = a := by simpa using hw
    subst this
    rw [eo v hv, ea]
    exact B.top v hv
  · have hio : i < o.length := by
      have := (List.getElem?_eq_some_iff.mp B.hu).1
      omega
    rw [List.getElem?_append_left hio] at hw
    exact List.mem_append.mpr (.inl (B.done i w hi hw z hz))
  · rw [eu]
    rcases List.mem_append.mp hv with hv | hv
    · rw [eo v hv]
      exact B.top v hv
    · have : v = a := by simpa using hv
      subst this
      rw [ea]
      omega
  · rw [List.getElem?_append_left (List.getElem?_eq_some_iff.mp B.hu).1]
    exact B.hu
  · rw [eu] at hle
    exact List.mem_append.mpr (.inl (B.near j v hj hle))
  · rcases List.mem_append.mp hv with hv | hv
    · exact List.mem_append.mpr (.inl (B.met v hv))
    · exact List.mem_append.mpr (.inr hv)
theorem QJ.next {n : Nat} {ts : Ties} {x u : Nat} {o0 : List Nat} {T : List Int} {o : List Nat} {at' : Nat} (B : QJ n ts x u o0 T o at' (nbr ts u)) : QI n ts x T o (at' + 1) := by
  refine ⟨B.len, B.lt, B.nd, B.hx, B.out, B.dist, B.mono, fun i w hi hw z hz => ?_, fun w hw v hv => ?_⟩
  · rcases Nat.lt_or_eq_of_le (Nat.le_of_lt_succ hi) with q | q
    · exact B.done i w q hw z hz
    · subst q
      rw [B.hu] at hw
      cases hw
      exact B.met z (mem_nbr.mpr hz)
  · have h1 := B.top v hv
    have hlt := (List.getElem?_eq_some_iff.mp B.hu).1
    have eu := (List.getElem?_eq_some_iff.mp B.hu).2
    have hlw := (List.getElem?_eq_some_iff.mp hw).1
    have ew := (List.getElem?_eq_some_iff.mp hw).2
    have := List.pairwise_iff_getElem.mp B.mono at' (at' + 1) hlt hlw (Nat.lt_succ_self _)
    rw [eu, ew] at this
    omega
theorem QI.start {n : Nat} {ts : Ties} {x : Nat} (hx : x < n) : QI n ts x ((List.replicate n (-1)).set x 0) [x] 0 := by
  have hl : x < (List.replicate n (-1 : Int)).length := by rw [List.length_replicate]; exact hx
  have e0 : ∀ v, tv ((List.replicate n (-1)).set x 0) v = if v = x then 0 else -1 := fun v => by
    rw [tv_set hl]
    split
    · rfl
    · unfold tv
      rw [List.getD_eq_getElem?_getD, List.getElem?_replicate]
      split <;> rfl
  refine ⟨by rw [List.length_set, List.length_replicate], fun v hv => ?_, by simp, by simp, fun v hv => ?_, fun v hv => ?_, by simp, fun i u hi => by omega, fun u hu v hv => ?_⟩
  · have : v = x := by simpa using hv
    exact this ▸ hx
  · rw [e0, if_neg]
    rintro rfl
    exact hv (by simp)
  · have : v = x := by simpa using hv
    subst this
    exact ⟨0, by rw [e0, if_pos rfl]; rfl, .nil, fun j _ => Nat.zero_le j⟩
  · have h1 : v = x := by simpa using hv
    have h2 : x = u := by simpa using hu
    subst h2
    subst h1
    omega
theorem QI.fin {n : Nat} {ts : Ties} {x : Nat} {T : List Int} {o : List Nat} (B : QI n ts x T o o.length) : T = (List.range n).map fun v => dst ts x v := by
  have all : ∀ k v, Walk ts x k v → v ∈ o := by
    intro k v h
    induction h with
    | nil => exact B.hx
    | snoc _ ad ih =>
      obtain ⟨i, hi, ei⟩ := List.getElem_of_mem ih
      exact B.done i _ hi (by rw [List.getElem?_eq_getElem hi, ei]) _ ad
  refine List.ext_getElem? fun v => ?_
  by_cases hv : v < n
  · rw [tv_get (by rw [B.len]; exact hv), map_get (range_get hv)]
    congr 1
    by_cases ho : v ∈ o
    · obtain ⟨k, e, hk⟩ := B.dist v ho
      rw [e, dst_of hk]
    · rw [B.out v ho, dst_no fun k h => ho (all k v h)]
  · rw [List.getElem?_eq_none (by rw [B.len]; omega), List.getElem?_eq_none (by rw [List.length_map, List.length_range]; omega)]
end Sd

namespace Sd
open PySem PySem.Spec L2
/-! ### Sd22: beside, steps_from, steps_of on data -/
def besideB (disp : EA → ES) : BS := (sRet (opL φSorted (fConsA (fComp [2, 3] (iSeqV (fVar 0)) (gt 2 (gsC (gn 2) (gsC (gn 3) gsN))) (tst (op2 φIn (fVar 1) (disp (fConsV (fVar 2) (fConsV (fVar 3) fNilA))))) (op2 φSub (op2 φAdd (fVar 2) (fVar 3)) (fVar 1))) fNilA)))
theorem φLt_nat (a b : Nat) : φLt (nI a) (nI b) = some (.d (.bool (decide (a < b)))) := by
  unfold φLt φI nI
  dsimp only
  rw [decide_eq_decide.mpr (Int.ofNat_lt)]
theorem φLe_nat (a b : Nat) : φLe (nI a) (nI b) = some (.d (.bool (decide (a ≤ b)))) := by
  unfold φLe φI nI
  dsimp only
  rw [decide_eq_decide.mpr (Int.ofNat_le)]
theorem φGt_nat (a b : Nat) : φGt (nI a) (nI b) = some (.d (.bool (decide (b < a)))) := by
  unfold φGt φI nI
  dsimp only
  rw [decide_eq_decide.mpr (Int.ofNat_lt)]
theorem φGe_nat (a b : Nat) : φGe (nI a) (nI b) = some (.d (.bool (decide (b ≤ a)))) := by
  unfold φGe φI nI
  dsimp only
  rw [decide_eq_decide.mpr (Int.ofNat_le)]
theorem φEq_nat (a b : Nat) : φEq (nI a) (nI b) = some (.d (.bool (decide (a = b)))) := by
  unfold nI
  rw [φEq_int, decide_eq_decide.mpr (Int.ofNat_inj)]
theorem φNe_nat (a b : Nat) : φNe (nI a) (nI b) = some (.d (.bool (!decide (a = b)))) := by
  unfold nI
  rw [φNe_int, decide_eq_decide.mpr (Int.ofNat_inj)]
theorem φAdd_nat (a b : Nat) : φAdd (nI a) (nI b) = some (.d (nI (a + b))) := rfl
theorem vw_len {i n : Nat} {ρ : List Sl} {g : G} {ds : List D} (h : see ρ i = some (.list ds) ∨ ρ[i]? = some (.sh (.list ds)) ∨ ρ[i]? = some (.sh (.tuple ds))) (hn : ds.length = n) : vw (opL φLen' (fConsA (fVar i) fNilA)) ρ g = some (nI n, g) := by
  subst hn
  have key : ∀ d, φLen' [d] = some (.d (nI ds.length)) → vw (fVar i) ρ g = some (d, g) → vw (opL φLen' (fConsA (fVar i) fNilA)) ρ g = some (nI ds.length, g) := fun d e1 e2 => by
    obtain ⟨_, _, e, e3, e4⟩ : Vw (opL φLen' (fConsA (fVar i) fNilA)) ρ g fun z g' => z = nI ds.length ∧ g' = g := .opL (.consA (.of e2 (.nil ⟨_, e1, rfl, rfl⟩)))
    rw [e, e3, e4]
  rcases h with h | h | h
  · refine key (.list ds) rfl ?_
    unfold see at h
    unfold vw fVar
    split at h
    · rename_i e
      rw [e]
      cases h
      show (see ρ i).map _ = _
      unfold see
      rw [e]
      rfl
    · cases h
    · cases h
  · exact key (.list ds) rfl (by unfold vw fVar; rw [h]; rfl)
  · exact key (.tuple ds) rfl (by unfold vw fVar; rw [h]; rfl)
theorem small_len {α : Type} {l : List α} (h : l.length ≤ 1000000) : l.length ≤ sizeLine := by rw [sizeLine_eq]; omega
theorem gm_besideG (disp : EA → ES) (y : Nat → Nat → D) (hd : ∀ (ts : Ties) (p : Nat) (e : Nat × Nat) (g : G), vw (disp (fConsV (fVar 2) (fConsV (fVar 3) fNilA))) [.sh (eW ts), .sh (nI p), .sh (nI e.1), .sh (nI e.2)] g = some (y e.1 e.2, g)) (hy : ∀ p a b, φIn (nI p) (y a b) = some (.d (.bool (touch p (a, b)))))
    {ts : Ties} {p : Nat} {g : G} (hl : ts.length ≤ 1000000) : Gm (runB 4 (besideB disp)) [.sh (eW ts), .sh (nI p)] g fun d g' => d = nL (nbr ts p) ∧ g' = g := by
  have hc : compL (cStep (wipeS [.sh (eW ts), .sh (nI p), .no, .no] [2, 3]) (gt 2 (gsC (gn 2) (gsC (gn 3) gsN))) (tst (op2 φIn (fVar 1) (disp (fConsV (fVar 2) (fConsV (fVar 3) fNilA))))) (op2 φSub (op2 φAdd (fVar 2) (fVar 3)) (fVar 1))) (ts.map nP) g
      = some ((ts.filter (touch p)).map fun e => nI (e.1 + e.2 - p), g) := by
    refine compL_ff (touch p) (fun e => nI (e.1 + e.2 - p)) fun e he => ?_
    refine cStep_pure (ρ1 := [.sh (eW ts), .sh (nI p), .sh (nI e.1), .sh (nI e.2)]) rfl (tt_op2 (x := nI p) rfl (hd ts p e g) (hy p e.1 e.2)) fun hp => ?_
    show some (PyData.int _, g) = _
    rw [← other_end hp]
  refine .run (.ret (.opL (.consA (.comp (.seqV (.of (d := eW ts) rfl ⟨ts.map nP, rfl, _, _, hc, ?_, .nil ?_⟩))))))
  · refine small_len ?_
    rw [List.length_map]
    exact Nat.le_trans (List.length_filter_le _ _) hl
  · refine ⟨.f ((nbr ts p).map nI), ?_, rfl, rfl⟩
    have := sorted_nats ((ts.filter (touch p)).map fun e => e.1 + e.2 - p)
    rw [List.map_map] at this
    exact this
theorem gm_besideT {ts : Ties} {p : Nat} {g : G} (hl : ts.length ≤ 1000000) : Gm (runB 4 (besideB fTup)) [.sh (eW ts), .sh (nI p)] g fun d g' => d = nL (nbr ts p) ∧ g' = g :=
  gm_besideG fTup (fun a b => .tuple [nI a, nI b]) (fun _ _ _ _ => rfl) in2T hl
theorem gm_besideL {ts : Ties} {p : Nat} {g : G} (hl : ts.length ≤ 1000000) : Gm (runB 4 (besideB fLst)) [.sh (eW ts), .sh (nI p)] g fun d g' => d = nL (nbr ts p) ∧ g' = g :=
  gm_besideG fLst (fun a b => .list [nI a, nI b]) (fun _ _ _ _ => rfl) in2L hl
/-- a web's ties: places below n -/
def Web (n : Nat) (ts : Ties) : Prop := (∀ e ∈ ts, e.1 < n ∧ e.2 < n) ∧ ts.length ≤ 1000000
theorem Web.adj {n : Nat} {ts : Ties} (h : Web n ts) {a b : Nat} (ad : Adj ts a b) : a < n ∧ b < n := by
  rcases ad with q | q
  · exact h.1 _ q
  · exact ⟨(h.1 _ q).2, (h.1 _ q).1⟩
noncomputable def bfsB (mb : DF) (inc : BS) : BS := (sSeq (sAsg 3 (op2 φMul (fLst (fConsV (op1 φNeg (fC (.int 1))) fNilA)) (fVar 0))) (sSeq (sPut 3 (fVar 2) (fC (.int 0))) (sSeq (sAsg 4 (fLst (fConsV (fVar 2) fNilA))) (sSeq (sAsg 5 (fC (.int 0))) (sSeq (sWhile (tst (op2 φLt (fVar 5) (opL φLen' (fConsA (fVar 4) fNilA)))) (sSeq (sFor (iSeq (fCall 2 mb (fConsU (fVar 1) (fConsU (op2 φIxX (fVar 4) (fVar 5)) fNilU)))) (gn 6) (sIf (tst (op2 φLt (op2 φIxX (fVar 3) (fVar 6)) (fC (.int 0)))) (sSeq (sPut 3 (fVar 6) (op2 φAdd (op2 φIxX (fVar 3) (op2 φIxX (fVar 4) (fVar 5))) (fC (.int 1)))) (sApp 4 (fVar 6))) sNx)) inc)) (sRet (fVar 3)))))))
noncomputable def dL (n : Nat) (ts : Ties) (x : Nat) : D := .list ((List.range n).map fun v => .int (dst ts x v))
def SqI (T : List Int) : List D := T.map PyData.int
theorem gm_bfs {mb : DF} {inc : BS} {n x : Nat} {ts : Ties} {g : G} (hmb : ∀ p g, Gm mb [.sh (eW ts), .sh (nI p)] g fun d g' => d = nL (nbr ts p) ∧ g' = g)
    (hinc : ∀ (s0 s1 s2 s3 s4 s6 : Sl) (a : Nat) (g : G), inc [s0, s1, s2, s3, s4, .sh (nI a), s6] g = some (.nx, [s0, s1, s2, s3, s4, .sh (nI (a + 1)), s6], g)) (hw : Web n ts) (hx : x < n) (hn : n ≤ 1000000) :
    Gm (runB 7 (bfsB mb inc)) [.sh (nI n), .sh (eW ts), .sh (nI x)] g fun d g' => d = dL n ts x ∧ g' = g := by
  have hrep : φMul (.list [.int (-1)]) (nI n) = some (.f (SqI (List.replicate n (-1)))) := by
    unfold φMul nI
    dsimp only
    rw [if_pos ⟨by omega, by omega, by rw [sizeLine_eq, Int.toNat_natCast, List.length_singleton]; omega⟩, Int.toNat_natCast]
    congr 2
    unfold SqI
    rw [List.map_replicate]
    clear hx hn hw hinc hmb
    induction n with
    | zero => rfl
    | succ n ih => rw [List.replicate_succ, List.replicate_succ, List.flatten_cons, ih]; rfl
  refine .run (.seq (.asg (.op2 (.of (d := .list [.int (-1)]) rfl (.of (d := nI n) rfl ⟨_, hrep, _, rfl, ?_⟩)))))
  refine .seq (.put (s := .ol (SqI (List.replicate n (-1)))) rfl (.of (d := .int 0) rfl (.of (d := nI x) rfl ⟨.ol (SqI ((List.replicate n (-1)).set x 0)), ?_, ?_⟩)))
  · refine (set_nat (by unfold SqI; rw [List.length_map, List.length_replicate]; exact hx)).trans ?_
    unfold SqI
    rw [List.map_set]
  refine .seq (.asg (.lst (.consV (.of (d := nI x) rfl (.nil ⟨by simp, .ol [nI x], rfl, ?_⟩)))))
  refine .seq (.asg (.of (r := .d (.int 0)) rfl ⟨_, rfl, ?_⟩))
  refine .seq (.while (m0 := n) (fun m ρ g' => ∃ (T : List Int) (o : List Nat) (a : Nat) (s6 : Sl), ρ = [.sh (nI n), .sh (eW ts), .sh (nI x), .ol (SqI T), .ol (o.map nI), .sh (nI a), s6] ∧ m + a = n ∧ a ≤ o.length ∧ QI n ts x T o a ∧ g' = g)
    ⟨_, [x], 0, .no, rfl, rfl, by simp, .start hx, rfl⟩ fun m ρ g' h => ?_)
  obtain ⟨T, o, a, s6, rfl, hm, hao, B, rfl⟩ := h
  have hol := nodup_len B.nd B.lt
  have htest : tst (op2 φLt (fVar 5) (opL φLen' (fConsA (fVar 4) fNilA))) [.sh (nI n), .sh (eW ts), .sh (nI x), .ol (SqI T), .ol (o.map nI), .sh (nI a), s6] g' = some (decide (a < o.length), g') := by
    exact tt_op2 (x := nI a) rfl (vw_len (.inl rfl) (List.length_map _)) (φLt_nat _ _)
  refine .of htest ?_
  by_cases hlt : a < o.length
  · rw [decide_eq_true hlt, if_pos rfl]
    obtain ⟨u, hu⟩ : ∃ u, o[a]? = some u := ⟨o[a], List.getElem?_eq_getElem hlt⟩
    have hou : (o.map nI)[a]? = some (nI u) := map_get hu
    have hun : u < n := B.lt u (List.mem_of_getElem? hu)
    refine .seq (.loop (.seq (.call (.cons (.of (d := eW ts) rfl (.cons (.op2 (.of (d := .list (o.map nI)) rfl (.of (d := nI a) rfl ⟨.d (nI u), at_nat hou, .nil ⟨rfl, (hmb u g').imp fun d g2 e => ?_⟩⟩))))))))) 
    obtain ⟨rfl, rfl⟩ := e
    refine ⟨(nbr ts u).map nI, rfl, ?_⟩
    refine .forL (nbr ts u) (fun pre ρ g3 => ∃ (T' : List Int) (o' : List Nat) (s6 : Sl), ρ = [.sh (nI n), .sh (eW ts), .sh (nI x), .ol (SqI T'), .ol (o'.map nI), .sh (nI a), s6] ∧ QJ n ts x u o T' o' a pre ∧ g3 = g2)
      ⟨T, o, s6, rfl, B.turn hu, rfl⟩ (fun pre v post ρ g3 el h => ?_) (fun ρ g3 h => ?_)
    · obtain ⟨T', o', s6, rfl, J, rfl⟩ := h
      have hv : v ∈ nbr ts u := by rw [el]; simp
      have ad : Adj ts u v := mem_nbr.mp hv
      have hvn : v < n := (hw.adj ad).2
      refine ⟨_, rfl, ?_⟩
      have hTv : (SqI T')[v]? = some (.int (tv T' v)) := map_get (tv_get (by rw [J.len]; exact hvn))
      have hTu : (SqI T')[u]? = some (.int (tv T' u)) := map_get (tv_get (by rw [J.len]; exact hun))
      have hou' : (o'.map nI)[a]? = some (nI u) := map_get J.hu
      have ht : tst (op2 φLt (op2 φIxX (fVar 3) (fVar 6)) (fC (.int 0))) [.sh (nI n), .sh (eW ts), .sh (nI x), .ol (SqI T'), .ol (o'.map nI), .sh (nI a), .sh (nI v)] g3 = some (decide (tv T' v < 0), g3) :=
        tt_op2 (vw_op2 (x := .list (SqI T')) (y := nI v) rfl rfl (at_nat hTv)) (y := .int 0) rfl rfl
      refine .ite (.of ht ?_)
      by_cases hneg : tv T' v < 0
      · rw [decide_eq_true hneg, if_pos rfl]
        refine .seq (.put (s := .ol (SqI T')) rfl (.of (d := .int (tv T' u + 1)) (vl_op2 (r := .d (.int (tv T' u + 1))) (vw_op2 (x := .list (SqI T')) (y := nI u) rfl (vw_op2 (x := .list (o'.map nI)) (y := nI a) rfl rfl (at_nat hou')) (at_nat hTu)) (y := .int 1) rfl rfl) (.of (d := nI v) rfl ⟨.ol (SqI (T'.set v (tv T' u + 1))), ?_, ?_⟩)))
        · refine (set_nat (by unfold SqI; rw [List.length_map, J.len]; exact hvn)).trans ?_
          unfold SqI
          rw [List.map_set]
        · have J' := J.add hneg hvn ad
          have := nodup_len J'.nd J'.lt
          rw [List.length_append, List.length_singleton] at this
          refine .app (xs := o'.map nI) rfl (by rw [List.length_map, sizeLine_eq]; omega) (.of (d := nI v) rfl ?_)
          refine ⟨T'.set v (tv T' u + 1), o' ++ [v], .sh (nI v), ?_, J', rfl⟩
          rw [List.map_append]
          rfl
      · rw [decide_eq_false hneg, if_neg (by decide)]
        exact .nx ⟨T', o', _, rfl, J.skip hneg, rfl⟩
    · obtain ⟨T', o', s6, rfl, J, rfl⟩ := h
      refine .of (hinc _ _ _ _ _ _ _ _) ?_
      have B' := J.next
      have h1 := (List.getElem?_eq_some_iff.mp J.hu).1
      exact ⟨m - 1, by omega, T', o', a + 1, s6, rfl, by omega, h1, B', rfl⟩
  · rw [decide_eq_false hlt, if_neg (by decide)]
    have ea : a = o.length := by omega
    subst ea
    refine .ret (.of (d := .list (SqI T)) rfl ⟨?_, rfl⟩)
    rw [B.fin]
    unfold SqI dL
    rw [List.map_map]
    rfl
end Sd

namespace Sd
open PySem PySem.Spec L2
/-! ### Sd23: the law's own tools -/
noncomputable def b_beside : BS := (sRet (opL φSorted (fConsA (fComp [2, 3] (iSeqV (fVar 0)) (gt 2 (gsC (gn 2) (gsC (gn 3) gsN))) (tst (op2 φIn (fVar 1) (fTup (fConsV (fVar 2) (fConsV (fVar 3) fNilA))))) (op2 φSub (op2 φAdd (fVar 2) (fVar 3)) (fVar 1))) fNilA)))
noncomputable def m_beside : DF := runB 4 b_beside
noncomputable def b_steps_from : BS := (sSeq (sAsg 3 (op2 φMul (fLst (fConsV (op1 φNeg (fC (.int 1))) fNilA)) (fVar 0))) (sSeq (sPut 3 (fVar 2) (fC (.int 0))) (sSeq (sAsg 4 (fLst (fConsV (fVar 2) fNilA))) (sSeq (sAsg 5 (fC (.int 0))) (sSeq (sWhile (tst (op2 φLt (fVar 5) (opL φLen' (fConsA (fVar 4) fNilA)))) (sSeq (sFor (iSeq (fCall 2 m_beside (fConsU (fVar 1) (fConsU (op2 φIxX (fVar 4) (fVar 5)) fNilU)))) (gn 6) (sIf (tst (op2 φLt (op2 φIxX (fVar 3) (fVar 6)) (fC (.int 0)))) (sSeq (sPut 3 (fVar 6) (op2 φAdd (op2 φIxX (fVar 3) (op2 φIxX (fVar 4) (fVar 5))) (fC (.int 1)))) (sApp 4 (fVar 6))) sNx)) (sInc 5 (fC (.int 1))))) (sRet (fVar 3)))))))
noncomputable def m_steps_from : DF := runB 7 b_steps_from
noncomputable def b_steps_of : BS := (sRet (fComp [2] (iRange1 (fConsA (fVar 0) fNilA)) (gn 2) bYes (fCall 3 m_steps_from (fConsU (fVar 0) (fConsU (fVar 1) (fConsU (fVar 2) fNilU))))))
noncomputable def m_steps_of : DF := runB 3 b_steps_of
noncomputable def b__law_pick : BS := (sRet (op2 φIxX (fVar 1) (fCall 2 mDraw (fConsU (fVar 0) (fConsU (opL φLen' (fConsA (fVar 1) fNilA)) fNilU)))))
noncomputable def m__law_pick : DF := runB 2 b__law_pick
noncomputable def b__law_eq (m : DF) : BS := (sSeq (sIf (bOr (tst (fIsi "list" (fVar 1))) (tst (fIsi "tuple" (fVar 1)))) (sSeq (sIf (bOr (tst (op2 φNe (fIsi "list" (fVar 0)) (fIsi "list" (fVar 1)))) (tst (op2 φNe (fIsi "tuple" (fVar 0)) (fIsi "tuple" (fVar 1))))) (sRet (fC (.bool false))) sNx) (sSeq (sIf (tst (op2 φNe (opL φLen' (fConsA (fVar 0) fNilA)) (opL φLen' (fConsA (fVar 1) fNilA)))) (sRet (fC (.bool false))) sNx) (sRet (op2 φEq (fComp [2] (iRange1 (fConsA (opL φLen' (fConsA (fVar 1) fNilA)) fNilA)) (gn 2) (bNot (tst (fCall 2 m (fConsU (op2 φIxX (fVar 0) (fVar 2)) (fConsU (op2 φIxX (fVar 1) (fVar 2)) fNilU))))) (fVar 2)) (fLst fNilA))))) sNx) (sSeq (sIf (tst (op2 φIsN (fVar 1) (fC .none))) (sRet (op2 φIsN (fVar 0) (fC .none))) sNx) (sSeq (sIf (tst (fIsi "str" (fVar 1))) (sRet (fAnd (fIsi "str" (fVar 0)) (op2 φEq (fVar 0) (fVar 1)))) sNx) (sSeq (sIf (tst (fIsi "bool" (fVar 1))) (sRet (fAnd (fIsi "bool" (fVar 0)) (op2 φEq (fVar 0) (fVar 1)))) sNx) (sRet (fAnd (fIsi "int" (fVar 0)) (fAnd (fNot (fIsi "bool" (fVar 0))) (op2 φEq (fVar 0) (fVar 1)))))))))
noncomputable def m__law_eq : Nat → DF
  | 0 => fun _ _ => none
  | r + 1 => runB 3 (b__law_eq (m__law_eq r))
noncomputable def b__law_mixed : BS := (sSeq (sAsg 2 (fLst fNilA)) (sSeq (sFor (iSeq (fVar 1)) (gn 3) (sIns 2 (fCall 2 mDraw (fConsU (fVar 0) (fConsU (op2 φAdd (opL φLen' (fConsA (fVar 2) fNilA)) (fC (.int 1))) fNilU))) (fVar 3))) (sRet (fVar 2))))
noncomputable def m__law_mixed : DF := runB 4 b__law_mixed
noncomputable def b__law_path : BS := (sRet (opL φTuple (fConsA (fComp [1] (iRange1 (fConsA (op2 φSub (fVar 0) (fC (.int 1))) fNilA)) (gn 1) bYes (fTup (fConsV (fVar 1) (fConsV (op2 φAdd (fVar 1) (fC (.int 1))) fNilA)))) fNilA)))
noncomputable def m__law_path : DF := runB 2 b__law_path
noncomputable def b__law_ring : BS := (sRet (opL φTuple (fConsA (opL φSorted (fConsA (op2 φAdd (fComp [1] (iRange1 (fConsA (op2 φSub (fVar 0) (fC (.int 1))) fNilA)) (gn 1) bYes (fTup (fConsV (fVar 1) (fConsV (op2 φAdd (fVar 1) (fC (.int 1))) fNilA)))) (fLst (fConsV (fTup (fConsV (fC (.int 0)) (fConsV (op2 φSub (fVar 0) (fC (.int 1))) fNilA))) fNilA))) fNilA)) fNilA)))
noncomputable def m__law_ring : DF := runB 2 b__law_ring
noncomputable def b__law_star : BS := (sRet (opL φTuple (fConsA (fComp [1] (iRange2 (fConsA (fC (.int 1)) (fConsA (fVar 0) fNilA))) (gn 1) bYes (fTup (fConsV (fC (.int 0)) (fConsV (fVar 1) fNilA)))) fNilA)))
noncomputable def m__law_star : DF := runB 2 b__law_star
noncomputable def b__law_whole : BS := (sSeq (sAsg 1 (fLst fNilA)) (sSeq (sFor (iRange1 (fConsA (fVar 0) fNilA)) (gn 2) (sAsg 1 (op2 φAdd (fVar 1) (fComp [3] (iRange2 (fConsA (op2 φAdd (fVar 2) (fC (.int 1))) (fConsA (fVar 0) fNilA))) (gn 3) bYes (fTup (fConsV (fVar 2) (fConsV (fVar 3) fNilA))))))) (sRet (opL φTuple (fConsA (fVar 1) fNilA)))))
noncomputable def m__law_whole : DF := runB 4 b__law_whole
noncomputable def b__law_beside : BS := (sRet (opL φSorted (fConsA (fComp [2, 3] (iSeqV (fVar 0)) (gt 2 (gsC (gn 2) (gsC (gn 3) gsN))) (tst (op2 φIn (fVar 1) (fLst (fConsV (fVar 2) (fConsV (fVar 3) fNilA))))) (op2 φSub (op2 φAdd (fVar 2) (fVar 3)) (fVar 1))) fNilA)))
noncomputable def m__law_beside : DF := runB 4 b__law_beside
noncomputable def b__law_joined : BS := (sSeq (sAsg 3 (fComp [5] (iRange2 (fConsA (fC (.int 1)) (fConsA (fVar 1) fNilA))) (gn 5) bYes (fTup (fConsV (fCall 2 mDraw (fConsU (fVar 0) (fConsU (fVar 5) fNilU))) (fConsV (fVar 5) fNilA))))) (sSeq (sFor (iRange1 (fConsA (fVar 2) fNilA)) (gn 4) (sSeq (sPar 6 7 (fConsV (fCall 2 mDraw (fConsU (fVar 0) (fConsU (fVar 1) fNilU))) (fConsV (fCall 2 mDraw (fConsU (fVar 0) (fConsU (fVar 1) fNilU))) fNilA))) (sAsg 3 (op2 φAdd (fVar 3) (fIf (tst (op2 φNe (fVar 6) (fVar 7))) (fLst (fConsV (fTup (fConsV (opL φMin (fConsA (fVar 6) (fConsA (fVar 7) fNilA))) (fConsV (opL φMax (fConsA (fVar 6) (fConsA (fVar 7) fNilA))) fNilA))) fNilA)) (fLst fNilA)))))) (sRet (opL φTuple (fConsA (fSSP (fVar 3)) fNilA)))))
noncomputable def m__law_joined : DF := runB 8 b__law_joined
noncomputable def b__law_tree : BS := (sSeq (sAsg 2 (fCall 2 m__law_mixed (fConsU (fVar 0) (fConsU (fRg1 false (fVar 1)) fNilU)))) (sRet (opL φTuple (fConsA (opL φSorted (fConsA (fComp [3] (iRange2 (fConsA (fC (.int 1)) (fConsA (fVar 1) fNilA))) (gn 3) bYes (opL φTuple (fConsA (opL φSorted (fConsA (fLst (fConsV (op2 φIxX (fVar 2) (fCall 2 mDraw (fConsU (fVar 0) (fConsU (fVar 3) fNilU)))) (fConsV (op2 φIxX (fVar 2) (fVar 3)) fNilA))) fNilA)) fNilA))) fNilA)) fNilA))))
noncomputable def m__law_tree : DF := runB 4 b__law_tree
noncomputable def b__law_some_web : BS := (sSeq (sAsg 2 (op2 φAdd (fC (.int 1)) (fCall 2 mDraw (fConsU (fVar 0) (fConsU (fVar 1) fNilU))))) (sSeq (sAsg 3 (fCall 2 m__law_pick (fConsU (fVar 0) (fConsU (fLst (fConsV (fCall 2 m__law_tree (fConsU (fVar 0) (fConsU (fVar 2) fNilU))) (fConsV (fCall 3 m__law_joined (fConsU (fVar 0) (fConsU (fVar 2) (fConsU (fCall 2 mDraw (fConsU (fVar 0) (fConsU (op2 φAdd (fVar 2) (fC (.int 2))) fNilU))) fNilU)))) (fConsV (fCall 1 m__law_path (fConsU (fVar 2) fNilU)) (fConsV (fCall 1 m__law_star (fConsU (fVar 2) fNilU)) (fConsV (fCall 1 m__law_whole (fConsU (fVar 2) fNilU)) (fConsV (fIf (tst (op2 φGt (fVar 2) (fC (.int 2)))) (fCall 1 m__law_ring (fConsU (fVar 2) fNilU)) (fCall 1 m__law_path (fConsU (fVar 2) fNilU))) fNilA))))))) fNilU)))) (sRet (fTup (fConsV (fVar 2) (fConsV (fVar 3) fNilA))))))
noncomputable def m__law_some_web : DF := runB 4 b__law_some_web
noncomputable def b__law_steps : BS := (sSeq (sAsg 3 (op2 φMul (fLst (fConsV (op1 φNeg (fC (.int 1))) fNilA)) (fVar 0))) (sSeq (sPut 3 (fVar 2) (fC (.int 0))) (sSeq (sAsg 4 (fLst (fConsV (fVar 2) fNilA))) (sSeq (sAsg 5 (fC (.int 0))) (sSeq (sWhile (tst (op2 φLt (fVar 5) (opL φLen' (fConsA (fVar 4) fNilA)))) (sSeq (sFor (iSeq (fCall 2 m__law_beside (fConsU (fVar 1) (fConsU (op2 φIxX (fVar 4) (fVar 5)) fNilU)))) (gn 6) (sIf (tst (op2 φLt (op2 φIxX (fVar 3) (fVar 6)) (fC (.int 0)))) (sSeq (sPut 3 (fVar 6) (op2 φAdd (op2 φIxX (fVar 3) (op2 φIxX (fVar 4) (fVar 5))) (fC (.int 1)))) (sApp 4 (fVar 6))) sNx)) (sAsg 5 (op2 φAdd (fVar 5) (fC (.int 1)))))) (sRet (fVar 3)))))))
noncomputable def m__law_steps : DF := runB 7 b__law_steps
/-- the draws' state is there -/
def GOk (g : G) : Prop := g.kd = .k1
theorem gm_draw {many : Nat} {g : G} (hg : GOk g) (h : 0 < many) (h2 : many < 1073741824) : Gm mDraw [.st, .sh (nI many)] g fun d g' => ∃ v : Nat, d = nI v ∧ v < many ∧ GOk g' := by
  obtain ⟨v, g', e, hk, h0, h1⟩ := mDraw_eq (many := (many : Int)) hg (by omega) (by omega)
  exact ⟨_, g', e, v.toNat, by unfold nI; rw [Int.toNat_of_nonneg h0], by omega, hk⟩
section
variable {g : G} {n : Nat} {ts : Ties}
theorem gm_beside {p : Nat} (hl : ts.length ≤ 1000000) : Gm m_beside [.sh (eW ts), .sh (nI p)] g fun d g' => d = nL (nbr ts p) ∧ g' = g := gm_besideT hl
theorem gm__law_beside {p : Nat} (hl : ts.length ≤ 1000000) : Gm m__law_beside [.sh (eW ts), .sh (nI p)] g fun d g' => d = nL (nbr ts p) ∧ g' = g := gm_besideL hl
theorem gm_steps_from {x : Nat} (hw : Web n ts) (hx : x < n) (hn : n ≤ 1000000) : Gm m_steps_from [.sh (nI n), .sh (eW ts), .sh (nI x)] g fun d g' => d = dL n ts x ∧ g' = g :=
  gm_bfs (mb := m_beside) (inc := sInc 5 (fC (.int 1))) (fun p g => gm_beside hw.2) (fun _ _ _ _ _ _ _ _ => rfl) hw hx hn
theorem gm__law_steps {x : Nat} (hw : Web n ts) (hx : x < n) (hn : n ≤ 1000000) : Gm m__law_steps [.sh (nI n), .sh (eW ts), .sh (nI x)] g fun d g' => d = dL n ts x ∧ g' = g :=
  gm_bfs (mb := m__law_beside) (inc := sAsg 5 (op2 φAdd (fVar 5) (fC (.int 1)))) (fun p g => gm__law_beside hw.2) (fun _ _ _ _ _ _ _ _ => rfl) hw hx hn
noncomputable def dM (n : Nat) (ts : Ties) : D := .list ((List.range n).map (dL n ts))
theorem Gm.eq {m : DF} {ss : List Sl} {d : D} (h : Gm m ss g fun e g' => e = d ∧ g' = g) : m ss g = some (d, g) := by
  obtain ⟨_, _, e, rfl, rfl⟩ := h
  exact e
theorem vl_call {k : Nat} {m : DF} {fu : EU} {ρ : List Sl} {ss : List Sl} {d : D} (h1 : fu ρ g = some (ss, g)) (hl : ss.length = k) (h : Gm m ss g fun e g' => e = d ∧ g' = g) : vl (fCall k m fu) ρ g = some (d, g) := by
  obtain ⟨_, _, e, e1, e2⟩ : Vl (fCall k m fu) ρ g fun e g' => e = d ∧ g' = g := .call ⟨ss, g, h1, hl, h⟩
  rw [e, e1, e2]
theorem vw_call {k : Nat} {m : DF} {fu : EU} {ρ : List Sl} {ss : List Sl} {d : D} (h1 : fu ρ g = some (ss, g)) (hl : ss.length = k) (h : Gm m ss g fun e g' => e = d ∧ g' = g) : vw (fCall k m fu) ρ g = some (d, g) := by
  obtain ⟨_, _, e, e1, e2⟩ : Vw (fCall k m fu) ρ g fun e g' => e = d ∧ g' = g := .call ⟨ss, g, h1, hl, h⟩
  rw [e, e1, e2]
theorem gm_steps_of (hw : Web n ts) (hn : n ≤ 1000000) : Gm m_steps_of [.sh (nI n), .sh (eW ts)] g fun d g' => d = dM n ts ∧ g' = g := by
  have hc : compL (cStep (wipeS [.sh (nI n), .sh (eW ts), .no] [2]) (gn 2) bYes (fCall 3 m_steps_from (fConsU (fVar 0) (fConsU (fVar 1) (fConsU (fVar 2) fNilU))))) ((List.range n).map nI) g = some ((List.range n).map (dL n ts), g) := by
    refine compL_map (dL n ts) fun v hv => ?_
    exact cStep_map (ρ1 := [.sh (nI n), .sh (eW ts), .sh (nI v)]) rfl (vl_call rfl rfl (gm_steps_from hw (List.mem_range.mp hv) hn))
  refine .run (.ret (.comp (.range1 (.consA (.of (d := nI n) rfl (.nil ⟨_, rfl, small_nat (by omega), _, _, by rw [rng0]; exact hc, ?_, rfl, rfl⟩))))))
  rw [List.length_map, List.length_range, sizeLine_eq]
  omega
end
/-! _law_eq on the same data -/
inductive EqD : Nat → D → Prop
  | non (r : Nat) : EqD r .none
  | bool (r : Nat) (b : Bool) : EqD r (.bool b)
  | int (r : Nat) (i : Int) : EqD r (.int i)
  | list {r : Nat} {ds : List D} : (∀ d ∈ ds, EqD r d) → ds.length ≤ 1000000 → EqD (r + 1) (.list ds)
  | tuple {r : Nat} {ds : List D} : (∀ d ∈ ds, EqD r d) → ds.length ≤ 1000000 → EqD (r + 1) (.tuple ds)
theorem EqD.listM {α : Type} {r : Nat} {enc : α → D} {l : List α} (h : ∀ a, EqD r (enc a)) (hl : l.length ≤ 1000000) : EqD (r + 1) (.list (l.map enc)) := .list (fun d hd => by obtain ⟨a, _, rfl⟩ := List.mem_map.mp hd; exact h a) (by rw [List.length_map]; exact hl)
theorem EqD.tupleM {α : Type} {r : Nat} {enc : α → D} {l : List α} (h : ∀ a, EqD r (enc a)) (hl : l.length ≤ 1000000) : EqD (r + 1) (.tuple (l.map enc)) := .tuple (fun d hd => by obtain ⟨a, _, rfl⟩ := List.mem_map.mp hd; exact h a) (by rw [List.length_map]; exact hl)
theorem ev_isi {T : String} {f : ES} {ρ : List Sl} {g : G} {d : D} {b : Bool} (h : vw f ρ g = some (d, g)) (hb : isiD T d = some b) : fIsi T f ρ g = some (.d (.bool b), g) := by
  unfold fIsi
  rw [h]
  show (isiD T d).map _ = _
  rw [hb]
  rfl
theorem eq_seq {r : Nat} {g : G} {ds : List D} (mk : List D → D) (hmk : mk = .list ∨ mk = .tuple) (ih : ∀ d ∈ ds, Gm (m__law_eq r) [.sh d, .sh d] g fun e g' => e = .bool true ∧ g' = g) (hl : ds.length ≤ 1000000) : Gm (m__law_eq (r + 1)) [.sh (mk ds), .sh (mk ds)] g fun e g' => e = .bool true ∧ g' = g := by
  have ixm : ∀ (i : Nat) (d : D), ds[i]? = some d → φIxX (mk ds) (nI i) = some (.d d) := fun i d h => by
    rcases hmk with rfl | rfl
    · exact at_nat h
    · exact at_natT h
  have e1 : bOr (tst (fIsi "list" (fVar 1))) (tst (fIsi "tuple" (fVar 1))) [.sh (mk ds), .sh (mk ds), .no] g = some (true, g) := by
    rcases hmk with rfl | rfl
    · exact tt_or (B := true) (C := true) (tt_tst (vw_d (ev_isi (d := .list ds) rfl rfl))) (fun z => by cases z)
    · exact tt_or (B := false) (C := true) (tt_tst (vw_d (ev_isi (d := .tuple ds) rfl rfl))) (fun _ => tt_tst (vw_d (ev_isi (d := .tuple ds) rfl rfl)))
  have e2 : bOr (tst (op2 φNe (fIsi "list" (fVar 0)) (fIsi "list" (fVar 1)))) (tst (op2 φNe (fIsi "tuple" (fVar 0)) (fIsi "tuple" (fVar 1)))) [.sh (mk ds), .sh (mk ds), .no] g = some (false, g) := by
    have nb : ∀ b : Bool, φNe (.bool b) (.bool b) = some (.d (.bool false)) := fun b => by
      rw [φNe_ok (.bool b) (.bool b) (by omega) (by omega), PyData.eqv]
      cases b <;> rfl
    obtain ⟨b1, b2, h1, h2⟩ : ∃ b1 b2, isiD "list" (mk ds) = some b1 ∧ isiD "tuple" (mk ds) = some b2 := by
      rcases hmk with rfl | rfl <;> exact ⟨_, _, rfl, rfl⟩
    exact tt_or (B := false) (C := false) (tt_op2 (vw_d (ev_isi (d := mk ds) rfl h1)) (vw_d (ev_isi (d := mk ds) rfl h1)) (nb b1)) fun _ => tt_op2 (vw_d (ev_isi (d := mk ds) rfl h2)) (vw_d (ev_isi (d := mk ds) rfl h2)) (nb b2)
  have hlen : ∀ (s2 : Sl) (i : Nat), i = 0 ∨ i = 1 → vw (opL φLen' (fConsA (fVar i) fNilA)) [.sh (mk ds), .sh (mk ds), s2] g = some (nI ds.length, g) := fun s2 i hi => by
    rcases hi with rfl | rfl <;> rcases hmk with rfl | rfl
    · exact vw_len (.inr (.inl rfl)) rfl
    · exact vw_len (.inr (.inr rfl)) rfl
    · exact vw_len (.inr (.inl rfl)) rfl
    · exact vw_len (.inr (.inr rfl)) rfl
  have e3 : tst (op2 φNe (opL φLen' (fConsA (fVar 0) fNilA)) (opL φLen' (fConsA (fVar 1) fNilA))) [.sh (mk ds), .sh (mk ds), .no] g = some (false, g) := by
    refine (tt_op2 (hlen _ 0 (.inl rfl)) (hlen _ 1 (.inr rfl)) (φNe_nat _ _)).trans ?_
    rw [decide_eq_true rfl]
    rfl
  have hc : compL (cStep (wipeS [.sh (mk ds), .sh (mk ds), .no] [2]) (gn 2) (bNot (tst (fCall 2 (m__law_eq r) (fConsU (op2 φIxX (fVar 0) (fVar 2)) (fConsU (op2 φIxX (fVar 1) (fVar 2)) fNilU))))) (fVar 2)) ((List.range ds.length).map nI) g = some ([], g) := by
    refine (compL_ff (fun _ => false) nI fun i hi => ?_).trans (by rw [List.filter_eq_nil_iff.mpr (by simp)]; rfl)
    have hi' : ds[i]? = some (ds[i]'(List.mem_range.mp hi)) := List.getElem?_eq_getElem _
    obtain ⟨_, _, ec, rfl, rfl⟩ : Vw (fCall 2 (m__law_eq r) (fConsU (op2 φIxX (fVar 0) (fVar 2)) (fConsU (op2 φIxX (fVar 1) (fVar 2)) fNilU))) [.sh (mk ds), .sh (mk ds), .sh (nI i)] g fun e g' => e = .bool true ∧ g' = g :=
      .call (.cons (.op2 (.of (d := mk ds) rfl (.of (d := nI i) rfl ⟨_, ixm i _ hi', .cons (.op2 (.of (d := mk ds) rfl (.of (d := nI i) rfl ⟨_, ixm i _ hi', .nil ⟨rfl, ih _ (List.getElem_mem _)⟩⟩)))⟩))))
    exact cStep_pure (ρ1 := [.sh (mk ds), .sh (mk ds), .sh (nI i)]) rfl (tt_not (B := true) (tt_tst ec)) fun z => by cases z
  refine .run (.seq (.ite (.of e1 ?_)))
  refine .seq (.ite (.of e2 (.nx ?_)))
  refine .seq (.ite (.of e3 (.nx ?_)))
  refine .ret (.op2 (.comp (.range1 (.consA (.of (hlen _ 1 (.inr rfl)) (.nil ⟨_, rfl, small_nat (by omega), [], g, by rw [rng0]; exact hc, Nat.zero_le _, .of (d := .list []) rfl ⟨_, φEq_nil (c := 0) (fun d h => by cases h) (by omega), rfl, rfl⟩⟩))))))
theorem gm__law_eq : ∀ (r : Nat) {d : D} {g : G}, EqD r d → Gm (m__law_eq (r + 1)) [.sh d, .sh d] g fun e g' => e = .bool true ∧ g' = g := by
  have atom : ∀ (r : Nat) {d : D} {g : G}, (d = .none ∨ (∃ b, d = .bool b) ∨ ∃ i, d = .int i) → Gm (m__law_eq (r + 1)) [.sh d, .sh d] g fun e g' => e = .bool true ∧ g' = g := by
    intro r d g h
    rcases h with rfl | ⟨b, rfl⟩ | ⟨i, rfl⟩
    · exact ⟨_, _, rfl, rfl, rfl⟩
    · cases b <;> exact ⟨_, _, rfl, rfl, rfl⟩
    · refine .run (.seq (.ite (.of (x := false) rfl (.nx ?_))))
      refine .seq (.ite (.of (x := false) rfl (.nx ?_)))
      refine .seq (.ite (.of (x := false) rfl (.nx ?_)))
      refine .seq (.ite (.of (x := false) rfl (.nx ?_)))
      refine .ret (.of (vw_d (ev_and (B := true) (C := true) rfl fun _ => ev_and (B := true) (C := true) (vw_d (ev_not (B := false) rfl)) fun _ => ?_)) ⟨rfl, rfl⟩)
      refine (ev_op2 (x := .int i) (y := .int i) rfl rfl (φEq_int i i)).trans ?_
      rw [decide_eq_true rfl]
      rfl
  intro r
  induction r with
  | zero =>
    intro d g h
    cases h with
    | non => exact atom 0 (.inl rfl)
    | bool _ b => exact atom 0 (.inr (.inl ⟨b, rfl⟩))
    | int _ i => exact atom 0 (.inr (.inr ⟨i, rfl⟩))
  | succ r ih =>
    intro d g h
    cases h with
    | non => exact atom _ (.inl rfl)
    | bool _ b => exact atom _ (.inr (.inl ⟨b, rfl⟩))
    | int _ i => exact atom _ (.inr (.inr ⟨i, rfl⟩))
    | list h hl => exact eq_seq .list (.inl rfl) (fun d hd => ih (h d hd)) hl
    | tuple h hl => exact eq_seq .tuple (.inr rfl) (fun d hd => ih (h d hd)) hl
end Sd

namespace Sd
open PySem PySem.Spec L2
/-! ### Sd24: draws of rows, mixed rows, webs of kinds -/
section
variable {g : G}
theorem gm__law_pick {ds : List D} (hg : GOk g) (h0 : 0 < ds.length) (h1 : ds.length < 1073741824) : Gm m__law_pick [.st, .sh (.list ds)] g fun d g' => d ∈ ds ∧ GOk g' := by
  refine .run (.ret (.op2 (.of (d := .list ds) rfl (.call (.consSt rfl (.cons (.of (d := nI ds.length) rfl (.nil ⟨rfl, (gm_draw hg h0 h1).imp fun d g' h => ?_⟩))))))))
  obtain ⟨v, rfl, hv, hg'⟩ := h
  exact ⟨_, at_nat (List.getElem?_eq_getElem hv), List.getElem_mem _, hg'⟩
theorem Go.ins {i : Nat} {xs : List D} {ρ : List Sl} {fk fv : ES} {Q : Fl → List Sl → G → Prop} (hi : ρ[i]? = some (.ol xs)) (hl : xs.length < sizeLine) (h : Vl fk ρ g fun d g1 => ∃ k : Nat, d = nI k ∧ k < 1000000000 ∧ Vl fv ρ g1 fun x g2 => Q .nx (ρ.set i (.ol (xs.take k ++ [x] ++ xs.drop k))) g2) : Go (sIns i fk fv) ρ g Q := by
  obtain ⟨_, g1, e1, k, rfl, hk, x, g2, e2, q⟩ := h
  refine ⟨_, _, _, ?_, q⟩
  unfold sIns
  rw [e1]
  show (vl fv ρ g1).bind _ = _
  rw [e2]
  show (match ρ[i]?, nI k with | some (.ol xs), .int n => _ | _, _ => _) = _
  rw [hi]
  show (if xs.length < sizeLine ∧ 0 ≤ (k : Int) ∧ (k : Int) < 2 ^ 63 then _ else _) = _
  rw [if_pos ⟨hl, by omega, by omega⟩, Int.toNat_natCast]
theorem gm__law_mixed {α : Type} {enc : α → D} {l : List α} (hg : GOk g) (hl : l.length ≤ 1000000) : Gm m__law_mixed [.st, .sh (.list (l.map enc))] g fun d g' => (∃ l' : List α, l'.Perm l ∧ d = .list (l'.map enc)) ∧ GOk g' := by
  refine .run (.seq (.asg (.lst (.nil ⟨by simp, .ol [], rfl, ?_⟩))))
  refine .seq (.loop (.seq (.of (d := .list (l.map enc)) rfl ⟨_, rfl, .forL l (fun pre ρ g' => ∃ (l' : List α) (s : Sl), ρ = [.st, .sh (.list (l.map enc)), .ol (l'.map enc), s] ∧ l'.Perm pre ∧ GOk g')
    ⟨[], .no, rfl, .refl _, hg⟩ (fun pre a post ρ g1 e h => ?_) fun ρ g1 h => ?_⟩)))
  · obtain ⟨l', s, rfl, hp, hg1⟩ := h
    have hlen : l'.length + 1 ≤ 1000000 := by
      have h1 := hp.length_eq
      have h2 : l.length = pre.length + (post.length + 1) := by rw [e, List.length_append, List.length_cons]
      omega
    refine ⟨_, rfl, ?_⟩
    have hlenE : vw (opL φLen' (fConsA (fVar 2) fNilA)) [.st, .sh (.list (l.map enc)), .ol (l'.map enc), .sh (enc a)] g1 = some (nI l'.length, g1) := vw_len (.inl rfl) (List.length_map _)
    refine .ins (xs := l'.map enc) rfl (by rw [List.length_map, sizeLine_eq]; omega) (.call (.consSt rfl (.cons (.of (d := nI (l'.length + 1)) (vl_op2 (r := .d (nI (l'.length + 1))) hlenE (y := nI 1) rfl rfl) (.nil ⟨rfl, (gm_draw hg1 (Nat.succ_pos _) (by omega)).imp fun d g2 h => ?_⟩)))))
    obtain ⟨v, rfl, hv, hg2⟩ := h
    refine ⟨v, rfl, by omega, .of (d := enc a) rfl ⟨l'.take v ++ [a] ++ l'.drop v, .sh (enc a), ?_, ?_, hg2⟩⟩
    · rw [List.map_append, List.map_append, List.map_take, List.map_drop]
      rfl
    · have h1 : (l'.take v ++ [a] ++ l'.drop v).Perm (a :: l') := by
        have : (l'.take v ++ [a] ++ l'.drop v).Perm ([a] ++ l'.take v ++ l'.drop v) := List.Perm.append_right _ List.perm_append_comm
        refine this.trans ?_
        rw [List.append_assoc, List.take_append_drop]
        exact .refl _
      refine h1.trans ((List.Perm.cons a hp).trans ?_)
      exact (List.perm_append_singleton a pre).symm
  · obtain ⟨l', s, rfl, hp, hg1⟩ := h
    exact .ret (.of (d := .list (l'.map enc)) rfl ⟨⟨l', hp, rfl⟩, hg1⟩)
/-! paths, stars, rings, whole webs -/
def tPath (n : Nat) : Ties := (List.range (n - 1)).map fun i => (i, i + 1)
def tRing (n : Nat) : Ties := (tPath n ++ [(0, n - 1)]).mergeSort pairLe
def tStar (n : Nat) : Ties := (List.range' 1 (n - 1)).map fun i => (0, i)
def tWhole (n : Nat) : Ties := (List.range n).flatMap fun a => (List.range' (a + 1) (n - (a + 1))).map fun b => (a, b)
theorem rngS (n : Nat) : rngD 0 ((n : Int) - 1).toNat = (List.range (n - 1)).map nI := by
  rw [← rng0, show ((n : Int) - 1).toNat = (((n - 1 : Nat)) : Int).toNat by omega]
theorem rng1 (n : Nat) : rngD 1 ((n : Int) - 1).toNat = (List.range' 1 (n - 1)).map nI := rng2 1 n
theorem small_sub {n : Nat} (h : n ≤ 1000000) : smallR ((n : Int) - 1) = true := by
  unfold smallR
  rw [Bool.and_eq_true, decide_eq_true_iff, decide_eq_true_iff]
  omega
theorem path_comp {n : Nat} {s1 : Sl} (hn : n ≤ 1000000) {Q : List D → G → Prop} (q : Q ((tPath n).map nP) g) : Vw (fComp [1] (iRange1 (fConsA (op2 φSub (fVar 0) (fC (.int 1))) fNilA)) (gn 1) bYes (fTup (fConsV (fVar 1) (fConsV (op2 φAdd (fVar 1) (fC (.int 1))) fNilA)))) [.sh (nI n), s1] g fun d g' => ∃ xs, d = .list xs ∧ Q xs g' := by
  have hc : compL (cStep (wipeS [.sh (nI n), s1] [1]) (gn 1) bYes (fTup (fConsV (fVar 1) (fConsV (op2 φAdd (fVar 1) (fC (.int 1))) fNilA)))) ((List.range (n - 1)).map nI) g = some ((List.range (n - 1)).map (fun i => nP (i, i + 1)), g) :=
    compL_map (fun i => nP (i, i + 1)) fun v hv => cStep_map (ρ1 := [.sh (nI n), .sh (nI v)]) rfl rfl
  refine .comp (.range1 (.consA (.op2 (.of (d := nI n) rfl (.of (d := .int 1) rfl ⟨.d (.int ((n : Int) - 1)), rfl, .nil ⟨_, rfl, small_sub hn, _, _, by rw [rngS]; exact hc, ?_, _, rfl, ?_⟩⟩)))))
  · rw [List.length_map, List.length_range, sizeLine_eq]
    omega
  · unfold tPath at q
    rw [List.map_map] at q
    exact q
theorem gm__law_path {n : Nat} (hn : n ≤ 1000000) : Gm m__law_path [.sh (nI n)] g fun d g' => d = eW (tPath n) ∧ g' = g := by
  obtain ⟨_, _, e, xs, rfl, h1, h2⟩ := path_comp (g := g) (s1 := .no) hn (Q := fun xs g' => xs = (tPath n).map nP ∧ g' = g) ⟨rfl, rfl⟩
  subst h1
  subst h2
  exact .run (.ret (.opL (.consA (.of e (.nil ⟨_, rfl, rfl, rfl⟩)))))
theorem gm__law_ring {n : Nat} (h0 : 1 ≤ n) (hn : n ≤ 1000000) : Gm m__law_ring [.sh (nI n)] g fun d g' => d = eW (tRing n) ∧ g' = g := by
  obtain ⟨_, _, e, xs, rfl, h1, h2⟩ := path_comp (g := g) (s1 := .no) hn (Q := fun xs g' => xs = (tPath n).map nP ∧ g' = g) ⟨rfl, rfl⟩
  subst h1
  subst h2
  have hl : (tPath n).length = n - 1 := by unfold tPath; rw [List.length_map, List.length_range]
  have e0 : (n : Int) - 1 = ((n - 1 : Nat) : Int) := by omega
  let rvR : RV := .f (List.map nP (tPath n ++ [(0, n - 1)]))
  refine .run (.ret (.opL (.consA (.opL (.consA (.op2 (.of e (.of (d := .list [nP (0, n - 1)]) ?_ ⟨rvR, ?_, .nil ⟨.f ((tRing n).map nP), sorted_pairs (tPath n ++ [(0, n - 1)]), .nil ⟨.d (eW (tRing n)), rfl, rfl, rfl⟩⟩⟩))))))))
  · show some (PyData.list [.tuple [.int 0, .int ((n : Int) - 1)]], _) = _
    rw [e0]
    rfl
  · unfold φAdd
    dsimp only
    rw [if_pos (by rw [List.length_map, hl, List.length_singleton, sizeLine_eq]; omega)]
    show _ = some (RV.f (List.map nP (tPath n ++ [(0, n - 1)])))
    rw [List.map_append]
    rfl
theorem gm__law_star {n : Nat} (hn : n ≤ 1000000) : Gm m__law_star [.sh (nI n)] g fun d g' => d = eW (tStar n) ∧ g' = g := by
  have hc : compL (cStep (wipeS [.sh (nI n), .no] [1]) (gn 1) bYes (fTup (fConsV (fC (.int 0)) (fConsV (fVar 1) fNilA)))) ((List.range' 1 (n - 1)).map nI) g = some ((List.range' 1 (n - 1)).map (fun i => nP (0, i)), g) :=
    compL_map (fun i => nP (0, i)) fun v hv => cStep_map (ρ1 := [.sh (nI n), .sh (nI v)]) rfl rfl
  refine .run (.ret (.opL (.consA (.comp (.range2 (.consA (.of (d := .int 1) rfl (.consA (.of (d := nI n) rfl (.nil ⟨1, n, rfl, ?_, _, _, by rw [rng1]; exact hc, ?_, .nil ⟨_, rfl, ?_, rfl⟩⟩))))))))))
  · rw [Bool.and_eq_true]
    exact ⟨by decide, small_nat (by omega)⟩
  · rw [List.length_map, List.length_range', sizeLine_eq]
    omega
  · show PyData.tuple _ = _
    unfold eW tStar
    rw [List.map_map]
    rfl
end
end Sd

namespace Sd
open PySem PySem.Spec L2
/-! ### Sd25: webs that hang together -/
theorem Walk.trans {ts : Ties} {x y z a b : Nat} (h : Walk ts x a y) (h' : Walk ts y b z) : Walk ts x (a + b) z := by
  induction h' with
  | nil => exact h
  | snoc _ ad ih => exact ih.snoc ad
theorem Walk.one {ts : Ties} {x y : Nat} (h : Adj ts x y) : Walk ts x 1 y := Walk.nil.snoc h
theorem Walk.symm {ts : Ties} {x y k : Nat} (h : Walk ts x k y) : Walk ts y k x := by
  induction h with
  | nil => exact .nil
  | snoc _ ad ih =>
    have := (Walk.one ad.symm).trans ih
    rwa [Nat.add_comm] at this
structure CW (n : Nat) (ts : Ties) : Prop where
  lt : ∀ e ∈ ts, e.1 < e.2 ∧ e.2 < n
  len : ts.length ≤ 1000000
  conn : ∀ u v, u < n → v < n → ∃ k, Walk ts u k v
theorem CW.web {n : Nat} {ts : Ties} (h : CW n ts) : Web n ts := ⟨fun e he => ⟨Nat.lt_trans (h.lt e he).1 (h.lt e he).2, (h.lt e he).2⟩, h.len⟩
theorem conn_of {n : Nat} {ts : Ties} (r : Nat) (h : ∀ v, v < n → ∃ k, Walk ts r k v) : ∀ u v, u < n → v < n → ∃ k, Walk ts u k v := fun u v hu hv => by
  obtain ⟨a, ha⟩ := h u hu
  obtain ⟨b, hb⟩ := h v hv
  exact ⟨_, ha.symm.trans hb⟩
/-- each place but the first has a tie to an earlier one -/
theorem conn_up {n : Nat} {ts : Ties} (h : ∀ v, 1 ≤ v → v < n → ∃ u, u < v ∧ Adj ts u v) : ∀ u v, u < n → v < n → ∃ k, Walk ts u k v := by
  refine conn_of 0 fun v => ?_
  induction v using Nat.strongRecOn with
  | ind v ih =>
    intro hv
    by_cases h0 : v = 0
    · subst h0
      exact ⟨0, .nil⟩
    · obtain ⟨u, hu, ad⟩ := h v (by omega) hv
      obtain ⟨k, hk⟩ := ih u hu (by omega)
      exact ⟨_, hk.snoc ad⟩
theorem mem_path {n : Nat} {e : Nat × Nat} : e ∈ tPath n ↔ e.2 = e.1 + 1 ∧ e.2 < n := by
  unfold tPath
  rw [List.mem_map]
  constructor
  · rintro ⟨i, hi, rfl⟩
    rw [List.mem_range] at hi
    exact ⟨rfl, by show i + 1 < n; omega⟩
  · rintro ⟨h1, h2⟩
    exact ⟨e.1, List.mem_range.mpr (by omega), by rw [← h1]⟩
theorem cw_path {n : Nat} (hn : n ≤ 1000000) : CW n (tPath n) := by
  refine ⟨fun e he => ?_, ?_, conn_up fun v h1 h2 => ⟨v - 1, by omega, .inl (mem_path.mpr ⟨?_, h2⟩)⟩⟩
  · obtain ⟨h1, h2⟩ := mem_path.mp he
    omega
  · unfold tPath
    rw [List.length_map, List.length_range]
    omega
  · show v = v - 1 + 1
    omega
theorem mem_ring {n : Nat} {e : Nat × Nat} : e ∈ tRing n ↔ e ∈ tPath n ∨ e = (0, n - 1) := by
  unfold tRing
  rw [(List.mergeSort_perm _ _).mem_iff, List.mem_append, List.mem_singleton]
theorem cw_ring {n : Nat} (h2 : 2 ≤ n) (hn : n ≤ 100000) : CW n (tRing n) := by
  have hp := cw_path (n := n) (by omega)
  refine ⟨fun e he => ?_, ?_, fun u v hu hv => ?_⟩
  · rcases mem_ring.mp he with h | rfl
    · exact hp.lt e h
    · exact ⟨by show 0 < n - 1; omega, by show n - 1 < n; omega⟩
  · unfold tRing tPath
    rw [List.length_mergeSort, List.length_append, List.length_map, List.length_range, List.length_singleton]
    omega
  · obtain ⟨k, hk⟩ := hp.conn u v hu hv
    refine ⟨k, ?_⟩
    clear hv
    induction hk with
    | nil => exact .nil
    | snoc _ ad ih => exact ih.snoc (ad.imp (fun z => mem_ring.mpr (.inl z)) fun z => mem_ring.mpr (.inl z))
theorem mem_star {n : Nat} {e : Nat × Nat} : e ∈ tStar n ↔ e.1 = 0 ∧ 1 ≤ e.2 ∧ e.2 < n := by
  unfold tStar
  rw [List.mem_map]
  constructor
  · rintro ⟨i, hi, rfl⟩
    rw [List.mem_range'_1] at hi
    exact ⟨rfl, hi.1, by show i < n; omega⟩
  · rintro ⟨h1, h2, h3⟩
    exact ⟨e.2, List.mem_range'_1.mpr ⟨h2, by omega⟩, by rw [← h1]⟩
theorem cw_star {n : Nat} (hn : n ≤ 1000000) : CW n (tStar n) := by
  refine ⟨fun e he => ?_, ?_, conn_up fun v h1 h2 => ⟨0, by omega, .inl (mem_star.mpr ⟨rfl, h1, h2⟩)⟩⟩
  · obtain ⟨h1, h2, h3⟩ := mem_star.mp he
    omega
  · unfold tStar
    rw [List.length_map, List.length_range']
    omega
theorem mem_whole {n : Nat} {e : Nat × Nat} : e ∈ tWhole n ↔ e.1 < e.2 ∧ e.2 < n := by
  unfold tWhole
  rw [List.mem_flatMap]
  constructor
  · rintro ⟨a, ha, h⟩
    obtain ⟨b, hb, rfl⟩ := List.mem_map.mp h
    rw [List.mem_range] at ha
    rw [List.mem_range'_1] at hb
    exact ⟨by show a < b; omega, by show b < n; omega⟩
  · rintro ⟨h1, h2⟩
    exact ⟨e.1, List.mem_range.mpr (by omega), List.mem_map.mpr ⟨e.2, List.mem_range'_1.mpr ⟨h1, by omega⟩, rfl⟩⟩
theorem flat_len {l : List Nat} {f : Nat → Ties} {c : Nat} (h : ∀ a ∈ l, (f a).length ≤ c) : (l.flatMap f).length ≤ l.length * c := by
  induction l with
  | nil => simp
  | cons a l ih =>
    rw [List.flatMap_cons, List.length_append, List.length_cons, Nat.succ_mul]
    have h1 := h a (.head _)
    have h2 := ih fun b hb => h b (.tail _ hb)
    omega
theorem sq_le {a n : Nat} (h : a ≤ n) (hn : n ≤ 1000) : a * n ≤ 1000000 := Nat.le_trans (Nat.mul_le_mul h (Nat.le_refl n)) (Nat.mul_le_mul hn hn)
theorem cw_whole {n : Nat} (hn : n ≤ 1000) : CW n (tWhole n) := by
  refine ⟨fun e he => mem_whole.mp he, ?_, conn_up fun v h1 h2 => ⟨0, by omega, .inl (mem_whole.mpr ⟨h1, h2⟩)⟩⟩
  unfold tWhole
  refine Nat.le_trans (flat_len (c := n) fun a _ => ?_) (by rw [List.length_range]; exact sq_le (Nat.le_refl n) hn)
  rw [List.length_map, List.length_range']
  omega
section
variable {g : G}
theorem gm__law_whole {n : Nat} (hn : n ≤ 1000) : Gm m__law_whole [.sh (nI n)] g fun d g' => d = eW (tWhole n) ∧ g' = g := by
  refine .run (.seq (.asg (.lst (.nil ⟨by simp, .ol [], rfl, ?_⟩))))
  refine .seq (.loop (.range1 (.consA (.of (d := nI n) rfl (.nil ⟨_, rfl, small_nat (by omega), ?_⟩)))))
  rw [rng0]
  refine .forL (List.range n) (fun pre ρ g' => ∃ s2 s3, ρ = [.sh (nI n), .ol ((pre.flatMap fun a => (List.range' (a + 1) (n - (a + 1))).map fun b => (a, b)).map nP), s2, s3] ∧ g' = g)
    ⟨.no, .no, rfl, rfl⟩ (fun pre a post ρ g1 e h => ?_) fun ρ g1 h => ?_
  · obtain ⟨s2, s3, rfl, rfl⟩ := h
    have hlp : pre.length + (post.length + 1) = n := by
      have := congrArg List.length e
      rw [List.length_range, List.length_append, List.length_cons] at this
      exact this.symm
    have hpre : (pre.flatMap fun a => (List.range' (a + 1) (n - (a + 1))).map fun b => (a, b)).length ≤ 1000000 := by
      refine Nat.le_trans (flat_len (c := n) fun a _ => ?_) (sq_le (by omega) hn)
      rw [List.length_map, List.length_range']
      omega
    generalize hT : (pre.flatMap fun a => (List.range' (a + 1) (n - (a + 1))).map fun b => (a, b)) = T at hpre
    have hc : compL (cStep (wipeS [.sh (nI n), .ol (T.map nP), .sh (nI a), s3] [3]) (gn 3) bYes (fTup (fConsV (fVar 2) (fConsV (fVar 3) fNilA)))) ((List.range' (a + 1) (n - (a + 1))).map nI) g1 = some ((List.range' (a + 1) (n - (a + 1))).map (fun b => nP (a, b)), g1) :=
      compL_map (fun b => nP (a, b)) fun v hv => cStep_map (ρ1 := [.sh (nI n), .ol (T.map nP), .sh (nI a), .sh (nI v)]) rfl rfl
    refine ⟨_, rfl, .asg (.op2 (.of (d := .list (T.map nP)) rfl (.comp (.range2 (.consA (.of (d := nI (a + 1)) rfl (.consA (.of (d := nI n) rfl (.nil ⟨((a + 1 : Nat) : Int), n, rfl, ?_, _, _, by rw [rng2]; exact hc, ?_, .f (T.map nP ++ (List.range' (a + 1) (n - (a + 1))).map (fun b => nP (a, b))), ?_, _, rfl, ?_⟩)))))))))⟩
    · rw [Bool.and_eq_true]
      have : a ∈ List.range n := by rw [e]; simp
      rw [List.mem_range] at this
      exact ⟨small_nat (by omega), small_nat (by omega)⟩
    · rw [List.length_map, List.length_range', sizeLine_eq]
      omega
    · unfold φAdd
      dsimp only
      rw [if_pos (by rw [List.length_map, List.length_map, List.length_range', sizeLine_eq]; omega)]
    · refine ⟨.sh (nI a), s3, ?_, rfl⟩
      rw [List.flatMap_append, hT, List.flatMap_cons, List.flatMap_nil, List.append_nil, List.map_append, List.map_map]
      rfl
  · obtain ⟨s2, s3, rfl, rfl⟩ := h
    exact .ret (.opL (.consA (.of (d := .list ((tWhole n).map nP)) rfl (.nil ⟨_, rfl, rfl, rfl⟩))))
end
/-! sorted(set(..)) of pairs -/
def cdN (e : Nat × Nat) : Int := (e.1 : Int) * 64 + e.2
def unN (c : Int) : Nat × Nat := ((c / 64).toNat, (c % 64).toNat)
def ssN (ts : Ties) : Ties := (ssI (ts.map cdN)).map unN
theorem prs_nat : ∀ {ts : Ties}, (∀ e ∈ ts, e.1 < 64 ∧ e.2 < 64) → prsOf (ts.map nP) = some (ts.map fun e => ((e.1 : Int), (e.2 : Int)))
  | [], _ => rfl
  | e :: ts, h => by
    have h1 : prOf (nP e) = some ((e.1 : Int), (e.2 : Int)) := by
      unfold prOf nP
      dsimp only
      have := h e (.head _)
      rw [if_pos (by omega)]
    rw [List.map_cons, prsOf, h1, prs_nat fun f hf => h f (.tail _ hf)]
    rfl
theorem un_cd {e : Nat × Nat} (h : e.2 < 64) : unN (cdN e) = e := by
  unfold unN cdN
  exact Prod.ext (by show (((e.1 : Int) * 64 + e.2) / 64).toNat = e.1; omega) (by show (((e.1 : Int) * 64 + e.2) % 64).toNat = e.2; omega)
theorem ssP_nat {ts : Ties} (h : ∀ e ∈ ts, e.1 < 64 ∧ e.2 < 64) : ssP (ts.map fun e => ((e.1 : Int), (e.2 : Int))) = (ssN ts).map nP := by
  unfold ssP ssN
  rw [List.map_map, List.map_map]
  refine List.map_congr_left fun c hc => ?_
  have hc' : c ∈ ts.map cdN := ssI_mem.mp hc
  obtain ⟨e, he, rfl⟩ := List.mem_map.mp hc'
  show unPr _ = nP (unN _)
  rw [un_cd (h e he).2]
  exact unPr_cd (a := (e.1 : Int)) (b := (e.2 : Int)) (by have := h e he; omega)
theorem mem_ssN {ts : Ties} (h : ∀ e ∈ ts, e.1 < 64 ∧ e.2 < 64) {e : Nat × Nat} : e ∈ ssN ts ↔ e ∈ ts := by
  unfold ssN
  rw [List.mem_map]
  constructor
  · rintro ⟨c, hc, rfl⟩
    obtain ⟨f, hf, rfl⟩ := List.mem_map.mp (ssI_mem.mp hc)
    rw [un_cd (h f hf).2]
    exact hf
  · intro he
    exact ⟨cdN e, ssI_mem.mpr (List.mem_map_of_mem he), un_cd (h e he).2⟩
theorem ssI_len (l : List Int) : (ssI l).length ≤ l.length := by
  have ins : ∀ (x : Int) (l : List Int), (insU x l).length ≤ l.length + 1 := by
    intro x l
    induction l with
    | nil => exact Nat.le_refl _
    | cons y l ih =>
      unfold insU
      split
      · exact Nat.le_refl _
      · split
        · exact Nat.le_succ _
        · exact Nat.succ_le_succ ih
  unfold ssI
  induction l with
  | nil => exact Nat.le_refl _
  | cons a l ih => exact Nat.le_trans (ins a _) (Nat.succ_le_succ ih)
end Sd

namespace Sd
open PySem PySem.Spec L2
/-! ### Sd26: drawn webs -/
theorem pr_right {α β : Type} {P : α → β → Prop} : ∀ {l : List α} {m : List β}, Paired P l m → ∀ b ∈ m, ∃ a ∈ l, P a b
  | _, _, .nil, b, h => by cases h
  | _, _, .cons p q, b, h => by
    rcases List.mem_cons.mp h with rfl | h
    · exact ⟨_, .head _, p⟩
    · obtain ⟨a, ha, r⟩ := pr_right q b h
      exact ⟨a, .tail _ ha, r⟩
theorem pr_left {α β : Type} {P : α → β → Prop} : ∀ {l : List α} {m : List β}, Paired P l m → ∀ a ∈ l, ∃ b ∈ m, P a b
  | _, _, .nil, b, h => by cases h
  | _, _, .cons p q, b, h => by
    rcases List.mem_cons.mp h with rfl | h
    · exact ⟨_, .head _, p⟩
    · obtain ⟨a, ha, r⟩ := pr_left q b h
      exact ⟨a, .tail _ ha, r⟩
theorem pr_pick {α β γ : Type} [DecidableEq α] [Inhabited γ] {P : α → β → Prop} {R : α → γ → Prop} {f : α → γ → β} (hp : ∀ a b, P a b → ∃ c, R a c ∧ b = f a c) : ∀ {l : List α} {m : List β}, Paired P l m → l.Nodup → ∃ c : α → γ, (∀ a ∈ l, R a (c a)) ∧ m = l.map fun a => f a (c a)
  | _, _, .nil, _ => ⟨fun _ => default, (fun _ h => by cases h), rfl⟩
  | a :: l, _, .cons p q, nd => by
    obtain ⟨na, nl⟩ := List.nodup_cons.mp nd
    obtain ⟨c, h1, h2⟩ := pr_pick hp q nl
    obtain ⟨x, h3, h4⟩ := hp _ _ p
    refine ⟨fun b => if b = a then x else c b, fun b hb => ?_, ?_⟩
    · dsimp only
      split
      · rename_i e
        subst e
        exact h3
      · rename_i e
        rcases List.mem_cons.mp hb with z | z
        · exact absurd z e
        · exact h1 b z
    · rw [List.map_cons]
      dsimp only
      rw [if_pos rfl, h4, h2]
      congr 1
      refine List.map_congr_left fun b hb => ?_
      rw [if_neg]
      rintro rfl
      exact na hb
theorem φMin_nat (a b : Nat) : φMin [nI a, nI b] = some (.d (nI (min a b))) := by
  show some (RV.d (.int (if (b : Int) < (a : Int) then (b : Int) else (a : Int)))) = some (RV.d (.int _))
  congr 3
  split <;> omega
theorem φMax_nat (a b : Nat) : φMax [nI a, nI b] = some (.d (nI (max a b))) := by
  show some (RV.d (.int (if (b : Int) > (a : Int) then (b : Int) else (a : Int)))) = some (RV.d (.int _))
  congr 3
  split <;> omega
section
variable {g : G} {ρ : List Sl}
theorem Vw.ssp {f : ES} {Q : D → G → Prop} (h : Vw f ρ g fun d g' => ∃ xs ps, d = .list xs ∧ prsOf xs = some ps ∧ ps.length < 64 ∧ Q (.list (ssP ps)) g') : Vw (fSSP f) ρ g Q := by
  obtain ⟨_, g', e, xs, ps, rfl, e2, hl, q⟩ := h
  refine .ev ⟨.f (ssP ps), g', ?_, _, rfl, q⟩
  unfold fSSP
  rw [e]
  show (match prsOf xs with | some ps => _ | none => _) = _
  rw [e2]
  show (if ps.length < 64 then _ else _) = _
  rw [if_pos hl]
theorem gm__law_joined {n more : Nat} (hg : GOk g) (h1 : 1 ≤ n) (hn : n + more ≤ 63) : Gm m__law_joined [.st, .sh (nI n), .sh (nI more)] g fun d g' => (∃ ts, d = eW ts ∧ CW n ts ∧ ts.length ≤ 63) ∧ GOk g' := by
  obtain ⟨bs, g1, hc, hg1, hp⟩ := compL_rel (enc := nI) (dec := nP) (step := cStep (wipeS [.st, .sh (nI n), .sh (nI more), .no, .no, .no, .no, .no] [5]) (gn 5) bYes (fTup (fConsV (fCall 2 mDraw (fConsU (fVar 0) (fConsU (fVar 5) fNilU))) (fConsV (fVar 5) fNilA)))) GOk (fun x p => p.2 = x ∧ p.1 < x) (l := List.range' 1 (n - 1)) hg fun v hv g hg => by
    rw [List.mem_range'_1] at hv
    obtain ⟨_, g', e, ⟨w, rfl, hw⟩, hg'⟩ : Vl (fTup (fConsV (fCall 2 mDraw (fConsU (fVar 0) (fConsU (fVar 5) fNilU))) (fConsV (fVar 5) fNilA))) [.st, .sh (nI n), .sh (nI more), .no, .no, .sh (nI v), .no, .no] g fun d g' => (∃ w, d = nP (w, v) ∧ w < v) ∧ GOk g' := by
      refine .ev (.tup (.consV (.call (.consSt rfl (.cons (.of (d := nI v) rfl (.nil ⟨rfl, (gm_draw hg (by omega) (by omega)).imp fun d g1 h => ?_⟩)))))))
      obtain ⟨w, rfl, hw, hg'⟩ := h
      exact .consV (.of (d := nI v) rfl (.nil ⟨by simp, _, rfl, ⟨w, rfl, hw⟩, hg'⟩))
    refine ⟨(w, v), g', ?_, hg', rfl, hw⟩
    unfold cStep
    show (vl _ [.st, .sh (nI n), .sh (nI more), .no, .no, .sh (nI v), .no, .no] g).map _ = _
    rw [e]
    rfl
  have hbl : bs.length = n - 1 := by
    have := Paired.len hp
    rw [List.length_range'] at this
    exact this.symm
  have hbb : ∀ e ∈ bs, e.1 < e.2 ∧ e.2 < n := fun e he => by
    obtain ⟨x, hx, h2, h3⟩ := pr_right hp e he
    rw [List.mem_range'_1] at hx
    omega
  refine .run (.seq (.asg (.comp (.range2 (.consA (.of (d := .int 1) rfl (.consA (.of (d := nI n) rfl (.nil ⟨1, n, rfl, ?_, _, _, by rw [rng1]; exact hc, ?_, .ol (bs.map nP), rfl, ?_⟩)))))))))
  · rw [Bool.and_eq_true]
    exact ⟨by decide, small_nat (by omega)⟩
  · rw [List.length_map, sizeLine_eq]
    omega
  refine .seq (.loop (.range1 (.consA (.of (d := nI more) rfl (.nil ⟨_, rfl, small_nat (by omega), ?_⟩)))))
  rw [rng0]
  refine .forL (List.range more) (fun pre ρ g' => ∃ (T : Ties) (s4 s5 s6 s7 : Sl), ρ = [.st, .sh (nI n), .sh (nI more), .ol (T.map nP), s4, s5, s6, s7] ∧ T.length ≤ n - 1 + pre.length ∧ (∀ e ∈ T, e.1 < e.2 ∧ e.2 < n) ∧ (∀ e ∈ bs, e ∈ T) ∧ GOk g')
    ⟨bs, .no, .no, .no, .no, rfl, by simp [hbl], hbb, fun _ h => h, hg1⟩ (fun pre a post ρ g2 e h => ?_) fun ρ g2 h => ?_
  · obtain ⟨T, s4, s5, s6, s7, rfl, hT, hb, hs, hg2⟩ := h
    have hlp : pre.length + (post.length + 1) = more := by
      have := congrArg List.length e
      rw [List.length_range, List.length_append, List.length_cons] at this
      exact this.symm
    refine ⟨_, rfl, .seq (.par (.consV (.call (.consSt rfl (.cons (.of (d := nI n) rfl (.nil ⟨rfl, (gm_draw hg2 h1 (by omega)).imp fun d g3 h => ?_⟩)))))))⟩
    obtain ⟨x, rfl, hx, hg3⟩ := h
    refine .consV (.call (.consSt rfl (.cons (.of (d := nI n) rfl (.nil ⟨rfl, (gm_draw hg3 h1 (by omega)).imp fun d g4 h => ?_⟩)))))
    obtain ⟨y, rfl, hy, hg4⟩ := h
    refine .nil ⟨nI x, nI y, rfl, ?_⟩
    have ht : tst (op2 φNe (fVar 6) (fVar 7)) [.st, .sh (nI n), .sh (nI more), .ol (T.map nP), .sh (nI a), s5, .sh (nI x), .sh (nI y)] g4 = some (!decide (x = y), g4) := tt_op2 (x := nI x) (y := nI y) rfl rfl (φNe_nat x y)
    have step : ∀ E : Ties, E.length ≤ 1 → (∀ e ∈ E, e.1 < e.2 ∧ e.2 < n) → Vw (fIf (tst (op2 φNe (fVar 6) (fVar 7))) (fLst (fConsV (fTup (fConsV (opL φMin (fConsA (fVar 6) (fConsA (fVar 7) fNilA))) (fConsV (opL φMax (fConsA (fVar 6) (fConsA (fVar 7) fNilA))) fNilA))) fNilA)) (fLst fNilA)) [.st, .sh (nI n), .sh (nI more), .ol (T.map nP), .sh (nI a), s5, .sh (nI x), .sh (nI y)] g4 (fun d g' => d = .list (E.map nP) ∧ g' = g4) →
        Go (sAsg 3 (op2 φAdd (fVar 3) (fIf (tst (op2 φNe (fVar 6) (fVar 7))) (fLst (fConsV (fTup (fConsV (opL φMin (fConsA (fVar 6) (fConsA (fVar 7) fNilA))) (fConsV (opL φMax (fConsA (fVar 6) (fConsA (fVar 7) fNilA))) fNilA))) fNilA)) (fLst fNilA)))) [.st, .sh (nI n), .sh (nI more), .ol (T.map nP), .sh (nI a), s5, .sh (nI x), .sh (nI y)] g4 fun fl ρ2 g2 => fl = .nx ∧ ∃ (T : Ties) (s4 s5 s6 s7 : Sl), ρ2 = [.st, .sh (nI n), .sh (nI more), .ol (T.map nP), s4, s5, s6, s7] ∧ T.length ≤ n - 1 + (pre ++ [a]).length ∧ (∀ e ∈ T, e.1 < e.2 ∧ e.2 < n) ∧ (∀ e ∈ bs, e ∈ T) ∧ GOk g2 := by
      intro E hE hEb hv
      obtain ⟨_, _, ev, rfl, rfl⟩ := hv
      refine .asg (.op2 (.of (d := .list (T.map nP)) rfl (.of ev ⟨.f (T.map nP ++ E.map nP), ?_, .ol (T.map nP ++ E.map nP), rfl, rfl, T ++ E, .sh (nI a), s5, .sh (nI x), .sh (nI y), ?_, ?_, ?_, ?_, hg4⟩)))
      · unfold φAdd
        dsimp only
        rw [if_pos (by rw [List.length_map, List.length_map, sizeLine_eq]; omega)]
      · rw [List.map_append]
        rfl
      · rw [List.length_append, List.length_append, List.length_singleton]
        omega
      · intro e he
        rcases List.mem_append.mp he with he | he
        · exact hb e he
        · exact hEb e he
      · intro e he
        exact List.mem_append.mpr (.inl (hs e he))
    have fin : ∀ {b : BS} {ρ : List Sl} {P : List Sl → G → Prop} {R : Fl → List Sl → G → Prop}, Go b ρ g4 (fun fl ρ2 g2 => fl = .nx ∧ P ρ2 g2) → (∀ ρ2 g2, P ρ2 g2 → R .nx ρ2 g2) → Go b ρ g4 R := fun h i => h.imp fun fl ρ2 g2 ⟨e, p⟩ => by
      subst e
      exact i _ _ p
    by_cases hxy : x = y
    · refine fin (step [] (Nat.zero_le _) (fun e he => by cases he) (.ev (.fIf (.of ht ?_)))) fun _ _ h => h
      rw [decide_eq_true hxy]
      exact .of (r := .f []) rfl ⟨_, rfl, rfl, rfl⟩
    · refine fin (step [(min x y, max x y)] (Nat.le_refl _) (fun e he => ?_) (.ev (.fIf (.of ht ?_)))) fun _ _ h => h
      · have : e = (min x y, max x y) := by simpa using he
        subst this
        exact ⟨by show min x y < max x y; omega, by show max x y < n; omega⟩
      · rw [decide_eq_false hxy]
        refine .lst (.consV (.ev (.tup (.consV (.opL (.consA (.of (d := nI x) rfl (.consA (.of (d := nI y) rfl (.nil ⟨_, φMin_nat x y, .consV (.opL (.consA (.of (d := nI x) rfl (.consA (.of (d := nI y) rfl (.nil ⟨_, φMax_nat x y, .nil ⟨by simp, _, rfl, .nil ⟨by simp, _, rfl, rfl, rfl⟩⟩⟩))))))⟩))))))))))
  · obtain ⟨T, s4, s5, s6, s7, rfl, hT, hb, hs, hg2⟩ := h
    rw [List.length_range] at hT
    have hb64 : ∀ e ∈ T, e.1 < 64 ∧ e.2 < 64 := fun e he => by
      have := hb e he
      omega
    refine .ret (.opL (.consA (.ssp (.of (d := .list (T.map nP)) rfl ⟨_, _, rfl, prs_nat hb64, by rw [List.length_map]; omega, .nil ⟨.d (eW (ssN T)), by rw [ssP_nat hb64]; rfl, ⟨ssN T, rfl, ?_, ?_⟩, hg2⟩⟩))))
    · refine ⟨fun e he => hb e ((mem_ssN hb64).mp he), ?_, conn_up fun v h1 h2 => ?_⟩
      · unfold ssN
        rw [List.length_map]
        have := ssI_len (T.map cdN)
        rw [List.length_map] at this
        omega
      · obtain ⟨e, he, h3, h4⟩ := pr_left hp v (List.mem_range'_1.mpr ⟨h1, by omega⟩)
        refine ⟨e.1, h4, .inl ((mem_ssN hb64).mpr (hs _ ?_))⟩
        rw [← h3]
        exact he
    · unfold ssN
      rw [List.length_map]
      have := ssI_len (T.map cdN)
      rw [List.length_map] at this
      omega
end
end Sd

namespace Sd
open PySem PySem.Spec L2
/-! ### Sd27: drawn trees, some web -/
theorem two_of {l : List Nat} {a b : Nat} (h : l.Perm [a, b]) (hp : l.Pairwise (fun a b => decide (a ≤ b) = true)) : l = [min a b, max a b] := by
  have hl := h.length_eq
  match l, hl with
  | [x, y], _ =>
    have h1 := List.rel_of_pairwise_cons hp (.head _)
    rw [decide_eq_true_iff] at h1
    have hx : x ∈ [a, b] := h.mem_iff.mp (.head _)
    have hy : y ∈ [a, b] := h.mem_iff.mp (.tail _ (.head _))
    have ha : a ∈ [x, y] := h.mem_iff.mpr (.head _)
    have hb : b ∈ [x, y] := h.mem_iff.mpr (.tail _ (.head _))
    simp at hx hy ha hb
    have e1 : x = min a b := by omega
    have e2 : y = max a b := by omega
    rw [← e1, ← e2]
theorem sort2 (a b : Nat) : ([a, b] : List Nat).mergeSort (fun a b => decide (a ≤ b)) = [min a b, max a b] := by
  refine two_of (List.mergeSort_perm _ _) ?_
  refine List.pairwise_mergeSort (le := fun a b => decide (a ≤ b)) ?_ ?_ _
  · intro a b c h1 h2
    rw [decide_eq_true_iff] at h1 h2 ⊢
    omega
  · intro a b
    rw [Bool.or_eq_true, decide_eq_true_iff, decide_eq_true_iff]
    omega
def edge (nm : List Nat) (par : Nat → Nat) (x : Nat) : Nat × Nat := (min (nm.getD (par x) 0) (nm.getD x 0), max (nm.getD (par x) 0) (nm.getD x 0))
/-- a tree: each place but the first hangs on an earlier one; then the places are renamed -/
structure TreeW (n : Nat) (ts : Ties) (nm : List Nat) (par : Nat → Nat) : Prop where
  perm : nm.Perm (List.range n)
  up : ∀ x, 1 ≤ x → x < n → par x < x
  eq : ts = ((List.range' 1 (n - 1)).map (edge nm par)).mergeSort pairLe
section
variable {n : Nat} {ts : Ties} {nm : List Nat} {par : Nat → Nat}
theorem TreeW.mem (T : TreeW n ts nm par) {e : Nat × Nat} : e ∈ ts ↔ ∃ x, (1 ≤ x ∧ x < n) ∧ e = edge nm par x := by
  rw [T.eq, (List.mergeSort_perm _ _).mem_iff, List.mem_map]
  constructor
  · rintro ⟨x, hx, rfl⟩
    rw [List.mem_range'_1] at hx
    exact ⟨x, ⟨hx.1, by omega⟩, rfl⟩
  · rintro ⟨x, hx, rfl⟩
    exact ⟨x, List.mem_range'_1.mpr ⟨hx.1, by omega⟩, rfl⟩
theorem TreeW.nlen (T : TreeW n ts nm par) : nm.length = n := by
  rw [T.perm.length_eq, List.length_range]
theorem TreeW.nd (T : TreeW n ts nm par) : nm.Nodup := T.perm.nodup_iff.mpr List.nodup_range
theorem TreeW.get (T : TreeW n ts nm par) {x : Nat} (h : x < n) : nm[x]? = some (nm.getD x 0) := by
  rw [List.getD_eq_getElem?_getD, List.getElem?_eq_getElem (by rw [T.nlen]; exact h)]
  rfl
theorem TreeW.lt (T : TreeW n ts nm par) {x : Nat} (h : x < n) : nm.getD x 0 < n := by
  have := List.mem_of_getElem? (T.get h)
  rw [T.perm.mem_iff, List.mem_range] at this
  exact this
theorem TreeW.inj (T : TreeW n ts nm par) {x y : Nat} (hx : x < n) (hy : y < n) (h : nm.getD x 0 = nm.getD y 0) : x = y := by
  have e1 := List.getElem?_eq_some_iff.mp (T.get hx)
  have e2 := List.getElem?_eq_some_iff.mp (T.get hy)
  obtain ⟨l1, e1⟩ := e1
  obtain ⟨l2, e2⟩ := e2
  exact (List.getElem_inj T.nd).mp (by rw [e1, e2, h])
theorem TreeW.sur (T : TreeW n ts nm par) {v : Nat} (h : v < n) : ∃ x, x < n ∧ nm.getD x 0 = v := by
  have : v ∈ nm := T.perm.mem_iff.mpr (List.mem_range.mpr h)
  obtain ⟨x, hx, e⟩ := List.getElem_of_mem this
  rw [T.nlen] at hx
  have e1 := List.getElem?_eq_some_iff.mp (T.get hx)
  exact ⟨x, hx, e1.2.symm.trans e⟩
theorem TreeW.adj (T : TreeW n ts nm par) {x : Nat} (h1 : 1 ≤ x) (h2 : x < n) : Adj ts (nm.getD (par x) 0) (nm.getD x 0) := by
  have hm := T.mem.mpr ⟨x, ⟨h1, h2⟩, rfl⟩
  unfold edge at hm
  rcases Nat.le_total (nm.getD (par x) 0) (nm.getD x 0) with h | h
  · rw [Nat.min_eq_left h, Nat.max_eq_right h] at hm
    exact .inl hm
  · rw [Nat.min_eq_right h, Nat.max_eq_left h] at hm
    exact .inr hm
theorem TreeW.adj_inv (T : TreeW n ts nm par) {a b : Nat} (h : Adj ts a b) : ∃ x, (1 ≤ x ∧ x < n) ∧ ((a = nm.getD (par x) 0 ∧ b = nm.getD x 0) ∨ (a = nm.getD x 0 ∧ b = nm.getD (par x) 0)) := by
  have key : ∀ a b, (a, b) ∈ ts → ∃ x, (1 ≤ x ∧ x < n) ∧ ((a = nm.getD (par x) 0 ∧ b = nm.getD x 0) ∨ (a = nm.getD x 0 ∧ b = nm.getD (par x) 0)) := by
    intro a b h
    obtain ⟨x, hx, e⟩ := T.mem.mp h
    refine ⟨x, hx, ?_⟩
    unfold edge at e
    injection e with e1 e2
    omega
  rcases h with h | h
  · exact key a b h
  · obtain ⟨x, hx, e⟩ := key b a h
    exact ⟨x, hx, e.symm.imp (fun ⟨p, q⟩ => ⟨q, p⟩) fun ⟨p, q⟩ => ⟨q, p⟩⟩
theorem TreeW.cw (T : TreeW n ts nm par) (hn : n ≤ 1000000) : CW n ts := by
  refine ⟨fun e he => ?_, ?_, ?_⟩
  · obtain ⟨x, hx, rfl⟩ := T.mem.mp he
    have hp := T.up x hx.1 hx.2
    have h1 := T.lt hx.2
    have h2 := T.lt (Nat.lt_trans hp hx.2)
    have ne : nm.getD (par x) 0 ≠ nm.getD x 0 := fun z => by
      have := T.inj (Nat.lt_trans hp hx.2) hx.2 z
      omega
    unfold edge
    dsimp only
    omega
  · rw [T.eq, List.length_mergeSort, List.length_map, List.length_range']
    omega
  · by_cases h0 : n = 0
    · subst h0
      intro u v hu
      omega
    · refine conn_of (nm.getD 0 0) fun v hv => ?_
      obtain ⟨x, hx, rfl⟩ := T.sur hv
      clear hv
      induction x using Nat.strongRecOn with
      | ind x ih =>
        by_cases hz : x = 0
        · subst hz
          exact ⟨0, .nil⟩
        · have hp := T.up x (by omega) hx
          obtain ⟨k, hk⟩ := ih (par x) hp (by omega)
          exact ⟨_, hk.snoc (T.adj (by omega) hx)⟩
end
theorem Ev.rg1 {f : ES} {ρ : List Sl} {g : G} {Q : R → G → Prop} (h : Vw f ρ g fun d g' => ∃ j : Int, d = .int j ∧ rgOk 0 j = true ∧ Q (.f (rngD 0 j.toNat)) g') : Ev (fRg1 false f) ρ g Q := by
  obtain ⟨_, g', e, j, rfl, hj, q⟩ := h
  refine ⟨_, _, ?_, q⟩
  unfold fRg1
  rw [e]
  show (if rgOk 0 j = true then _ else _) = _
  rw [if_pos hj]
  rfl
theorem Ev.rg1t {f : ES} {ρ : List Sl} {g : G} {Q : R → G → Prop} (h : Vw f ρ g fun d g' => ∃ j : Int, d = .int j ∧ rgOk 0 j = true ∧ Q (.d (.tuple (rngD 0 j.toNat))) g') : Ev (fRg1 true f) ρ g Q := by
  obtain ⟨_, g', e, j, rfl, hj, q⟩ := h
  refine ⟨_, _, ?_, q⟩
  unfold fRg1
  rw [e]
  show (if rgOk 0 j = true then _ else _) = _
  rw [if_pos hj]
  rfl
theorem rgOk_nat {n : Nat} (h : n ≤ 1000000) : rgOk 0 (n : Int) = true := by
  unfold rgOk
  rw [Bool.and_eq_true, Bool.and_eq_true, decide_eq_true_iff]
  exact ⟨⟨by decide, small_nat (by omega)⟩, by omega⟩
section
variable {g : G}
theorem gm__law_tree {n : Nat} (hg : GOk g) (hn : n ≤ 1000) : Gm m__law_tree [.st, .sh (nI n)] g fun d g' => (∃ ts nm par, d = eW ts ∧ TreeW n ts nm par) ∧ GOk g' := by
  refine .run (.seq (.asg (.call (.consSt rfl (.cons (.ev (.rg1 (.of (d := nI n) rfl ⟨_, rfl, rgOk_nat (by omega), _, rfl, .nil ⟨rfl, ?_⟩⟩))))))))
  rw [rng0]
  refine (gm__law_mixed hg (by rw [List.length_range]; omega)).imp fun d g1 h => ?_
  obtain ⟨⟨nm, hp, rfl⟩, hg1⟩ := h
  refine ⟨.sh (.list (nm.map nI)), rfl, ?_⟩
  have hnl : nm.length = n := by rw [hp.length_eq, List.length_range]
  have get : ∀ x, x < n → (nm.map nI)[x]? = some (nI (nm.getD x 0)) := fun x hx => map_get (by
    rw [List.getD_eq_getElem?_getD, List.getElem?_eq_getElem (by rw [hnl]; exact hx)]
    rfl)
  obtain ⟨bs, g2, hc, hg2, hpr⟩ := compL_rel (enc := nI) (dec := nP) (step := cStep (wipeS [.st, .sh (nI n), .sh (.list (nm.map nI)), .no] [3]) (gn 3) bYes (opL φTuple (fConsA (opL φSorted (fConsA (fLst (fConsV (op2 φIxX (fVar 2) (fCall 2 mDraw (fConsU (fVar 0) (fConsU (fVar 3) fNilU)))) (fConsV (op2 φIxX (fVar 2) (fVar 3)) fNilA))) fNilA)) fNilA)))
    GOk (fun x p => ∃ j, j < x ∧ p = (min (nm.getD j 0) (nm.getD x 0), max (nm.getD j 0) (nm.getD x 0))) (l := List.range' 1 (n - 1)) hg1 fun v hv g hg => by
    rw [List.mem_range'_1] at hv
    obtain ⟨_, g', e, ⟨j, rfl, hj⟩, hg'⟩ : Vl (opL φTuple (fConsA (opL φSorted (fConsA (fLst (fConsV (op2 φIxX (fVar 2) (fCall 2 mDraw (fConsU (fVar 0) (fConsU (fVar 3) fNilU)))) (fConsV (op2 φIxX (fVar 2) (fVar 3)) fNilA))) fNilA)) fNilA)) [.st, .sh (nI n), .sh (.list (nm.map nI)), .sh (nI v)] g fun d g' => (∃ j, d = nP (min (nm.getD j 0) (nm.getD v 0), max (nm.getD j 0) (nm.getD v 0)) ∧ j < v) ∧ GOk g' := by
      refine .opL (.consA (.opL (.consA (.ev (.lst (.consV (.op2 (.of (d := .list (nm.map nI)) rfl (.call (.consSt rfl (.cons (.of (d := nI v) rfl (.nil ⟨rfl, (gm_draw hg (by omega) (by omega)).imp fun d g1 h => ?_⟩)))))))))))))
      obtain ⟨w, rfl, hw, hg'⟩ := h
      refine ⟨_, at_nat (get w (by omega)), .consV (.op2 (.of (d := .list (nm.map nI)) rfl (.of (d := nI v) rfl ⟨_, at_nat (get v (by omega)), .nil ⟨by simp, _, rfl, .nil ⟨_, sorted_nats [nm.getD w 0, nm.getD v 0], .nil ⟨_, rfl, ⟨w, ?_, hw⟩, hg'⟩⟩⟩⟩)))⟩
      show PyData.tuple _ = _
      rw [sort2]
      rfl
    refine ⟨_, g', ?_, hg', j, hj, rfl⟩
    unfold cStep
    show (vl _ [.st, .sh (nI n), .sh (.list (nm.map nI)), .sh (nI v)] g).map _ = _
    rw [e]
    rfl
  obtain ⟨par, h1, h2⟩ := pr_pick (R := fun x j => j < x) (f := fun x j => (min (nm.getD j 0) (nm.getD x 0), max (nm.getD j 0) (nm.getD x 0))) (fun a b h => h) hpr List.nodup_range'
  refine .ret (.opL (.consA (.opL (.consA (.comp (.range2 (.consA (.of (d := .int 1) rfl (.consA (.of (d := nI n) rfl (.nil ⟨1, n, rfl, ?_, _, _, by rw [rng1]; exact hc, ?_, .nil ⟨_, sorted_pairs bs, .nil ⟨_, rfl, ⟨bs.mergeSort pairLe, nm, par, rfl, hp, fun x hx1 hx2 => h1 x (List.mem_range'_1.mpr ⟨hx1, by omega⟩), ?_⟩, hg2⟩⟩⟩)))))))))))
  · rw [Bool.and_eq_true]
    exact ⟨by decide, small_nat (by omega)⟩
  · have := Paired.len hpr
    rw [List.length_range'] at this
    rw [List.length_map, sizeLine_eq]
    omega
  · rw [h2]
    rfl
theorem gm__law_some_web {most : Nat} (hg : GOk g) (h0 : 0 < most) (hm : most ≤ 30) : Gm m__law_some_web [.st, .sh (nI most)] g fun d g' => (∃ n ts, d = .tuple [nI n, eW ts] ∧ 1 ≤ n ∧ n ≤ most ∧ CW n ts) ∧ GOk g' := by
  refine .run (.seq (.asg (.op2 (.of (d := .int 1) rfl (.call (.consSt rfl (.cons (.of (d := nI most) rfl (.nil ⟨rfl, (gm_draw hg h0 (by omega)).imp fun d g1 h => ?_⟩)))))))))
  obtain ⟨v, rfl, hv, hg1⟩ := h
  have e1 : φAdd (.int 1) (nI v) = some (.d (nI (v + 1))) := by
    show some (RV.d (.int _)) = some (RV.d (.int _))
    congr 3
    omega
  refine ⟨_, e1, .sh (nI (v + 1)), rfl, ?_⟩
  generalize hn : v + 1 = n
  have h1 : 1 ≤ n := by omega
  have h2 : n ≤ 30 := by omega
  have fin : ∀ {g5 : G} {ds : List D}, GOk g5 → (∀ d ∈ ds, ∃ ts, d = eW ts ∧ CW n ts) → 0 < ds.length → ds.length < 1000 → Gm m__law_pick [.st, .sh (.list ds)] g5 fun d g' => (∃ ts, d = eW ts ∧ CW n ts) ∧ GOk g' := fun hg hd h0 hl => (gm__law_pick hg h0 (by omega)).imp fun d g' h => ⟨hd d h.1, h.2⟩
  refine .seq (.asg (.call (.consSt rfl (.cons (.ev (.lst (.consV (.call (.consSt rfl (.cons (.of (d := nI n) rfl (.nil ⟨rfl, (gm__law_tree hg1 (by omega)).imp fun d g2 h => ?_⟩))))))))))))
  obtain ⟨⟨t1, nm, par, rfl, T⟩, hg2⟩ := h
  refine .consV (.call (.consSt rfl (.cons (.of (d := nI n) rfl (.cons (.call (.consSt rfl (.cons (.of (d := nI (n + 2)) rfl (.nil ⟨rfl, (gm_draw hg2 (by omega) (by omega)).imp fun d g3 h => ?_⟩))))))))))
  obtain ⟨w, rfl, hw, hg3⟩ := h
  refine .nil ⟨rfl, (gm__law_joined hg3 h1 (by omega)).imp fun d g4 h => ?_⟩
  obtain ⟨⟨t2, rfl, C2, _⟩, hg4⟩ := h
  refine .consV (.call (.cons (.of (d := nI n) rfl (.nil ⟨rfl, (gm__law_path (by omega)).imp fun d g5 h => ?_⟩))))
  obtain ⟨rfl, rfl⟩ := h
  refine .consV (.call (.cons (.of (d := nI n) rfl (.nil ⟨rfl, (gm__law_star (by omega)).imp fun d g6 h => ?_⟩))))
  obtain ⟨rfl, rfl⟩ := h
  refine .consV (.call (.cons (.of (d := nI n) rfl (.nil ⟨rfl, (gm__law_whole (by omega)).imp fun d g7 h => ?_⟩))))
  obtain ⟨rfl, rfl⟩ := h
  have last : Vl (fIf (tst (op2 φGt (fVar 2) (fC (.int 2)))) (fCall 1 m__law_ring (fConsU (fVar 2) fNilU)) (fCall 1 m__law_path (fConsU (fVar 2) fNilU))) [.st, .sh (nI most), .sh (nI n), .no] g7 fun d g' => (∃ ts, d = eW ts ∧ CW n ts) ∧ g' = g7 := by
    refine .ev (.fIf (.of (tt_op2 (x := nI n) (y := nI 2) rfl rfl (φGt_nat n 2)) ?_))
    by_cases h3 : 2 < n
    · rw [decide_eq_true h3]
      refine .call (.cons (.of (d := nI n) rfl (.nil ⟨rfl, (gm__law_ring h1 (by omega)).imp fun d g8 h => ?_⟩)))
      obtain ⟨rfl, rfl⟩ := h
      exact ⟨_, rfl, ⟨_, rfl, cw_ring (by omega) (by omega)⟩, rfl⟩
    · rw [decide_eq_false h3]
      refine .call (.cons (.of (d := nI n) rfl (.nil ⟨rfl, (gm__law_path (by omega)).imp fun d g8 h => ?_⟩)))
      obtain ⟨rfl, rfl⟩ := h
      exact ⟨_, rfl, ⟨_, rfl, cw_path (by omega)⟩, rfl⟩
  obtain ⟨_, _, e6, ⟨t6, rfl, C6⟩, rfl⟩ := last
  refine .consV (.of e6 (.nil ⟨by simp, _, rfl, .nil ⟨rfl, (fin (ds := [eW t1, eW t2, eW (tPath n), eW (tStar n), eW (tWhole n), eW t6]) hg4 ?_ (by simp) (by simp)).imp fun d g8 h => ?_⟩⟩))
  · intro d hd
    simp only [List.mem_cons, List.not_mem_nil, or_false] at hd
    rcases hd with rfl | rfl | rfl | rfl | rfl | rfl
    · exact ⟨_, rfl, T.cw (by omega)⟩
    · exact ⟨_, rfl, C2⟩
    · exact ⟨_, rfl, cw_path (by omega)⟩
    · exact ⟨_, rfl, cw_star (by omega)⟩
    · exact ⟨_, rfl, cw_whole (by omega)⟩
    · exact ⟨_, rfl, C6⟩
  · obtain ⟨⟨ts, rfl, C⟩, hg8⟩ := h
    refine ⟨.sh (eW ts), rfl, .ret (.of (d := .tuple [nI n, eW ts]) rfl ⟨⟨n, ts, rfl, h1, by omega, C⟩, hg8⟩)⟩
end
end Sd

namespace Sd
open PySem PySem.Spec L2
/-! ### Sd28: pairs of places, the module strong -/
noncomputable def b_is_on_way : BS := (sRet (op2 φEq (op2 φAdd (op2 φIxX (op2 φIxX (fVar 0) (fVar 1)) (fVar 3)) (op2 φIxX (op2 φIxX (fVar 0) (fVar 3)) (fVar 2))) (op2 φIxX (op2 φIxX (fVar 0) (fVar 1)) (fVar 2))))
noncomputable def m_is_on_way : DF := runB 4 b_is_on_way
noncomputable def b_parts_strongly : BS := (sSeq (sAsg 5 (fCall 2 m_steps_of (fConsU (fVar 0) (fConsU (fVar 1) fNilU)))) (sRet (fOr (fCall 4 m_is_on_way (fConsU (fVar 5) (fConsU (fVar 2) (fConsU (fVar 3) (fConsU (fVar 4) fNilU))))) (fCall 4 m_is_on_way (fConsU (fVar 5) (fConsU (fVar 2) (fConsU (fVar 4) (fConsU (fVar 3) fNilU))))))))
noncomputable def m_parts_strongly : DF := runB 6 b_parts_strongly
noncomputable def b_tells_strongly : BS := (sSeq (sAsg 3 (fCall 2 m_steps_of (fConsU (fVar 0) (fConsU (fVar 1) fNilU)))) (sSeq (sFor (iRange1 (fConsA (fVar 0) fNilA)) (gn 4) (sFor (iRange2 (fConsA (op2 φAdd (fVar 4) (fC (.int 1))) (fConsA (fVar 0) fNilA))) (gn 5) (sIf (bNot (tst (opL φAny (fConsA (fComp [6] (iSeqV (fVar 2)) (gn 6) bYes (fOr (fCall 4 m_is_on_way (fConsU (fVar 3) (fConsU (fVar 6) (fConsU (fVar 4) (fConsU (fVar 5) fNilU))))) (fCall 4 m_is_on_way (fConsU (fVar 3) (fConsU (fVar 6) (fConsU (fVar 5) (fConsU (fVar 4) fNilU))))))) fNilA)))) (sRet (fC (.bool false))) sNx))) (sRet (fC (.bool true)))))
noncomputable def m_tells_strongly : DF := runB 7 b_tells_strongly
noncomputable def b_far_pairs : BS := (sSeq (sAsg 2 (fCall 2 m_steps_of (fConsU (fVar 0) (fConsU (fVar 1) fNilU)))) (sSeq (sAsg 3 (fLst fNilA)) (sSeq (sFor (iRange1 (fConsA (fVar 0) fNilA)) (gn 4) (sFor (iRange2 (fConsA (op2 φAdd (fVar 4) (fC (.int 1))) (fConsA (fVar 0) fNilA))) (gn 5) (sSeq (sAsg 6 (opL φAll (fConsA (fComp [7] (iSeqV (fCall 2 m_beside (fConsU (fVar 1) (fConsU (fVar 4) fNilU)))) (gn 7) bYes (op2 φLe (op2 φIxX (op2 φIxX (fVar 2) (fVar 7)) (fVar 5)) (op2 φIxX (op2 φIxX (fVar 2) (fVar 4)) (fVar 5)))) fNilA))) (sIf (bAnd (tst (fVar 6)) (tst (opL φAll (fConsA (fComp [7] (iSeqV (fCall 2 m_beside (fConsU (fVar 1) (fConsU (fVar 5) fNilU)))) (gn 7) bYes (op2 φLe (op2 φIxX (op2 φIxX (fVar 2) (fVar 7)) (fVar 4)) (op2 φIxX (op2 φIxX (fVar 2) (fVar 4)) (fVar 5)))) fNilA)))) (sApp 3 (fTup (fConsV (fVar 4) (fConsV (fVar 5) fNilA)))) sNx)))) (sRet (fVar 3)))))
noncomputable def m_far_pairs : DF := runB 8 b_far_pairs
noncomputable def b_count_of : BS := (sSeq (sAsg 1 (fC (.int 0))) (sSeq (sWhile (tst (op2 φGt (fVar 0) (fC (.int 0)))) (sSeq (sAsg 0 (op2 φBand (fVar 0) (op2 φSub (fVar 0) (fC (.int 1))))) (sInc 1 (fC (.int 1))))) (sRet (fVar 1))))
noncomputable def m_count_of : DF := runB 2 b_count_of
noncomputable def b_strong_dimension : BS := (sSeq (sAsg 2 (fD1 (fC (.int 0)) (fC (.bool true)))) (sSeq (sFor (iSeq (fCall 2 m_far_pairs (fConsU (fVar 0) (fConsU (fVar 1) fNilU)))) (gt 2 (gsC (gn 3) (gsC (gn 4) gsN))) (sSeq (sAsg 5 (fDnew false)) (sFrz 2 (sSeq (sFor (iKeysD 2) (gn 6) (sIf (bOr (tst (op2 φEq (op2 φBand (op2 φShr (fVar 6) (fVar 3)) (fC (.int 1))) (fC (.int 1)))) (tst (op2 φEq (op2 φBand (op2 φShr (fVar 6) (fVar 4)) (fC (.int 1))) (fC (.int 1))))) (sPut 5 (fVar 6) (fC (.bool true))) (sSeq (sPut 5 (op2 φBor (fVar 6) (op2 φShl (fC (.int 1)) (fVar 3))) (fC (.bool true))) (sPut 5 (op2 φBor (fVar 6) (op2 φShl (fC (.int 1)) (fVar 4))) (fC (.bool true)))))) (sFrz 5 (sAsg 2 (fVar 5))))))) (sFrz 2 (sRet (opL φMin (fConsA (fComp [6] (iKeysD 2) (gn 6) bYes (fCall 1 m_count_of (fConsU (fVar 6) fNilU))) fNilA))))))
noncomputable def m_strong_dimension : DF := runB 7 b_strong_dimension
noncomputable def b__law_sets : BS := (sSeq (sAsg 2 (fLst (fConsV (fTup fNilA) fNilA))) (sSeq (sFor (iRange1 (fConsA (fVar 1) fNilA)) (gn 3) (sSeq (sAsg 4 (fLst fNilA)) (sFrz 2 (sSeq (sFor (iSeq (fVar 2)) (gn 5) (sAsg 4 (op2 φAdd (fVar 4) (fComp [6] (iRange2 (fConsA (fIf (tst (op2 φNe (fVar 5) (fTup fNilA))) (op2 φAdd (op2 φIxX (fVar 5) (op1 φNeg (fC (.int 1)))) (fC (.int 1))) (fC (.int 0))) (fConsA (fVar 0) fNilA))) (gn 6) bYes (op2 φAdd (fVar 5) (fTup (fConsV (fVar 6) fNilA))))))) (sFrz 4 (sAsg 2 (fVar 4))))))) (sRet (fVar 2))))
noncomputable def m__law_sets : DF := runB 7 b__law_sets
noncomputable def b__law_all_strong : BS := (sSeq (sFor (iRange1 (fConsA (fVar 0) fNilA)) (gn 3) (sFor (iRange2 (fConsA (op2 φAdd (fVar 3) (fC (.int 1))) (fConsA (fVar 0) fNilA))) (gn 4) (sIf (tst (op2 φEq (fComp [5] (iSeqV (fVar 2)) (gn 5) (tst (op2 φEq (opL φAbs (fConsA (op2 φSub (op2 φIxX (op2 φIxX (fVar 1) (fVar 5)) (fVar 3)) (op2 φIxX (op2 φIxX (fVar 1) (fVar 5)) (fVar 4))) fNilA)) (op2 φIxX (op2 φIxX (fVar 1) (fVar 3)) (fVar 4)))) (fVar 5)) (fLst fNilA))) (sRet (fC (.bool false))) sNx))) (sRet (fC (.bool true))))
noncomputable def m__law_all_strong : DF := runB 6 b__law_all_strong
theorem at_dM {n c : Nat} {ts : Ties} (h : c < n) : φIxX (dM n ts) (nI c) = some (.d (dL n ts c)) := at_nat (map_get (range_get h))
theorem at_dL {n c y : Nat} {ts : Ties} (h : y < n) : φIxX (dL n ts c) (nI y) = some (.d (.int (dst ts c y))) := at_nat (map_get (range_get h))
theorem vw_tab {n c y : Nat} {ts : Ties} {ft fc fy : ES} {ρ : List Sl} {g : G} (ht : vw ft ρ g = some (dM n ts, g)) (hc : vw fc ρ g = some (nI c, g)) (hy : vw fy ρ g = some (nI y, g)) (h1 : c < n) (h2 : y < n) : vw (op2 φIxX (op2 φIxX ft fc) fy) ρ g = some (.int (dst ts c y), g) :=
  vw_op2 (vw_op2 ht hc (at_dM h1)) hy (at_dL h2)
/-- for x in range(n): for y in range(x + 1, n): -/
theorem Go.pairs {fn : ES} {i j n : Nat} {b : BS} {ρ : List Sl} {g : G} {Q : Fl → List Sl → G → Prop} (I : Ties → List Sl → G → Prop) (hn : n ≤ 1000000) (hij : i ≠ j)
    (len : ∀ pre ρ g, I pre ρ g → i < ρ.length ∧ j < ρ.length) (hfn : ∀ pre ρ g, I pre ρ g → vw fn ρ g = some (nI n, g)) (hi : ∀ pre ρ g s, I pre ρ g → I pre (ρ.set i s) g) (hj : ∀ pre ρ g s, I pre ρ g → I pre (ρ.set j s) g) (h0 : I [] ρ g)
    (step : ∀ pre x y post ρ g, tWhole n = pre ++ (x, y) :: post → I pre ρ g → ρ[i]? = some (.sh (nI x)) → ρ[j]? = some (.sh (nI y)) → Go b ρ g fun fl ρ2 g2 => match fl with
      | .nx => I (pre ++ [(x, y)]) ρ2 g2 ∧ ρ2[i]? = some (.sh (nI x))
      | .ret d => Q (.ret d) ρ2 g2
      | _ => False)
    (fin : ∀ ρ g, I (tWhole n) ρ g → Q .nx ρ g) : Go (sFor (iRange1 (fConsA fn fNilA)) (gn i) (sFor (iRange2 (fConsA (op2 φAdd (fVar i) (fC (.int 1))) (fConsA fn fNilA))) (gn j) b)) ρ g Q := by
  let f : Nat → Ties := fun a => (List.range' (a + 1) (n - (a + 1))).map fun b => (a, b)
  refine .loop (.range1 (.consA (.of (hfn _ _ _ h0) (.nil ⟨_, rfl, small_nat (by omega), ?_⟩))))
  rw [rng0]
  refine .forL (List.range n) (fun pre ρ g => I (pre.flatMap f) ρ g) h0 (fun pre x post ρ1 g1 e h => ?_) fin
  have hx : x < n := by
    have : x ∈ List.range n := by rw [e]; simp
    exact List.mem_range.mp this
  have ew : tWhole n = pre.flatMap f ++ (f x ++ post.flatMap f) := by
    show (List.range n).flatMap f = _
    rw [e, List.flatMap_append, List.flatMap_cons]
  have h1 := hi _ _ _ (.sh (nI x)) h
  have hix : (ρ1.set i (.sh (nI x)))[i]? = some (.sh (nI x)) := List.getElem?_set_self (len _ _ _ h).1
  refine ⟨_, rfl, ?_⟩
  have hx1 : vw (op2 φAdd (fVar i) (fC (.int 1))) (ρ1.set i (.sh (nI x))) g1 = some (nI (x + 1), g1) := by
    refine vw_op2 (x := nI x) (y := .int 1) (r := .d (nI (x + 1))) ?_ rfl rfl
    unfold vw fVar
    rw [hix]
    rfl
  refine .loop (.range2 (.consA (.of hx1 (.consA (.of (hfn _ _ _ h1) (.nil ⟨((x + 1 : Nat) : Int), n, rfl, ?_, ?_⟩))))))
  · rw [Bool.and_eq_true]
    exact ⟨small_nat (by omega), small_nat (by omega)⟩
  rw [rng2]
  refine .forL (List.range' (x + 1) (n - (x + 1))) (fun pj ρ g => I (pre.flatMap f ++ pj.map fun b => (x, b)) ρ g ∧ ρ[i]? = some (.sh (nI x))) ⟨by rw [List.map_nil, List.append_nil]; exact h1, hix⟩ (fun pj y pk ρ2 g2 e2 h2 => ?_) fun ρ2 g2 h2 => ?_
  · obtain ⟨h2, hix2⟩ := h2
    have hl := len _ _ _ h2
    refine ⟨_, rfl, (step (pre.flatMap f ++ pj.map fun b => (x, b)) x y (pk.map (fun b => (x, b)) ++ post.flatMap f) _ g2 ?_ (hj _ _ _ (.sh (nI y)) h2) ?_ (List.getElem?_set_self hl.2)).imp fun fl ρ3 g3 h3 => ?_⟩
    · rw [ew]
      show _ ++ ((List.range' (x + 1) (n - (x + 1))).map (fun b => (x, b)) ++ _) = _
      rw [e2, List.map_append, List.map_cons]
      simp only [List.append_assoc, List.cons_append]
    · rw [List.getElem?_set_ne hij.symm]
      exact hix2
    · cases fl with
      | nx =>
        refine ⟨?_, h3.2⟩
        rw [List.map_append, ← List.append_assoc]
        exact h3.1
      | ret d => exact h3
      | bk => exact h3.elim
      | ct => exact h3.elim
  · show I ((pre ++ [x]).flatMap f) ρ2 g2
    rw [List.flatMap_append, List.flatMap_cons, List.flatMap_nil, List.append_nil]
    exact h2.1
section
variable {g : G} {n : Nat} {ts : Ties}
theorem gm_is_on_way {c x y : Nat} (hc : c < n) (hx : x < n) (hy : y < n) : Gm m_is_on_way [.sh (dM n ts), .sh (nI c), .sh (nI x), .sh (nI y)] g fun d g' => d = .bool (decide (dst ts c y + dst ts y x = dst ts c x)) ∧ g' = g :=
  .run (.ret (.of (vw_op2 (vw_op2 (r := .d (.int (dst ts c y + dst ts y x))) (vw_tab (c := c) (y := y) rfl rfl rfl hc hy) (vw_tab (c := y) (y := x) rfl rfl rfl hy hx) rfl) (vw_tab (c := c) (y := x) rfl rfl rfl hc hx) (φEq_int _ _)) ⟨rfl, rfl⟩))
noncomputable def farP (ts : Ties) (x y : Nat) : Bool := ((nbr ts x).all fun z => decide (dst ts z y ≤ dst ts x y)) && (nbr ts y).all fun z => decide (dst ts z x ≤ dst ts x y)
noncomputable def farL (n : Nat) (ts : Ties) : Ties := (tWhole n).filter fun p => farP ts p.1 p.2
theorem whole_lt {n : Nat} {pre post : Ties} {x y : Nat} (e : tWhole n = pre ++ (x, y) :: post) : x < y ∧ y < n := (mem_whole (e := (x, y))).mp (by rw [e]; exact List.mem_append.mpr (.inr (.head _)))
theorem whole_len {n : Nat} (hn : n ≤ 1000) {pre post : Ties} {x y : Nat} (e : tWhole n = pre ++ (x, y) :: post) : pre.length < 1000000 := by
  have := (cw_whole hn).len
  rw [e, List.length_append, List.length_cons] at this
  omega
theorem nbr_len {ts : Ties} {x : Nat} : (nbr ts x).length ≤ ts.length := by
  unfold nbr
  rw [List.length_mergeSort, List.length_map]
  exact List.length_filter_le _ _
theorem nbr_lt (hw : Web n ts) {x z : Nat} (h : z ∈ nbr ts x) : z < n := (hw.adj (mem_nbr.mp h)).2
theorem gm_far_pairs (hw : Web n ts) (hn : n ≤ 1000) : Gm m_far_pairs [.sh (nI n), .sh (eW ts)] g fun d g' => d = .list ((farL n ts).map nP) ∧ g' = g := by
  refine .run (.seq (.asg (.call (.cons (.of (d := nI n) rfl (.cons (.of (d := eW ts) rfl (.nil ⟨rfl, (gm_steps_of hw (by omega)).imp fun d g1 h => ?_⟩))))))))
  obtain ⟨rfl, rfl⟩ := h
  refine ⟨.sh (dM n ts), rfl, .seq (.asg (.lst (.nil ⟨by simp, .ol [], rfl, ?_⟩)))⟩
  refine .seq (.pairs (n := n) (fun pre ρ g => ∃ s4 s5 s6 s7, ρ = [.sh (nI n), .sh (eW ts), .sh (dM n ts), .ol ((pre.filter fun p => farP ts p.1 p.2).map nP), s4, s5, s6, s7] ∧ g = g1) (by omega) (by decide)
    (fun pre ρ g h => by obtain ⟨s4, s5, s6, s7, rfl, _⟩ := h; exact ⟨Nat.lt_of_sub_pos (Nat.succ_pos _), Nat.lt_of_sub_pos (Nat.succ_pos _)⟩) (fun pre ρ g h => by obtain ⟨s4, s5, s6, s7, rfl, _⟩ := h; rfl)
    (fun pre ρ g s h => by obtain ⟨s4, s5, s6, s7, rfl, e⟩ := h; exact ⟨s, s5, s6, s7, rfl, e⟩) (fun pre ρ g s h => by obtain ⟨s4, s5, s6, s7, rfl, e⟩ := h; exact ⟨s4, s, s6, s7, rfl, e⟩) ⟨.no, .no, .no, .no, rfl, rfl⟩
    (fun pre x y post ρ g e h hx hy => ?_) fun ρ g h => ?_)
  · obtain ⟨s4, s5, s6, s7, rfl, rfl⟩ := h
    have e4 : s4 = .sh (nI x) := Option.some.inj hx
    have e5 : s5 = .sh (nI y) := Option.some.inj hy
    subst e4
    subst e5
    obtain ⟨hxy, hyn⟩ := whole_lt e
    have hxn : x < n := by omega
    have hlen := whole_len hn e
    generalize hT : ((pre.filter fun p => farP ts p.1 p.2).map nP) = T
    have hTl : T.length < sizeLine := by
      rw [← hT, List.length_map, sizeLine_eq]
      have := List.length_filter_le (fun p : Nat × Nat => farP ts p.1 p.2) pre
      omega
    -- one side
    have side : ∀ (u v : Nat) (iu iv : Nat) (s6 : Sl), u < n → v < n → (iu = 4 ∧ u = x ∧ iv = 5 ∧ v = y ∨ iu = 5 ∧ u = y ∧ iv = 4 ∧ v = x) →
        vw (opL φAll (fConsA (fComp [7] (iSeqV (fCall 2 m_beside (fConsU (fVar 1) (fConsU (fVar iu) fNilU)))) (gn 7) bYes (op2 φLe (op2 φIxX (op2 φIxX (fVar 2) (fVar 7)) (fVar iv)) (op2 φIxX (op2 φIxX (fVar 2) (fVar 4)) (fVar 5)))) fNilA)) [.sh (nI n), .sh (eW ts), .sh (dM n ts), .ol T, .sh (nI x), .sh (nI y), s6, s7] g = some (.bool ((nbr ts u).all fun z => decide (dst ts z v ≤ dst ts x y)), g) := by
      intro u v iu iv s6 hu hv hc
      have hcomp : compL (cStep (wipeS [.sh (nI n), .sh (eW ts), .sh (dM n ts), .ol T, .sh (nI x), .sh (nI y), s6, s7] [7]) (gn 7) bYes (op2 φLe (op2 φIxX (op2 φIxX (fVar 2) (fVar 7)) (fVar iv)) (op2 φIxX (op2 φIxX (fVar 2) (fVar 4)) (fVar 5)))) ((nbr ts u).map nI) g = some ((nbr ts u).map (fun z => PyData.bool (decide (dst ts z v ≤ dst ts x y))), g) := by
        refine compL_map _ fun z hz => ?_
        have hzn := nbr_lt hw hz
        refine cStep_map (ρ1 := [.sh (nI n), .sh (eW ts), .sh (dM n ts), .ol T, .sh (nI x), .sh (nI y), s6, .sh (nI z)]) rfl ?_
        refine vl_op2 (x := .int (dst ts z v)) (y := .int (dst ts x y)) (r := .d (.bool (decide (dst ts z v ≤ dst ts x y)))) ?_ (vw_tab (c := x) (y := y) rfl rfl rfl hxn hyn) rfl
        rcases hc with ⟨rfl, rfl, rfl, rfl⟩ | ⟨rfl, rfl, rfl, rfl⟩
        · exact vw_tab (c := z) (y := v) rfl rfl rfl hzn hv
        · exact vw_tab (c := z) (y := v) rfl rfl rfl hzn hv
      have hb : fConsU (fVar 1) (fConsU (fVar iu) fNilU) [.sh (nI n), .sh (eW ts), .sh (dM n ts), .ol T, .sh (nI x), .sh (nI y), s6, s7] g = some ([.sh (eW ts), .sh (nI u)], g) := by
        rcases hc with ⟨rfl, rfl, rfl, rfl⟩ | ⟨rfl, rfl, rfl, rfl⟩ <;> rfl
      obtain ⟨_, _, e, e1, e2⟩ : Vw (opL φAll (fConsA (fComp [7] (iSeqV (fCall 2 m_beside (fConsU (fVar 1) (fConsU (fVar iu) fNilU)))) (gn 7) bYes (op2 φLe (op2 φIxX (op2 φIxX (fVar 2) (fVar 7)) (fVar iv)) (op2 φIxX (op2 φIxX (fVar 2) (fVar 4)) (fVar 5)))) fNilA)) [.sh (nI n), .sh (eW ts), .sh (dM n ts), .ol T, .sh (nI x), .sh (nI y), s6, s7] g fun d g' => d = .bool ((nbr ts u).all fun z => decide (dst ts z v ≤ dst ts x y)) ∧ g' = g :=
        .opL (.consA (.comp (.seqV (.of (vw_call hb rfl (gm_beside hw.2)) ⟨_, rfl, _, _, hcomp, by rw [List.length_map]; exact small_len (Nat.le_trans nbr_len hw.2), .nil ⟨_, φAll_map _ _, rfl, rfl⟩⟩))))
      rw [e, e1, e2]
    refine .seq (.asg ?_)
    have h6 := side x y 4 5 s6 hxn hyn (.inl ⟨rfl, rfl, rfl, rfl⟩)
    obtain ⟨r6, e6, hr6⟩ : ∃ r, opL φAll (fConsA (fComp [7] (iSeqV (fCall 2 m_beside (fConsU (fVar 1) (fConsU (fVar 4) fNilU)))) (gn 7) bYes (op2 φLe (op2 φIxX (op2 φIxX (fVar 2) (fVar 7)) (fVar 5)) (op2 φIxX (op2 φIxX (fVar 2) (fVar 4)) (fVar 5)))) fNilA) [.sh (nI n), .sh (eW ts), .sh (dM n ts), .ol T, .sh (nI x), .sh (nI y), s6, s7] g = some (r, g) ∧ stSl r = some (.sh (.bool ((nbr ts x).all fun z => decide (dst ts z y ≤ dst ts x y)))) := by
      unfold vw at h6
      split at h6
      · rename_i d g' e
        cases h6
        exact ⟨_, e, rfl⟩
      · cases h6
      · cases h6
      · rename_i i g' e
        obtain ⟨d, e1, e2⟩ := map_some h6
        cases e2
        unfold opL at e
        obtain ⟨p, _, e⟩ := bind_some e
        obtain ⟨r, _, e⟩ := map_some e
        cases r <;> cases e
      · cases h6
    refine .of e6 ⟨_, hr6, ?_⟩
    generalize hA : ((nbr ts x).all fun z => decide (dst ts z y ≤ dst ts x y)) = A
    have h7 := side y x 5 4 (.sh (.bool A)) hyn hxn (.inr ⟨rfl, rfl, rfl, rfl⟩)
    refine .ite (.of (tt_and (B := A) (tt_tst rfl) fun _ => tt_tst h7) ?_)
    have hf : (A && (nbr ts y).all fun z => decide (dst ts z x ≤ dst ts x y)) = farP ts x y := by rw [← hA]; rfl
    rw [hf]
    have ef : ((pre ++ [(x, y)]).filter fun p => farP ts p.1 p.2).map nP = T ++ (if farP ts x y = true then [nP (x, y)] else []) := by
      rw [List.filter_append, List.map_append, hT]
      congr 1
      rw [List.filter_cons]
      dsimp only
      cases farP ts x y <;> rfl
    cases hq : farP ts x y with
    | true =>
      rw [hq] at ef
      refine .app (xs := T) rfl hTl (.of (d := nP (x, y)) rfl ⟨⟨.sh (nI x), .sh (nI y), .sh (.bool A), s7, ?_, rfl⟩, rfl⟩)
      rw [ef]
      rfl
    | false =>
      rw [hq, if_neg (by decide), List.append_nil] at ef
      refine .nx ⟨⟨.sh (nI x), .sh (nI y), .sh (.bool A), s7, ?_, rfl⟩, rfl⟩
      rw [ef]
      rfl
  · obtain ⟨s4, s5, s6, s7, rfl, rfl⟩ := h
    exact .ret (.of (d := .list ((farL n ts).map nP)) rfl ⟨rfl, rfl⟩)
end
end Sd

namespace Sd
open PySem PySem.Spec L2
/-! ### Sd29: telling strongly, counting bits, the strong dimension -/
noncomputable def tsB (n : Nat) (ts : Ties) (l : List Nat) : Bool := (tWhole n).all fun p => l.any fun c => decide (dst ts c p.2 + dst ts p.2 p.1 = dst ts c p.1) || decide (dst ts c p.1 + dst ts p.1 p.2 = dst ts c p.2)
noncomputable def asB (n : Nat) (ts : Ties) (l : List Nat) : Bool := (tWhole n).all fun p => l.any fun c => decide ((if dst ts c p.1 - dst ts c p.2 < 0 then -(dst ts c p.1 - dst ts c p.2) else dst ts c p.1 - dst ts c p.2) = dst ts p.1 p.2)
theorem all_pre {α : Type} {p : α → Bool} {l pre post : List α} {a : α} (e : l = pre ++ a :: post) (h : p a = false) : l.all p = false := by
  rw [e, List.all_append, List.all_cons, h]
  simp
section
variable {g : G} {n : Nat} {ts : Ties}
theorem gm_tells_strongly {l : List Nat} (hw : Web n ts) (hn : n ≤ 1000) (hl : ∀ c ∈ l, c < n) (hll : l.length ≤ 1000000) : Gm m_tells_strongly [.sh (nI n), .sh (eW ts), .sh (nT l)] g fun d g' => d = .bool (tsB n ts l) ∧ g' = g := by
  refine .run (.seq (.asg (.call (.cons (.of (d := nI n) rfl (.cons (.of (d := eW ts) rfl (.nil ⟨rfl, (gm_steps_of hw (by omega)).imp fun d g1 h => ?_⟩))))))))
  obtain ⟨rfl, rfl⟩ := h
  refine ⟨.sh (dM n ts), rfl, ?_⟩
  refine .seq (.pairs (n := n) (fun pre ρ g => ∃ s4 s5 s6, ρ = [.sh (nI n), .sh (eW ts), .sh (nT l), .sh (dM n ts), s4, s5, s6] ∧ (pre.all fun p => l.any fun c => decide (dst ts c p.2 + dst ts p.2 p.1 = dst ts c p.1) || decide (dst ts c p.1 + dst ts p.1 p.2 = dst ts c p.2)) = true ∧ g = g1) (by omega) (by decide)
    (fun pre ρ g h => by obtain ⟨s4, s5, s6, rfl, _⟩ := h; exact ⟨Nat.lt_of_sub_pos (Nat.succ_pos _), Nat.lt_of_sub_pos (Nat.succ_pos _)⟩) (fun pre ρ g h => by obtain ⟨s4, s5, s6, rfl, _⟩ := h; rfl)
    (fun pre ρ g s h => by obtain ⟨s4, s5, s6, rfl, e⟩ := h; exact ⟨s, s5, s6, rfl, e⟩) (fun pre ρ g s h => by obtain ⟨s4, s5, s6, rfl, e⟩ := h; exact ⟨s4, s, s6, rfl, e⟩) ⟨.no, .no, .no, rfl, rfl, rfl⟩
    (fun pre x y post ρ g e h hx hy => ?_) fun ρ g h => ?_)
  · obtain ⟨s4, s5, s6, rfl, hpre, rfl⟩ := h
    have e4 : s4 = .sh (nI x) := Option.some.inj hx
    have e5 : s5 = .sh (nI y) := Option.some.inj hy
    subst e4
    subst e5
    obtain ⟨hxy, hyn⟩ := whole_lt e
    have hxn : x < n := by omega
    generalize hP : (fun c => decide (dst ts c y + dst ts y x = dst ts c x) || decide (dst ts c x + dst ts x y = dst ts c y)) = P
    have hcomp : compL (cStep (wipeS [.sh (nI n), .sh (eW ts), .sh (nT l), .sh (dM n ts), .sh (nI x), .sh (nI y), s6] [6]) (gn 6) bYes (fOr (fCall 4 m_is_on_way (fConsU (fVar 3) (fConsU (fVar 6) (fConsU (fVar 4) (fConsU (fVar 5) fNilU))))) (fCall 4 m_is_on_way (fConsU (fVar 3) (fConsU (fVar 6) (fConsU (fVar 5) (fConsU (fVar 4) fNilU))))))) (l.map nI) g = some (l.map (fun c => PyData.bool (P c)), g) := by
      refine compL_map _ fun c hc => ?_
      have hcn := hl c hc
      refine cStep_map (ρ1 := [.sh (nI n), .sh (eW ts), .sh (nT l), .sh (dM n ts), .sh (nI x), .sh (nI y), .sh (nI c)]) rfl ?_
      rw [← hP]
      refine vl_d (ev_or (vw_call (ss := [.sh (dM n ts), .sh (nI c), .sh (nI x), .sh (nI y)]) rfl rfl (gm_is_on_way hcn hxn hyn)) fun _ => ?_)
      obtain ⟨_, _, e1, e2, e3⟩ : Ev (fCall 4 m_is_on_way (fConsU (fVar 3) (fConsU (fVar 6) (fConsU (fVar 5) (fConsU (fVar 4) fNilU))))) [.sh (nI n), .sh (eW ts), .sh (nT l), .sh (dM n ts), .sh (nI x), .sh (nI y), .sh (nI c)] g fun r g' => r = .d (.bool (decide (dst ts c x + dst ts x y = dst ts c y))) ∧ g' = g :=
        .call ⟨[.sh (dM n ts), .sh (nI c), .sh (nI y), .sh (nI x)], g, rfl, rfl, (gm_is_on_way hcn hyn hxn).imp fun d g2 h => by obtain ⟨rfl, rfl⟩ := h; exact ⟨rfl, rfl⟩⟩
      rw [e1, e2, e3]
    have htest : bNot (tst (opL φAny (fConsA (fComp [6] (iSeqV (fVar 2)) (gn 6) bYes (fOr (fCall 4 m_is_on_way (fConsU (fVar 3) (fConsU (fVar 6) (fConsU (fVar 4) (fConsU (fVar 5) fNilU))))) (fCall 4 m_is_on_way (fConsU (fVar 3) (fConsU (fVar 6) (fConsU (fVar 5) (fConsU (fVar 4) fNilU))))))) fNilA))) [.sh (nI n), .sh (eW ts), .sh (nT l), .sh (dM n ts), .sh (nI x), .sh (nI y), s6] g = some (!l.any P, g) := by
      obtain ⟨_, _, e1, rfl, rfl⟩ : Vw (opL φAny (fConsA (fComp [6] (iSeqV (fVar 2)) (gn 6) bYes (fOr (fCall 4 m_is_on_way (fConsU (fVar 3) (fConsU (fVar 6) (fConsU (fVar 4) (fConsU (fVar 5) fNilU))))) (fCall 4 m_is_on_way (fConsU (fVar 3) (fConsU (fVar 6) (fConsU (fVar 5) (fConsU (fVar 4) fNilU))))))) fNilA)) [.sh (nI n), .sh (eW ts), .sh (nT l), .sh (dM n ts), .sh (nI x), .sh (nI y), s6] g fun d g' => d = .bool (l.any P) ∧ g' = g :=
        .opL (.consA (.comp (.seqV (.of (d := nT l) rfl ⟨l.map nI, rfl, _, _, hcomp, by rw [List.length_map]; exact small_len hll, .nil ⟨_, φAny_map _ _, rfl, rfl⟩⟩))))
      exact tt_not (tt_tst e1)
    refine .ite (.of htest ?_)
    cases hq : l.any P with
    | true =>
      refine .nx ⟨⟨.sh (nI x), .sh (nI y), s6, rfl, ?_, rfl⟩, rfl⟩
      rw [List.all_append, hpre]
      show (l.any _ && true) = true
      rw [hP, hq]
      rfl
    | false =>
      refine .ret (.of (d := .bool false) rfl ⟨?_, rfl⟩)
      unfold tsB
      rw [all_pre e (by show l.any _ = false; rw [hP, hq])]
  · obtain ⟨s4, s5, s6, rfl, hpre, rfl⟩ := h
    refine .ret (.of (d := .bool true) rfl ⟨?_, rfl⟩)
    unfold tsB
    rw [hpre]
theorem gm__law_all_strong {l : List Nat} (hn : n ≤ 1000) (hl : ∀ c ∈ l, c < n) (hll : l.length ≤ 1000000) : Gm m__law_all_strong [.sh (nI n), .sh (dM n ts), .sh (nT l)] g fun d g' => d = .bool (asB n ts l) ∧ g' = g := by
  refine .run (.seq (.pairs (n := n) (fun pre ρ g' => ∃ s4 s5 s6, ρ = [.sh (nI n), .sh (dM n ts), .sh (nT l), s4, s5, s6] ∧ (pre.all fun p => l.any fun c => decide ((if dst ts c p.1 - dst ts c p.2 < 0 then -(dst ts c p.1 - dst ts c p.2) else dst ts c p.1 - dst ts c p.2) = dst ts p.1 p.2)) = true ∧ g' = g) (by omega) (by decide)
    (fun pre ρ g h => by obtain ⟨s4, s5, s6, rfl, _⟩ := h; exact ⟨Nat.lt_of_sub_pos (Nat.succ_pos _), Nat.lt_of_sub_pos (Nat.succ_pos _)⟩) (fun pre ρ g h => by obtain ⟨s4, s5, s6, rfl, _⟩ := h; rfl)
    (fun pre ρ g s h => by obtain ⟨s4, s5, s6, rfl, e⟩ := h; exact ⟨s, s5, s6, rfl, e⟩) (fun pre ρ g s h => by obtain ⟨s4, s5, s6, rfl, e⟩ := h; exact ⟨s4, s, s6, rfl, e⟩) ⟨.no, .no, .no, rfl, rfl, rfl⟩
    (fun pre x y post ρ g' e h hx hy => ?_) fun ρ g' h => ?_))
  · obtain ⟨s4, s5, s6, rfl, hpre, rfl⟩ := h
    have e4 : s4 = .sh (nI x) := Option.some.inj hx
    have e5 : s5 = .sh (nI y) := Option.some.inj hy
    subst e4
    subst e5
    obtain ⟨hxy, hyn⟩ := whole_lt e
    have hxn : x < n := by omega
    generalize hP : (fun c => decide ((if dst ts c x - dst ts c y < 0 then -(dst ts c x - dst ts c y) else dst ts c x - dst ts c y) = dst ts x y)) = P
    have hcomp : compL (cStep (wipeS [.sh (nI n), .sh (dM n ts), .sh (nT l), .sh (nI x), .sh (nI y), s6] [5]) (gn 5) (tst (op2 φEq (opL φAbs (fConsA (op2 φSub (op2 φIxX (op2 φIxX (fVar 1) (fVar 5)) (fVar 3)) (op2 φIxX (op2 φIxX (fVar 1) (fVar 5)) (fVar 4))) fNilA)) (op2 φIxX (op2 φIxX (fVar 1) (fVar 3)) (fVar 4)))) (fVar 5)) (l.map nI) g' = some ((l.filter P).map nI, g') := by
      refine compL_ff P nI fun c hc => ?_
      have hcn := hl c hc
      refine cStep_pure (ρ1 := [.sh (nI n), .sh (dM n ts), .sh (nT l), .sh (nI x), .sh (nI y), .sh (nI c)]) rfl ?_ fun _ => rfl
      rw [← hP]
      have hsub : vw (op2 φSub (op2 φIxX (op2 φIxX (fVar 1) (fVar 5)) (fVar 3)) (op2 φIxX (op2 φIxX (fVar 1) (fVar 5)) (fVar 4))) [.sh (nI n), .sh (dM n ts), .sh (nT l), .sh (nI x), .sh (nI y), .sh (nI c)] g' = some (.int (dst ts c x - dst ts c y), g') :=
        vw_op2 (r := .d (.int (dst ts c x - dst ts c y))) (vw_tab (c := c) (y := x) rfl rfl rfl hcn hxn) (vw_tab (c := c) (y := y) rfl rfl rfl hcn hyn) rfl
      obtain ⟨_, _, e1, rfl, rfl⟩ : Vw (opL φAbs (fConsA (op2 φSub (op2 φIxX (op2 φIxX (fVar 1) (fVar 5)) (fVar 3)) (op2 φIxX (op2 φIxX (fVar 1) (fVar 5)) (fVar 4))) fNilA)) [.sh (nI n), .sh (dM n ts), .sh (nT l), .sh (nI x), .sh (nI y), .sh (nI c)] g' fun d g2 => d = .int (if dst ts c x - dst ts c y < 0 then -(dst ts c x - dst ts c y) else dst ts c x - dst ts c y) ∧ g2 = g' :=
        .opL (.consA (.of hsub (.nil ⟨_, rfl, rfl, rfl⟩)))
      exact tt_op2 e1 (vw_tab (c := x) (y := y) rfl rfl rfl hxn hyn) (φEq_int _ _)
    have htest : tst (op2 φEq (fComp [5] (iSeqV (fVar 2)) (gn 5) (tst (op2 φEq (opL φAbs (fConsA (op2 φSub (op2 φIxX (op2 φIxX (fVar 1) (fVar 5)) (fVar 3)) (op2 φIxX (op2 φIxX (fVar 1) (fVar 5)) (fVar 4))) fNilA)) (op2 φIxX (op2 φIxX (fVar 1) (fVar 3)) (fVar 4)))) (fVar 5)) (fLst fNilA)) [.sh (nI n), .sh (dM n ts), .sh (nT l), .sh (nI x), .sh (nI y), s6] g' = some (!l.any P, g') := by
      obtain ⟨_, _, e1, e2, e3⟩ : Vw (fComp [5] (iSeqV (fVar 2)) (gn 5) (tst (op2 φEq (opL φAbs (fConsA (op2 φSub (op2 φIxX (op2 φIxX (fVar 1) (fVar 5)) (fVar 3)) (op2 φIxX (op2 φIxX (fVar 1) (fVar 5)) (fVar 4))) fNilA)) (op2 φIxX (op2 φIxX (fVar 1) (fVar 3)) (fVar 4)))) (fVar 5)) [.sh (nI n), .sh (dM n ts), .sh (nT l), .sh (nI x), .sh (nI y), s6] g' fun d g2 => d = .list ((l.filter P).map nI) ∧ g2 = g' :=
        .comp (.seqV (.of (d := nT l) rfl ⟨l.map nI, rfl, _, _, hcomp, by rw [List.length_map]; exact small_len (Nat.le_trans (List.length_filter_le _ _) hll), rfl, rfl⟩))
      rw [e2, e3] at e1
      refine (tt_op2 e1 (y := .list []) rfl (φEq_nil (c := 0) (fun d hd => by obtain ⟨a, _, rfl⟩ := List.mem_map.mp hd; exact .nI a) (by omega))).trans ?_
      congr 2
      rw [List.isEmpty_map]
      rw [Bool.eq_iff_iff, List.isEmpty_iff, Bool.not_eq_true', List.filter_eq_nil_iff, List.any_eq_false]
    refine .ite (.of htest ?_)
    cases hq : l.any P with
    | true =>
      refine .nx ⟨⟨.sh (nI x), .sh (nI y), s6, rfl, ?_, rfl⟩, rfl⟩
      rw [List.all_append, hpre]
      show (l.any _ && true) = true
      rw [hP, hq]
      rfl
    | false =>
      refine .ret (.of (d := .bool false) rfl ⟨?_, rfl⟩)
      unfold asB
      rw [all_pre e (by show l.any _ = false; rw [hP, hq])]
  · obtain ⟨s4, s5, s6, rfl, hpre, rfl⟩ := h
    refine .ret (.of (d := .bool true) rfl ⟨?_, rfl⟩)
    unfold asB
    rw [hpre]
end
/-! bits -/
def pc (n m : Nat) : Nat := ((List.range n).filter fun i => m.testBit i).length
theorem pc_succ (n m : Nat) : pc (n + 1) m = (if m.testBit 0 = true then 1 else 0) + pc n (m / 2) := by
  unfold pc
  rw [List.range_succ_eq_map, List.filter_cons, List.filter_map, show (fun i => m.testBit i) ∘ Nat.succ = fun i => (m / 2).testBit i from funext fun i => Nat.testBit_succ m i]
  split
  · rw [List.length_cons, List.length_map]
    omega
  · rw [List.length_map]
    omega
theorem kern : ∀ (n m : Nat), 0 < m → m < 2 ^ n → pc n (m &&& (m - 1)) + 1 = pc n m
  | 0, m, h, h2 => by
    have : m < 1 := h2
    omega
  | n + 1, m, h, h2 => by
    rw [pc_succ, pc_succ, Nat.and_div_two]
    have hb : (m &&& (m - 1)).testBit 0 = false := by
      rw [Nat.testBit_and]
      simp only [Nat.testBit_zero]
      rw [Bool.and_eq_false_iff, decide_eq_false_iff_not, decide_eq_false_iff_not]
      omega
    rw [hb, if_neg (by decide)]
    rcases Nat.mod_two_eq_zero_or_one m with e | e
    · have e1 : (m - 1) / 2 = m / 2 - 1 := by omega
      have e2 : m.testBit 0 = false := by
        rw [Nat.testBit_zero, decide_eq_false_iff_not]
        omega
      have ih := kern n (m / 2) (by omega) (by rw [Nat.pow_succ] at h2; omega)
      rw [e1, e2, if_neg (by decide)]
      omega
    · have e1 : (m - 1) / 2 = m / 2 := by omega
      have e2 : m.testBit 0 = true := by
        rw [Nat.testBit_zero, decide_eq_true_iff]
        exact e
      rw [e1, e2, if_pos rfl, Nat.and_self]
      omega
theorem band_nat (a b : Nat) : φBand (nI a) (nI b) = some (.d (nI (a &&& b))) := by
  have : Builtin.bitAnd (a : Int) (b : Int) = ((a &&& b : Nat) : Int) := by
    unfold Builtin.bitAnd
    have h1 : decide (0 ≤ (a : Int)) = true := decide_eq_true (by omega)
    have h2 : decide (0 ≤ (b : Int)) = true := decide_eq_true (by omega)
    rw [h1, h2]
    rfl
  unfold φBand φI nI
  dsimp only
  rw [this]
theorem bor_nat (a b : Nat) : φBor (nI a) (nI b) = some (.d (nI (a ||| b))) := by
  have : Builtin.bitOr (a : Int) (b : Int) = ((a ||| b : Nat) : Int) := by
    unfold Builtin.bitOr Builtin.bitAnd
    have h1 : decide (0 ≤ Builtin.bitNot (a : Int)) = false := by
      rw [decide_eq_false_iff_not]
      unfold Builtin.bitNot
      omega
    have h2 : decide (0 ≤ Builtin.bitNot (b : Int)) = false := by
      rw [decide_eq_false_iff_not]
      unfold Builtin.bitNot
      omega
    rw [h1, h2]
    dsimp only
    have nn : ∀ z : Int, Builtin.bitNot (Builtin.bitNot z) = z := fun z => by unfold Builtin.bitNot; omega
    rw [nn, nn, nn]
    rfl
  unfold φBor φI nI
  dsimp only
  rw [this]
theorem shr_nat (a x : Nat) : φShr (nI a) (nI x) = some (.d (nI (a / 2 ^ x))) := by
  unfold φShr φIc nI cNN
  dsimp only
  rw [if_pos (by rw [decide_eq_true_iff]; omega), Int.toNat_natCast, Int.natCast_ediv, Int.natCast_pow]
  rfl
theorem shl_one {x : Nat} (h : x ≤ 1000000) : φShl (.int 1) (nI x) = some (.d (nI (2 ^ x))) := by
  unfold φShl φIc nI cSh
  dsimp only
  rw [if_pos (by rw [Bool.and_eq_true, Bool.and_eq_true, decide_eq_true_iff, decide_eq_true_iff]; exact ⟨⟨by omega, by omega⟩, by decide⟩), Int.toNat_natCast, Int.one_mul, Int.natCast_pow]
  rfl
theorem gm_count_of {n m : Nat} {g : G} (h : m < 2 ^ n) : Gm m_count_of [.sh (nI m)] g fun d g' => d = nI (pc n m) ∧ g' = g := by
  refine .run (.seq (.asg (.of (r := .d (.int 0)) rfl ⟨_, rfl, ?_⟩)))
  refine .seq (.while (m0 := m) (fun k ρ g' => ∃ c, ρ = [.sh (nI k), .sh (nI c)] ∧ c + pc n k = pc n m ∧ k < 2 ^ n ∧ g' = g) ⟨0, rfl, by omega, h, rfl⟩ fun k ρ g' h => ?_)
  obtain ⟨c, rfl, hc, hk, rfl⟩ := h
  refine .of (tt_op2 (x := nI k) (y := nI 0) rfl rfl (φGt_nat k 0)) ?_
  by_cases h0 : 0 < k
  · rw [decide_eq_true h0, if_pos rfl]
    have hs : φSub (nI k) (.int 1) = some (.d (nI (k - 1))) := by
      show some (RV.d (.int _)) = some (RV.d (.int _))
      congr 3
      omega
    have hle : k &&& (k - 1) ≤ k - 1 := Nat.and_le_right
    refine .seq (.asg (.op2 (.of (d := nI k) rfl (.of (vw_op2 (x := nI k) (y := .int 1) (r := .d (nI (k - 1))) rfl rfl hs) ⟨_, band_nat k (k - 1), .sh (nI (k &&& (k - 1))), rfl, .inc (a := (c : Int)) rfl (.of (d := .int 1) rfl ⟨1, rfl, ?_⟩)⟩))))
    refine ⟨k &&& (k - 1), by omega, c + 1, rfl, ?_, by omega, rfl⟩
    have := kern n k h0 hk
    omega
  · rw [decide_eq_false h0, if_neg (by decide)]
    have e : k = 0 := by omega
    subst e
    refine .ret (.of (d := nI c) rfl ⟨?_, rfl⟩)
    have h1 : pc n 0 = 0 := by
      unfold pc
      rw [List.filter_eq_nil_iff.mpr (by simp)]
      rfl
    rw [h1, Nat.add_zero] at hc
    rw [hc]
end Sd

namespace Sd
open PySem PySem.Spec L2
/-! ### Sd30: the strong dimension, all sets -/
def eD (ms : List Nat) : List (D × D) := ms.map fun m => (nI m, PyData.bool true)
def mput (ms : List Nat) (k : Nat) : List Nat := if k ∈ ms then ms else ms ++ [k]
def mTurn (x y : Nat) (acc : List Nat) (m : Nat) : List Nat := if (m.testBit x || m.testBit y) = true then mput acc m else mput (mput acc (m ||| 2 ^ x)) (m ||| 2 ^ y)
def mStep (ms : List Nat) (p : Nat × Nat) : List Nat := ms.foldl (mTurn p.1 p.2) []
def mAll (ps : Ties) : List Nat := ps.foldl mStep [0]
def sdF (n : Nat) (ps : Ties) : Int := lmin ((mAll ps).map fun m => (pc n m : Int))
theorem dput_eD (ms : List Nat) (k : Nat) : dput (eD ms) (nI k) (.bool true) = eD (mput ms k) := by
  have h1 : ((eD ms).any fun p => PyData.eqv p.1 (nI k)) = decide (k ∈ ms) := by
    unfold eD
    rw [List.any_map, ← any_eqv eqv_nI, List.any_map]
    rfl
  unfold dput mput
  rw [h1]
  by_cases h : k ∈ ms
  · rw [decide_eq_true h, if_pos rfl, if_pos h]
    unfold eD
    rw [List.map_map]
    refine List.map_congr_left fun m _ => ?_
    show (if PyData.eqv (nI m) (nI k) = true then (nI m, PyData.bool true) else (nI m, PyData.bool true)) = _
    split <;> rfl
  · rw [decide_eq_false h, if_neg (by decide), if_neg h]
    unfold eD
    rw [List.map_append]
    rfl
/-- masks below 2 ^ n, each once -/
structure MOk (n : Nat) (ms : List Nat) : Prop where
  nd : ms.Nodup
  lt : ∀ m ∈ ms, m < 2 ^ n
theorem MOk.len {n : Nat} {ms : List Nat} (h : MOk n ms) : ms.length ≤ 2 ^ n := nodup_len h.nd h.lt
theorem MOk.put {n : Nat} {ms : List Nat} {k : Nat} (h : MOk n ms) (hk : k < 2 ^ n) : MOk n (mput ms k) := by
  unfold mput
  split
  · exact h
  · rename_i hn
    refine ⟨?_, fun m hm => ?_⟩
    · rw [List.nodup_append]
      refine ⟨h.nd, by simp, fun a ha b hb => ?_⟩
      have : b = k := by simpa using hb
      subst this
      rintro rfl
      exact hn ha
    · rcases List.mem_append.mp hm with hm | hm
      · exact h.lt m hm
      · have : m = k := by simpa using hm
        exact this ▸ hk
theorem MOk.turn {n x y m : Nat} {acc : List Nat} (h : MOk n acc) (hm : m < 2 ^ n) (hx : x < n) (hy : y < n) : MOk n (mTurn x y acc m) := by
  unfold mTurn
  split
  · exact h.put hm
  · exact (h.put (Nat.or_lt_two_pow hm (Nat.pow_lt_pow_right (by omega) hx))).put (Nat.or_lt_two_pow hm (Nat.pow_lt_pow_right (by omega) hy))
theorem MOk.step {n : Nat} {ms : List Nat} {p : Nat × Nat} (h : MOk n ms) (hx : p.1 < n) (hy : p.2 < n) : MOk n (mStep ms p) := by
  have key : ∀ (l acc : List Nat), (∀ m ∈ l, m < 2 ^ n) → MOk n acc → MOk n (l.foldl (mTurn p.1 p.2) acc) := by
    intro l
    induction l with
    | nil => exact fun acc _ h => h
    | cons a l ih => exact fun acc hl h => ih _ (fun m hm => hl m (.tail _ hm)) (h.turn (hl a (.head _)) hx hy)
  exact key ms [] h.lt ⟨.nil, fun m hm => by cases hm⟩
theorem put_mask {n k : Nat} {acc : List Nat} (hn : n ≤ 20) (h : MOk n acc) : setAt (.od false (eD acc)) (nI k) (.bool true) = some (.od false (eD (mput acc k))) := by
  have hl : decide ((eD acc).length < sizeLine) = true := by
    rw [decide_eq_true_iff, sizeLine_eq]
    unfold eD
    rw [List.length_map]
    have h1 := h.len
    have h2 : 2 ^ n ≤ 2 ^ 20 := Nat.pow_le_pow_right (by omega) hn
    omega
  show (if ((if false = true then isT (nI k) else isK (nI k)) && decide ((eD acc).length < sizeLine)) = true then some (Sl.od false (dput (eD acc) (nI k) (.bool true))) else none) = _
  rw [hl, dput_eD]
  rfl
theorem bit_test {m x : Nat} : decide ((m / 2 ^ x) &&& 1 = 1) = m.testBit x := by
  rw [Nat.testBit_eq_decide_div_mod_eq, Nat.and_one_is_mod]
theorem frz_find {i : Nat} {s : Sl} {es : List (D × D)} {b : BS} {ρ : List Sl} {g : G} {Q : Fl → List Sl → G → Prop} (hi : ρ[i]? = some s) (hs : s = .od false es ∨ s = .sh (.dict es)) (h : Go b (ρ.set i (.sh (.dict es))) g Q) : Go (sFrz i b) ρ g Q := by
  rcases hs with rfl | rfl
  · exact .frzD hi h
  · refine .frzS hi ?_
    have : ρ.set i (.sh (.dict es)) = ρ := by
      refine List.ext_getElem? fun j => ?_
      by_cases hj : i = j
      · subst hj
        rw [List.getElem?_set_self (List.getElem?_eq_some_iff.mp hi).1, hi]
      · rw [List.getElem?_set_ne hj]
    rwa [this] at h
theorem frz_list {i : Nat} {s : Sl} {xs : List D} {b : BS} {ρ : List Sl} {g : G} {Q : Fl → List Sl → G → Prop} (hi : ρ[i]? = some s) (hs : s = .ol xs ∨ s = .sh (.list xs)) (h : Go b (ρ.set i (.sh (.list xs))) g Q) : Go (sFrz i b) ρ g Q := by
  rcases hs with rfl | rfl
  · exact .frzL hi h
  · refine .frzS hi ?_
    have : ρ.set i (.sh (.list xs)) = ρ := by
      refine List.ext_getElem? fun j => ?_
      by_cases hj : i = j
      · subst hj
        rw [List.getElem?_set_self (List.getElem?_eq_some_iff.mp hi).1, hi]
      · rw [List.getElem?_set_ne hj]
    rwa [this] at h
theorem mAll_ok {n : Nat} {ps : Ties} (h : ∀ p ∈ ps, p.1 < n ∧ p.2 < n) : MOk n (mAll ps) := by
  have key : ∀ (l : Ties) (ms : List Nat), (∀ p ∈ l, p.1 < n ∧ p.2 < n) → MOk n ms → MOk n (l.foldl mStep ms) := by
    intro l
    induction l with
    | nil => exact fun ms _ h => h
    | cons a l ih => exact fun ms hl h => ih _ (fun p hp => hl p (.tail _ hp)) (h.step (hl a (.head _)).1 (hl a (.head _)).2)
  exact key ps [0] h ⟨by simp, fun m hm => by
    have : m = 0 := by simpa using hm
    subst this
    exact Nat.two_pow_pos n⟩
theorem mput_ne {ms : List Nat} {k : Nat} : mput ms k ≠ [] := by
  unfold mput
  split
  · rename_i h
    rintro rfl
    cases h
  · simp
theorem mAll_ne (ps : Ties) : mAll ps ≠ [] := by
  have tne : ∀ x y acc m, mTurn x y acc m ≠ [] := fun x y acc m => by
    unfold mTurn
    split <;> exact mput_ne
  have st : ∀ ms p, ms ≠ [] → mStep ms p ≠ [] := fun ms p h => by
    have key : ∀ (l acc : List Nat), acc ≠ [] → l.foldl (mTurn p.1 p.2) acc ≠ [] := by
      intro l
      induction l with
      | nil => exact fun acc h => h
      | cons a l ih => exact fun acc _ => ih _ (tne _ _ _ _)
    cases ms with
    | nil => exact absurd rfl h
    | cons a l => exact key l _ (tne _ _ _ _)
  have key : ∀ (l : Ties) (ms : List Nat), ms ≠ [] → l.foldl mStep ms ≠ [] := by
    intro l
    induction l with
    | nil => exact fun ms h => h
    | cons a l ih => exact fun ms h => ih _ (st _ _ h)
  exact key ps [0] (by simp)
section
variable {g : G} {n : Nat} {ts : Ties}
theorem farL_lt {p : Nat × Nat} (h : p ∈ farL n ts) : p.1 < p.2 ∧ p.2 < n := mem_whole.mp (List.mem_filter.mp h).1
theorem gm_strong_dimension (hw : Web n ts) (hn : n ≤ 20) : Gm m_strong_dimension [.sh (nI n), .sh (eW ts)] g fun d g' => d = .int (sdF n (farL n ts)) ∧ g' = g := by
  refine .run (.seq (.asg (.of (r := .fd false (eD [0])) rfl ⟨.od false (eD [0]), rfl, ?_⟩)))
  refine .seq (.loop (.seq (.call (.cons (.of (d := nI n) rfl (.cons (.of (d := eW ts) rfl (.nil ⟨rfl, (gm_far_pairs hw (by omega)).imp fun d g1 h => ?_⟩))))))))
  obtain ⟨rfl, rfl⟩ := h
  refine ⟨(farL n ts).map nP, rfl, ?_⟩
  refine .forL (farL n ts) (fun pre ρ g => ∃ s2 s3 s4 s5 s6, ρ = [.sh (nI n), .sh (eW ts), s2, s3, s4, s5, s6] ∧ (s2 = .od false (eD (mAll pre)) ∨ s2 = .sh (.dict (eD (mAll pre)))) ∧ g = g1)
    ⟨_, .no, .no, .no, .no, rfl, .inl rfl, rfl⟩ (fun pre p post ρ g e h => ?_) fun ρ g h => ?_
  · obtain ⟨s2, s3, s4, s5, s6, rfl, hs2, rfl⟩ := h
    have hmem : ∀ q ∈ pre ++ [p], q.1 < n ∧ q.2 < n := fun q hq => by
      have : q ∈ farL n ts := by
        rw [e]
        rcases List.mem_append.mp hq with h | h
        · exact List.mem_append.mpr (.inl h)
        · have : q = p := by simpa using h
          subst this
          exact List.mem_append.mpr (.inr (.head _))
      have := farL_lt this
      omega
    have hp := hmem p (by simp)
    have hok : MOk n (mAll pre) := mAll_ok fun q hq => hmem q (List.mem_append.mpr (.inl hq))
    refine ⟨[.sh (nI n), .sh (eW ts), s2, .sh (nI p.1), .sh (nI p.2), s5, s6], rfl, ?_⟩
    refine .seq (.asg (.of (r := .fd false []) rfl ⟨.od false (eD []), rfl, ?_⟩))
    refine frz_find (s := s2) rfl hs2 ?_
    refine .seq (.loop ⟨(mAll pre).map nI, g, ?_, ?_⟩)
    · show some ((eD (mAll pre)).map (·.1), g) = _
      unfold eD
      rw [List.map_map]
      rfl
    refine .forL (mAll pre) (fun pm ρ g' => ∃ s6, ρ = [.sh (nI n), .sh (eW ts), .sh (.dict (eD (mAll pre))), .sh (nI p.1), .sh (nI p.2), .od false (eD (pm.foldl (mTurn p.1 p.2) [])), s6] ∧ MOk n (pm.foldl (mTurn p.1 p.2) []) ∧ g' = g)
      ⟨s6, rfl, ⟨.nil, fun m hm => by cases hm⟩, rfl⟩ (fun pm m qm ρ g' e2 h => ?_) fun ρ g' h => ?_
    · obtain ⟨s6, rfl, hacc, rfl⟩ := h
      have hm : m < 2 ^ n := hok.lt m (by rw [e2]; simp)
      have hnext : MOk n ((pm ++ [m]).foldl (mTurn p.1 p.2) []) := by
        rw [List.foldl_append]
        exact hacc.turn hm hp.1 hp.2
      have ef : (pm ++ [m]).foldl (mTurn p.1 p.2) [] = mTurn p.1 p.2 (pm.foldl (mTurn p.1 p.2) []) m := by rw [List.foldl_append]; rfl
      rw [ef] at hnext ⊢
      generalize pm.foldl (mTurn p.1 p.2) [] = acc at hacc hnext ⊢
      refine ⟨_, rfl, ?_⟩
      have tb : ∀ (i v : Nat), (i = 3 ∧ v = p.1 ∨ i = 4 ∧ v = p.2) → tst (op2 φEq (op2 φBand (op2 φShr (fVar 6) (fVar i)) (fC (.int 1))) (fC (.int 1))) [.sh (nI n), .sh (eW ts), .sh (.dict (eD (mAll pre))), .sh (nI p.1), .sh (nI p.2), .od false (eD acc), .sh (nI m)] g' = some (m.testBit v, g') := fun i v hv => by
        rw [← bit_test]
        refine tt_op2 (x := nI (m / 2 ^ v &&& 1)) (y := nI 1) (vw_op2 (r := .d (nI (m / 2 ^ v &&& 1))) (vw_op2 (x := nI m) (y := nI v) (r := .d (nI (m / 2 ^ v))) rfl ?_ (shr_nat m v)) (y := nI 1) rfl (band_nat _ 1)) rfl (φEq_nat _ 1)
        rcases hv with ⟨rfl, rfl⟩ | ⟨rfl, rfl⟩ <;> rfl
      refine .ite (.of (tt_or (tb 3 p.1 (.inl ⟨rfl, rfl⟩)) fun _ => tb 4 p.2 (.inr ⟨rfl, rfl⟩)) ?_)
      unfold mTurn at hnext ⊢
      cases hb : (m.testBit p.1 || m.testBit p.2) with
      | true =>
        rw [hb, if_pos rfl] at hnext
        rw [if_pos rfl, if_pos rfl]
        exact .put (s := .od false (eD acc)) rfl (.of (d := .bool true) rfl (.of (d := nI m) rfl ⟨_, put_mask hn hacc, _, rfl, hnext, rfl⟩))
      | false =>
        rw [hb, if_neg (by decide)] at hnext
        rw [if_neg (by decide), if_neg (by decide)]
        have h1 := hacc.put (k := m ||| 2 ^ p.1) (Nat.or_lt_two_pow hm (Nat.pow_lt_pow_right (by omega) hp.1))
        refine .seq (.put (s := .od false (eD acc)) rfl (.of (d := .bool true) rfl (.of (d := nI (m ||| 2 ^ p.1)) (vl_op2 (x := nI m) (y := nI (2 ^ p.1)) (r := .d (nI (m ||| 2 ^ p.1))) rfl (vw_op2 (x := .int 1) (y := nI p.1) (r := .d (nI (2 ^ p.1))) rfl rfl (shl_one (by omega))) (bor_nat _ _)) ⟨_, put_mask hn hacc, ?_⟩)))
        exact .put (s := .od false (eD (mput acc (m ||| 2 ^ p.1)))) rfl (.of (d := .bool true) rfl (.of (d := nI (m ||| 2 ^ p.2)) (vl_op2 (x := nI m) (y := nI (2 ^ p.2)) (r := .d (nI (m ||| 2 ^ p.2))) rfl (vw_op2 (x := .int 1) (y := nI p.2) (r := .d (nI (2 ^ p.2))) rfl rfl (shl_one (by omega))) (bor_nat _ _)) ⟨_, put_mask hn h1, _, rfl, hnext, rfl⟩))
    · obtain ⟨s6, rfl, hacc, rfl⟩ := h
      refine .frzD rfl (.asg (.of (r := .d (.dict (eD ((mAll pre).foldl (mTurn p.1 p.2) [])))) rfl ⟨_, rfl, _, _, _, _, _, rfl, .inr ?_, rfl⟩))
      unfold mAll
      rw [List.foldl_append]
      rfl
  · obtain ⟨s2, s3, s4, s5, s6, rfl, hs2, rfl⟩ := h
    have hok : MOk n (mAll (farL n ts)) := mAll_ok fun q hq => by
      have := farL_lt hq
      omega
    refine frz_find (s := s2) rfl hs2 ?_
    have hcomp : compL (cStep (wipeS [.sh (nI n), .sh (eW ts), .sh (.dict (eD (mAll (farL n ts)))), s3, s4, s5, s6] [6]) (gn 6) bYes (fCall 1 m_count_of (fConsU (fVar 6) fNilU))) ((mAll (farL n ts)).map nI) g = some ((mAll (farL n ts)).map (fun m => PyData.int (pc n m : Int)), g) := by
      refine compL_map _ fun m hm => ?_
      exact cStep_map (ρ1 := [.sh (nI n), .sh (eW ts), .sh (.dict (eD (mAll (farL n ts)))), s3, s4, s5, .sh (nI m)]) rfl (vl_call rfl rfl (gm_count_of (hok.lt m hm)))
    refine .ret (.opL (.consA (.comp ⟨(mAll (farL n ts)).map nI, g, ?_, _, _, hcomp, ?_, .nil ⟨.d (.int (sdF n (farL n ts))), ?_, rfl, rfl⟩⟩)))
    · show some ((eD (mAll (farL n ts))).map (·.1), g) = _
      unfold eD
      rw [List.map_map]
      rfl
    · rw [List.length_map, sizeLine_eq]
      have h1 := hok.len
      have h2 : 2 ^ n ≤ 2 ^ 20 := Nat.pow_le_pow_right (by omega) hn
      omega
    · show (intsOf _).bind _ = _
      rw [intsOf_map]
      show (if 0 < _ then _ else _) = _
      rw [if_pos]
      · rfl
      · rw [List.length_map]
        exact List.length_pos_iff.mpr (mAll_ne _)
end
end Sd

namespace Sd
open PySem PySem.Spec L2
/-! ### Sd31: all sets of k places -/
def nxt (r : List Nat) : Nat := match r.getLast? with | some z => z + 1 | none => 0
def grow (n : Nat) (r : List Nat) : List (List Nat) := (List.range' (nxt r) (n - nxt r)).map fun x => r ++ [x]
def setsL (n : Nat) : Nat → List (List Nat)
  | 0 => [[]]
  | k + 1 => (setsL n k).flatMap (grow n)
theorem nxt_app (r : List Nat) (x : Nat) : nxt (r ++ [x]) = x + 1 := by
  unfold nxt
  rw [List.getLast?_concat]
theorem nxt_lt {r : List Nat} {x : Nat} (hr : r.Pairwise (· < ·)) : nxt r ≤ x ↔ ∀ y ∈ r, y < x := by
  rcases List.eq_nil_or_concat r with rfl | ⟨s, z, rfl⟩
  · exact ⟨fun _ y h => (by cases h), fun _ => Nat.zero_le _⟩
  · rw [List.concat_eq_append, nxt_app]
    constructor
    · intro h y hy
      rw [List.concat_eq_append] at hr
      rcases List.mem_append.mp hy with h1 | h1
      · have := (List.pairwise_append.mp hr).2.2 y h1 z (by simp)
        omega
      · have : y = z := by simpa using h1
        omega
    · intro h
      have := h z (by simp)
      omega
theorem mem_sets {n : Nat} : ∀ {k : Nat} {r : List Nat}, r ∈ setsL n k ↔ r.length = k ∧ r.Pairwise (· < ·) ∧ ∀ x ∈ r, x < n
  | 0, r => by
    unfold setsL
    rw [List.mem_singleton]
    constructor
    · rintro rfl
      exact ⟨rfl, .nil, fun x h => by cases h⟩
    · rintro ⟨h, _⟩
      exact List.length_eq_zero_iff.mp h
  | k + 1, r => by
    unfold setsL
    rw [List.mem_flatMap]
    constructor
    · rintro ⟨s, hs, h⟩
      unfold grow at h
      obtain ⟨x, hx, rfl⟩ := List.mem_map.mp h
      rw [List.mem_range'_1] at hx
      obtain ⟨h1, h2, h3⟩ := mem_sets.mp hs
      refine ⟨by rw [List.length_append, h1, List.length_singleton], ?_, fun y hy => ?_⟩
      · rw [List.pairwise_append]
        refine ⟨h2, by simp, fun y hy z hz => ?_⟩
        have : z = x := by simpa using hz
        subst this
        exact (nxt_lt h2).mp hx.1 y hy
      · rcases List.mem_append.mp hy with h | h
        · exact h3 y h
        · have : y = x := by simpa using h
          omega
    · rintro ⟨h1, h2, h3⟩
      rcases List.eq_nil_or_concat r with rfl | ⟨s, x, rfl⟩
      · cases h1
      · rw [List.concat_eq_append] at h1 h2 h3 ⊢
        obtain ⟨q1, q2, q3⟩ := List.pairwise_append.mp h2
        have hxn := h3 x (by simp)
        have hnx : nxt s ≤ x := (nxt_lt q1).mpr fun y hy => q3 y hy x (by simp)
        refine ⟨s, mem_sets.mpr ⟨?_, q1, fun y hy => h3 y (by simp [hy])⟩, ?_⟩
        · rw [List.length_append, List.length_singleton] at h1
          omega
        · exact List.mem_map.mpr ⟨x, List.mem_range'_1.mpr ⟨hnx, by omega⟩, rfl⟩
theorem flat_len' {α β : Type} {l : List α} {f : α → List β} {c : Nat} (h : ∀ a ∈ l, (f a).length ≤ c) : (l.flatMap f).length ≤ l.length * c := by
  induction l with
  | nil => simp
  | cons a l ih =>
    rw [List.flatMap_cons, List.length_append, List.length_cons, Nat.succ_mul]
    have h1 := h a (.head _)
    have h2 := ih fun b hb => h b (.tail _ hb)
    omega
theorem grow_len (n : Nat) (r : List Nat) : (grow n r).length ≤ n := by
  unfold grow
  rw [List.length_map, List.length_range']
  omega
theorem sets_len (n : Nat) : ∀ k, (setsL n k).length ≤ n ^ k
  | 0 => Nat.le_refl _
  | k + 1 => by
    unfold setsL
    rw [Nat.pow_succ]
    exact Nat.le_trans (flat_len' (c := n) fun r _ => grow_len n r) (Nat.mul_le_mul (sets_len n k) (Nat.le_refl n))
section
variable {g : G} {n : Nat}
theorem gm__law_sets {k : Nat} (hk : k ≤ 1000) (hB : ∀ j, j ≤ k → n ^ j ≤ 1000000) (hn : n ≤ 1000) : Gm m__law_sets [.sh (nI n), .sh (nI k)] g fun d g' => d = .list ((setsL n k).map nT) ∧ g' = g := by
  refine .run (.seq (.asg (.of (r := .f [nT []]) rfl ⟨.ol ((setsL n 0).map nT), rfl, ?_⟩)))
  refine .seq (.loop (.range1 (.consA (.of (d := nI k) rfl (.nil ⟨_, rfl, small_nat (by omega), ?_⟩)))))
  rw [rng0]
  refine .forL (List.range k) (fun pre ρ g' => ∃ s2 s3 s4 s5 s6, ρ = [.sh (nI n), .sh (nI k), s2, s3, s4, s5, s6] ∧ (s2 = .ol ((setsL n pre.length).map nT) ∨ s2 = .sh (.list ((setsL n pre.length).map nT))) ∧ g' = g)
    ⟨_, .no, .no, .no, .no, rfl, .inl rfl, rfl⟩ (fun pre j post ρ g1 e h => ?_) fun ρ g1 h => ?_
  · obtain ⟨s2, s3, s4, s5, s6, rfl, hs2, rfl⟩ := h
    have hlp : pre.length + (post.length + 1) = k := by
      have := congrArg List.length e
      rw [List.length_range, List.length_append, List.length_cons] at this
      exact this.symm
    refine ⟨[.sh (nI n), .sh (nI k), s2, .sh (nI j), s4, s5, s6], rfl, ?_⟩
    refine .seq (.asg (.of (r := .f []) rfl ⟨.ol (([] : List (List Nat)).map nT), rfl, ?_⟩))
    refine frz_list (s := s2) rfl hs2 ?_
    refine .seq (.loop (.seq (.of (d := .list ((setsL n pre.length).map nT)) rfl ⟨_, rfl, ?_⟩)))
    refine .forL (setsL n pre.length) (fun pr ρ g' => ∃ s5 s6, ρ = [.sh (nI n), .sh (nI k), .sh (.list ((setsL n pre.length).map nT)), .sh (nI j), .ol ((pr.flatMap (grow n)).map nT), s5, s6] ∧ g' = g1)
      ⟨s5, s6, rfl, rfl⟩ (fun pr r po ρ g2 e2 h => ?_) fun ρ g2 h => ?_
    · obtain ⟨s5, s6, rfl, rfl⟩ := h
      have hr : r ∈ setsL n pre.length := by rw [e2]; simp
      obtain ⟨hr1, hr2, hr3⟩ := mem_sets.mp hr
      have hlen : (pr.flatMap (grow n)).length ≤ 1000000 := by
        have h1 : (pr.flatMap (grow n)).length ≤ (setsL n (pre.length + 1)).length := by
          show _ ≤ ((setsL n pre.length).flatMap (grow n)).length
          rw [e2, List.flatMap_append, List.length_append]
          omega
        exact Nat.le_trans h1 (Nat.le_trans (sets_len n _) (hB _ (by omega)))
      generalize hT : pr.flatMap (grow n) = T at hlen
      refine ⟨[.sh (nI n), .sh (nI k), .sh (.list ((setsL n pre.length).map nT)), .sh (nI j), .ol (T.map nT), .sh (nT r), s6], rfl, ?_⟩
      have hlo : vw (fIf (tst (op2 φNe (fVar 5) (fTup fNilA))) (op2 φAdd (op2 φIxX (fVar 5) (op1 φNeg (fC (.int 1)))) (fC (.int 1))) (fC (.int 0))) [.sh (nI n), .sh (nI k), .sh (.list ((setsL n pre.length).map nT)), .sh (nI j), .ol (T.map nT), .sh (nT r), s6] g2 = some (nI (nxt r), g2) := by
        have ht : tst (op2 φNe (fVar 5) (fTup fNilA)) [.sh (nI n), .sh (nI k), .sh (.list ((setsL n pre.length).map nT)), .sh (nI j), .ol (T.map nT), .sh (nT r), s6] g2 = some (!decide (r = []), g2) := by
          refine tt_op2 (x := nT r) (y := nT []) rfl rfl ?_
          show φNe (.tuple (r.map nI)) (.tuple (([] : List Nat).map nI)) = _
          rw [φNe_ok (Sh.tupleM (c := 0) Sh.nI) (Sh.tupleM (c := 0) Sh.nI) (by omega) (by omega)]
          rw [eqv_tuple eqv_nI]
        obtain ⟨_, _, e1, e2, e3⟩ : Vw (fIf (tst (op2 φNe (fVar 5) (fTup fNilA))) (op2 φAdd (op2 φIxX (fVar 5) (op1 φNeg (fC (.int 1)))) (fC (.int 1))) (fC (.int 0))) [.sh (nI n), .sh (nI k), .sh (.list ((setsL n pre.length).map nT)), .sh (nI j), .ol (T.map nT), .sh (nT r), s6] g2 fun d g' => d = nI (nxt r) ∧ g' = g2 := by
          refine .ev (.fIf (.of ht ?_))
          rcases List.eq_nil_or_concat r with rfl | ⟨s, z, rfl⟩
          · exact .of (r := .d (.int 0)) rfl ⟨_, rfl, rfl, rfl⟩
          · rw [List.concat_eq_append]
            rw [decide_eq_false (by simp)]
            have hat : φIxX (nT (s ++ [z])) (.int (-1)) = some (.d (nI z)) := by
              show (atI ((s ++ [z]).map nI) (-1)).map _ = _
              rw [List.map_append]
              show (atI (s.map nI ++ [nI z]) (-1)).map _ = _
              rw [L2.atI_last]
              rfl
            refine .op2 (.of (vw_op2 (x := nT (s ++ [z])) (y := .int (-1)) rfl rfl hat) (.of (d := .int 1) rfl ⟨.d (nI (z + 1)), rfl, _, rfl, ?_, rfl⟩))
            rw [nxt_app]
        rw [e1, e2, e3]
      have hcomp : compL (cStep (wipeS [.sh (nI n), .sh (nI k), .sh (.list ((setsL n pre.length).map nT)), .sh (nI j), .ol (T.map nT), .sh (nT r), s6] [6]) (gn 6) bYes (op2 φAdd (fVar 5) (fTup (fConsV (fVar 6) fNilA)))) ((List.range' (nxt r) (n - nxt r)).map nI) g2 = some ((List.range' (nxt r) (n - nxt r)).map (fun x => nT (r ++ [x])), g2) := by
        refine compL_map _ fun x hx => ?_
        refine cStep_map (ρ1 := [.sh (nI n), .sh (nI k), .sh (.list ((setsL n pre.length).map nT)), .sh (nI j), .ol (T.map nT), .sh (nT r), .sh (nI x)]) rfl ?_
        refine vl_op2 (x := nT r) (y := nT [x]) (r := .d (nT (r ++ [x]))) rfl rfl ?_
        unfold φAdd nT
        dsimp only
        rw [if_pos (by rw [List.length_map, List.length_map, hr1, List.length_singleton, sizeLine_eq]; omega), List.map_append]
      have hnx : nxt r ≤ n := by
        rcases List.eq_nil_or_concat r with rfl | ⟨s, z, rfl⟩
        · exact Nat.zero_le _
        · rw [List.concat_eq_append, nxt_app]
          exact hr3 z (by simp)
      refine .asg (.op2 (.of (d := .list (T.map nT)) rfl (.comp (.range2 (.consA (.of hlo (.consA (.of (d := nI n) rfl (.nil ⟨(nxt r : Int), n, rfl, ?_, _, _, by rw [rng2]; exact hcomp, ?_, .f (T.map nT ++ (List.range' (nxt r) (n - nxt r)).map (fun x => nT (r ++ [x]))), ?_, _, rfl, ?_⟩)))))))))
      · rw [Bool.and_eq_true]
        exact ⟨small_nat (by omega), small_nat (by omega)⟩
      · rw [List.length_map, List.length_range', sizeLine_eq]
        omega
      · unfold φAdd
        dsimp only
        rw [if_pos (by rw [List.length_map, List.length_map, List.length_range', sizeLine_eq]; omega)]
      · refine ⟨.sh (nT r), s6, ?_, rfl⟩
        rw [List.flatMap_append, hT, List.flatMap_cons, List.flatMap_nil, List.append_nil, List.map_append]
        show _ = [_, _, _, _, Sl.ol (T.map nT ++ (grow n r).map nT), _, _]
        unfold grow
        rw [List.map_map]
        rfl
    · obtain ⟨s5, s6, rfl, rfl⟩ := h
      refine .frzL rfl (.asg (.of (r := .d (.list (((setsL n pre.length).flatMap (grow n)).map nT))) rfl ⟨_, rfl, _, _, _, _, _, rfl, .inr ?_, rfl⟩))
      rw [List.length_append, List.length_singleton]
      rfl
  · obtain ⟨s2, s3, s4, s5, s6, rfl, hs2, rfl⟩ := h
    rw [List.length_range] at hs2
    rcases hs2 with rfl | rfl
    · exact .ret (.of (d := .list ((setsL n k).map nT)) rfl ⟨rfl, rfl⟩)
    · exact .ret (.of (d := .list ((setsL n k).map nT)) rfl ⟨rfl, rfl⟩)
end
end Sd

namespace Sd
open PySem PySem.Spec L2
/-! ### Sd32: steps are a distance; sets that tell strongly -/
structure Met (n : Nat) (A : Nat → Nat → Prop) (d : Nat → Nat → Nat) : Prop where
  zero : ∀ x y, x < n → y < n → (d x y = 0 ↔ x = y)
  sym : ∀ x y, x < n → y < n → d x y = d y x
  tri : ∀ x y z, x < n → y < n → z < n → d x z ≤ d x y + d y z
  step : ∀ x y, x < n → y < n → x ≠ y → ∃ w, A y w ∧ d x w + 1 = d x y
  adj : ∀ y z, A y z → d y z ≤ 1
  lt : ∀ y z, A y z → y < n ∧ z < n
def Far (A : Nat → Nat → Prop) (d : Nat → Nat → Nat) (x y : Nat) : Prop := (∀ z, A x z → d z y ≤ d x y) ∧ ∀ z, A y z → d z x ≤ d x y
theorem bounded (f : Nat → Nat) : ∀ n, ∃ B, ∀ i, i < n → f i ≤ B
  | 0 => ⟨0, fun i h => by omega⟩
  | n + 1 => by
    obtain ⟨B, h⟩ := bounded f n
    refine ⟨B + f n, fun i hi => ?_⟩
    by_cases e : i = n
    · subst e
      omega
    · have := h i (by omega)
      omega
section
variable {n : Nat} {A : Nat → Nat → Prop} {d : Nat → Nat → Nat}
theorem Met.bd (M : Met n A d) : ∃ B, ∀ u v, u < n → v < n → d u v ≤ B := by
  obtain ⟨B, h⟩ := bounded (fun v => d 0 v) n
  refine ⟨B + B, fun u v hu hv => ?_⟩
  have h1 := M.tri u 0 v hu (by omega) hv
  rw [M.sym u 0 hu (by omega)] at h1
  have h2 := h u hu
  have h3 := h v hv
  omega
theorem Met.ext (M : Met n A d) {x y : Nat} (hx : x < n) (hy : y < n) : ∃ u v, u < n ∧ v < n ∧ Far A d u v ∧ d u v = d u x + d x y + d y v := by
  obtain ⟨B, hB⟩ := M.bd
  have key : ∀ k u v, u < n → v < n → B - d u v = k → d u v = d u x + d x y + d y v → ∃ u v, u < n ∧ v < n ∧ Far A d u v ∧ d u v = d u x + d x y + d y v := by
    intro k
    induction k using Nat.strongRecOn with
    | ind k ih =>
      intro u v hu hv hk e
      by_cases h1 : ∀ z, A u z → d z v ≤ d u v
      · by_cases h2 : ∀ z, A v z → d z u ≤ d u v
        · exact ⟨u, v, hu, hv, ⟨h1, h2⟩, e⟩
        · obtain ⟨z, hz⟩ := Classical.not_forall.mp h2
          obtain ⟨ad, hz⟩ := Classical.not_imp.mp hz
          have hzn := (M.lt v z ad).2
          have a1 := M.adj v z ad
          have a2 := M.tri y v z hy hv hzn
          have a3 := M.tri u x z hu hx hzn
          have a4 := M.tri x y z hx hy hzn
          have a5 := M.sym u z hu hzn
          have a6 := hB u z hu hzn
          exact ih (B - d u z) (by omega) u z hu hzn rfl (by omega)
      · obtain ⟨z, hz⟩ := Classical.not_forall.mp h1
        obtain ⟨ad, hz⟩ := Classical.not_imp.mp hz
        have hzn := (M.lt u z ad).2
        have a1 := M.adj u z ad
        have a2 := M.tri z u x hzn hu hx
        have a3 := M.tri z x v hzn hx hv
        have a4 := M.tri x y v hx hy hv
        have a5 := M.sym u z hu hzn
        have a6 := hB z v hzn hv
        exact ih (B - d z v) (by omega) z v hzn hv rfl (by omega)
  refine key _ x y hx hy rfl ?_
  rw [(M.zero x x hx hx).mpr rfl, (M.zero y y hy hy).mpr rfl]
  omega
theorem Met.far_pin (M : Met n A d) {x y c : Nat} (hx : x < n) (hy : y < n) (hc : c < n) (f : Far A d x y) (h : d c y + d y x = d c x) : c = y := by
  apply Classical.byContradiction
  intro ne
  obtain ⟨w, ad, e⟩ := M.step c y hc hy ne
  have h1 := f.2 w ad
  have hw := (M.lt y w ad).2
  have h2 := M.tri c w x hc hw hx
  have h3 := M.sym x y hx hy
  omega
theorem Met.strong (M : Met n A d) {l : List Nat} (hl : ∀ c ∈ l, c < n) : (∀ x y, x < y → y < n → ∃ c ∈ l, d c y + d y x = d c x ∨ d c x + d x y = d c y) ↔ ∀ x y, x < y → y < n → Far A d x y → x ∈ l ∨ y ∈ l := by
  constructor
  · intro h x y hxy hy f
    have hx : x < n := by omega
    obtain ⟨c, hc, q⟩ := h x y hxy hy
    rcases q with q | q
    · have := M.far_pin hx hy (hl c hc) f q
      subst this
      exact .inr hc
    · have f' : Far A d y x := by
        have e := M.sym x y hx hy
        unfold Far at f ⊢
        rw [← e]
        exact ⟨f.2, f.1⟩
      have := M.far_pin hy hx (hl c hc) f' q
      subst this
      exact .inl hc
  · intro h x y hxy hy
    have hx : x < n := by omega
    obtain ⟨u, v, hu, hv, f, e⟩ := M.ext hx hy
    have hxy0 : d x y ≠ 0 := fun z => by
      have := (M.zero x y hx hy).mp z
      omega
    have huv : u ≠ v := fun z => by
      subst z
      have := (M.zero u u hu hu).mpr rfl
      omega
    have mem : u ∈ l ∨ v ∈ l := by
      rcases Nat.lt_or_gt_of_ne huv with q | q
      · exact h u v q hv f
      · have f' : Far A d v u := by
          have e := M.sym u v hu hv
          unfold Far at f ⊢
          rw [← e]
          exact ⟨f.2, f.1⟩
        exact (h v u q hu f').symm
    rcases mem with q | q
    · refine ⟨u, q, .inr ?_⟩
      have a1 := M.tri u y v hu hy hv
      have a2 := M.tri u x y hu hx hy
      omega
    · refine ⟨v, q, .inl ?_⟩
      have a1 := M.tri u x v hu hx hv
      have a2 := M.tri x y v hx hy hv
      have s1 := M.sym v x hv hx
      have s2 := M.sym v y hv hy
      have s3 := M.sym x y hx hy
      omega
end
/-! webs that hang together are such -/
noncomputable def dn (ts : Ties) (x y : Nat) : Nat := (dst ts x y).toNat
section
variable {n : Nat} {ts : Ties}
theorem CW.isD (C : CW n ts) {x y : Nat} (hx : x < n) (hy : y < n) : IsD ts x y (dn ts x y) ∧ dst ts x y = (dn ts x y : Int) := by
  obtain ⟨k, hk⟩ := C.conn x y hx hy
  obtain ⟨j, hj⟩ := hk.isD
  have e := dst_of hj
  unfold dn
  rw [e, Int.toNat_natCast]
  exact ⟨hj, rfl⟩
theorem CW.dst (C : CW n ts) {x y : Nat} (hx : x < n) (hy : y < n) : dst ts x y = (dn ts x y : Int) := (C.isD hx hy).2
theorem CW.met (C : CW n ts) : Met n (Adj ts) (dn ts) := by
  refine ⟨fun x y hx hy => ?_, fun x y hx hy => ?_, fun x y z hx hy hz => ?_, fun x y hx hy ne => ?_, fun y z ad => ?_, fun y z ad => C.web.adj ad⟩
  · have h := (C.isD hx hy).1
    constructor
    · intro e
      rw [e] at h
      have hw := h.1
      cases hw
      rfl
    · rintro rfl
      have := h.2 0 .nil
      omega
  · have h1 := (C.isD hx hy).1
    have h2 := (C.isD hy hx).1
    exact Nat.le_antisymm (h1.2 _ h2.1.symm) (h2.2 _ h1.1.symm)
  · exact (C.isD hx hz).1.2 _ ((C.isD hx hy).1.1.trans (C.isD hy hz).1.1)
  · have h := (C.isD hx hy).1
    cases e : dn ts x y with
    | zero =>
      rw [e] at h
      have hw := h.1
      cases hw
      exact absurd rfl ne
    | succ k =>
      rw [e] at h
      obtain ⟨w, hw, ad⟩ := h.pred
      have hwn := (C.web.adj ad).1
      exact ⟨w, ad.symm, by rw [(C.isD hx hwn).1.uniq hw]⟩
  · have hyz := C.web.adj ad
    exact (C.isD hyz.1 hyz.2).1.2 1 (.one ad)
theorem CW.far (C : CW n ts) {x y : Nat} (hx : x < n) (hy : y < n) : farP ts x y = true ↔ Far (Adj ts) (dn ts) x y := by
  unfold farP Far
  rw [Bool.and_eq_true, List.all_eq_true, List.all_eq_true]
  constructor
  · rintro ⟨h1, h2⟩
    refine ⟨fun z ad => ?_, fun z ad => ?_⟩
    · have := h1 z (mem_nbr.mpr ad)
      rw [decide_eq_true_iff, C.dst (C.web.adj ad).2 hy, C.dst hx hy] at this
      omega
    · have := h2 z (mem_nbr.mpr ad)
      rw [decide_eq_true_iff, C.dst (C.web.adj ad).2 hx, C.dst hx hy] at this
      omega
  · rintro ⟨h1, h2⟩
    refine ⟨fun z hz => ?_, fun z hz => ?_⟩
    · have ad : Adj ts x z := mem_nbr.mp hz
      have := h1 z ad
      rw [decide_eq_true_iff, C.dst (C.web.adj ad).2 hy, C.dst hx hy]
      omega
    · have ad : Adj ts y z := mem_nbr.mp hz
      have := h2 z ad
      rw [decide_eq_true_iff, C.dst (C.web.adj ad).2 hx, C.dst hx hy]
      omega
theorem CW.mem_far (C : CW n ts) {p : Nat × Nat} : p ∈ farL n ts ↔ (p.1 < p.2 ∧ p.2 < n) ∧ Far (Adj ts) (dn ts) p.1 p.2 := by
  unfold farL
  rw [List.mem_filter, mem_whole]
  constructor
  · rintro ⟨h1, h2⟩
    exact ⟨h1, (C.far (by omega) h1.2).mp h2⟩
  · rintro ⟨h1, h2⟩
    exact ⟨h1, (C.far (by omega) h1.2).mpr h2⟩
/-- l meets all far pairs -/
def hitL (ps : Ties) (l : List Nat) : Bool := ps.all fun p => decide (p.1 ∈ l) || decide (p.2 ∈ l)
theorem CW.hit_iff (C : CW n ts) {l : List Nat} (hl : ∀ c ∈ l, c < n) : hitL (farL n ts) l = true ↔ ∀ x y, x < y → y < n → ∃ c ∈ l, dn ts c y + dn ts y x = dn ts c x ∨ dn ts c x + dn ts x y = dn ts c y := by
  rw [C.met.strong hl]
  unfold hitL
  rw [List.all_eq_true]
  constructor
  · intro h x y hxy hy f
    have := h (x, y) (C.mem_far.mpr ⟨⟨hxy, hy⟩, f⟩)
    rw [Bool.or_eq_true, decide_eq_true_iff, decide_eq_true_iff] at this
    exact this
  · intro h p hp
    obtain ⟨⟨h1, h2⟩, f⟩ := C.mem_far.mp hp
    rw [Bool.or_eq_true, decide_eq_true_iff, decide_eq_true_iff]
    exact h _ _ h1 h2 f
theorem CW.ts_hit (C : CW n ts) {l : List Nat} (hl : ∀ c ∈ l, c < n) : tsB n ts l = hitL (farL n ts) l := by
  rw [Bool.eq_iff_iff, C.hit_iff hl]
  unfold tsB
  rw [List.all_eq_true]
  have key : ∀ x y, x < y → y < n → ((l.any fun c => decide (Sd.dst ts c y + Sd.dst ts y x = Sd.dst ts c x) || decide (Sd.dst ts c x + Sd.dst ts x y = Sd.dst ts c y)) = true ↔ ∃ c ∈ l, dn ts c y + dn ts y x = dn ts c x ∨ dn ts c x + dn ts x y = dn ts c y) := by
    intro x y hxy hy
    have hx : x < n := by omega
    rw [List.any_eq_true]
    constructor
    · rintro ⟨c, hc, h⟩
      have hcn := hl c hc
      rw [Bool.or_eq_true, decide_eq_true_iff, decide_eq_true_iff, C.dst hcn hy, C.dst hy hx, C.dst hcn hx, C.dst hx hy] at h
      exact ⟨c, hc, by omega⟩
    · rintro ⟨c, hc, h⟩
      have hcn := hl c hc
      refine ⟨c, hc, ?_⟩
      rw [Bool.or_eq_true, decide_eq_true_iff, decide_eq_true_iff, C.dst hcn hy, C.dst hy hx, C.dst hcn hx, C.dst hx hy]
      omega
  constructor
  · intro h x y hxy hy
    exact (key x y hxy hy).mp (h (x, y) (mem_whole.mpr ⟨hxy, hy⟩))
  · intro h p hp
    obtain ⟨h1, h2⟩ := mem_whole.mp hp
    exact (key p.1 p.2 h1 h2).mpr (h _ _ h1 h2)
theorem CW.as_hit (C : CW n ts) {l : List Nat} (hl : ∀ c ∈ l, c < n) : asB n ts l = hitL (farL n ts) l := by
  rw [Bool.eq_iff_iff, C.hit_iff hl]
  unfold asB
  rw [List.all_eq_true]
  have key : ∀ x y, x < y → y < n → ((l.any fun c => decide ((if Sd.dst ts c x - Sd.dst ts c y < 0 then -(Sd.dst ts c x - Sd.dst ts c y) else Sd.dst ts c x - Sd.dst ts c y) = Sd.dst ts x y)) = true ↔ ∃ c ∈ l, dn ts c y + dn ts y x = dn ts c x ∨ dn ts c x + dn ts x y = dn ts c y) := by
    intro x y hxy hy
    have hx : x < n := by omega
    have hs := C.met.sym x y hx hy
    rw [List.any_eq_true]
    constructor
    · rintro ⟨c, hc, h⟩
      have hcn := hl c hc
      rw [decide_eq_true_iff, C.dst hcn hx, C.dst hcn hy, C.dst hx hy] at h
      refine ⟨c, hc, ?_⟩
      split at h <;> omega
    · rintro ⟨c, hc, h⟩
      have hcn := hl c hc
      refine ⟨c, hc, ?_⟩
      rw [decide_eq_true_iff, C.dst hcn hx, C.dst hcn hy, C.dst hx hy]
      split <;> omega
  constructor
  · intro h x y hxy hy
    exact (key x y hxy hy).mp (h (x, y) (mem_whole.mpr ⟨hxy, hy⟩))
  · intro h p hp
    obtain ⟨h1, h2⟩ := mem_whole.mp hp
    exact (key p.1 p.2 h1 h2).mpr (h _ _ h1 h2)
end
end Sd

namespace Sd
open PySem PySem.Spec L2
/-! ### Sd33: masks and fewest places -/
def hit (m : Nat) (p : Nat × Nat) : Bool := m.testBit p.1 || m.testBit p.2
def SubM (m S : Nat) : Prop := ∀ i, m.testBit i = true → S.testBit i = true
theorem mem_mput {ms : List Nat} {k m : Nat} : m ∈ mput ms k ↔ m ∈ ms ∨ m = k := by
  unfold mput
  split
  · rename_i h
    exact ⟨.inl, fun q => q.elim id fun e => e ▸ h⟩
  · rw [List.mem_append, List.mem_singleton]
def fromM (p : Nat × Nat) (m k : Nat) : Prop := (hit m p = true ∧ k = m) ∨ (hit m p = false ∧ (k = m ||| 2 ^ p.1 ∨ k = m ||| 2 ^ p.2))
theorem mem_turn {p : Nat × Nat} {acc : List Nat} {m k : Nat} : k ∈ mTurn p.1 p.2 acc m ↔ k ∈ acc ∨ fromM p m k := by
  unfold mTurn fromM hit
  cases h : (m.testBit p.1 || m.testBit p.2) with
  | true => simp [mem_mput]
  | false =>
    simp only [Bool.false_eq_true, if_false, mem_mput, false_and, true_and, false_or]
    exact or_assoc
theorem mem_step {p : Nat × Nat} {ms : List Nat} {k : Nat} : k ∈ mStep ms p ↔ ∃ m ∈ ms, fromM p m k := by
  have key : ∀ (l acc : List Nat), k ∈ l.foldl (mTurn p.1 p.2) acc ↔ k ∈ acc ∨ ∃ m ∈ l, fromM p m k := by
    intro l
    induction l with
    | nil => exact fun acc => ⟨.inl, fun h => h.elim id fun ⟨m, hm, _⟩ => by cases hm⟩
    | cons a l ih =>
      intro acc
      rw [List.foldl_cons, ih, mem_turn]
      constructor
      · rintro ((h | h) | ⟨m, hm, h⟩)
        · exact .inl h
        · exact .inr ⟨a, .head _, h⟩
        · exact .inr ⟨m, .tail _ hm, h⟩
      · rintro (h | ⟨m, hm, h⟩)
        · exact .inl (.inl h)
        · rcases List.mem_cons.mp hm with rfl | hm
          · exact .inl (.inr h)
          · exact .inr ⟨m, hm, h⟩
  have := key ms []
  unfold mStep
  rw [this]
  exact ⟨fun h => h.elim (fun z => by cases z) id, .inr⟩
theorem bit_or {m x i : Nat} : (m ||| 2 ^ x).testBit i = (m.testBit i || decide (x = i)) := by rw [Nat.testBit_or, Nat.testBit_two_pow]
theorem fromM_hit {p : Nat × Nat} {m k : Nat} (h : fromM p m k) : hit k p = true := by
  rcases h with ⟨h, rfl⟩ | ⟨_, rfl | rfl⟩
  · exact h
  · unfold hit
    rw [bit_or, decide_eq_true rfl]
    simp
  · unfold hit
    rw [bit_or, bit_or, decide_eq_true (rfl : p.2 = p.2)]
    simp
theorem fromM_sub {p : Nat × Nat} {m k : Nat} (h : fromM p m k) : SubM m k := by
  rcases h with ⟨_, rfl⟩ | ⟨_, rfl | rfl⟩
  · exact fun i h => h
  · exact fun i h => by rw [bit_or, h]; rfl
  · exact fun i h => by rw [bit_or, h]; rfl
theorem hit_mono {p : Nat × Nat} {m k : Nat} (h : SubM m k) (hm : hit m p = true) : hit k p = true := by
  unfold hit at hm ⊢
  rw [Bool.or_eq_true] at hm ⊢
  exact hm.imp (h _) (h _)
theorem mAll_hits {ps : Ties} : ∀ m ∈ mAll ps, ∀ p ∈ ps, hit m p = true := by
  have key : ∀ (l : Ties) (ms : List Nat) (done : Ties), (∀ m ∈ ms, ∀ p ∈ done, hit m p = true) → ∀ m ∈ l.foldl mStep ms, ∀ p ∈ done ++ l, hit m p = true := by
    intro l
    induction l with
    | nil => exact fun ms done h => by rwa [List.append_nil]
    | cons a l ih =>
      intro ms done h m hm p hp
      refine ih (mStep ms a) (done ++ [a]) (fun k hk q hq => ?_) m hm p (by simpa using hp)
      obtain ⟨m0, hm0, hf⟩ := mem_step.mp hk
      rcases List.mem_append.mp hq with hq | hq
      · exact hit_mono (fromM_sub hf) (h m0 hm0 q hq)
      · have : q = a := by simpa using hq
        subst this
        exact fromM_hit hf
  intro m hm p hp
  exact key ps [0] [] (fun _ _ _ h => by cases h) m hm p hp
theorem mAll_least {ps : Ties} {S : Nat} (hS : ∀ p ∈ ps, hit S p = true) : ∃ m ∈ mAll ps, SubM m S := by
  have key : ∀ (l : Ties) (ms : List Nat), (∀ p ∈ l, hit S p = true) → (∃ m ∈ ms, SubM m S) → ∃ m ∈ l.foldl mStep ms, SubM m S := by
    intro l
    induction l with
    | nil => exact fun ms _ h => h
    | cons a l ih =>
      intro ms hl h
      refine ih (mStep ms a) (fun p hp => hl p (.tail _ hp)) ?_
      obtain ⟨m, hm, hs⟩ := h
      have ha := hl a (.head _)
      cases hh : hit m a with
      | true => exact ⟨m, mem_step.mpr ⟨m, hm, .inl ⟨hh, rfl⟩⟩, hs⟩
      | false =>
        unfold hit at ha
        rw [Bool.or_eq_true] at ha
        rcases ha with q | q
        · refine ⟨m ||| 2 ^ a.1, mem_step.mpr ⟨m, hm, .inr ⟨hh, .inl rfl⟩⟩, fun i hi => ?_⟩
          rw [bit_or, Bool.or_eq_true, decide_eq_true_iff] at hi
          exact hi.elim (hs i) fun e => e ▸ q
        · refine ⟨m ||| 2 ^ a.2, mem_step.mpr ⟨m, hm, .inr ⟨hh, .inr rfl⟩⟩, fun i hi => ?_⟩
          rw [bit_or, Bool.or_eq_true, decide_eq_true_iff] at hi
          exact hi.elim (hs i) fun e => e ▸ q
  exact key ps [0] hS ⟨0, by simp, fun i h => by simp at h⟩
theorem pc_mono {n m S : Nat} (h : SubM m S) : pc n m ≤ pc n S := by
  unfold pc
  rw [← List.countP_eq_length_filter, ← List.countP_eq_length_filter]
  exact List.countP_mono_left fun i _ => h i
theorem filt_len (p : Nat → Bool) : ∀ l : List Nat, l.length = (l.filter p).length + (l.filter fun i => !p i).length
  | [] => rfl
  | a :: l => by
    have ih := filt_len p l
    rw [List.filter_cons, List.filter_cons]
    cases p a
    · simp only [Bool.false_eq_true, if_false, Bool.not_false, if_true, List.length_cons]
      omega
    · simp only [if_true, Bool.not_true, Bool.false_eq_true, if_false, List.length_cons]
      omega
def maskOf (l : List Nat) : Nat := l.foldr (fun i m => m ||| 2 ^ i) 0
theorem bit_mask {l : List Nat} {i : Nat} : (maskOf l).testBit i = decide (i ∈ l) := by
  induction l with
  | nil => simp [maskOf]
  | cons a l ih =>
    show (maskOf l ||| 2 ^ a).testBit i = _
    rw [bit_or, ih, Bool.eq_iff_iff, Bool.or_eq_true, decide_eq_true_iff, decide_eq_true_iff, decide_eq_true_iff, List.mem_cons]
    constructor
    · rintro (h | h)
      · exact .inr h
      · exact .inl h.symm
    · rintro (h | h)
      · exact .inr h.symm
      · exact .inl h
def bitsOf (n m : Nat) : List Nat := (List.range n).filter fun i => m.testBit i
theorem bitsOf_len (n m : Nat) : (bitsOf n m).length = pc n m := rfl
theorem mem_bits {n m i : Nat} : i ∈ bitsOf n m ↔ i < n ∧ m.testBit i = true := by
  unfold bitsOf
  rw [List.mem_filter, List.mem_range]
theorem bits_lt (n m : Nat) : (bitsOf n m).Pairwise (· < ·) := List.Pairwise.filter _ List.pairwise_lt_range
theorem pc_mask {n : Nat} {l : List Nat} (hn : l.Nodup) (hl : ∀ i ∈ l, i < n) : pc n (maskOf l) = l.length := by
  rw [← bitsOf_len]
  refine List.Perm.length_eq ((List.perm_ext_iff_of_nodup ?_ hn).mpr fun i => ?_)
  · exact (bits_lt n _).imp fun h => Nat.ne_of_lt h
  · rw [mem_bits, bit_mask, decide_eq_true_iff]
    exact ⟨fun h => h.2, fun h => ⟨hl i h, h⟩⟩
theorem hit_list {m : Nat} {l : List Nat} {ps : Ties} (h : ∀ p ∈ ps, ∀ i, (i = p.1 ∨ i = p.2) → (m.testBit i = decide (i ∈ l))) : hitL ps l = true ↔ ∀ p ∈ ps, hit m p = true := by
  unfold hitL hit
  rw [List.all_eq_true]
  constructor
  · intro q p hp
    rw [h p hp p.1 (.inl rfl), h p hp p.2 (.inr rfl)]
    exact q p hp
  · intro q p hp
    rw [← h p hp p.1 (.inl rfl), ← h p hp p.2 (.inr rfl)]
    exact q p hp
section
variable {n : Nat} {ps : Ties}
theorem sdF_mem (n : Nat) (ps : Ties) : ∃ m ∈ mAll ps, sdF n ps = (pc n m : Int) := by
  have h := (lmin_spec (xs := (mAll ps).map fun m => (pc n m : Int)) (by rw [List.length_map]; exact List.length_pos_iff.mpr (mAll_ne ps))).1
  obtain ⟨m, hm, e⟩ := List.mem_map.mp h
  exact ⟨m, hm, e.symm⟩
theorem sdF_le {m : Nat} (hm : m ∈ mAll ps) : sdF n ps ≤ (pc n m : Int) :=
  (lmin_spec (xs := (mAll ps).map fun m => (pc n m : Int)) (by rw [List.length_map]; exact List.length_pos_iff.mpr (mAll_ne ps))).2 _ (List.mem_map_of_mem hm)
/-- no set that meets all pairs has fewer places -/
theorem sdF_low {l : List Nat} (hn : l.Nodup) (hl : ∀ i ∈ l, i < n) (h : hitL ps l = true) : sdF n ps ≤ (l.length : Int) := by
  have hm := (hit_list (m := maskOf l) (l := l) (ps := ps) fun p _ i _ => bit_mask).mp h
  obtain ⟨m, h1, h2⟩ := mAll_least hm
  have := sdF_le (n := n) h1
  have h3 := pc_mono (n := n) h2
  rw [pc_mask hn hl] at h3
  omega
/-- one has as many -/
theorem sdF_up (hp : ∀ p ∈ ps, p.1 < n ∧ p.2 < n) : ∃ l : List Nat, l.Pairwise (· < ·) ∧ (∀ i ∈ l, i < n) ∧ hitL ps l = true ∧ sdF n ps = (l.length : Int) := by
  obtain ⟨m, hm, e⟩ := sdF_mem n ps
  refine ⟨bitsOf n m, bits_lt n m, fun i hi => (mem_bits.mp hi).1, ?_, by rw [e, bitsOf_len]⟩
  refine (hit_list (m := m) fun p hq i hi => ?_).mpr (mAll_hits m hm)
  have := hp p hq
  have hin : i < n := by rcases hi with rfl | rfl <;> omega
  rw [Bool.eq_iff_iff, decide_eq_true_iff, mem_bits]
  exact ⟨fun h => ⟨hin, h⟩, fun h => h.2⟩
/-- all pairs of L: all of L but one -/
theorem sdF_clique {L : List Nat} (hL : L.Pairwise (· < ·)) (hn : ∀ i ∈ L, i < n) (h0 : L ≠ []) (hps : ∀ p, p ∈ ps ↔ p.1 < p.2 ∧ p.1 ∈ L ∧ p.2 ∈ L) : sdF n ps = (L.length : Int) - 1 := by
  have hnd : L.Nodup := hL.imp fun h => Nat.ne_of_lt h
  obtain ⟨a, R, rfl⟩ : ∃ a R, L = a :: R := by
    cases L with
    | nil => exact absurd rfl h0
    | cons a R => exact ⟨a, R, rfl⟩
  obtain ⟨ha, hR⟩ := List.pairwise_cons.mp hL
  obtain ⟨na, nR⟩ := List.nodup_cons.mp hnd
  have low : sdF n ps ≤ (R.length : Int) := by
    refine sdF_low nR (fun i hi => hn i (.tail _ hi)) ?_
    unfold hitL
    rw [List.all_eq_true]
    intro p hp
    obtain ⟨h1, h2, h3⟩ := (hps p).mp hp
    rw [Bool.or_eq_true, decide_eq_true_iff, decide_eq_true_iff]
    rcases List.mem_cons.mp h2 with q | q
    · rcases List.mem_cons.mp h3 with r | r
      · omega
      · exact .inr r
    · exact .inl q
  obtain ⟨l, h1, h2, h3, h4⟩ := sdF_up (n := n) (ps := ps) fun p hp => by
    obtain ⟨_, q, r⟩ := (hps p).mp hp
    exact ⟨hn _ q, hn _ r⟩
  -- at most one of L is not in l
  have up : R.length ≤ l.length := by
    have hf : ((a :: R).filter fun i => !decide (i ∈ l)).length ≤ 1 := by
      have two : ∀ x ∈ (a :: R).filter (fun i => !decide (i ∈ l)), ∀ y ∈ (a :: R).filter (fun i => !decide (i ∈ l)), x = y := by
        intro x hx y hy
        rw [List.mem_filter] at hx hy
        have nx : x ∉ l := by simpa using hx.2
        have ny : y ∉ l := by simpa using hy.2
        apply Classical.byContradiction
        intro ne
        unfold hitL at h3
        rw [List.all_eq_true] at h3
        rcases Nat.lt_or_gt_of_ne ne with q | q
        · have := h3 (x, y) ((hps (x, y)).mpr ⟨q, hx.1, hy.1⟩)
          rw [Bool.or_eq_true, decide_eq_true_iff, decide_eq_true_iff] at this
          exact this.elim nx ny
        · have := h3 (y, x) ((hps (y, x)).mpr ⟨q, hy.1, hx.1⟩)
          rw [Bool.or_eq_true, decide_eq_true_iff, decide_eq_true_iff] at this
          exact this.elim ny nx
      have nd : ((a :: R).filter fun i => !decide (i ∈ l)).Nodup := hnd.filter _
      generalize (a :: R).filter (fun i => !decide (i ∈ l)) = F at two nd
      match F, nd, two with
      | [], _, _ => exact Nat.zero_le _
      | [x], _, _ => exact Nat.le_refl _
      | x :: y :: F, nd, two =>
        exfalso
        have := two x (.head _) y (.tail _ (.head _))
        subst this
        simp at nd
    have hg : ((a :: R).filter fun i => decide (i ∈ l)).length ≤ l.length := by
      have nd : ((a :: R).filter fun i => decide (i ∈ l)).Nodup := hnd.filter _
      refine L2.nat_nodup_len _ l nd fun x hx => ?_
      rw [List.mem_filter] at hx
      simpa using hx.2
    have hsum := filt_len (fun i => decide (i ∈ l)) (a :: R)
    rw [List.length_cons] at hsum
    omega
  rw [List.length_cons]
  omega
end
end Sd

namespace Sd
open PySem PySem.Spec L2
/-! ### Sd34: whole webs, rings, trees -/
section
variable {n : Nat} {ts : Ties}
/-- steps by a table that fits -/
theorem CW.cert (C : CW n ts) {e : Nat → Nat → Nat} (h0 : ∀ x, x < n → e x x = 0) (h1 : ∀ x a b, x < n → Adj ts a b → e x b ≤ e x a + 1) (h2 : ∀ x y, x < n → y < n → y ≠ x → ∃ w, Adj ts w y ∧ e x w + 1 = e x y) {x y : Nat} (hx : x < n) (hy : y < n) : dn ts x y = e x y := by
  have low : ∀ k y, Walk ts x k y → e x y ≤ k := by
    intro k y h
    induction h with
    | nil => rw [h0 x hx]; exact Nat.le_refl 0
    | snoc _ ad ih =>
      have := h1 x _ _ hx ad
      omega
  have up : ∀ k y, y < n → e x y = k → Walk ts x k y := by
    intro k
    induction k with
    | zero =>
      intro y hy h
      by_cases q : y = x
      · subst q
        exact .nil
      · obtain ⟨w, _, hw⟩ := h2 x y hx hy q
        omega
    | succ k ih =>
      intro y hy h
      by_cases q : y = x
      · subst q
        rw [h0 y hy] at h
        omega
      · obtain ⟨w, ad, hw⟩ := h2 x y hx hy q
        exact (ih w (C.web.adj ad).1 (by omega)).snoc ad
  have h := (C.isD hx hy).1
  exact Nat.le_antisymm (h.2 _ (up _ y hy rfl)) (low _ _ h.1)
end
theorem sd_whole {n : Nat} (h1 : 1 ≤ n) (hn : n ≤ 1000) : sdF n (farL n (tWhole n)) = (n : Int) - 1 := by
  have C := cw_whole hn
  have ad : ∀ x y, x < n → y < n → x ≠ y → Adj (tWhole n) x y := fun x y hx hy ne => by
    rcases Nat.lt_or_gt_of_ne ne with h | h
    · exact .inl (mem_whole.mpr ⟨h, hy⟩)
    · exact .inr (mem_whole.mpr ⟨h, hx⟩)
  have d1 : ∀ x y, x < n → y < n → dn (tWhole n) x y ≤ 1 := fun x y hx hy => by
    by_cases e : x = y
    · subst e
      rw [(C.met.zero x x hx hx).mpr rfl]
      omega
    · exact C.met.adj x y (ad x y hx hy e)
  have := sdF_clique (n := n) (ps := farL n (tWhole n)) (L := List.range n) List.pairwise_lt_range (fun i hi => List.mem_range.mp hi) (by
    intro z
    have := congrArg List.length z
    rw [List.length_range] at this
    simp at this
    omega) fun p => by
    rw [C.mem_far, List.mem_range, List.mem_range]
    constructor
    · rintro ⟨⟨q1, q2⟩, _⟩
      exact ⟨q1, by omega, q2⟩
    · rintro ⟨q1, q2, q3⟩
      have hd : dn (tWhole n) p.1 p.2 = 1 := by
        have h2 := d1 p.1 p.2 q2 q3
        have h3 : dn (tWhole n) p.1 p.2 ≠ 0 := fun z => by
          have := (C.met.zero _ _ q2 q3).mp z
          omega
        omega
      refine ⟨⟨q1, q3⟩, fun z az => ?_, fun z az => ?_⟩
      · rw [hd]
        exact d1 z p.2 (C.web.adj az).2 q3
      · rw [hd]
        exact d1 z p.1 (C.web.adj az).2 q2
  rw [this, List.length_range]
/-! rings -/
def rd (n x y : Nat) : Nat := min (max x y - min x y) (n - (max x y - min x y))
def rnx (n x : Nat) : Nat := if x + 1 = n then 0 else x + 1
def rpv (n x : Nat) : Nat := if x = 0 then n - 1 else x - 1
theorem ring_adj {n a b : Nat} (h : 3 ≤ n) : Adj (tRing n) a b ↔ (a < n ∧ b < n) ∧ (b = rnx n a ∨ b = rpv n a) := by
  unfold Adj
  rw [mem_ring, mem_ring, mem_path, mem_path]
  unfold rnx rpv
  simp only [Prod.mk.injEq]
  constructor
  · rintro ((⟨h1, h2⟩ | ⟨h1, h2⟩) | (⟨h1, h2⟩ | ⟨h1, h2⟩))
    · refine ⟨⟨by omega, by omega⟩, .inl ?_⟩
      split <;> omega
    · refine ⟨⟨by omega, by omega⟩, .inr ?_⟩
      split <;> omega
    · refine ⟨⟨by omega, by omega⟩, .inr ?_⟩
      split <;> omega
    · refine ⟨⟨by omega, by omega⟩, .inl ?_⟩
      split <;> omega
  · rintro ⟨⟨h1, h2⟩, h3⟩
    split at h3 <;> split at h3 <;> omega
theorem ring_dn {n x y : Nat} (h : 3 ≤ n) (hn : n ≤ 1000) (hx : x < n) (hy : y < n) : dn (tRing n) x y = rd n x y := by
  refine (cw_ring (by omega) (by omega)).cert (fun x hx => ?_) (fun x a b hx ad => ?_) (fun x y hx hy ne => ?_) hx hy
  · unfold rd
    omega
  · rw [ring_adj h] at ad
    unfold rnx rpv at ad
    unfold rd
    obtain ⟨⟨h1, h2⟩, h3⟩ := ad
    split at h3 <;> split at h3 <;> omega
  · by_cases q : rd n x (rpv n y) + 1 = rd n x y
    · refine ⟨rpv n y, (ring_adj h).mpr ⟨⟨?_, hy⟩, .inl ?_⟩, q⟩
      · unfold rpv
        split <;> omega
      · unfold rpv rnx
        split <;> split <;> omega
    · refine ⟨rnx n y, (ring_adj h).mpr ⟨⟨?_, hy⟩, .inr ?_⟩, ?_⟩
      · unfold rnx
        split <;> omega
      · unfold rpv rnx
        split <;> split <;> omega
      · unfold rd rpv rnx at *
        split at q <;> split <;> omega
def farR (n x y : Nat) : Bool := decide (rd n (rnx n x) y ≤ rd n x y ∧ rd n (rpv n x) y ≤ rd n x y ∧ rd n (rnx n y) x ≤ rd n x y ∧ rd n (rpv n y) x ≤ rd n x y)
theorem ring_far {n : Nat} (h : 3 ≤ n) (hn : n ≤ 1000) : farL n (tRing n) = (tWhole n).filter fun p => farR n p.1 p.2 := by
  unfold farL
  refine List.filter_congr fun p hp => ?_
  obtain ⟨h1, h2⟩ := mem_whole.mp hp
  have hx : p.1 < n := by omega
  have C := cw_ring (n := n) (by omega) (by omega)
  have nx : ∀ x, x < n → rnx n x < n := fun x hx => by unfold rnx; split <;> omega
  have pv : ∀ x, x < n → rpv n x < n := fun x hx => by unfold rpv; split <;> omega
  rw [Bool.eq_iff_iff, C.far hx h2]
  unfold Far farR
  rw [decide_eq_true_iff, ring_dn h hn hx h2]
  constructor
  · rintro ⟨q1, q2⟩
    have a1 := q1 _ ((ring_adj h).mpr ⟨⟨hx, nx _ hx⟩, .inl rfl⟩)
    have a2 := q1 _ ((ring_adj h).mpr ⟨⟨hx, pv _ hx⟩, .inr rfl⟩)
    have a3 := q2 _ ((ring_adj h).mpr ⟨⟨h2, nx _ h2⟩, .inl rfl⟩)
    have a4 := q2 _ ((ring_adj h).mpr ⟨⟨h2, pv _ h2⟩, .inr rfl⟩)
    rw [ring_dn h hn (nx _ hx) h2] at a1
    rw [ring_dn h hn (pv _ hx) h2] at a2
    rw [ring_dn h hn (nx _ h2) hx] at a3
    rw [ring_dn h hn (pv _ h2) hx] at a4
    exact ⟨a1, a2, a3, a4⟩
  · rintro ⟨a1, a2, a3, a4⟩
    refine ⟨fun z ad => ?_, fun z ad => ?_⟩
    · obtain ⟨⟨_, hz⟩, q⟩ := (ring_adj h).mp ad
      rw [ring_dn h hn hz h2]
      rcases q with rfl | rfl
      · exact a1
      · exact a2
    · obtain ⟨⟨_, hz⟩, q⟩ := (ring_adj h).mp ad
      rw [ring_dn h hn hz hx]
      rcases q with rfl | rfl
      · exact a3
      · exact a4
theorem sd_rings : ((List.range 8).all fun i => decide (sdF (i + 3) ((tWhole (i + 3)).filter fun p => farR (i + 3) p.1 p.2) = (((i + 4) / 2 : Nat) : Int))) = true := by decide +kernel
theorem sd_ring {n : Nat} (h : 3 ≤ n) (hn : n ≤ 10) : sdF n (farL n (tRing n)) = (((n + 1) / 2 : Nat) : Int) := by
  rw [ring_far h (by omega)]
  have := List.all_eq_true.mp sd_rings (n - 3) (List.mem_range.mpr (by omega))
  rw [decide_eq_true_iff, show n - 3 + 3 = n by omega, show n - 3 + 4 = n + 1 by omega] at this
  exact this
end Sd

namespace Sd
open PySem PySem.Spec L2
/-! ### Sd35: leaves of trees -/
section
variable {n : Nat} {ts : Ties} {nm : List Nat} {par : Nat → Nat}
theorem TreeW.nodup (T : TreeW n ts nm par) : ts.Nodup := by
  rw [T.eq, (List.mergeSort_perm _ _).nodup_iff]
  refine List.pairwise_map.mpr ((List.nodup_range' (s := 1) (n := n - 1)).imp_of_mem fun {x y} hx hy ne => ?_)
  rw [List.mem_range'_1] at hx hy
  intro e
  have px := T.up x hx.1 (by omega)
  have py := T.up y hy.1 (by omega)
  unfold edge at e
  injection e with e1 e2
  have i1 : ∀ {a b : Nat}, a < n → b < n → nm.getD a 0 = nm.getD b 0 → a = b := fun ha hb h => T.inj ha hb h
  by_cases c1 : nm.getD x 0 = nm.getD y 0
  · exact ne (i1 (by omega) (by omega) c1)
  · have c2 : nm.getD x 0 = nm.getD (par y) 0 := by omega
    have c3 : nm.getD y 0 = nm.getD (par x) 0 := by omega
    have := i1 (by omega) (by omega) c2
    have := i1 (by omega) (by omega) c3
    omega
theorem nbr_nodup (hlt : ∀ e ∈ ts, e.1 < e.2) (hn : ts.Nodup) (p : Nat) : (nbr ts p).Nodup := by
  unfold nbr
  rw [(List.mergeSort_perm _ _).nodup_iff]
  refine List.pairwise_map.mpr ((hn.filter (touch p)).imp_of_mem fun {e f} he hf ne => ?_)
  rw [List.mem_filter] at he hf
  have te := he.2
  have tf := hf.2
  unfold touch at te tf
  rw [Bool.or_eq_true, decide_eq_true_iff, decide_eq_true_iff] at te tf
  have le := hlt e he.1
  have lf := hlt f hf.1
  intro q
  exact ne (Prod.ext (by omega) (by omega))
/-- the branch of the place b, seen from a: a child of a, or 0 -/
def brF (par : Nat → Nat) (a : Nat) : Nat → Nat → Nat
  | 0, _ => 0
  | f + 1, b => if b = 0 then 0 else if par b = a then b else brF par a f (par b)
theorem brF_eq (T : TreeW n ts nm par) (a : Nat) : ∀ (f f' b : Nat), b < n → b ≤ f → b ≤ f' → brF par a f b = brF par a f' b
  | 0, 0, b, _, _, _ => rfl
  | 0, f' + 1, b, hb, h, _ => by
    have : b = 0 := by omega
    subst this
    rfl
  | f + 1, 0, b, hb, _, h => by
    have : b = 0 := by omega
    subst this
    rfl
  | f + 1, f' + 1, b, hb, h, h' => by
    unfold brF
    split
    · rfl
    · split
      · rfl
      · have := T.up b (by omega) hb
        exact brF_eq T a f f' (par b) (by omega) (by omega) (by omega)
theorem br_step (T : TreeW n ts nm par) {a b : Nat} (hb : b < n) (h0 : b ≠ 0) (h : par b ≠ a) : brF par a n b = brF par a n (par b) := by
  have hp := T.up b (by omega) hb
  obtain ⟨m, rfl⟩ : ∃ m, n = m + 1 := ⟨n - 1, by omega⟩
  rw [brF, if_neg h0, if_neg h]
  exact brF_eq T a m (m + 1) (par b) (by omega) (by omega) (by omega)
theorem br_child (T : TreeW n ts nm par) {a b : Nat} (hb : b < n) (h0 : b ≠ 0) (h : par b = a) : brF par a n b = b := by
  obtain ⟨m, rfl⟩ : ∃ m, n = m + 1 := ⟨n - 1, by omega⟩
  rw [brF, if_neg h0, if_pos h]
theorem br_le (T : TreeW n ts nm par) {a : Nat} : ∀ (f b : Nat), b < n → brF par a f b ≤ b
  | 0, b, _ => Nat.zero_le b
  | f + 1, b, hb => by
    unfold brF
    split
    · omega
    · split
      · exact Nat.le_refl b
      · have := T.up b (by omega) hb
        have := br_le T (a := a) f (par b) (by omega)
        omega
/-- along a tie that does not touch a, the branch stays -/
theorem br_edge (T : TreeW n ts nm par) {a b c : Nat} (hb : b < n) (hc : c < n) (nb : b ≠ a) (nc : c ≠ a) (ad : Adj ts (nm.getD b 0) (nm.getD c 0)) : brF par a n b = brF par a n c := by
  obtain ⟨x, hx, h⟩ := T.adj_inv ad
  have hp := T.up x hx.1 hx.2
  rcases h with ⟨h1, h2⟩ | ⟨h1, h2⟩
  · have e1 := T.inj hb (by omega) h1
    have e2 := T.inj hc hx.2 h2
    subst e1
    subst e2
    exact (br_step T hc (by omega) nb).symm
  · have e1 := T.inj hb hx.2 h1
    have e2 := T.inj hc (by omega) h2
    subst e1
    subst e2
    exact br_step T hb (by omega) nc
theorem TreeW.toward (T : TreeW n ts nm par) (hn : n ≤ 1000000) {a y : Nat} (ha : a < n) (hy : y < n) (hya : y ≠ a) : ∀ (k b : Nat), b < n → b ≠ a → dn ts (nm.getD b 0) (nm.getD y 0) = k → k ≤ dn ts (nm.getD a 0) (nm.getD y 0) → brF par a n b = brF par a n y := by
  have C := T.cw hn
  have M := C.met
  intro k
  induction k with
  | zero =>
    intro b hb hba h _
    have := (M.zero _ _ (T.lt hb) (T.lt hy)).mp h
    rw [T.inj hb hy this]
  | succ k ih =>
    intro b hb hba h hle
    have ne : nm.getD y 0 ≠ nm.getD b 0 := fun z => by
      rw [z, (M.zero _ _ (T.lt hb) (T.lt hb)).mpr rfl] at h
      omega
    obtain ⟨w, ad, hw⟩ := M.step _ _ (T.lt hy) (T.lt hb) ne
    have hwn := (M.lt _ _ ad).2
    obtain ⟨c, hc, rfl⟩ := T.sur hwn
    have s1 := M.sym (nm.getD y 0) (nm.getD b 0) (T.lt hy) (T.lt hb)
    have s2 := M.sym (nm.getD y 0) (nm.getD c 0) (T.lt hy) (T.lt hc)
    have hca : c ≠ a := fun z => by
      subst z
      omega
    rw [br_edge T hb hc hba hca ad]
    exact ih c hc hca (by omega) (by omega)
theorem TreeW.br_inj (T : TreeW n ts nm par) {a b c : Nat} (hb : b < n) (hc : c < n) (ha : a < n) (ad : Adj ts (nm.getD a 0) (nm.getD b 0)) (ad' : Adj ts (nm.getD a 0) (nm.getD c 0)) (h : brF par a n b = brF par a n c) : b = c := by
  have kind : ∀ {b}, b < n → Adj ts (nm.getD a 0) (nm.getD b 0) → (b ≠ 0 ∧ par b = a ∧ a < b) ∨ (a ≠ 0 ∧ b = par a ∧ b < a) := by
    intro b hb ad
    obtain ⟨x, hx, q⟩ := T.adj_inv ad
    have hp := T.up x hx.1 hx.2
    rcases q with ⟨h1, h2⟩ | ⟨h1, h2⟩
    · have e1 := T.inj ha (by omega) h1
      have e2 := T.inj hb hx.2 h2
      exact .inl (by subst e2; exact ⟨by omega, e1.symm, by omega⟩)
    · have e1 := T.inj ha hx.2 h1
      have e2 := T.inj hb (by omega) h2
      exact .inr (by subst e1; exact ⟨by omega, e2, by omega⟩)
  have l1 := br_le T (a := a) n b hb
  have l2 := br_le T (a := a) n c hc
  rcases kind hb ad with ⟨b0, b1, b2⟩ | ⟨b0, b1, b2⟩ <;> rcases kind hc ad' with ⟨c0, c1, c2⟩ | ⟨c0, c1, c2⟩
  · rw [br_child T hb b0 b1, br_child T hc c0 c1] at h
    exact h
  · rw [br_child T hb b0 b1] at h
    omega
  · rw [br_child T hc c0 c1] at h
    omega
  · omega
def leafL (n : Nat) (ts : Ties) : List Nat := (List.range n).filter fun x => decide ((nbr ts x).length = 1)
theorem mem_leaf {x : Nat} : x ∈ leafL n ts ↔ x < n ∧ (nbr ts x).length = 1 := by
  unfold leafL
  rw [List.mem_filter, List.mem_range, decide_eq_true_iff]
theorem TreeW.far_leaf (T : TreeW n ts nm par) (hn : n ≤ 1000000) {x y : Nat} (hx : x < n) (hy : y < n) (ne : x ≠ y) (h : ∀ z, Adj ts x z → dn ts z y ≤ dn ts x y) : (nbr ts x).length = 1 := by
  have C := T.cw hn
  have M := C.met
  obtain ⟨w, ad, _⟩ := M.step y x hy hx ne.symm
  have hw : w ∈ nbr ts x := mem_nbr.mpr ad
  have all : ∀ z ∈ nbr ts x, z = w := by
    intro z hz
    have az : Adj ts x z := mem_nbr.mp hz
    obtain ⟨a, ha, rfl⟩ := T.sur hx
    obtain ⟨b, hb, rfl⟩ := T.sur (M.lt _ _ az).2
    obtain ⟨c, hc, rfl⟩ := T.sur (M.lt _ _ ad).2
    obtain ⟨v, hv, rfl⟩ := T.sur hy
    have nself : ∀ {u}, u < n → Adj ts (nm.getD a 0) (nm.getD u 0) → u ≠ a := fun hu q z => by
      subst z
      rcases q with q | q
      · exact absurd (C.lt _ q).1 (by simp)
      · exact absurd (C.lt _ q).1 (by simp)
    have hva : v ≠ a := fun z => ne (by rw [z])
    have e1 := T.toward hn ha hv hva _ b hb (nself hb az) rfl (h _ az)
    have e2 := T.toward hn ha hv hva _ c hc (nself hc ad) rfl (h _ ad)
    rw [T.br_inj hb hc ha az ad (e1.trans e2.symm)]
  have nd := nbr_nodup (fun e he => (C.lt e he).1) T.nodup x
  generalize nbr ts x = l at hw all nd
  match l, hw, all, nd with
  | [_], _, _, _ => rfl
  | p :: q :: l, _, all, nd =>
    exfalso
    have e1 := all p (.head _)
    have e2 := all q (.tail _ (.head _))
    subst e1
    subst e2
    simp at nd
theorem CW.leaf_far (C : CW n ts) {x y : Nat} (hx : x < n) (hy : y < n) (ne : x ≠ y) (h : (nbr ts x).length = 1) : ∀ z, Adj ts x z → dn ts z y ≤ dn ts x y := by
  intro z az
  obtain ⟨w, ad, hw⟩ := C.met.step y x hy hx ne.symm
  have h1 : z ∈ nbr ts x := mem_nbr.mpr az
  have h2 : w ∈ nbr ts x := mem_nbr.mpr ad
  have e : z = w := by
    match hl : nbr ts x, h, h1, h2 with
    | [p], _, h1, h2 =>
      rw [List.mem_singleton] at h1 h2
      rw [h1, h2]
  subst e
  have hz := (C.web.adj az).2
  have s1 := C.met.sym z y hz hy
  have s2 := C.met.sym x y hx hy
  omega
theorem TreeW.far_iff (T : TreeW n ts nm par) (hn : n ≤ 1000000) (p : Nat × Nat) : p ∈ farL n ts ↔ p.1 < p.2 ∧ p.1 ∈ leafL n ts ∧ p.2 ∈ leafL n ts := by
  have C := T.cw hn
  rw [C.mem_far, mem_leaf, mem_leaf]
  constructor
  · rintro ⟨⟨h1, h2⟩, f1, f2⟩
    have hx : p.1 < n := by omega
    have s := C.met.sym p.1 p.2 hx h2
    refine ⟨h1, ⟨hx, T.far_leaf hn hx h2 (by omega) f1⟩, h2, T.far_leaf hn h2 hx (by omega) fun z az => ?_⟩
    have := f2 z az
    omega
  · rintro ⟨h1, ⟨hx, l1⟩, h2, l2⟩
    have s := C.met.sym p.1 p.2 hx h2
    refine ⟨⟨h1, h2⟩, C.leaf_far hx h2 (by omega) l1, fun z az => ?_⟩
    have := C.leaf_far h2 hx (by omega) l2 z az
    omega
theorem TreeW.has_leaf (T : TreeW n ts nm par) (hn : n ≤ 1000000) (h2 : 2 ≤ n) : leafL n ts ≠ [] := by
  have C := T.cw hn
  have hl : nm.getD (n - 1) 0 ∈ leafL n ts := by
    refine mem_leaf.mpr ⟨T.lt (by omega), ?_⟩
    have hp := T.up (n - 1) (by omega) (by omega)
    have hw : nm.getD (par (n - 1)) 0 ∈ nbr ts (nm.getD (n - 1) 0) := mem_nbr.mpr (T.adj (by omega) (by omega)).symm
    have all : ∀ z ∈ nbr ts (nm.getD (n - 1) 0), z = nm.getD (par (n - 1)) 0 := by
      intro z hz
      obtain ⟨x, hx, q⟩ := T.adj_inv (mem_nbr.mp hz)
      have hpx := T.up x hx.1 hx.2
      rcases q with ⟨q1, q2⟩ | ⟨q1, q2⟩
      · have := T.inj (by omega) (by omega) q1
        omega
      · have := T.inj (by omega) hx.2 q1
        rw [q2, ← this]
    have nd := nbr_nodup (fun e he => (C.lt e he).1) T.nodup (nm.getD (n - 1) 0)
    generalize nbr ts (nm.getD (n - 1) 0) = l at hw all nd
    match l, hw, all, nd with
    | [_], _, _, _ => rfl
    | p :: q :: l, _, all, nd =>
      exfalso
      have e1 := all p (.head _)
      have e2 := all q (.tail _ (.head _))
      subst e1
      subst e2
      simp at nd
  intro z
  rw [z] at hl
  cases hl
theorem leaf_sorted : (leafL n ts).Pairwise (· < ·) := List.Pairwise.filter _ List.pairwise_lt_range
theorem TreeW.sd (T : TreeW n ts nm par) (hn : n ≤ 1000000) (h2 : 2 ≤ n) : sdF n (farL n ts) = ((leafL n ts).length : Int) - 1 :=
  sdF_clique leaf_sorted (fun i hi => (mem_leaf.mp hi).1) (T.has_leaf hn h2) (T.far_iff hn)
theorem TreeW.hit_tail (T : TreeW n ts nm par) (hn : n ≤ 1000000) : hitL (farL n ts) ((leafL n ts).drop 1) = true := by
  unfold hitL
  rw [List.all_eq_true]
  intro p hp
  obtain ⟨h1, h2, h3⟩ := (T.far_iff hn p).mp hp
  rw [Bool.or_eq_true, decide_eq_true_iff, decide_eq_true_iff]
  generalize leafL n ts = L at h2 h3
  cases L with
  | nil => cases h2
  | cons a R =>
    show p.1 ∈ R ∨ p.2 ∈ R
    rcases List.mem_cons.mp h2 with q | q
    · rcases List.mem_cons.mp h3 with r | r
      · omega
      · exact .inr r
    · exact .inl q
end
end Sd

namespace Sd
open PySem PySem.Spec L2
/-! ### K49: the law on data -/
noncomputable def k49pair : BS := (sSeq (sAsg 13 (fComp [15] (iSeqV (fCall 2 m__law_beside (fConsU (fVar 4) (fConsU (fVar 8) fNilU)))) (gn 15) (tst (op2 φGt (op2 φIxX (op2 φIxX (fVar 6) (fVar 15)) (fVar 11)) (op2 φIxX (op2 φIxX (fVar 6) (fVar 8)) (fVar 11)))) (fVar 15))) (sIf (bAnd (tst (op2 φEq (fVar 13) (fLst fNilA))) (tst (op2 φEq (fComp [15] (iSeqV (fCall 2 m__law_beside (fConsU (fVar 4) (fConsU (fVar 11) fNilU)))) (gn 15) (tst (op2 φGt (op2 φIxX (op2 φIxX (fVar 6) (fVar 15)) (fVar 8)) (op2 φIxX (op2 φIxX (fVar 6) (fVar 8)) (fVar 11)))) (fVar 15)) (fLst fNilA)))) (sApp 7 (fTup (fConsV (fVar 8) (fConsV (fVar 11) fNilA)))) sNx))
noncomputable def k49some : BS := (sFrz 6 (sSeq (sAsg 14 (fCall 3 m__law_all_strong (fConsU (fVar 3) (fConsU (fVar 6) (fConsU (fVar 12) fNilU))))) (sSeq (sIf (tst (op2 φNe (fVar 14) (op2 φEq (fComp [16] (iSeqV (fVar 7)) (gn 16) (bAnd (tst (op2 φNotIn (op2 φIxX (fVar 16) (fC (.int 0))) (fVar 12))) (tst (op2 φNotIn (op2 φIxX (fVar 16) (fC (.int 1))) (fVar 12)))) (fVar 16)) (fLst fNilA)))) (sRet (fC (.bool false))) sNx) (sSeq (sAsg 9 (fIf (tst (fVar 14)) (opL φMin (fConsA (fVar 9) (fConsA (fVar 10) fNilA))) (fVar 9))) (sIf (bAnd (tst (op2 φEq (fCall 2 mDraw (fConsU (fVar 1) (fConsU (fC (.int 12)) fNilU))) (fC (.int 0)))) (bNot (tst (fCall 2 (m__law_eq 6) (fConsU (fCall 3 m_tells_strongly (fConsU (fVar 3) (fConsU (fVar 4) (fConsU (fVar 12) fNilU)))) (fConsU (fVar 14) fNilU)))))) (sRet (fC (.bool false))) sNx)))))
noncomputable def k49turn : BS := (sSeq (sAsgG (gt 2 (gsC (gn 3) (gsC (gn 4) gsN))) (fCall 2 m__law_some_web (fConsU (fVar 1) (fConsU (fC (.int 6)) fNilU)))) (sSeq (sAsg 6 (fComp [8] (iRange1 (fConsA (fVar 3) fNilA)) (gn 8) bYes (fCall 3 m__law_steps (fConsU (fVar 3) (fConsU (fVar 4) (fConsU (fVar 8) fNilU)))))) (sSeq (sAsg 7 (fLst fNilA)) (sSeq (sFor (iRange1 (fConsA (fVar 3) fNilA)) (gn 8) (sFor (iRange2 (fConsA (op2 φAdd (fVar 8) (fC (.int 1))) (fConsA (fVar 3) fNilA))) (gn 11) k49pair)) (sFrz 7 (sSeq (sIf (bNot (tst (fCall 2 (m__law_eq 6) (fConsU (fCall 2 m_far_pairs (fConsU (fVar 3) (fConsU (fVar 4) fNilU))) (fConsU (fVar 7) fNilU))))) (sRet (fC (.bool false))) sNx) (sSeq (sAsg 9 (fVar 3)) (sSeq (sFor (iRange1 (fConsA (op2 φAdd (fVar 3) (fC (.int 1))) fNilA)) (gn 10) (sFor (iSeq (fCall 2 m__law_sets (fConsU (fVar 3) (fConsU (fVar 10) fNilU)))) (gn 12) k49some)) (sIf (bNot (tst (fCall 2 (m__law_eq 6) (fConsU (fCall 2 m_strong_dimension (fConsU (fVar 3) (fConsU (fVar 4) fNilU))) (fConsU (fVar 9) fNilU))))) (sRet (fC (.bool false))) sNx)))))))))
noncomputable def k49rest : BS := (sSeq (sAsg 3 (op2 φAdd (fC (.int 2)) (fCall 2 mDraw (fConsU (fVar 1) (fConsU (fC (.int 12)) fNilU))))) (sSeq (sAsg 4 (fCall 2 m__law_tree (fConsU (fVar 1) (fConsU (fVar 3) fNilU)))) (sSeq (sAsg 5 (fComp [8] (iRange1 (fConsA (fVar 3) fNilA)) (gn 8) (tst (op2 φEq (opL φLen' (fConsA (fCall 2 m__law_beside (fConsU (fVar 4) (fConsU (fVar 8) fNilU))) fNilA)) (fC (.int 1)))) (fVar 8))) (sSeq (sIf (bOr (bNot (tst (fCall 2 (m__law_eq 6) (fConsU (fCall 2 m_strong_dimension (fConsU (fVar 3) (fConsU (fVar 4) fNilU))) (fConsU (op2 φSub (opL φLen' (fConsA (fVar 5) fNilA)) (fC (.int 1))) fNilU))))) (bNot (tst (fCall 2 (m__law_eq 6) (fConsU (fCall 3 m_tells_strongly (fConsU (fVar 3) (fConsU (fVar 4) (fConsU (opL φTuple (fConsA (fSlice (fVar 5) (fPart (fC (.int 1))) fNoPart) fNilA)) fNilU)))) (fConsU (fC (.bool true)) fNilU)))))) (sRet (fC (.bool false))) sNx) (sSeq (sAsg 3 (op2 φAdd (fC (.int 3)) (fCall 2 mDraw (fConsU (fVar 1) (fConsU (fC (.int 8)) fNilU))))) (sSeq (sIf (bOr (bNot (tst (fCall 2 (m__law_eq 6) (fConsU (fCall 2 m_strong_dimension (fConsU (fVar 3) (fConsU (fCall 1 m__law_ring (fConsU (fVar 3) fNilU)) fNilU))) (fConsU (op2 φDiv (op2 φAdd (fVar 3) (fC (.int 1))) (fC (.int 2))) fNilU))))) (bNot (tst (fCall 2 (m__law_eq 6) (fConsU (fCall 2 m_strong_dimension (fConsU (fVar 3) (fConsU (fCall 1 m__law_whole (fConsU (fVar 3) fNilU)) fNilU))) (fConsU (op2 φSub (fVar 3) (fC (.int 1))) fNilU)))))) (sRet (fC (.bool false))) sNx) (sRet (fAnd (fCall 2 (m__law_eq 6) (fConsU (fCall 2 m_strong_dimension (fConsU (fC (.int 1)) (fConsU (fTup fNilA) fNilU))) (fConsU (fC (.int 0)) fNilU))) (fCall 5 m_parts_strongly (fConsU (fC (.int 2)) (fConsU (fTup (fConsV (fTup (fConsV (fC (.int 0)) (fConsV (fC (.int 1)) fNilA))) fNilA)) (fConsU (fC (.int 0)) (fConsU (fC (.int 0)) (fConsU (fC (.int 1)) fNilU))))))))))))))
noncomputable def b_law : BS := (sSeq (sFor (iRange1 (fConsA (fC (.int 3)) fNilA)) (gn 2) k49turn) k49rest)
theorem Tt.same {fu : EU} {ρ : List Sl} {g : G} {Q : Bool → G → Prop} (h : Vu fu ρ g fun ss g1 => ∃ d, ss = [.sh d, .sh d] ∧ EqD 5 d ∧ Q false g1) : Tt (bNot (Sd.tst (fCall 2 (m__law_eq 6) fu))) ρ g Q := by
  obtain ⟨ss, g1, e, d, rfl, hd, q⟩ := h
  refine .not (.tst (.call ⟨_, g1, e, rfl, (gm__law_eq 5 hd).imp fun e g2 h => ?_⟩))
  obtain ⟨rfl, rfl⟩ := h
  exact ⟨true, rfl, q⟩
theorem EqD.nP (r : Nat) (p : Nat × Nat) : EqD (r + 1) (nP p) := .tuple (fun d hd => by
  simp at hd
  rcases hd with rfl | rfl <;> exact .int _ _) (by simp)
section
variable {g : G} {n : Nat} {ts : Ties}
theorem filter_all {l : List Nat} {p : Nat → Bool} : (l.filter p).isEmpty = l.all fun z => !p z := by
  rw [Bool.eq_iff_iff, List.isEmpty_iff, List.filter_eq_nil_iff, List.all_eq_true]
  constructor
  · intro h z hz
    have := h z hz
    simpa using this
  · intro h z hz
    have := h z hz
    simpa using this
/-- one pair of places -/
theorem go_pair {s0 s2 s5 s9 s10 s12 s13 s14 s15 s16 : Sl} {x y : Nat} {T : List D} (hw : Web n ts) (hx : x < n) (hy : y < n) (hT : T.length < 1000000) :
    Go k49pair [s0, .st, s2, .sh (nI n), .sh (eW ts), s5, .ol ((List.range n).map (dL n ts)), .ol T, .sh (nI x), s9, s10, .sh (nI y), s12, s13, s14, s15, s16] g fun fl ρ g' => fl = .nx ∧ g' = g ∧
      ∃ s13, ρ = [s0, .st, s2, .sh (nI n), .sh (eW ts), s5, .ol ((List.range n).map (dL n ts)), .ol (T ++ if farP ts x y = true then [nP (x, y)] else []), .sh (nI x), s9, s10, .sh (nI y), s12, s13, s14, s15, s16] := by
  have side : ∀ (s13 : Sl) (u v iu iv : Nat), u < n → v < n → (iu = 8 ∧ u = x ∧ iv = 11 ∧ v = y ∨ iu = 11 ∧ u = y ∧ iv = 8 ∧ v = x) →
      Ev (fComp [15] (iSeqV (fCall 2 m__law_beside (fConsU (fVar 4) (fConsU (fVar iu) fNilU)))) (gn 15) (tst (op2 φGt (op2 φIxX (op2 φIxX (fVar 6) (fVar 15)) (fVar iv)) (op2 φIxX (op2 φIxX (fVar 6) (fVar 8)) (fVar 11)))) (fVar 15)) [s0, .st, s2, .sh (nI n), .sh (eW ts), s5, .ol ((List.range n).map (dL n ts)), .ol T, .sh (nI x), s9, s10, .sh (nI y), s12, s13, s14, s15, s16] g fun r g' => r = .f (((nbr ts u).filter fun z => decide (dst ts x y < dst ts z v)).map nI) ∧ g' = g := by
    intro s13 u v iu iv hu hv hc
    have hb : fConsU (fVar 4) (fConsU (fVar iu) fNilU) [s0, .st, s2, .sh (nI n), .sh (eW ts), s5, .ol ((List.range n).map (dL n ts)), .ol T, .sh (nI x), s9, s10, .sh (nI y), s12, s13, s14, s15, s16] g = some ([.sh (eW ts), .sh (nI u)], g) := by
      rcases hc with ⟨rfl, rfl, rfl, rfl⟩ | ⟨rfl, rfl, rfl, rfl⟩ <;> rfl
    have hcomp : compL (cStep (wipeS [s0, .st, s2, .sh (nI n), .sh (eW ts), s5, .ol ((List.range n).map (dL n ts)), .ol T, .sh (nI x), s9, s10, .sh (nI y), s12, s13, s14, s15, s16] [15]) (gn 15) (tst (op2 φGt (op2 φIxX (op2 φIxX (fVar 6) (fVar 15)) (fVar iv)) (op2 φIxX (op2 φIxX (fVar 6) (fVar 8)) (fVar 11)))) (fVar 15)) ((nbr ts u).map nI) g = some (((nbr ts u).filter fun z => decide (dst ts x y < dst ts z v)).map nI, g) := by
      refine compL_ff (fun z => decide (dst ts x y < dst ts z v)) nI fun z hz => ?_
      have hzn := nbr_lt hw hz
      refine cStep_pure (ρ1 := [s0, .st, s2, .sh (nI n), .sh (eW ts), s5, .ol ((List.range n).map (dL n ts)), .ol T, .sh (nI x), s9, s10, .sh (nI y), s12, s13, s14, .sh (nI z), s16]) rfl ?_ fun _ => rfl
      refine tt_op2 (x := .int (dst ts z v)) (y := .int (dst ts x y)) ?_ (vw_tab (c := x) (y := y) rfl rfl rfl hx hy) rfl
      rcases hc with ⟨rfl, rfl, rfl, rfl⟩ | ⟨rfl, rfl, rfl, rfl⟩
      · exact vw_tab (c := z) (y := v) rfl rfl rfl hzn hv
      · exact vw_tab (c := z) (y := v) rfl rfl rfl hzn hv
    exact .comp (.seqV (.of (vw_call hb rfl (gm__law_beside hw.2)) ⟨_, rfl, _, _, hcomp, by rw [List.length_map]; exact small_len (Nat.le_trans (List.length_filter_le _ _) (Nat.le_trans nbr_len hw.2)), rfl, rfl⟩))
  have nil : ∀ l : List Nat, φEq (.list (l.map nI)) (.list []) = some (.d (.bool l.isEmpty)) := fun l => by
    rw [φEq_nil (c := 0) (fun d hd => by obtain ⟨a, _, rfl⟩ := List.mem_map.mp hd; exact .nI a) (by omega), List.isEmpty_map]
  obtain ⟨_, _, e1, rfl, rfl⟩ := side s13 x y 8 11 hx hy (.inl ⟨rfl, rfl, rfl, rfl⟩)
  refine .seq (.asg (.of e1 ⟨_, rfl, ?_⟩))
  obtain ⟨_, _, e2, h2, h3⟩ := side (.ol (((nbr ts x).filter fun z => decide (dst ts x y < dst ts z y)).map nI)) y x 11 8 hy hx (.inr ⟨rfl, rfl, rfl, rfl⟩)
  rw [h2, h3] at e2
  have hf : (((nbr ts x).filter fun z => decide (dst ts x y < dst ts z y)).isEmpty && ((nbr ts y).filter fun z => decide (dst ts x y < dst ts z x)).isEmpty) = farP ts x y := by
    unfold farP
    rw [filter_all, filter_all]
    congr 1
    · congr 1
      funext z
      rw [← decide_not]
      exact decide_eq_decide.mpr Int.not_lt
    · congr 1
      funext z
      rw [← decide_not]
      exact decide_eq_decide.mpr Int.not_lt
  refine .ite (.of (tt_and (tt_op2 (x := .list (((nbr ts x).filter fun z => decide (dst ts x y < dst ts z y)).map nI)) (y := .list []) rfl rfl (nil _)) fun _ => tt_op2 (vw_f e2) (y := .list []) rfl (nil _)) ?_)
  rw [hf]
  cases hq : farP ts x y with
  | true => exact .app (xs := T) rfl (by rw [sizeLine_eq]; omega) (.of (d := nP (x, y)) rfl ⟨rfl, rfl, _, rfl⟩)
  | false => exact .nx ⟨rfl, rfl, _, by rw [if_neg (by decide), List.append_nil]; rfl⟩
/-- one set of places -/
theorem go_some {s0 s2 s5 s6 s8 s11 s13 s14 s15 s16 : Sl} {best k : Nat} {l : List Nat} (C : CW n ts) (hn : n ≤ 1000) (hg : GOk g) (hl : ∀ c ∈ l, c < n) (hll : l.length ≤ 1000000) (h6 : s6 = .ol ((List.range n).map (dL n ts)) ∨ s6 = .sh (.list ((List.range n).map (dL n ts)))) :
    Go k49some [s0, .st, s2, .sh (nI n), .sh (eW ts), s5, s6, .sh (.list ((farL n ts).map nP)), s8, .sh (nI best), .sh (nI k), s11, .sh (nT l), s13, s14, s15, s16] g fun fl ρ g' => fl = .nx ∧ GOk g' ∧
      ∃ s14, ρ = [s0, .st, s2, .sh (nI n), .sh (eW ts), s5, .sh (.list ((List.range n).map (dL n ts))), .sh (.list ((farL n ts).map nP)), s8, .sh (nI (if hitL (farL n ts) l = true then min best k else best)), .sh (nI k), s11, .sh (nT l), s13, s14, s15, s16] := by
  refine frz_list (s := s6) rfl h6 ?_
  refine .seq (.asg (.call (.cons (.of (d := nI n) rfl (.cons (.of (d := dM n ts) rfl (.cons (.of (d := nT l) rfl (.nil ⟨rfl, (gm__law_all_strong hn hl hll).imp fun d g1 h => ?_⟩)))))))))
  obtain ⟨rfl, rfl⟩ := h
  rw [C.as_hit hl]
  generalize hB : hitL (farL n ts) l = B
  refine ⟨.sh (.bool B), rfl, ?_⟩
  have hcomp : compL (cStep (wipeS [s0, .st, s2, .sh (nI n), .sh (eW ts), s5, .sh (.list ((List.range n).map (dL n ts))), .sh (.list ((farL n ts).map nP)), s8, .sh (nI best), .sh (nI k), s11, .sh (nT l), s13, .sh (.bool B), s15, s16] [16]) (gn 16) (bAnd (tst (op2 φNotIn (op2 φIxX (fVar 16) (fC (.int 0))) (fVar 12))) (tst (op2 φNotIn (op2 φIxX (fVar 16) (fC (.int 1))) (fVar 12)))) (fVar 16)) ((farL n ts).map nP) g1
      = some (((farL n ts).filter fun p => !decide (p.1 ∈ l) && !decide (p.2 ∈ l)).map nP, g1) := by
    refine compL_ff (fun p => !decide (p.1 ∈ l) && !decide (p.2 ∈ l)) nP fun p hp => ?_
    refine cStep_pure (ρ1 := [s0, .st, s2, .sh (nI n), .sh (eW ts), s5, .sh (.list ((List.range n).map (dL n ts))), .sh (.list ((farL n ts).map nP)), s8, .sh (nI best), .sh (nI k), s11, .sh (nT l), s13, .sh (.bool B), s15, .sh (nP p)]) rfl ?_ fun _ => rfl
    exact tt_and (tt_op2 (x := nI p.1) (y := nT l) rfl rfl (φNotIn_natsT _ _)) fun _ => tt_op2 (x := nI p.2) (y := nT l) rfl rfl (φNotIn_natsT _ _)
  have hlen : ((farL n ts).filter fun p => !decide (p.1 ∈ l) && !decide (p.2 ∈ l)).length ≤ 1000000 := by
    refine Nat.le_trans (List.length_filter_le _ _) ?_
    unfold farL
    exact Nat.le_trans (List.length_filter_le _ _) (cw_whole hn).len
  have hemp : ((farL n ts).filter fun p => !decide (p.1 ∈ l) && !decide (p.2 ∈ l)).isEmpty = B := by
    rw [← hB]
    unfold hitL
    rw [Bool.eq_iff_iff, List.isEmpty_iff, List.filter_eq_nil_iff, List.all_eq_true]
    refine ⟨fun h p hp => ?_, fun h p hp => ?_⟩
    · have := h p hp
      cases h1 : decide (p.1 ∈ l) <;> cases h2 : decide (p.2 ∈ l) <;> simp [h1, h2] at this ⊢
    · have := h p hp
      cases h1 : decide (p.1 ∈ l) <;> cases h2 : decide (p.2 ∈ l) <;> simp [h1, h2] at this ⊢
  obtain ⟨_, _, e1, h1, h2⟩ : Vw (op2 φEq (fComp [16] (iSeqV (fVar 7)) (gn 16) (bAnd (tst (op2 φNotIn (op2 φIxX (fVar 16) (fC (.int 0))) (fVar 12))) (tst (op2 φNotIn (op2 φIxX (fVar 16) (fC (.int 1))) (fVar 12)))) (fVar 16)) (fLst fNilA)) [s0, .st, s2, .sh (nI n), .sh (eW ts), s5, .sh (.list ((List.range n).map (dL n ts))), .sh (.list ((farL n ts).map nP)), s8, .sh (nI best), .sh (nI k), s11, .sh (nT l), s13, .sh (.bool B), s15, s16] g1 fun d g' => d = .bool B ∧ g' = g1 := by
    refine .op2 (.comp (.seqV (.of (d := .list ((farL n ts).map nP)) rfl ⟨_, rfl, _, _, hcomp, by rw [List.length_map]; exact small_len hlen, .of (d := .list []) rfl ⟨_, φEq_nil (c := 1) (fun d hd => by obtain ⟨a, _, rfl⟩ := List.mem_map.mp hd; exact .nP a) (by omega), ?_, rfl⟩⟩)))
    show PyData.bool _ = _
    rw [List.isEmpty_map, hemp]
  rw [h1, h2] at e1
  have nb : φNe (.bool B) (.bool B) = some (.d (.bool false)) := by
    rw [φNe_ok (.bool B) (.bool B) (by omega) (by omega), PyData.eqv]
    cases B <;> rfl
  refine .seq (.ite (.of (tt_op2 (x := .bool B) rfl e1 nb) (.nx ?_)))
  have hbest : Ev (fIf (tst (fVar 14)) (opL φMin (fConsA (fVar 9) (fConsA (fVar 10) fNilA))) (fVar 9)) [s0, .st, s2, .sh (nI n), .sh (eW ts), s5, .sh (.list ((List.range n).map (dL n ts))), .sh (.list ((farL n ts).map nP)), s8, .sh (nI best), .sh (nI k), s11, .sh (nT l), s13, .sh (.bool B), s15, s16] g1 fun r g' => r = .d (nI (if B = true then min best k else best)) ∧ g' = g1 := by
    refine .fIf (.of (x := B) (tt_tst rfl) ?_)
    cases B with
    | true => exact .opL (.consA (.of (d := nI best) rfl (.consA (.of (d := nI k) rfl (.nil ⟨_, φMin_nat best k, rfl, rfl⟩)))))
    | false => exact .of (r := .d (nI best)) rfl ⟨rfl, rfl⟩
  obtain ⟨_, _, e2, h3, h4⟩ := hbest
  rw [h3, h4] at e2
  refine .seq (.asg (.of e2 ⟨_, rfl, ?_⟩))
  generalize (if B = true then min best k else best) = b2
  obtain ⟨b, g3, e3, hg3⟩ : Tt (tst (op2 φEq (fCall 2 mDraw (fConsU (fVar 1) (fConsU (fC (.int 12)) fNilU))) (fC (.int 0)))) [s0, .st, s2, .sh (nI n), .sh (eW ts), s5, .sh (.list ((List.range n).map (dL n ts))), .sh (.list ((farL n ts).map nP)), s8, .sh (nI b2), .sh (nI k), s11, .sh (nT l), s13, .sh (.bool B), s15, s16] g1 fun _ g' => GOk g' := by
    have h12 : 0 < 12 := by decide
    have h12' : 12 < 1073741824 := by decide
    refine .tst (.op2 (.call (.consSt rfl (.cons (.of (d := nI 12) rfl (.nil ⟨rfl, (gm_draw (many := 12) hg h12 h12').imp fun d g3 h => ?_⟩))))))
    obtain ⟨v, rfl, hv, hg3⟩ := h
    exact .of (d := nI 0) rfl ⟨_, φEq_nat v 0, _, rfl, hg3⟩
  refine .ite (.and ⟨b, g3, e3, ?_⟩)
  cases b with
  | true =>
    refine .same (.cons (.call (.cons (.of (d := nI n) rfl (.cons (.of (d := eW ts) rfl (.cons (.of (d := nT l) rfl (.nil ⟨rfl, (gm_tells_strongly C.web hn hl hll).imp fun d g4 h => ?_⟩)))))))))
    obtain ⟨rfl, rfl⟩ := h
    rw [C.ts_hit hl, hB]
    refine .cons (.of (d := .bool B) rfl (.nil ⟨_, rfl, .bool _ _, ?_⟩))
    exact .nx ⟨rfl, hg3, _, rfl⟩
  | false => exact .nx ⟨rfl, hg3, _, rfl⟩
end
end Sd

namespace Sd
open PySem PySem.Spec L2
/-! ### K49: a turn -/
theorem pow6 {n j : Nat} (hn : n ≤ 6) (hj : j ≤ 6) : n ^ j ≤ 1000000 := by
  have h1 : n ^ j ≤ 6 ^ j := Nat.pow_le_pow_left hn j
  have h2 : 6 ^ j ≤ 6 ^ 6 := Nat.pow_le_pow_right (by decide) hj
  have h3 : 6 ^ 6 ≤ 1000000 := by decide
  omega
section
variable {g : G}
theorem go_turn {s0 s2 s3 s4 s5 s6 s7 s8 s9 s10 s11 s12 s13 s14 s15 s16 : Sl} (hg : GOk g) :
    Go k49turn [s0, .st, s2, s3, s4, s5, s6, s7, s8, s9, s10, s11, s12, s13, s14, s15, s16] g fun fl ρ g' => fl = .nx ∧ GOk g' ∧
      ∃ s3 s4 s5 s6 s7 s8 s9 s10 s11 s12 s13 s14 s15 s16, ρ = [s0, .st, s2, s3, s4, s5, s6, s7, s8, s9, s10, s11, s12, s13, s14, s15, s16] := by
  have h06 : 0 < 6 := by decide
  have h630 : 6 ≤ 30 := by decide
  refine .seq (.asgG (.call (.consSt rfl (.cons (.of (d := nI 6) rfl (.nil ⟨rfl, (gm__law_some_web (most := 6) hg h06 h630).imp fun d g1 h => ?_⟩))))))
  obtain ⟨⟨n, ts, rfl, h1, h2, C⟩, hg1⟩ := h
  have hw := C.web
  refine ⟨[s0, .st, s2, .sh (nI n), .sh (eW ts), s5, s6, s7, s8, s9, s10, s11, s12, s13, s14, s15, s16], rfl, ?_⟩
  have hct : compL (cStep (wipeS [s0, .st, s2, .sh (nI n), .sh (eW ts), s5, s6, s7, s8, s9, s10, s11, s12, s13, s14, s15, s16] [8]) (gn 8) bYes (fCall 3 m__law_steps (fConsU (fVar 3) (fConsU (fVar 4) (fConsU (fVar 8) fNilU))))) ((List.range n).map nI) g1 = some ((List.range n).map (dL n ts), g1) := by
    refine compL_map (dL n ts) fun v hv => ?_
    exact cStep_map (ρ1 := [s0, .st, s2, .sh (nI n), .sh (eW ts), s5, s6, s7, .sh (nI v), s9, s10, s11, s12, s13, s14, s15, s16]) rfl (vl_call rfl rfl (gm__law_steps hw (List.mem_range.mp hv) (by omega)))
  refine .seq (.asg (.comp (.range1 (.consA (.of (d := nI n) rfl (.nil ⟨_, rfl, small_nat (by omega), _, _, by rw [rng0]; exact hct, by rw [List.length_map, List.length_range, sizeLine_eq]; omega, .ol ((List.range n).map (dL n ts)), rfl, ?_⟩))))))
  refine .seq (.asg (.of (r := .f []) rfl ⟨.ol (([] : Ties).map nP), rfl, ?_⟩))
  refine .seq (.pairs (n := n) (fun pre ρ g' => ∃ s8 s11 s13, ρ = [s0, .st, s2, .sh (nI n), .sh (eW ts), s5, .ol ((List.range n).map (dL n ts)), .ol ((pre.filter fun p => farP ts p.1 p.2).map nP), s8, s9, s10, s11, s12, s13, s14, s15, s16] ∧ g' = g1) (by omega) (by decide)
    (fun pre ρ g h => by obtain ⟨s8, s11, s13, rfl, _⟩ := h; exact ⟨Nat.lt_of_sub_pos (Nat.succ_pos _), Nat.lt_of_sub_pos (Nat.succ_pos _)⟩) (fun pre ρ g h => by obtain ⟨s8, s11, s13, rfl, _⟩ := h; rfl)
    (fun pre ρ g s h => by obtain ⟨s8, s11, s13, rfl, e⟩ := h; exact ⟨s, s11, s13, rfl, e⟩) (fun pre ρ g s h => by obtain ⟨s8, s11, s13, rfl, e⟩ := h; exact ⟨s8, s, s13, rfl, e⟩) ⟨s8, s11, s13, rfl, rfl⟩
    (fun pre x y post ρ g' e h hx hy => ?_) fun ρ g' h => ?_)
  · obtain ⟨s8, s11, s13, rfl, rfl⟩ := h
    have e8 : s8 = .sh (nI x) := Option.some.inj hx
    have e11 : s11 = .sh (nI y) := Option.some.inj hy
    subst e8
    subst e11
    obtain ⟨hxy, hyn⟩ := whole_lt e
    have hlen := whole_len (by omega) e
    generalize hT : ((pre.filter fun p => farP ts p.1 p.2).map nP) = T
    have hTl : T.length < 1000000 := by
      rw [← hT, List.length_map]
      have := List.length_filter_le (fun p : Nat × Nat => farP ts p.1 p.2) pre
      omega
    refine (go_pair hw (by omega) hyn hTl).imp fun fl ρ2 g2 h => ?_
    obtain ⟨rfl, rfl, s13, rfl⟩ := h
    refine ⟨⟨.sh (nI x), .sh (nI y), s13, ?_, rfl⟩, rfl⟩
    rw [List.filter_append, List.map_append, hT, List.filter_cons]
    dsimp only
    cases farP ts x y <;> rfl
  obtain ⟨s8, s11, s13, rfl, rfl⟩ := h
  refine .frzL (xs := (farL n ts).map nP) rfl ?_
  refine .seq (.ite (.same (.cons (.call (.cons (.of (d := nI n) rfl (.cons (.of (d := eW ts) rfl (.nil ⟨rfl, (gm_far_pairs hw (by omega)).imp fun d g2 h => ?_⟩)))))))))
  obtain ⟨rfl, rfl⟩ := h
  have hfl : (farL n ts).length ≤ 1000000 := by
    unfold farL
    exact Nat.le_trans (List.length_filter_le _ _) (cw_whole (by omega)).len
  refine .cons (.of (d := .list ((farL n ts).map nP)) rfl (.nil ⟨_, rfl, .listM (fun p => .nP _ p) hfl, .nx ?_⟩))
  refine .seq (.asg (.of (r := .d (nI n)) rfl ⟨_, rfl, ?_⟩))
  have hn1 : vw (op2 φAdd (fVar 3) (fC (.int 1))) [s0, .st, s2, .sh (nI n), .sh (eW ts), s5, .ol ((List.range n).map (dL n ts)), .sh (.list ((farL n ts).map nP)), s8, .sh (nI n), s10, s11, s12, s13, s14, s15, s16] g2 = some (nI (n + 1), g2) := vw_op2 (x := nI n) (y := .int 1) (r := .d (nI (n + 1))) rfl rfl rfl
  refine .seq (.loop (.range1 (.consA (.of hn1 (.nil ⟨_, rfl, small_nat (by omega), ?_⟩)))))
  rw [rng0]
  let OkB : Nat → Prop := fun best => ∃ l : List Nat, l.Pairwise (· < ·) ∧ (∀ i ∈ l, i < n) ∧ hitL (farL n ts) l = true ∧ l.length = best
  have start : OkB n := ⟨List.range n, List.pairwise_lt_range, fun i hi => List.mem_range.mp hi, by
    unfold hitL
    rw [List.all_eq_true]
    intro p hp
    have := farL_lt hp
    rw [Bool.or_eq_true, decide_eq_true_iff]
    exact .inl (List.mem_range.mpr (by omega)), List.length_range⟩
  refine .forL (List.range (n + 1)) (fun pre ρ g' => ∃ best s6 s10 s12 s14, ρ = [s0, .st, s2, .sh (nI n), .sh (eW ts), s5, s6, .sh (.list ((farL n ts).map nP)), s8, .sh (nI best), s10, s11, s12, s13, s14, s15, s16] ∧ (s6 = .ol ((List.range n).map (dL n ts)) ∨ s6 = .sh (.list ((List.range n).map (dL n ts)))) ∧ OkB best ∧ (∀ k ∈ pre, ∀ l ∈ setsL n k, hitL (farL n ts) l = true → best ≤ k) ∧ GOk g')
    ⟨n, _, s10, s12, s14, rfl, .inl rfl, start, (fun _ h => by cases h), hg1⟩ (fun pre k post ρ g3 e h => ?_) fun ρ g3 h => ?_
  · obtain ⟨best, s6, s10, s12, s14, rfl, h6, hB, hlow, hg3⟩ := h
    have hk : k ≤ n := by
      have : k ∈ List.range (n + 1) := by rw [e]; simp
      rw [List.mem_range] at this
      omega
    refine ⟨[s0, .st, s2, .sh (nI n), .sh (eW ts), s5, s6, .sh (.list ((farL n ts).map nP)), s8, .sh (nI best), .sh (nI k), s11, s12, s13, s14, s15, s16], rfl, ?_⟩
    refine .loop (.seq (.call (.cons (.of (d := nI n) rfl (.cons (.of (d := nI k) rfl (.nil ⟨rfl, (gm__law_sets (n := n) (k := k) (by omega) (fun j hj => pow6 (by omega) (by omega)) (by omega)).imp fun d g4 h => ?_⟩)))))))
    obtain ⟨rfl, rfl⟩ := h
    refine ⟨(setsL n k).map nT, rfl, ?_⟩
    refine .forL (setsL n k) (fun pl ρ g' => ∃ best s6 s12 s14, ρ = [s0, .st, s2, .sh (nI n), .sh (eW ts), s5, s6, .sh (.list ((farL n ts).map nP)), s8, .sh (nI best), .sh (nI k), s11, s12, s13, s14, s15, s16] ∧ (s6 = .ol ((List.range n).map (dL n ts)) ∨ s6 = .sh (.list ((List.range n).map (dL n ts)))) ∧ OkB best ∧ (∀ k ∈ pre, ∀ l ∈ setsL n k, hitL (farL n ts) l = true → best ≤ k) ∧ (∀ l ∈ pl, hitL (farL n ts) l = true → best ≤ k) ∧ GOk g')
      ⟨best, s6, s12, s14, rfl, h6, hB, hlow, (fun _ h => by cases h), hg3⟩ (fun pl l ql ρ g5 e2 h => ?_) fun ρ g5 h => ?_
    · obtain ⟨best, s6, s12, s14, rfl, h6, hB, hlow, hlow2, hg5⟩ := h
      have hl : l ∈ setsL n k := by rw [e2]; simp
      obtain ⟨l1, l2, l3⟩ := mem_sets.mp hl
      refine ⟨[s0, .st, s2, .sh (nI n), .sh (eW ts), s5, s6, .sh (.list ((farL n ts).map nP)), s8, .sh (nI best), .sh (nI k), s11, .sh (nT l), s13, s14, s15, s16], rfl, ?_⟩
      refine (go_some C (by omega) hg5 l3 (by omega) h6).imp fun fl ρ6 g6 h => ?_
      obtain ⟨rfl, hg6, s14, rfl⟩ := h
      refine ⟨_, _, _, s14, rfl, .inr rfl, ?_, fun j hj m hm hh => ?_, fun m hm hh => ?_, hg6⟩
      · split
        · rename_i hq
          by_cases c : best ≤ k
          · rw [Nat.min_eq_left c]
            exact hB
          · rw [Nat.min_eq_right (by omega)]
            exact ⟨l, l2, l3, hq, l1⟩
        · exact hB
      · have := hlow j hj m hm hh
        split <;> omega
      · rcases List.mem_append.mp hm with hm | hm
        · have := hlow2 m hm hh
          split <;> omega
        · have : m = l := by simpa using hm
          subst this
          rw [if_pos hh]
          omega
    · obtain ⟨best, s6, s12, s14, rfl, h6, hB, hlow, hlow2, hg5⟩ := h
      refine ⟨best, s6, .sh (nI k), s12, s14, rfl, h6, hB, fun j hj m hm hh => ?_, hg5⟩
      rcases List.mem_append.mp hj with hj | hj
      · exact hlow j hj m hm hh
      · have : j = k := by simpa using hj
        subst this
        exact hlow2 m hm hh
  · obtain ⟨best, s6, s10, s12, s14, rfl, h6, hB, hlow, hg3⟩ := h
    have hsd : PyData.int (sdF n (farL n ts)) = nI best := by
      obtain ⟨l, b1, b2, b3, b4⟩ := hB
      have lo := sdF_low (n := n) (b1.imp fun h => Nat.ne_of_lt h) b2 b3
      obtain ⟨m, c1, c2, c3, c4⟩ := sdF_up (n := n) (ps := farL n ts) fun p hp => by
        have := farL_lt hp
        omega
      have hml : m.length ≤ n := nodup_len (c1.imp fun h => Nat.ne_of_lt h) c2
      have := hlow m.length (List.mem_range.mpr (by omega)) m (mem_sets.mpr ⟨rfl, c1, c2⟩) c3
      show PyData.int _ = PyData.int _
      congr 1
      omega
    refine .ite (.same (.cons (.call (.cons (.of (d := nI n) rfl (.cons (.of (d := eW ts) rfl (.nil ⟨rfl, (gm_strong_dimension hw (by omega)).imp fun d g4 h => ?_⟩))))))))
    obtain ⟨rfl, rfl⟩ := h
    rw [hsd]
    exact .cons (.of (d := nI best) rfl (.nil ⟨_, rfl, .int _ _, .nx ⟨rfl, hg3, _, _, _, _, _, _, _, _, _, _, _, _, _, _, rfl⟩⟩))
end
end Sd

namespace Sd
open PySem PySem.Spec L2
/-! ### K49: the rest, the law -/
theorem cut1 (xs : List D) : cutD xs (some 1) none = xs.drop 1 := by
  unfold cutD
  rw [show HT.sIx xs.length 0 (some 1) = min 1 xs.length from HT.sIx_nat xs.length 0 1, HT.sIx_none]
  cases xs with
  | nil => rfl
  | cons x r =>
    rw [show min 1 (x :: r).length = 1 by rw [List.length_cons]; omega]
    show List.take ((x :: r).length - 1) r = r
    rw [List.length_cons, Nat.add_sub_cancel]
    exact List.take_length
theorem draw_plus {g : G} {ρ : List Sl} {a m : Nat} (hg : GOk g) (h1 : ρ[1]? = some .st) (h0 : 0 < m) (h2 : m ≤ 1000) {c d : Int} (hc : c = (a : Int)) (hd : d = (m : Int)) : Ev (op2 φAdd (fC (.int c)) (fCall 2 mDraw (fConsU (fVar 1) (fConsU (fC (.int d)) fNilU)))) ρ g fun r g' => (∃ v, v < m ∧ r = .d (nI (a + v))) ∧ GOk g' := by
  subst hc
  subst hd
  refine .op2 (.of (d := nI a) rfl (.call (.consSt h1 (.cons (.of (d := nI m) rfl (.nil ⟨rfl, (gm_draw hg h0 (by omega)).imp fun d g3 h => ?_⟩))))))
  obtain ⟨v, rfl, hv, hg3⟩ := h
  exact ⟨_, φAdd_nat a v, ⟨v, hv, rfl⟩, hg3⟩
theorem cw_one : CW 1 [] := ⟨fun _ h => (by cases h), Nat.zero_le _, fun u v hu hv => ⟨0, by
  have : v = u := by omega
  subst this
  exact .nil⟩⟩
theorem cw_two : CW 2 [(0, 1)] := by
  refine ⟨fun e h => ?_, by decide, conn_up fun v h1 h2 => ?_⟩
  · have : e = (0, 1) := by simpa using h
    subst this
    exact ⟨by decide, by decide⟩
  · have : v = 1 := by omega
    subst this
    exact ⟨0, by decide, .inl (.head _)⟩
section
variable {g : G}
theorem gm_parts : Gm m_parts_strongly [.sh (nI 2), .sh (eW [(0, 1)]), .sh (nI 0), .sh (nI 0), .sh (nI 1)] g fun d g' => d = .bool true ∧ g' = g := by
  have C := cw_two
  refine .run (.seq (.asg (.call (.cons (.of (d := nI 2) rfl (.cons (.of (d := eW [(0, 1)]) rfl (.nil ⟨rfl, (gm_steps_of C.web (by decide)).imp fun d g1 h => ?_⟩))))))))
  obtain ⟨rfl, rfl⟩ := h
  refine ⟨.sh (dM 2 [(0, 1)]), rfl, ?_⟩
  obtain ⟨_, _, e1, h1, h2⟩ : Ev (fCall 4 m_is_on_way (fConsU (fVar 5) (fConsU (fVar 2) (fConsU (fVar 4) (fConsU (fVar 3) fNilU))))) [.sh (nI 2), .sh (eW [(0, 1)]), .sh (nI 0), .sh (nI 0), .sh (nI 1), .sh (dM 2 [(0, 1)])] g1 fun r g' => r = .d (.bool true) ∧ g' = g1 :=
    .call ⟨[.sh (dM 2 [(0, 1)]), .sh (nI 0), .sh (nI 1), .sh (nI 0)], g1, rfl, rfl, (gm_is_on_way (n := 2) (by decide) (by decide) (by decide)).imp fun d g2 h => by
      obtain ⟨rfl, rfl⟩ := h
      refine ⟨?_, rfl⟩
      rw [C.dst (by decide) (by decide), C.dst (by decide) (by decide), (C.met.zero 0 0 (by decide) (by decide)).mpr rfl, decide_eq_true (by omega)]⟩
  rw [h1, h2] at e1
  have e2 := ev_or (fa := fCall 4 m_is_on_way (fConsU (fVar 5) (fConsU (fVar 2) (fConsU (fVar 3) (fConsU (fVar 4) fNilU))))) (ρ := [.sh (nI 2), .sh (eW [(0, 1)]), .sh (nI 0), .sh (nI 0), .sh (nI 1), .sh (dM 2 [(0, 1)])]) (g := g1) (vw_call (ss := [.sh (dM 2 [(0, 1)]), .sh (nI 0), .sh (nI 0), .sh (nI 1)]) rfl rfl (gm_is_on_way (n := 2) (by decide) (by decide) (by decide))) (C := true) fun _ => e1
  refine .ret (.of (vw_d e2) ⟨?_, rfl⟩)
  rw [Bool.or_true]
theorem go_rest {s0 s2 s3 s4 s5 s6 s7 s8 s9 s10 s11 s12 s13 s14 s15 s16 : Sl} (hg : GOk g) :
    Go k49rest [s0, .st, s2, s3, s4, s5, s6, s7, s8, s9, s10, s11, s12, s13, s14, s15, s16] g fun fl ρ g' => fl = .ret (.bool true) ∧ GOk g' := by
  obtain ⟨_, g1, e1, ⟨v, hv, rfl⟩, hg1⟩ := draw_plus (g := g) (ρ := [s0, .st, s2, s3, s4, s5, s6, s7, s8, s9, s10, s11, s12, s13, s14, s15, s16]) (a := 2) (m := 12) (c := 2) (d := 12) hg rfl (by decide) (by decide) rfl rfl
  refine .seq (.asg (.of e1 ⟨_, rfl, ?_⟩))
  generalize hn : 2 + v = n
  have hn2 : 2 ≤ n := by omega
  have hn13 : n ≤ 13 := by omega
  refine .seq (.asg (.call (.consSt rfl (.cons (.of (d := nI n) rfl (.nil ⟨rfl, (gm__law_tree hg1 (by omega)).imp fun d g2 h => ?_⟩))))))
  obtain ⟨⟨ts, nm, par, rfl, T⟩, hg2⟩ := h
  have C := T.cw (by omega)
  have hw := C.web
  refine ⟨_, rfl, ?_⟩
  have hcl : compL (cStep (wipeS [s0, .st, s2, .sh (nI n), .sh (eW ts), s5, s6, s7, s8, s9, s10, s11, s12, s13, s14, s15, s16] [8]) (gn 8) (tst (op2 φEq (opL φLen' (fConsA (fCall 2 m__law_beside (fConsU (fVar 4) (fConsU (fVar 8) fNilU))) fNilA)) (fC (.int 1)))) (fVar 8)) ((List.range n).map nI) g2 = some ((leafL n ts).map nI, g2) := by
    refine compL_ff (fun x => decide ((nbr ts x).length = 1)) nI fun x hx => ?_
    refine cStep_pure (ρ1 := [s0, .st, s2, .sh (nI n), .sh (eW ts), s5, s6, s7, .sh (nI x), s9, s10, s11, s12, s13, s14, s15, s16]) rfl ?_ fun _ => rfl
    obtain ⟨_, _, e, h1, h2⟩ : Vw (opL φLen' (fConsA (fCall 2 m__law_beside (fConsU (fVar 4) (fConsU (fVar 8) fNilU))) fNilA)) [s0, .st, s2, .sh (nI n), .sh (eW ts), s5, s6, s7, .sh (nI x), s9, s10, s11, s12, s13, s14, s15, s16] g2 fun d g' => d = nI (nbr ts x).length ∧ g' = g2 :=
      .opL (.consA (.of (vw_call (ss := [.sh (eW ts), .sh (nI x)]) rfl rfl (gm__law_beside hw.2)) (.nil ⟨_, rfl, by
        show PyData.int (((nbr ts x).map nI).length : Nat) = _
        rw [List.length_map]
        rfl, rfl⟩)))
    rw [h1, h2] at e
    exact tt_op2 e (y := nI 1) rfl (φEq_nat _ 1)
  have hll : (leafL n ts).length ≤ n := by
    have := List.length_filter_le (fun x => decide ((nbr ts x).length = 1)) (List.range n)
    rw [List.length_range] at this
    exact this
  refine .seq (.asg (.comp (.range1 (.consA (.of (d := nI n) rfl (.nil ⟨_, rfl, small_nat (by omega), _, _, by rw [rng0]; exact hcl, by rw [List.length_map, sizeLine_eq]; omega, .ol ((leafL n ts).map nI), rfl, ?_⟩))))))
  -- the tree's own numbers
  have hL : vw (opL φLen' (fConsA (fVar 5) fNilA)) [s0, .st, s2, .sh (nI n), .sh (eW ts), .ol ((leafL n ts).map nI), s6, s7, s8, s9, s10, s11, s12, s13, s14, s15, s16] g2 = some (nI (leafL n ts).length, g2) := vw_len (.inl rfl) (List.length_map _)
  refine .seq (.ite (.or (.same (.cons (.call (.cons (.of (d := nI n) rfl (.cons (.of (d := eW ts) rfl (.nil ⟨rfl, (gm_strong_dimension hw (by omega)).imp fun d g4 h => ?_⟩)))))))))) 
  obtain ⟨rfl, rfl⟩ := h
  rw [T.sd (by omega) hn2]
  refine .cons (.of (d := .int (((leafL n ts).length : Int) - 1)) (vl_op2 (r := .d (.int (((leafL n ts).length : Int) - 1))) hL (y := .int 1) rfl rfl) (.nil ⟨_, rfl, .int _ _, ?_⟩))
  have hsl : vl (opL φTuple (fConsA (fSlice (fVar 5) (fPart (fC (.int 1))) fNoPart) fNilA)) [s0, .st, s2, .sh (nI n), .sh (eW ts), .ol ((leafL n ts).map nI), s6, s7, s8, s9, s10, s11, s12, s13, s14, s15, s16] g4 = some (nT ((leafL n ts).drop 1), g4) := by
    have hs : vw (fSlice (fVar 5) (fPart (fC (.int 1))) fNoPart) [s0, .st, s2, .sh (nI n), .sh (eW ts), .ol ((leafL n ts).map nI), s6, s7, s8, s9, s10, s11, s12, s13, s14, s15, s16] g4 = some (.list (cutD ((leafL n ts).map nI) (some 1) none), g4) := rfl
    rw [cut1, ← List.map_drop] at hs
    obtain ⟨_, _, e, h1, h2⟩ : Vl (opL φTuple (fConsA (fSlice (fVar 5) (fPart (fC (.int 1))) fNoPart) fNilA)) [s0, .st, s2, .sh (nI n), .sh (eW ts), .ol ((leafL n ts).map nI), s6, s7, s8, s9, s10, s11, s12, s13, s14, s15, s16] g4 fun d g' => d = nT ((leafL n ts).drop 1) ∧ g' = g4 := .opL (.consA (.of hs (.nil ⟨_, rfl, rfl, rfl⟩)))
    rw [e, h1, h2]
  have hdr : ∀ c ∈ (leafL n ts).drop 1, c < n := fun c hc => (mem_leaf.mp (List.mem_of_mem_drop hc)).1
  have hdl : ((leafL n ts).drop 1).length ≤ 1000000 := by rw [List.length_drop]; omega
  refine .same (.cons (.call (.cons (.of (d := nI n) rfl (.cons (.of (d := eW ts) rfl (.cons (.of hsl (.nil ⟨rfl, (gm_tells_strongly hw (by omega) hdr hdl).imp fun d g5 h => ?_⟩)))))))))
  obtain ⟨rfl, rfl⟩ := h
  rw [C.ts_hit fun c hc => (mem_leaf.mp (List.mem_of_mem_drop hc)).1, T.hit_tail (by omega)]
  refine .cons (.of (d := .bool true) rfl (.nil ⟨_, rfl, .bool _ _, .nx ?_⟩))
  -- rings, wholes
  obtain ⟨_, g6, e6, ⟨w, hw6, rfl⟩, hg6⟩ := draw_plus (g := g5) (ρ := [s0, .st, s2, .sh (nI n), .sh (eW ts), .ol ((leafL n ts).map nI), s6, s7, s8, s9, s10, s11, s12, s13, s14, s15, s16]) (a := 3) (m := 8) (c := 3) (d := 8) hg2 rfl (by decide) (by decide) rfl rfl
  refine .seq (.asg (.of e6 ⟨_, rfl, ?_⟩))
  generalize hm : 3 + w = m
  have hm3 : 3 ≤ m := by omega
  have hm10 : m ≤ 10 := by omega
  have CR := cw_ring (n := m) (by omega) (by omega)
  have CW' := cw_whole (n := m) (by omega)
  refine .seq (.ite (.or (.same (.cons (.call (.cons (.of (d := nI m) rfl (.cons (.call (.cons (.of (d := nI m) rfl (.nil ⟨rfl, (gm__law_ring (by omega) (by omega)).imp fun d g7 h => ?_⟩))))))))))))
  obtain ⟨rfl, rfl⟩ := h
  refine .nil ⟨rfl, (gm_strong_dimension CR.web (by omega)).imp fun d g8 h => ?_⟩
  obtain ⟨rfl, rfl⟩ := h
  rw [sd_ring hm3 hm10]
  have hdiv : vl (op2 φDiv (op2 φAdd (fVar 3) (fC (.int 1))) (fC (.int 2))) [s0, .st, s2, .sh (nI m), .sh (eW ts), .ol ((leafL n ts).map nI), s6, s7, s8, s9, s10, s11, s12, s13, s14, s15, s16] g8 = some (.int (((m + 1) / 2 : Nat) : Int), g8) := by
    refine vl_op2 (x := nI (m + 1)) (y := .int 2) (r := .d (.int (((m + 1) / 2 : Nat) : Int))) (vw_op2 (x := nI m) (y := .int 1) (r := .d (nI (m + 1))) rfl rfl rfl) rfl ?_
    show some (RV.d (.int (((m + 1 : Nat) : Int) / 2))) = _
    congr 3
  refine .cons (.of hdiv (.nil ⟨_, rfl, .int _ _, ?_⟩))
  refine .same (.cons (.call (.cons (.of (d := nI m) rfl (.cons (.call (.cons (.of (d := nI m) rfl (.nil ⟨rfl, (gm__law_whole (by omega)).imp fun d g9 h => ?_⟩)))))))))
  obtain ⟨rfl, rfl⟩ := h
  refine .nil ⟨rfl, (gm_strong_dimension CW'.web (by omega)).imp fun d ga h => ?_⟩
  obtain ⟨rfl, rfl⟩ := h
  rw [sd_whole (by omega) (by omega)]
  refine .cons (.of (d := .int ((m : Int) - 1)) (vl_op2 (x := nI m) (y := .int 1) (r := .d (.int ((m : Int) - 1))) rfl rfl rfl) (.nil ⟨_, rfl, .int _ _, .nx ?_⟩))
  -- the last line
  have last : Vw (fCall 2 (m__law_eq 6) (fConsU (fCall 2 m_strong_dimension (fConsU (fC (.int 1)) (fConsU (fTup fNilA) fNilU))) (fConsU (fC (.int 0)) fNilU))) [s0, .st, s2, .sh (nI m), .sh (eW ts), .ol ((leafL n ts).map nI), s6, s7, s8, s9, s10, s11, s12, s13, s14, s15, s16] ga fun d g' => d = .bool true ∧ g' = ga := by
    refine .call (.cons (.call (.cons (.of (d := nI 1) rfl (.cons (.of (d := eW []) rfl (.nil ⟨rfl, (gm_strong_dimension cw_one.web (by decide)).imp fun d gb h => ?_⟩)))))))
    obtain ⟨rfl, rfl⟩ := h
    have e : sdF 1 (farL 1 []) = 0 := by
      have : farL 1 ([] : Ties) = [] := rfl
      rw [this]
      rfl
    rw [e]
    exact .cons (.of (d := .int 0) rfl (.nil ⟨rfl, gm__law_eq 5 (.int _ 0)⟩))
  obtain ⟨_, _, el, h1, h2⟩ := last
  rw [h1, h2] at el
  have parts : Ev (fCall 5 m_parts_strongly (fConsU (fC (.int 2)) (fConsU (fTup (fConsV (fTup (fConsV (fC (.int 0)) (fConsV (fC (.int 1)) fNilA))) fNilA)) (fConsU (fC (.int 0)) (fConsU (fC (.int 0)) (fConsU (fC (.int 1)) fNilU)))))) [s0, .st, s2, .sh (nI m), .sh (eW ts), .ol ((leafL n ts).map nI), s6, s7, s8, s9, s10, s11, s12, s13, s14, s15, s16] ga fun r g' => r = .d (.bool true) ∧ g' = ga :=
    .call ⟨[.sh (nI 2), .sh (eW [(0, 1)]), .sh (nI 0), .sh (nI 0), .sh (nI 1)], ga, rfl, rfl, gm_parts.imp fun d gb h => by
      obtain ⟨rfl, rfl⟩ := h
      exact ⟨rfl, rfl⟩⟩
  obtain ⟨_, _, ep, h3, h4⟩ := parts
  rw [h3, h4] at ep
  exact .ret (.of (vw_d (ev_and (B := true) (C := true) el fun _ => ep)) ⟨rfl, hg6⟩)
theorem go_law {s0 s2 s3 s4 s5 s6 s7 s8 s9 s10 s11 s12 s13 s14 s15 s16 : Sl} (hg : GOk g) :
    Go b_law [s0, .st, s2, s3, s4, s5, s6, s7, s8, s9, s10, s11, s12, s13, s14, s15, s16] g fun fl ρ g' => fl = .ret (.bool true) ∧ GOk g' := by
  refine .seq (.loop (.range1 (.consA (.of (d := .int 3) rfl (.nil ⟨_, rfl, by decide, ?_⟩)))))
  have e3 : rngD 0 ((3 : Int)).toNat = (List.range 3).map nI := rng0 3
  rw [e3]
  refine .forL (List.range 3) (fun pre ρ g' => (∃ s2 s3 s4 s5 s6 s7 s8 s9 s10 s11 s12 s13 s14 s15 s16, ρ = [s0, .st, s2, s3, s4, s5, s6, s7, s8, s9, s10, s11, s12, s13, s14, s15, s16]) ∧ GOk g')
    ⟨⟨_, _, _, _, _, _, _, _, _, _, _, _, _, _, _, rfl⟩, hg⟩ (fun pre a post ρ g1 e h => ?_) fun ρ g1 h => ?_
  · obtain ⟨⟨s2, s3, s4, s5, s6, s7, s8, s9, s10, s11, s12, s13, s14, s15, s16, rfl⟩, hg1⟩ := h
    refine ⟨[s0, .st, .sh (nI a), s3, s4, s5, s6, s7, s8, s9, s10, s11, s12, s13, s14, s15, s16], rfl, (go_turn hg1).imp fun fl ρ g2 h => ?_⟩
    obtain ⟨rfl, hg2, s3, s4, s5, s6, s7, s8, s9, s10, s11, s12, s13, s14, s15, s16, rfl⟩ := h
    exact ⟨⟨_, _, _, _, _, _, _, _, _, _, _, _, _, _, _, rfl⟩, hg2⟩
  · obtain ⟨⟨s2, s3, s4, s5, s6, s7, s8, s9, s10, s11, s12, s13, s14, s15, s16, rfl⟩, hg1⟩ := h
    exact go_rest hg1
end
end Sd

namespace Sd
open PySem PySem.Spec L2
def topS (i : Nat) : Stmt := PySem.Challenge.pw_chasedwebs_k49_whole_strong_dimensions.main.body.getD i (.Pass ⟨0, 0, 0, 0⟩)
abbrev st__law_draw : Stmt := topS 14
theorem sc__law_draw : FnScope ["state", "many", "cells", "value", "mixed"] ["state", "many"] (defScope st__law_draw) := ⟨rfl, rfl, rfl, by decide +kernel, rfl, by decide +kernel, by decide +kernel⟩
theorem ok_draw {P : Program} {w : World} {K : PySem.W.Frag} {mg : Str → Option Value} {base : Heap} {f : Addr} {fd : FuncData} {k : Nat} (F : Fun K "_law_draw" "_law_draw" st__law_draw f fd) (ml : mg "len" = none) (mi : mg "int" = none) : FnOk P w K mg base CX0 (k + 1) f fd ["state", "many"] (spD K 2 mDraw) := by
  refine F.ok sc__law_draw (fun vs H Q E h => ?_) (fun cdv A outer s H vs Q E hr h => ⟨tDrawB K, ?_, draw_sp h⟩)
  · obtain ⟨_, _, _, _, _, _, _, hl, _⟩ := h
    exact hl
  · refine ?_
    exact pss_cons (ps_set (i := 2) sc__law_draw.nd rfl (.inl rfl) (pe_ix ix_list (pv 0) pe_int (fun _ _ => rfl)))
      (pss_cons (ps_while PassesOwn.never (PW.pt (pw_and (pt_cmpR op_gt (pe_callB call_len_seq (by rfl) ml PySem.boot_len (pa_cons (pv 2) pa_nil)) pe_int (nomark _)) (pw_and1 (pt_cmpR op_eq (pe_ix ix_list (pv 2) pe_int (fun _ _ => rfl)) pe_int (nomark _)))))
          (pss_one (ps_expr (pe_bm PySem.F.plainAttrs_list PySem.F.slot_list_pop PySem.F.type_list_pop mt_popAt (pv 2) (pa_cons pe_int pa_nil)))))
      (pss_cons (ps_if (pt_cmpR op_gt (pe_callB call_len_seq (by rfl) ml PySem.boot_len (pa_cons (pv 2) pa_nil)) pe_int (nomark _)) (pss_cons (ps_set (i := 3) sc__law_draw.nd rfl (.inl rfl) (pe_ix ix_list (pv 2) pe_int (fun _ _ => rfl)))
          (pss_cons (ps_asg (pe_op op_fdiv (pv 3) (pv 1)) (pg_sub (pv 2) pe_int set_list)) (pss_one (ps_ret (pe_op op_mod (pe_callTy call_int1 (by rfl) mi PyProof.Rows.boot_int (pa_cons (pv 3) pa_nil)) (pv 1)))))) pss_nil)
      (pss_cons (ps_set (i := 4) sc__law_draw.nd rfl (.inl rfl) (pe_op op_mod (pe_callTy call_int1 (by rfl) mi PyProof.Rows.boot_int (pa_cons (pe_op op_add (pe_op op_mul (pe_ix ix_list (pv 0) pe_int (fun _ _ => rfl)) pe_int) pe_int) pa_nil)) pe_int))
      (pss_cons (ps_asg (pv 4) (pg_sub (pv 0) pe_int set_list)) (pss_one (ps_ret (pe_op op_mod (pe_callTy call_int1 (by rfl) mi PyProof.Rows.boot_int (pa_cons (pe_op op_fdiv (pv 4) pe_int) pa_nil)) (pv 1))))))))
abbrev st__law_state : Stmt := topS 13
theorem sc__law_state : FnScope ["script", "seed", "cell"] ["script"] (defScope st__law_state) := ⟨rfl, rfl, rfl, by decide +kernel, rfl, by decide +kernel, by decide +kernel⟩
theorem ok_state {P : Program} {w : World} {K : PySem.W.Frag} {mg : Str → Option Value} {base : Heap} {f : Addr} {fd : FuncData} {k : Nat} (F : Fun K "_law_state" "_law_state" st__law_state f fd) (mi : mg "int" = none) (ma : mg "abs" = none) : FnOk P w K mg base CX0 (k + 1) f fd ["script"] (spState K) := by
  refine F.ok sc__law_state (fun vs H Q E h => ?_) (fun cdv A outer s H vs Q E hr h => ⟨tStateB K, ?_, state_sp h⟩)
  · obtain ⟨_, _, rfl, _⟩ := h
    rfl
  · exact pss_cons (ps_set (i := 1) sc__law_state.nd rfl (.inl rfl) pe_int)
      (pss_cons (ps_for PassesOwn.never (by rfl) (pi_list (pv 0)) (pg_name (i := 2) sc__law_state.nd rfl (.inl rfl)) (pss_one (ps_set (i := 1) sc__law_state.nd rfl (.inl rfl) (pe_op op_mod (pe_callTy call_int1 (by rfl) mi PyProof.Rows.boot_int (pa_cons (pe_op op_add (pe_op op_mul (pv 1) pe_int) (pv 2)) pa_nil)) pe_int))))
      (pss_one (ps_ret (pe_lst (pa_cons (pe_lc (own := [("cell", 2)]) (by rfl) sc__law_state.nd (pi_list (pv 0)) (blkOk_by rfl) (fun s H C cl fp => pg_name (i := 2) sc__law_state.nd rfl (by first | exact .inl rfl | exact .inr rfl)) (fun s H C cl fp => pts_nil)
          (fun s H C cl fp => pe_callB call_abs (by rfl) ma PyProof.Rows.boot_abs (pa_cons (pv 2) pa_nil))) (pa_cons (pe_op op_add (pv 1) pe_int) pa_nil))))))

abbrev st_beside : Stmt := topS 1
theorem sc_beside : FnScope ["ties", "place", "a", "b"] ["ties", "place"] (defScope st_beside) := ⟨rfl, rfl, rfl, by decide +kernel, rfl, by decide +kernel, by decide +kernel⟩
theorem ok_beside {P : Program} {w : World} {K : PySem.W.Frag} {mg : Str → Option Value} {base : Heap} {f : Addr} {fd : FuncData} (F : Fun K "beside" "beside" st_beside f fd) (z_sorted : mg "sorted" = none) : FnOk P w K mg base CX0 1 f fd ["ties", "place"] (spD K 2 m_beside) := by
  refine def_ok F sc_beside _ fun Xs fam hN hx => ?_
  obtain ⟨cdv, A, outer, s, H, E, rfl⟩ := hx
  exact (ss_one (s_ret (sd_sorted fam z_sorted (fun _ => rfl) (sa_cons (sd_comp fam [("a", 2), ("b", 3)] (si_seqV fam.K (sd_var 0)) (fun _ => rfl) (sg_tup (fam.blk _).K (fam.blk _).calm (sgs_cons (sg_name 2 (fam.blk _).nd) (sgs_cons (sg_name 3 (fam.blk _).nd) sgs_nil))) (by decide) (sts_one (st_in (fam.blk _) (sd_var 1) (sd_tup (sav_cons (sd_var 2) (sav_cons (sd_var 3) sav_nil))))) (sd_sub (fam.blk _) (sd_add (fam.blk _) (sd_var 2) (sd_var 3)) (sd_var 1))) sa_nil))))
abbrev st_steps_from : Stmt := topS 3
theorem sc_steps_from : FnScope ["n", "ties", "place", "told", "order", "at", "other"] ["n", "ties", "place"] (defScope st_steps_from) := ⟨rfl, rfl, rfl, by decide +kernel, rfl, by decide +kernel, by decide +kernel⟩
theorem ok_steps_from {P : Program} {w : World} {K : PySem.W.Frag} {mg : Str → Option Value} {base : Heap} {f : Addr} {fd : FuncData} (F : Fun K "steps_from" "steps_from" st_steps_from f fd) (z_len : mg "len" = none) (c_beside : Callee P w K mg base 1 "beside" 2 m_beside) : FnOk P w K mg base CX0 2 f fd ["n", "ties", "place"] (spD K 3 m_steps_from) := by
  refine def_ok F sc_steps_from _ fun Xs fam hN hx => ?_
  obtain ⟨cdv, A, outer, s, H, E, rfl⟩ := hx
  exact (ss_cons (s_set fam 3 (sd_mul fam (sd_lst (sav_cons (sd_neg sd_int) sav_nil)) (sd_var 0))) (ss_cons (s_put fam 3 sd_int (sd_var 2)) (ss_cons (s_set fam 4 (sd_lst (sav_cons (sd_var 2) sav_nil))) (ss_cons (s_set fam 5 sd_int) (ss_cons (s_while (fun _ => PassesOwn.never) (st_lt fam (sd_var 5) (sd_len fam z_len (fun _ => rfl) (sa_cons (sd_var 4) sa_nil))) (ss_cons (s_for fam (fun _ => PassesOwn.never) (si_seq fam.K (sd_call fam c_beside (by decide) (fun _ => rfl) (su_cons (sd_var 1) (su_cons (sd_at fam (sd_var 4) (sd_var 5)) su_nil)))) (sg_name 6 fam.nd) (ss_one (s_if (st_lt fam (sd_at fam (sd_var 3) (sd_var 6)) sd_int) (ss_cons (s_put fam 3 (sd_add fam (sd_at fam (sd_var 3) (sd_at fam (sd_var 4) (sd_var 5))) sd_int) (sd_var 6)) (ss_one (s_append fam 4 (sd_var 6)))) ss_nil))) (ss_one (s_inc fam 5 sd_int)))) (ss_one (s_ret (sd_var 3))))))))
abbrev st_steps_of : Stmt := topS 4
theorem sc_steps_of : FnScope ["n", "ties", "place"] ["n", "ties"] (defScope st_steps_of) := ⟨rfl, rfl, rfl, by decide +kernel, rfl, by decide +kernel, by decide +kernel⟩
theorem ok_steps_of {P : Program} {w : World} {K : PySem.W.Frag} {mg : Str → Option Value} {base : Heap} {f : Addr} {fd : FuncData} (F : Fun K "steps_of" "steps_of" st_steps_of f fd) (z_range : mg "range" = none) (c_steps_from : Callee P w K mg base 2 "steps_from" 3 m_steps_from) : FnOk P w K mg base CX0 3 f fd ["n", "ties"] (spD K 2 m_steps_of) := by
  refine def_ok F sc_steps_of _ fun Xs fam hN hx => ?_
  obtain ⟨cdv, A, outer, s, H, E, rfl⟩ := hx
  exact (ss_one (s_ret (sd_comp fam [("place", 2)] (SdI.view (si_range1 (fun _ => rfl) (fun _ => z_range) (sa_cons (sd_var 0) sa_nil))) (fun _ => rfl) (sg_name 2 (fam.blk _).nd) (by decide) sts_nil (sd_call (fam.blk _) c_steps_from (by decide) (fun _ => rfl) (su_cons (sd_var 0) (su_cons (sd_var 1) (su_cons (sd_var 2) su_nil)))))))
abbrev st_is_on_way : Stmt := topS 6
theorem sc_is_on_way : FnScope ["table", "c", "x", "y"] ["table", "c", "x", "y"] (defScope st_is_on_way) := ⟨rfl, rfl, rfl, by decide +kernel, rfl, by decide +kernel, by decide +kernel⟩
theorem ok_is_on_way {P : Program} {w : World} {K : PySem.W.Frag} {mg : Str → Option Value} {base : Heap} {f : Addr} {fd : FuncData} (F : Fun K "is_on_way" "is_on_way" st_is_on_way f fd) : FnOk P w K mg base CX0 1 f fd ["table", "c", "x", "y"] (spD K 4 m_is_on_way) := by
  refine def_ok F sc_is_on_way _ fun Xs fam hN hx => ?_
  obtain ⟨cdv, A, outer, s, H, E, rfl⟩ := hx
  exact (ss_one (s_ret (sd_eq fam (sd_add fam (sd_at fam (sd_at fam (sd_var 0) (sd_var 1)) (sd_var 3)) (sd_at fam (sd_at fam (sd_var 0) (sd_var 3)) (sd_var 2))) (sd_at fam (sd_at fam (sd_var 0) (sd_var 1)) (sd_var 2)))))
abbrev st_parts_strongly : Stmt := topS 7
theorem sc_parts_strongly : FnScope ["n", "ties", "c", "x", "y", "table"] ["n", "ties", "c", "x", "y"] (defScope st_parts_strongly) := ⟨rfl, rfl, rfl, by decide +kernel, rfl, by decide +kernel, by decide +kernel⟩
theorem ok_parts_strongly {P : Program} {w : World} {K : PySem.W.Frag} {mg : Str → Option Value} {base : Heap} {f : Addr} {fd : FuncData} (F : Fun K "parts_strongly" "parts_strongly" st_parts_strongly f fd) (c_is_on_way : Callee P w K mg base 1 "is_on_way" 4 m_is_on_way) (c_steps_of : Callee P w K mg base 3 "steps_of" 2 m_steps_of) : FnOk P w K mg base CX0 4 f fd ["n", "ties", "c", "x", "y"] (spD K 5 m_parts_strongly) := by
  refine def_ok F sc_parts_strongly _ fun Xs fam hN hx => ?_
  obtain ⟨cdv, A, outer, s, H, E, rfl⟩ := hx
  exact (ss_cons (s_set fam 5 (sd_call fam c_steps_of (by decide) (fun _ => rfl) (su_cons (sd_var 0) (su_cons (sd_var 1) su_nil)))) (ss_one (s_ret (sd_or (sd_call fam c_is_on_way (by decide) (fun _ => rfl) (su_cons (sd_var 5) (su_cons (sd_var 2) (su_cons (sd_var 3) (su_cons (sd_var 4) su_nil))))) (sd_one (sd_call fam c_is_on_way (by decide) (fun _ => rfl) (su_cons (sd_var 5) (su_cons (sd_var 2) (su_cons (sd_var 4) (su_cons (sd_var 3) su_nil))))))))))
abbrev st_tells_strongly : Stmt := topS 8
theorem sc_tells_strongly : FnScope ["n", "ties", "some", "table", "x", "y", "c"] ["n", "ties", "some"] (defScope st_tells_strongly) := ⟨rfl, rfl, rfl, by decide +kernel, rfl, by decide +kernel, by decide +kernel⟩
theorem ok_tells_strongly {P : Program} {w : World} {K : PySem.W.Frag} {mg : Str → Option Value} {base : Heap} {f : Addr} {fd : FuncData} (F : Fun K "tells_strongly" "tells_strongly" st_tells_strongly f fd) (z_any : mg "any" = none) (z_range : mg "range" = none) (c_is_on_way : Callee P w K mg base 1 "is_on_way" 4 m_is_on_way) (c_steps_of : Callee P w K mg base 3 "steps_of" 2 m_steps_of) : FnOk P w K mg base CX0 4 f fd ["n", "ties", "some"] (spD K 3 m_tells_strongly) := by
  refine def_ok F sc_tells_strongly _ fun Xs fam hN hx => ?_
  obtain ⟨cdv, A, outer, s, H, E, rfl⟩ := hx
  exact (ss_cons (s_set fam 3 (sd_call fam c_steps_of (by decide) (fun _ => rfl) (su_cons (sd_var 0) (su_cons (sd_var 1) su_nil)))) (ss_cons (s_for fam (fun _ => PassesOwn.never) (si_range1 (fun _ => rfl) (fun _ => z_range) (sa_cons (sd_var 0) sa_nil)) (sg_name 4 fam.nd) (ss_one (s_for fam (fun _ => PassesOwn.never) (si_range2 (fun _ => rfl) (fun _ => z_range) (sa_cons (sd_add fam (sd_var 4) sd_int) (sa_cons (sd_var 0) sa_nil))) (sg_name 5 fam.nd) (ss_one (s_if (st_not (st_val (sd_any fam z_any (fun _ => rfl) (sa_cons (sd_comp fam [("c", 6)] (si_seqV fam.K (sd_var 2)) (fun _ => rfl) (sg_name 6 (fam.blk _).nd) (by decide) sts_nil (sd_or (sd_call (fam.blk _) c_is_on_way (by decide) (fun _ => rfl) (su_cons (sd_var 3) (su_cons (sd_var 6) (su_cons (sd_var 4) (su_cons (sd_var 5) su_nil))))) (sd_one (sd_call (fam.blk _) c_is_on_way (by decide) (fun _ => rfl) (su_cons (sd_var 3) (su_cons (sd_var 6) (su_cons (sd_var 5) (su_cons (sd_var 4) su_nil)))))))) sa_nil)))) (ss_one (s_ret sd_bl)) ss_nil))))) (ss_one (s_ret sd_bl))))
abbrev st_far_pairs : Stmt := topS 9
theorem sc_far_pairs : FnScope ["n", "ties", "table", "told", "x", "y", "one", "other"] ["n", "ties"] (defScope st_far_pairs) := ⟨rfl, rfl, rfl, by decide +kernel, rfl, by decide +kernel, by decide +kernel⟩
theorem ok_far_pairs {P : Program} {w : World} {K : PySem.W.Frag} {mg : Str → Option Value} {base : Heap} {f : Addr} {fd : FuncData} (F : Fun K "far_pairs" "far_pairs" st_far_pairs f fd) (z_all : mg "all" = none) (z_range : mg "range" = none) (c_beside : Callee P w K mg base 1 "beside" 2 m_beside) (c_steps_of : Callee P w K mg base 3 "steps_of" 2 m_steps_of) : FnOk P w K mg base CX0 4 f fd ["n", "ties"] (spD K 2 m_far_pairs) := by
  refine def_ok F sc_far_pairs _ fun Xs fam hN hx => ?_
  obtain ⟨cdv, A, outer, s, H, E, rfl⟩ := hx
  exact (ss_cons (s_set fam 2 (sd_call fam c_steps_of (by decide) (fun _ => rfl) (su_cons (sd_var 0) (su_cons (sd_var 1) su_nil)))) (ss_cons (s_set fam 3 (sd_lst sav_nil)) (ss_cons (s_for fam (fun _ => PassesOwn.never) (si_range1 (fun _ => rfl) (fun _ => z_range) (sa_cons (sd_var 0) sa_nil)) (sg_name 4 fam.nd) (ss_one (s_for fam (fun _ => PassesOwn.never) (si_range2 (fun _ => rfl) (fun _ => z_range) (sa_cons (sd_add fam (sd_var 4) sd_int) (sa_cons (sd_var 0) sa_nil))) (sg_name 5 fam.nd) (ss_cons (s_set fam 6 (sd_all fam z_all (fun _ => rfl) (sa_cons (sd_comp fam [("other", 7)] (si_seqV fam.K (sd_call fam c_beside (by decide) (fun _ => rfl) (su_cons (sd_var 1) (su_cons (sd_var 4) su_nil)))) (fun _ => rfl) (sg_name 7 (fam.blk _).nd) (by decide) sts_nil (sd_le (fam.blk _) (sd_at (fam.blk _) (sd_at (fam.blk _) (sd_var 2) (sd_var 7)) (sd_var 5)) (sd_at (fam.blk _) (sd_at (fam.blk _) (sd_var 2) (sd_var 4)) (sd_var 5)))) sa_nil))) (ss_one (s_if (st_w (sw_and (st_val (sd_var 6)) (sw_and1 (st_val (sd_all fam z_all (fun _ => rfl) (sa_cons (sd_comp fam [("other", 7)] (si_seqV fam.K (sd_call fam c_beside (by decide) (fun _ => rfl) (su_cons (sd_var 1) (su_cons (sd_var 5) su_nil)))) (fun _ => rfl) (sg_name 7 (fam.blk _).nd) (by decide) sts_nil (sd_le (fam.blk _) (sd_at (fam.blk _) (sd_at (fam.blk _) (sd_var 2) (sd_var 7)) (sd_var 4)) (sd_at (fam.blk _) (sd_at (fam.blk _) (sd_var 2) (sd_var 4)) (sd_var 5)))) sa_nil)))))) (ss_one (s_append fam 3 (sd_tup (sav_cons (sd_var 4) (sav_cons (sd_var 5) sav_nil))))) ss_nil)))))) (ss_one (s_ret (sd_var 3))))))
abbrev st_count_of : Stmt := topS 11
theorem sc_count_of : FnScope ["mask", "told"] ["mask"] (defScope st_count_of) := ⟨rfl, rfl, rfl, by decide +kernel, rfl, by decide +kernel, by decide +kernel⟩
theorem ok_count_of {P : Program} {w : World} {K : PySem.W.Frag} {mg : Str → Option Value} {base : Heap} {f : Addr} {fd : FuncData} (F : Fun K "count_of" "count_of" st_count_of f fd) : FnOk P w K mg base CX0 1 f fd ["mask"] (spD K 1 m_count_of) := by
  refine def_ok F sc_count_of _ fun Xs fam hN hx => ?_
  obtain ⟨cdv, A, outer, s, H, E, rfl⟩ := hx
  exact (ss_cons (s_set fam 1 sd_int) (ss_cons (s_while (fun _ => PassesOwn.never) (st_gt fam (sd_var 0) sd_int) (ss_cons (s_set fam 0 (sd_band fam (sd_var 0) (sd_sub fam (sd_var 0) sd_int))) (ss_one (s_inc fam 1 sd_int)))) (ss_one (s_ret (sd_var 1)))))
abbrev st_strong_dimension : Stmt := topS 10
theorem sc_strong_dimension : FnScope ["n", "ties", "found", "x", "y", "after", "mask"] ["n", "ties"] (defScope st_strong_dimension) := ⟨rfl, rfl, rfl, by decide +kernel, rfl, by decide +kernel, by decide +kernel⟩
theorem ok_strong_dimension {P : Program} {w : World} {K : PySem.W.Frag} {mg : Str → Option Value} {base : Heap} {f : Addr} {fd : FuncData} (F : Fun K "strong_dimension" "strong_dimension" st_strong_dimension f fd) (z_min : mg "min" = none) (c_count_of : Callee P w K mg base 1 "count_of" 1 m_count_of) (c_far_pairs : Callee P w K mg base 4 "far_pairs" 2 m_far_pairs) : FnOk P w K mg base CX0 5 f fd ["n", "ties"] (spD K 2 m_strong_dimension) := by
  refine def_ok F sc_strong_dimension _ fun Xs fam hN hx => ?_
  obtain ⟨cdv, A, outer, s, H, E, rfl⟩ := hx
  exact (ss_cons (s_set fam 2 (sd_d1 sd_int sd_bl)) (ss_cons (s_for fam (fun _ => PassesOwn.never) (si_seq fam.K (sd_call fam c_far_pairs (by decide) (fun _ => rfl) (su_cons (sd_var 0) (su_cons (sd_var 1) su_nil)))) (sg_tup fam.K fam.calm (sgs_cons (sg_name 3 fam.nd) (sgs_cons (sg_name 4 fam.nd) sgs_nil))) (ss_cons (s_set fam 5 sd_dnewK) (ss_frz 2 (ss_cons (s_forKeys fam 2 (fun _ => PassesOwn.never) (sg_name 6 fam.nd) (ss_one (s_if (st_w (sw_or (st_eq fam (sd_band fam (sd_shr fam (sd_var 6) (sd_var 3)) sd_int) sd_int) (sw_or1 (st_eq fam (sd_band fam (sd_shr fam (sd_var 6) (sd_var 4)) sd_int) sd_int)))) (ss_one (s_put fam 5 sd_bl (sd_var 6))) (ss_cons (s_put fam 5 sd_bl (sd_bor fam (sd_var 6) (sd_shl fam sd_int (sd_var 3)))) (ss_one (s_put fam 5 sd_bl (sd_bor fam (sd_var 6) (sd_shl fam sd_int (sd_var 4))))))))) (ss_frz 5 (ss_one (s_set fam 2 (sd_var 5)))))))) (ss_frz 2 (ss_one (s_ret (sd_min fam z_min (fun _ => rfl) (sa_cons (sd_compKeys fam 2 [("mask", 6)] (fun _ => rfl) (sg_name 6 (fam.blk _).nd) (by decide) sts_nil (sd_call (fam.blk _) c_count_of (by decide) (fun _ => rfl) (su_cons (sd_var 6) su_nil))) sa_nil)))))))
abbrev st__law_pick : Stmt := topS 15
theorem sc__law_pick : FnScope ["state", "row"] ["state", "row"] (defScope st__law_pick) := ⟨rfl, rfl, rfl, by decide +kernel, rfl, by decide +kernel, by decide +kernel⟩
theorem ok__law_pick {P : Program} {w : World} {K : PySem.W.Frag} {mg : Str → Option Value} {base : Heap} {f : Addr} {fd : FuncData} (F : Fun K "_law_pick" "_law_pick" st__law_pick f fd) (z_len : mg "len" = none) (c__law_draw : Callee P w K mg base 1 "_law_draw" 2 mDraw) : FnOk P w K mg base CX0 2 f fd ["state", "row"] (spD K 2 m__law_pick) := by
  refine def_ok F sc__law_pick _ fun Xs fam hN hx => ?_
  obtain ⟨cdv, A, outer, s, H, E, rfl⟩ := hx
  exact (ss_one (s_ret (sd_at fam (sd_var 1) (sd_call fam c__law_draw (by decide) (fun _ => rfl) (su_cons (sd_var 0) (su_cons (sd_len fam z_len (fun _ => rfl) (sa_cons (sd_var 1) sa_nil)) su_nil))))))
abbrev st__law_eq : Stmt := topS 16
theorem sc__law_eq : FnScope ["told", "due", "k"] ["told", "due"] (defScope st__law_eq) := ⟨rfl, rfl, rfl, by decide +kernel, rfl, by decide +kernel, by decide +kernel⟩
theorem ok1__law_eq {P : Program} {w : World} {K : PySem.W.Frag} {mg : Str → Option Value} {base : Heap} {f : Addr} {fd : FuncData} {k : Nat} {m : DF} (F : Fun K "_law_eq" "_law_eq" st__law_eq f fd) (z_isinstance : mg "isinstance" = none) (z_bool : mg "bool" = none) (z_int : mg "int" = none) (z_str : mg "str" = none) (z_tuple : mg "tuple" = none) (z_list : mg "list" = none) (z_len : mg "len" = none) (z_range : mg "range" = none) (c__law_eq : Callee P w K mg base k "_law_eq" 2 m) (hk : 0 ≤ k) : FnOk P w K mg base CX0 (k + 1) f fd ["told", "due"] (spD K 2 (runB 3 (b__law_eq m))) := by
  refine def_ok F sc__law_eq _ fun Xs fam hN hx => ?_
  obtain ⟨cdv, A, outer, s, H, E, rfl⟩ := hx
  exact (ss_cons (s_if (st_w (sw_or (st_val (sd_is_list fam z_isinstance z_list (fun _ => rfl) (fun _ => rfl) (sd_var 1))) (sw_or1 (st_val (sd_is_tuple fam z_isinstance z_tuple (fun _ => rfl) (fun _ => rfl) (sd_var 1)))))) (ss_cons (s_if (st_w (sw_or (st_ne fam (sd_is_list fam z_isinstance z_list (fun _ => rfl) (fun _ => rfl) (sd_var 0)) (sd_is_list fam z_isinstance z_list (fun _ => rfl) (fun _ => rfl) (sd_var 1))) (sw_or1 (st_ne fam (sd_is_tuple fam z_isinstance z_tuple (fun _ => rfl) (fun _ => rfl) (sd_var 0)) (sd_is_tuple fam z_isinstance z_tuple (fun _ => rfl) (fun _ => rfl) (sd_var 1)))))) (ss_one (s_ret sd_bl)) ss_nil) (ss_cons (s_if (st_ne fam (sd_len fam z_len (fun _ => rfl) (sa_cons (sd_var 0) sa_nil)) (sd_len fam z_len (fun _ => rfl) (sa_cons (sd_var 1) sa_nil))) (ss_one (s_ret sd_bl)) ss_nil) (ss_one (s_ret (sd_eq fam (sd_comp fam [("k", 2)] (SdI.view (si_range1 (fun _ => rfl) (fun _ => z_range) (sa_cons (sd_len fam z_len (fun _ => rfl) (sa_cons (sd_var 1) sa_nil)) sa_nil))) (fun _ => rfl) (sg_name 2 (fam.blk _).nd) (by decide) (sts_one (st_not (st_val (sd_call (fam.blk _) c__law_eq (Nat.le_refl _) (fun _ => rfl) (su_cons (sd_at (fam.blk _) (sd_var 0) (sd_var 2)) (su_cons (sd_at (fam.blk _) (sd_var 1) (sd_var 2)) su_nil)))))) (sd_var 2)) (sd_lst sav_nil)))))) ss_nil) (ss_cons (s_if (st_isN fam (sd_var 1) sd_non) (ss_one (s_ret (sd_isN fam (sd_var 0) sd_non))) ss_nil) (ss_cons (s_if (st_val (sd_is_str fam z_isinstance z_str (fun _ => rfl) (fun _ => rfl) (sd_var 1))) (ss_one (s_ret (sd_and (sd_is_str fam z_isinstance z_str (fun _ => rfl) (fun _ => rfl) (sd_var 0)) (sd_one (sd_eq fam (sd_var 0) (sd_var 1)))))) ss_nil) (ss_cons (s_if (st_val (sd_is_bool fam z_isinstance z_bool (fun _ => rfl) (fun _ => rfl) (sd_var 1))) (ss_one (s_ret (sd_and (sd_is_bool fam z_isinstance z_bool (fun _ => rfl) (fun _ => rfl) (sd_var 0)) (sd_one (sd_eq fam (sd_var 0) (sd_var 1)))))) ss_nil) (ss_one (s_ret (sd_and (sd_is_int fam z_isinstance z_int (fun _ => rfl) (fun _ => rfl) (sd_var 0)) (sd_and (sd_not (sd_is_bool fam z_isinstance z_bool (fun _ => rfl) (fun _ => rfl) (sd_var 0))) (sd_one (sd_eq fam (sd_var 0) (sd_var 1)))))))))))
theorem ok__law_eq {P : Program} {w : World} {K : PySem.W.Frag} {mg : Str → Option Value} {base : Heap} {f : Addr} {fd : FuncData} (F : Fun K "_law_eq" "_law_eq" st__law_eq f fd) (hm : mg "_law_eq" = some (.ref f)) (hb : Binds K fd ["told", "due"] []) (z_isinstance : mg "isinstance" = none) (z_bool : mg "bool" = none) (z_int : mg "int" = none) (z_str : mg "str" = none) (z_tuple : mg "tuple" = none) (z_list : mg "list" = none) (z_len : mg "len" = none) (z_range : mg "range" = none) : ∀ r, Callee P w K mg base (0 + r) "_law_eq" 2 (m__law_eq r)
  | 0 => .never hm F.kp hb rfl
  | r + 1 => ⟨_, _, _, ok1__law_eq F z_isinstance z_bool z_int z_str z_tuple z_list z_len z_range  (ok__law_eq F hm hb z_isinstance z_bool z_int z_str z_tuple z_list z_len z_range  r) (by omega), hm, F.kp, hb⟩
abbrev st__law_mixed : Stmt := topS 17
theorem sc__law_mixed : FnScope ["state", "rows", "told", "row"] ["state", "rows"] (defScope st__law_mixed) := ⟨rfl, rfl, rfl, by decide +kernel, rfl, by decide +kernel, by decide +kernel⟩
theorem ok__law_mixed {P : Program} {w : World} {K : PySem.W.Frag} {mg : Str → Option Value} {base : Heap} {f : Addr} {fd : FuncData} (F : Fun K "_law_mixed" "_law_mixed" st__law_mixed f fd) (z_len : mg "len" = none) (c__law_draw : Callee P w K mg base 1 "_law_draw" 2 mDraw) : FnOk P w K mg base CX0 2 f fd ["state", "rows"] (spD K 2 m__law_mixed) := by
  refine def_ok F sc__law_mixed _ fun Xs fam hN hx => ?_
  obtain ⟨cdv, A, outer, s, H, E, rfl⟩ := hx
  exact (ss_cons (s_set fam 2 (sd_lst sav_nil)) (ss_cons (s_for fam (fun _ => PassesOwn.never) (si_seq fam.K (sd_var 1)) (sg_name 3 fam.nd) (ss_one (s_insert fam 2 (sd_call fam c__law_draw (by decide) (fun _ => rfl) (su_cons (sd_var 0) (su_cons (sd_add fam (sd_len fam z_len (fun _ => rfl) (sa_cons (sd_var 2) sa_nil)) sd_int) su_nil))) (sd_var 3)))) (ss_one (s_ret (sd_var 2)))))
abbrev st__law_path : Stmt := topS 18
theorem sc__law_path : FnScope ["n", "i"] ["n"] (defScope st__law_path) := ⟨rfl, rfl, rfl, by decide +kernel, rfl, by decide +kernel, by decide +kernel⟩
theorem ok__law_path {P : Program} {w : World} {K : PySem.W.Frag} {mg : Str → Option Value} {base : Heap} {f : Addr} {fd : FuncData} (F : Fun K "_law_path" "_law_path" st__law_path f fd) (z_range : mg "range" = none) (z_tuple : mg "tuple" = none) : FnOk P w K mg base CX0 1 f fd ["n"] (spD K 1 m__law_path) := by
  refine def_ok F sc__law_path _ fun Xs fam hN hx => ?_
  obtain ⟨cdv, A, outer, s, H, E, rfl⟩ := hx
  exact (ss_one (s_ret (sd_tuple fam z_tuple (fun _ => rfl) (sa_cons (sd_comp fam [("i", 1)] (SdI.view (si_range1 (fun _ => rfl) (fun _ => z_range) (sa_cons (sd_sub fam (sd_var 0) sd_int) sa_nil))) (fun _ => rfl) (sg_name 1 (fam.blk _).nd) (by decide) sts_nil (sd_tup (sav_cons (sd_var 1) (sav_cons (sd_add (fam.blk _) (sd_var 1) sd_int) sav_nil)))) sa_nil))))
abbrev st__law_ring : Stmt := topS 19
theorem sc__law_ring : FnScope ["n", "i"] ["n"] (defScope st__law_ring) := ⟨rfl, rfl, rfl, by decide +kernel, rfl, by decide +kernel, by decide +kernel⟩
theorem ok__law_ring {P : Program} {w : World} {K : PySem.W.Frag} {mg : Str → Option Value} {base : Heap} {f : Addr} {fd : FuncData} (F : Fun K "_law_ring" "_law_ring" st__law_ring f fd) (z_range : mg "range" = none) (z_sorted : mg "sorted" = none) (z_tuple : mg "tuple" = none) : FnOk P w K mg base CX0 1 f fd ["n"] (spD K 1 m__law_ring) := by
  refine def_ok F sc__law_ring _ fun Xs fam hN hx => ?_
  obtain ⟨cdv, A, outer, s, H, E, rfl⟩ := hx
  exact (ss_one (s_ret (sd_tuple fam z_tuple (fun _ => rfl) (sa_cons (sd_sorted fam z_sorted (fun _ => rfl) (sa_cons (sd_add fam (sd_comp fam [("i", 1)] (SdI.view (si_range1 (fun _ => rfl) (fun _ => z_range) (sa_cons (sd_sub fam (sd_var 0) sd_int) sa_nil))) (fun _ => rfl) (sg_name 1 (fam.blk _).nd) (by decide) sts_nil (sd_tup (sav_cons (sd_var 1) (sav_cons (sd_add (fam.blk _) (sd_var 1) sd_int) sav_nil)))) (sd_lst (sav_cons (sd_tup (sav_cons sd_int (sav_cons (sd_sub fam (sd_var 0) sd_int) sav_nil))) sav_nil))) sa_nil)) sa_nil))))
abbrev st__law_star : Stmt := topS 20
theorem sc__law_star : FnScope ["n", "i"] ["n"] (defScope st__law_star) := ⟨rfl, rfl, rfl, by decide +kernel, rfl, by decide +kernel, by decide +kernel⟩
theorem ok__law_star {P : Program} {w : World} {K : PySem.W.Frag} {mg : Str → Option Value} {base : Heap} {f : Addr} {fd : FuncData} (F : Fun K "_law_star" "_law_star" st__law_star f fd) (z_range : mg "range" = none) (z_tuple : mg "tuple" = none) : FnOk P w K mg base CX0 1 f fd ["n"] (spD K 1 m__law_star) := by
  refine def_ok F sc__law_star _ fun Xs fam hN hx => ?_
  obtain ⟨cdv, A, outer, s, H, E, rfl⟩ := hx
  exact (ss_one (s_ret (sd_tuple fam z_tuple (fun _ => rfl) (sa_cons (sd_comp fam [("i", 1)] (SdI.view (si_range2 (fun _ => rfl) (fun _ => z_range) (sa_cons sd_int (sa_cons (sd_var 0) sa_nil)))) (fun _ => rfl) (sg_name 1 (fam.blk _).nd) (by decide) sts_nil (sd_tup (sav_cons sd_int (sav_cons (sd_var 1) sav_nil)))) sa_nil))))
abbrev st__law_whole : Stmt := topS 21
theorem sc__law_whole : FnScope ["n", "told", "a", "b"] ["n"] (defScope st__law_whole) := ⟨rfl, rfl, rfl, by decide +kernel, rfl, by decide +kernel, by decide +kernel⟩
theorem ok__law_whole {P : Program} {w : World} {K : PySem.W.Frag} {mg : Str → Option Value} {base : Heap} {f : Addr} {fd : FuncData} (F : Fun K "_law_whole" "_law_whole" st__law_whole f fd) (z_tuple : mg "tuple" = none) (z_range : mg "range" = none) : FnOk P w K mg base CX0 1 f fd ["n"] (spD K 1 m__law_whole) := by
  refine def_ok F sc__law_whole _ fun Xs fam hN hx => ?_
  obtain ⟨cdv, A, outer, s, H, E, rfl⟩ := hx
  exact (ss_cons (s_set fam 1 (sd_lst sav_nil)) (ss_cons (s_for fam (fun _ => PassesOwn.never) (si_range1 (fun _ => rfl) (fun _ => z_range) (sa_cons (sd_var 0) sa_nil)) (sg_name 2 fam.nd) (ss_one (s_set fam 1 (sd_add fam (sd_var 1) (sd_comp fam [("b", 3)] (SdI.view (si_range2 (fun _ => rfl) (fun _ => z_range) (sa_cons (sd_add fam (sd_var 2) sd_int) (sa_cons (sd_var 0) sa_nil)))) (fun _ => rfl) (sg_name 3 (fam.blk _).nd) (by decide) sts_nil (sd_tup (sav_cons (sd_var 2) (sav_cons (sd_var 3) sav_nil)))))))) (ss_one (s_ret (sd_tuple fam z_tuple (fun _ => rfl) (sa_cons (sd_var 1) sa_nil))))))
abbrev st__law_beside : Stmt := topS 22
theorem sc__law_beside : FnScope ["ties", "x", "a", "b"] ["ties", "x"] (defScope st__law_beside) := ⟨rfl, rfl, rfl, by decide +kernel, rfl, by decide +kernel, by decide +kernel⟩
theorem ok__law_beside {P : Program} {w : World} {K : PySem.W.Frag} {mg : Str → Option Value} {base : Heap} {f : Addr} {fd : FuncData} (F : Fun K "_law_beside" "_law_beside" st__law_beside f fd) (z_sorted : mg "sorted" = none) : FnOk P w K mg base CX0 1 f fd ["ties", "x"] (spD K 2 m__law_beside) := by
  refine def_ok F sc__law_beside _ fun Xs fam hN hx => ?_
  obtain ⟨cdv, A, outer, s, H, E, rfl⟩ := hx
  exact (ss_one (s_ret (sd_sorted fam z_sorted (fun _ => rfl) (sa_cons (sd_comp fam [("a", 2), ("b", 3)] (si_seqV fam.K (sd_var 0)) (fun _ => rfl) (sg_tup (fam.blk _).K (fam.blk _).calm (sgs_cons (sg_name 2 (fam.blk _).nd) (sgs_cons (sg_name 3 (fam.blk _).nd) sgs_nil))) (by decide) (sts_one (st_in (fam.blk _) (sd_var 1) (sd_lst (sav_cons (sd_var 2) (sav_cons (sd_var 3) sav_nil))))) (sd_sub (fam.blk _) (sd_add (fam.blk _) (sd_var 2) (sd_var 3)) (sd_var 1))) sa_nil))))
abbrev st__law_joined : Stmt := topS 23
theorem sc__law_joined : FnScope ["state", "n", "more", "told", "k", "x", "a", "b"] ["state", "n", "more"] (defScope st__law_joined) := ⟨rfl, rfl, rfl, by decide +kernel, rfl, by decide +kernel, by decide +kernel⟩
theorem ok__law_joined {P : Program} {w : World} {K : PySem.W.Frag} {mg : Str → Option Value} {base : Heap} {f : Addr} {fd : FuncData} (F : Fun K "_law_joined" "_law_joined" st__law_joined f fd) (z_sorted : mg "sorted" = none) (z_set : mg "set" = none) (z_tuple : mg "tuple" = none) (z_max : mg "max" = none) (z_min : mg "min" = none) (z_range : mg "range" = none) (c__law_draw : Callee P w K mg base 1 "_law_draw" 2 mDraw) : FnOk P w K mg base CX0 2 f fd ["state", "n", "more"] (spD K 3 m__law_joined) := by
  refine def_ok F sc__law_joined _ fun Xs fam hN hx => ?_
  obtain ⟨cdv, A, outer, s, H, E, rfl⟩ := hx
  exact (ss_cons (s_setC fam 3 [("x", 5)] (SdI.view (si_range2 (fun _ => rfl) (fun _ => z_range) (sa_cons sd_int (sa_cons (sd_var 1) sa_nil)))) (fun _ => rfl) (sg_name 5 (fam.blk _).nd) (by decide) sts_nil (sd_tup (sav_cons (sd_call (fam.blk _) c__law_draw (by decide) (fun _ => rfl) (su_cons (sd_var 0) (su_cons (sd_var 5) su_nil))) (sav_cons (sd_var 5) sav_nil))) (fun _ => sw_true rfl rfl rfl (by decide +kernel))) (ss_cons (s_for fam (fun _ => PassesOwn.never) (si_range1 (fun _ => rfl) (fun _ => z_range) (sa_cons (sd_var 2) sa_nil)) (sg_name 4 fam.nd) (ss_cons (s_par fam 6 7 (sd_call fam c__law_draw (by decide) (fun _ => rfl) (su_cons (sd_var 0) (su_cons (sd_var 1) su_nil))) (sd_call fam c__law_draw (by decide) (fun _ => rfl) (su_cons (sd_var 0) (su_cons (sd_var 1) su_nil))) (by decide) (fun m t ha => ps_par (fam.calm m) (fam.nd m) rfl rfl (by decide) rfl rfl ha (by rfl))) (ss_one (s_set fam 3 (sd_add fam (sd_var 3) (sd_if (st_ne fam (sd_var 6) (sd_var 7)) (sd_lst (sav_cons (sd_tup (sav_cons (sd_min fam z_min (fun _ => rfl) (sa_cons (sd_var 6) (sa_cons (sd_var 7) sa_nil))) (sav_cons (sd_max fam z_max (fun _ => rfl) (sa_cons (sd_var 6) (sa_cons (sd_var 7) sa_nil))) sav_nil))) sav_nil)) (sd_lst sav_nil))))))) (ss_one (s_ret (sd_tuple fam z_tuple (fun _ => rfl) (sa_cons (sd_ssp fam (sd_var 3) (fun _ => rfl) (fun _ => z_sorted) (fun _ => rfl) (fun _ => z_set)) sa_nil))))))
abbrev st__law_tree : Stmt := topS 24
theorem sc__law_tree : FnScope ["state", "n", "name", "x"] ["state", "n"] (defScope st__law_tree) := ⟨rfl, rfl, rfl, by decide +kernel, rfl, by decide +kernel, by decide +kernel⟩
theorem ok__law_tree {P : Program} {w : World} {K : PySem.W.Frag} {mg : Str → Option Value} {base : Heap} {f : Addr} {fd : FuncData} (F : Fun K "_law_tree" "_law_tree" st__law_tree f fd) (z_sorted : mg "sorted" = none) (z_tuple : mg "tuple" = none) (z_range : mg "range" = none) (z_list : mg "list" = none) (c__law_draw : Callee P w K mg base 1 "_law_draw" 2 mDraw) (c__law_mixed : Callee P w K mg base 2 "_law_mixed" 2 m__law_mixed) : FnOk P w K mg base CX0 3 f fd ["state", "n"] (spD K 2 m__law_tree) := by
  refine def_ok F sc__law_tree _ fun Xs fam hN hx => ?_
  obtain ⟨cdv, A, outer, s, H, E, rfl⟩ := hx
  exact (ss_cons (s_set fam 2 (sd_call fam c__law_mixed (by decide) (fun _ => rfl) (su_cons (sd_var 0) (su_cons (sd_listRg1 fam.calm (sd_var 1) (fun _ => rfl) (fun _ => z_list) (fun _ => rfl) (fun _ => z_range)) su_nil)))) (ss_one (s_ret (sd_tuple fam z_tuple (fun _ => rfl) (sa_cons (sd_sorted fam z_sorted (fun _ => rfl) (sa_cons (sd_comp fam [("x", 3)] (SdI.view (si_range2 (fun _ => rfl) (fun _ => z_range) (sa_cons sd_int (sa_cons (sd_var 1) sa_nil)))) (fun _ => rfl) (sg_name 3 (fam.blk _).nd) (by decide) sts_nil (sd_tuple (fam.blk _) z_tuple (fun _ => rfl) (sa_cons (sd_sorted (fam.blk _) z_sorted (fun _ => rfl) (sa_cons (sd_lst (sav_cons (sd_at (fam.blk _) (sd_var 2) (sd_call (fam.blk _) c__law_draw (by decide) (fun _ => rfl) (su_cons (sd_var 0) (su_cons (sd_var 3) su_nil)))) (sav_cons (sd_at (fam.blk _) (sd_var 2) (sd_var 3)) sav_nil))) sa_nil)) sa_nil))) sa_nil)) sa_nil)))))
abbrev st__law_some_web : Stmt := topS 25
theorem sc__law_some_web : FnScope ["state", "most", "n", "ties"] ["state", "most"] (defScope st__law_some_web) := ⟨rfl, rfl, rfl, by decide +kernel, rfl, by decide +kernel, by decide +kernel⟩
theorem ok__law_some_web {P : Program} {w : World} {K : PySem.W.Frag} {mg : Str → Option Value} {base : Heap} {f : Addr} {fd : FuncData} (F : Fun K "_law_some_web" "_law_some_web" st__law_some_web f fd) (c__law_pick : Callee P w K mg base 2 "_law_pick" 2 m__law_pick) (c__law_ring : Callee P w K mg base 1 "_law_ring" 1 m__law_ring) (c__law_path : Callee P w K mg base 1 "_law_path" 1 m__law_path) (c__law_whole : Callee P w K mg base 1 "_law_whole" 1 m__law_whole) (c__law_star : Callee P w K mg base 1 "_law_star" 1 m__law_star) (c__law_joined : Callee P w K mg base 2 "_law_joined" 3 m__law_joined) (c__law_draw : Callee P w K mg base 1 "_law_draw" 2 mDraw) (c__law_tree : Callee P w K mg base 3 "_law_tree" 2 m__law_tree) : FnOk P w K mg base CX0 4 f fd ["state", "most"] (spD K 2 m__law_some_web) := by
  refine def_ok F sc__law_some_web _ fun Xs fam hN hx => ?_
  obtain ⟨cdv, A, outer, s, H, E, rfl⟩ := hx
  exact (ss_cons (s_set fam 2 (sd_add fam sd_int (sd_call fam c__law_draw (by decide) (fun _ => rfl) (su_cons (sd_var 0) (su_cons (sd_var 1) su_nil))))) (ss_cons (s_set fam 3 (sd_call fam c__law_pick (by decide) (fun _ => rfl) (su_cons (sd_var 0) (su_cons (sd_lst (sav_cons (sd_call fam c__law_tree (by decide) (fun _ => rfl) (su_cons (sd_var 0) (su_cons (sd_var 2) su_nil))) (sav_cons (sd_call fam c__law_joined (by decide) (fun _ => rfl) (su_cons (sd_var 0) (su_cons (sd_var 2) (su_cons (sd_call fam c__law_draw (by decide) (fun _ => rfl) (su_cons (sd_var 0) (su_cons (sd_add fam (sd_var 2) sd_int) su_nil))) su_nil)))) (sav_cons (sd_call fam c__law_path (by decide) (fun _ => rfl) (su_cons (sd_var 2) su_nil)) (sav_cons (sd_call fam c__law_star (by decide) (fun _ => rfl) (su_cons (sd_var 2) su_nil)) (sav_cons (sd_call fam c__law_whole (by decide) (fun _ => rfl) (su_cons (sd_var 2) su_nil)) (sav_cons (sd_if (st_gt fam (sd_var 2) sd_int) (sd_call fam c__law_ring (by decide) (fun _ => rfl) (su_cons (sd_var 2) su_nil)) (sd_call fam c__law_path (by decide) (fun _ => rfl) (su_cons (sd_var 2) su_nil))) sav_nil))))))) su_nil)))) (ss_one (s_ret (sd_tup (sav_cons (sd_var 2) (sav_cons (sd_var 3) sav_nil)))))))
abbrev st__law_steps : Stmt := topS 26
theorem sc__law_steps : FnScope ["n", "ties", "x", "told", "order", "at", "y"] ["n", "ties", "x"] (defScope st__law_steps) := ⟨rfl, rfl, rfl, by decide +kernel, rfl, by decide +kernel, by decide +kernel⟩
theorem ok__law_steps {P : Program} {w : World} {K : PySem.W.Frag} {mg : Str → Option Value} {base : Heap} {f : Addr} {fd : FuncData} (F : Fun K "_law_steps" "_law_steps" st__law_steps f fd) (z_len : mg "len" = none) (c__law_beside : Callee P w K mg base 1 "_law_beside" 2 m__law_beside) : FnOk P w K mg base CX0 2 f fd ["n", "ties", "x"] (spD K 3 m__law_steps) := by
  refine def_ok F sc__law_steps _ fun Xs fam hN hx => ?_
  obtain ⟨cdv, A, outer, s, H, E, rfl⟩ := hx
  exact (ss_cons (s_set fam 3 (sd_mul fam (sd_lst (sav_cons (sd_neg sd_int) sav_nil)) (sd_var 0))) (ss_cons (s_put fam 3 sd_int (sd_var 2)) (ss_cons (s_set fam 4 (sd_lst (sav_cons (sd_var 2) sav_nil))) (ss_cons (s_set fam 5 sd_int) (ss_cons (s_while (fun _ => PassesOwn.never) (st_lt fam (sd_var 5) (sd_len fam z_len (fun _ => rfl) (sa_cons (sd_var 4) sa_nil))) (ss_cons (s_for fam (fun _ => PassesOwn.never) (si_seq fam.K (sd_call fam c__law_beside (by decide) (fun _ => rfl) (su_cons (sd_var 1) (su_cons (sd_at fam (sd_var 4) (sd_var 5)) su_nil)))) (sg_name 6 fam.nd) (ss_one (s_if (st_lt fam (sd_at fam (sd_var 3) (sd_var 6)) sd_int) (ss_cons (s_put fam 3 (sd_add fam (sd_at fam (sd_var 3) (sd_at fam (sd_var 4) (sd_var 5))) sd_int) (sd_var 6)) (ss_one (s_append fam 4 (sd_var 6)))) ss_nil))) (ss_one (s_set fam 5 (sd_add fam (sd_var 5) sd_int))))) (ss_one (s_ret (sd_var 3))))))))
abbrev st__law_sets : Stmt := topS 27
theorem sc__law_sets : FnScope ["n", "k", "found", "j", "longer", "row", "x"] ["n", "k"] (defScope st__law_sets) := ⟨rfl, rfl, rfl, by decide +kernel, rfl, by decide +kernel, by decide +kernel⟩
theorem ok__law_sets {P : Program} {w : World} {K : PySem.W.Frag} {mg : Str → Option Value} {base : Heap} {f : Addr} {fd : FuncData} (F : Fun K "_law_sets" "_law_sets" st__law_sets f fd) (z_range : mg "range" = none) : FnOk P w K mg base CX0 1 f fd ["n", "k"] (spD K 2 m__law_sets) := by
  refine def_ok F sc__law_sets _ fun Xs fam hN hx => ?_
  obtain ⟨cdv, A, outer, s, H, E, rfl⟩ := hx
  exact (ss_cons (s_set fam 2 (sd_lst (sav_cons (sd_tup sav_nil) sav_nil))) (ss_cons (s_for fam (fun _ => PassesOwn.never) (si_range1 (fun _ => rfl) (fun _ => z_range) (sa_cons (sd_var 1) sa_nil)) (sg_name 3 fam.nd) (ss_cons (s_set fam 4 (sd_lst sav_nil)) (ss_frz 2 (ss_cons (s_for fam (fun _ => PassesOwn.never) (si_seq fam.K (sd_var 2)) (sg_name 5 fam.nd) (ss_one (s_set fam 4 (sd_add fam (sd_var 4) (sd_comp fam [("x", 6)] (SdI.view (si_range2 (fun _ => rfl) (fun _ => z_range) (sa_cons (sd_if (st_ne fam (sd_var 5) (sd_tup sav_nil)) (sd_add fam (sd_at fam (sd_var 5) (sd_neg sd_int)) sd_int) sd_int) (sa_cons (sd_var 0) sa_nil)))) (fun _ => rfl) (sg_name 6 (fam.blk _).nd) (by decide) sts_nil (sd_add (fam.blk _) (sd_var 5) (sd_tup (sav_cons (sd_var 6) sav_nil)))))))) (ss_frz 4 (ss_one (s_set fam 2 (sd_var 4)))))))) (ss_one (s_ret (sd_var 2)))))
abbrev st__law_all_strong : Stmt := topS 28
theorem sc__law_all_strong : FnScope ["n", "table", "some", "x", "y", "c"] ["n", "table", "some"] (defScope st__law_all_strong) := ⟨rfl, rfl, rfl, by decide +kernel, rfl, by decide +kernel, by decide +kernel⟩
theorem ok__law_all_strong {P : Program} {w : World} {K : PySem.W.Frag} {mg : Str → Option Value} {base : Heap} {f : Addr} {fd : FuncData} (F : Fun K "_law_all_strong" "_law_all_strong" st__law_all_strong f fd) (z_abs : mg "abs" = none) (z_range : mg "range" = none) : FnOk P w K mg base CX0 1 f fd ["n", "table", "some"] (spD K 3 m__law_all_strong) := by
  refine def_ok F sc__law_all_strong _ fun Xs fam hN hx => ?_
  obtain ⟨cdv, A, outer, s, H, E, rfl⟩ := hx
  exact (ss_cons (s_for fam (fun _ => PassesOwn.never) (si_range1 (fun _ => rfl) (fun _ => z_range) (sa_cons (sd_var 0) sa_nil)) (sg_name 3 fam.nd) (ss_one (s_for fam (fun _ => PassesOwn.never) (si_range2 (fun _ => rfl) (fun _ => z_range) (sa_cons (sd_add fam (sd_var 3) sd_int) (sa_cons (sd_var 0) sa_nil))) (sg_name 4 fam.nd) (ss_one (s_if (st_eq fam (sd_comp fam [("c", 5)] (si_seqV fam.K (sd_var 2)) (fun _ => rfl) (sg_name 5 (fam.blk _).nd) (by decide) (sts_one (st_eq (fam.blk _) (sd_abs (fam.blk _) z_abs (fun _ => rfl) (sa_cons (sd_sub (fam.blk _) (sd_at (fam.blk _) (sd_at (fam.blk _) (sd_var 1) (sd_var 5)) (sd_var 3)) (sd_at (fam.blk _) (sd_at (fam.blk _) (sd_var 1) (sd_var 5)) (sd_var 4))) sa_nil)) (sd_at (fam.blk _) (sd_at (fam.blk _) (sd_var 1) (sd_var 3)) (sd_var 4)))) (sd_var 5)) (sd_lst sav_nil)) (ss_one (s_ret sd_bl)) ss_nil))))) (ss_one (s_ret sd_bl)))
abbrev st_law : Stmt := topS 29
theorem sc_law : FnScope ["script", "state", "turn", "n", "ties", "leaves", "table", "due", "x", "best", "k", "y", "some", "one", "strong", "z", "pair"] ["script"] (defScope st_law) := ⟨rfl, rfl, rfl, by decide +kernel, rfl, by decide +kernel, by decide +kernel⟩
theorem dv_law {P : Program} {w : World} {K : PySem.W.Frag} {mg : Str → Option Value} {base : Heap} {Xs : Unit → Cx} (fam : Fam Xs P w K mg base 6) {cdv : Value} {A : Around} {outer : List Env} {s : Shared} {H : Hp} {E : XK} {f : Addr} (hx : Xs = fun _ => (cxOf CX0 P w K mg base ["script", "state", "turn", "n", "ties", "leaves", "table", "due", "x", "best", "k", "y", "some", "one", "strong", "z", "pair"] "law" (defScope st_law) f cdv A outer s H E).nox) (z_tuple : mg "tuple" = none) (z_len : mg "len" = none) (z_range : mg "range" = none) (z_min : mg "min" = none) (c_parts_strongly : Callee P w K mg base 4 "parts_strongly" 5 m_parts_strongly) (c__law_eq : Callee P w K mg base 6 "_law_eq" 2 (m__law_eq 6)) (c_strong_dimension : Callee P w K mg base 5 "strong_dimension" 2 m_strong_dimension) (c__law_whole : Callee P w K mg base 1 "_law_whole" 1 m__law_whole) (c__law_ring : Callee P w K mg base 1 "_law_ring" 1 m__law_ring) (c__law_draw : Callee P w K mg base 1 "_law_draw" 2 mDraw) (c_tells_strongly : Callee P w K mg base 4 "tells_strongly" 3 m_tells_strongly) (c__law_beside : Callee P w K mg base 1 "_law_beside" 2 m__law_beside) (c__law_tree : Callee P w K mg base 3 "_law_tree" 2 m__law_tree) (c__law_all_strong : Callee P w K mg base 1 "_law_all_strong" 3 m__law_all_strong) (c__law_sets : Callee P w K mg base 1 "_law_sets" 2 m__law_sets) (c_far_pairs : Callee P w K mg base 4 "far_pairs" 2 m_far_pairs) (c__law_steps : Callee P w K mg base 2 "_law_steps" 3 m__law_steps) (c__law_some_web : Callee P w K mg base 4 "_law_some_web" 2 m__law_some_web) : SdSs Xs K (defBody st_law).tail b_law := by
  subst hx
  exact (ss_cons (s_for fam (fun _ => PassesOwn.never) (si_range1 (fun _ => rfl) (fun _ => z_range) (sa_cons sd_int sa_nil)) (sg_name 2 fam.nd) (ss_cons (s_asgG (sd_call fam c__law_some_web (by decide) (fun _ => rfl) (su_cons (sd_var 1) (su_cons sd_int su_nil))) (sg_tup fam.K fam.calm (sgs_cons (sg_name 3 fam.nd) (sgs_cons (sg_name 4 fam.nd) sgs_nil)))) (ss_cons (s_set fam 6 (sd_comp fam [("x", 8)] (SdI.view (si_range1 (fun _ => rfl) (fun _ => z_range) (sa_cons (sd_var 3) sa_nil))) (fun _ => rfl) (sg_name 8 (fam.blk _).nd) (by decide) sts_nil (sd_call (fam.blk _) c__law_steps (by decide) (fun _ => rfl) (su_cons (sd_var 3) (su_cons (sd_var 4) (su_cons (sd_var 8) su_nil)))))) (ss_cons (s_set fam 7 (sd_lst sav_nil)) (ss_cons (s_for fam (fun _ => PassesOwn.never) (si_range1 (fun _ => rfl) (fun _ => z_range) (sa_cons (sd_var 3) sa_nil)) (sg_name 8 fam.nd) (ss_one (s_for fam (fun _ => PassesOwn.never) (si_range2 (fun _ => rfl) (fun _ => z_range) (sa_cons (sd_add fam (sd_var 8) sd_int) (sa_cons (sd_var 3) sa_nil))) (sg_name 11 fam.nd) (ss_cons (s_setC fam 13 [("z", 15)] (si_seqV fam.K (sd_call fam c__law_beside (by decide) (fun _ => rfl) (su_cons (sd_var 4) (su_cons (sd_var 8) su_nil)))) (fun _ => rfl) (sg_name 15 (fam.blk _).nd) (by decide) (sts_one (st_gt (fam.blk _) (sd_at (fam.blk _) (sd_at (fam.blk _) (sd_var 6) (sd_var 15)) (sd_var 11)) (sd_at (fam.blk _) (sd_at (fam.blk _) (sd_var 6) (sd_var 8)) (sd_var 11)))) (sd_var 15) (fun _ => sw_true rfl rfl rfl (by decide +kernel))) (ss_one (s_if (st_w (sw_and (st_eq fam (sd_var 13) (sd_lst sav_nil)) (sw_and1 (st_eq fam (sd_comp fam [("z", 15)] (si_seqV fam.K (sd_call fam c__law_beside (by decide) (fun _ => rfl) (su_cons (sd_var 4) (su_cons (sd_var 11) su_nil)))) (fun _ => rfl) (sg_name 15 (fam.blk _).nd) (by decide) (sts_one (st_gt (fam.blk _) (sd_at (fam.blk _) (sd_at (fam.blk _) (sd_var 6) (sd_var 15)) (sd_var 8)) (sd_at (fam.blk _) (sd_at (fam.blk _) (sd_var 6) (sd_var 8)) (sd_var 11)))) (sd_var 15)) (sd_lst sav_nil))))) (ss_one (s_append fam 7 (sd_tup (sav_cons (sd_var 8) (sav_cons (sd_var 11) sav_nil))))) ss_nil)))))) (ss_frz 7 (ss_cons (s_if (st_not (st_val (sd_call fam c__law_eq (by decide) (fun _ => rfl) (su_cons (sd_call fam c_far_pairs (by decide) (fun _ => rfl) (su_cons (sd_var 3) (su_cons (sd_var 4) su_nil))) (su_cons (sd_var 7) su_nil))))) (ss_one (s_ret sd_bl)) ss_nil) (ss_cons (s_set fam 9 (sd_var 3)) (ss_cons (s_for fam (fun _ => PassesOwn.never) (si_range1 (fun _ => rfl) (fun _ => z_range) (sa_cons (sd_add fam (sd_var 3) sd_int) sa_nil)) (sg_name 10 fam.nd) (ss_one (s_for fam (fun _ => PassesOwn.never) (si_seq fam.K (sd_call fam c__law_sets (by decide) (fun _ => rfl) (su_cons (sd_var 3) (su_cons (sd_var 10) su_nil)))) (sg_name 12 fam.nd) (ss_frz 6 (ss_cons (s_set fam 14 (sd_call fam c__law_all_strong (by decide) (fun _ => rfl) (su_cons (sd_var 3) (su_cons (sd_var 6) (su_cons (sd_var 12) su_nil))))) (ss_cons (s_if (st_ne fam (sd_var 14) (sd_eq fam (sd_comp fam [("pair", 16)] (si_seqV fam.K (sd_var 7)) (fun _ => rfl) (sg_name 16 (fam.blk _).nd) (by decide) (sts_one (st_w (sw_and (st_notin (fam.blk _) (sd_at (fam.blk _) (sd_var 16) sd_int) (sd_var 12)) (sw_and1 (st_notin (fam.blk _) (sd_at (fam.blk _) (sd_var 16) sd_int) (sd_var 12)))))) (sd_var 16)) (sd_lst sav_nil))) (ss_one (s_ret sd_bl)) ss_nil) (ss_cons (s_set fam 9 (sd_if (st_val (sd_var 14)) (sd_min fam z_min (fun _ => rfl) (sa_cons (sd_var 9) (sa_cons (sd_var 10) sa_nil))) (sd_var 9))) (ss_one (s_if (st_w (sw_and (st_eq fam (sd_call fam c__law_draw (by decide) (fun _ => rfl) (su_cons (sd_var 1) (su_cons sd_int su_nil))) sd_int) (sw_and1 (st_not (st_val (sd_call fam c__law_eq (by decide) (fun _ => rfl) (su_cons (sd_call fam c_tells_strongly (by decide) (fun _ => rfl) (su_cons (sd_var 3) (su_cons (sd_var 4) (su_cons (sd_var 12) su_nil)))) (su_cons (sd_var 14) su_nil)))))))) (ss_one (s_ret sd_bl)) ss_nil))))))))) (ss_one (s_if (st_not (st_val (sd_call fam c__law_eq (by decide) (fun _ => rfl) (su_cons (sd_call fam c_strong_dimension (by decide) (fun _ => rfl) (su_cons (sd_var 3) (su_cons (sd_var 4) su_nil))) (su_cons (sd_var 9) su_nil))))) (ss_one (s_ret sd_bl)) ss_nil))))))))))) (ss_cons (s_set fam 3 (sd_add fam sd_int (sd_call fam c__law_draw (by decide) (fun _ => rfl) (su_cons (sd_var 1) (su_cons sd_int su_nil))))) (ss_cons (s_set fam 4 (sd_call fam c__law_tree (by decide) (fun _ => rfl) (su_cons (sd_var 1) (su_cons (sd_var 3) su_nil)))) (ss_cons (s_setC fam 5 [("x", 8)] (SdI.view (si_range1 (fun _ => rfl) (fun _ => z_range) (sa_cons (sd_var 3) sa_nil))) (fun _ => rfl) (sg_name 8 (fam.blk _).nd) (by decide) (sts_one (st_eq (fam.blk _) (sd_len (fam.blk _) z_len (fun _ => rfl) (sa_cons (sd_call (fam.blk _) c__law_beside (by decide) (fun _ => rfl) (su_cons (sd_var 4) (su_cons (sd_var 8) su_nil))) sa_nil)) sd_int)) (sd_var 8) (fun _ => sw_true rfl rfl rfl (by decide +kernel))) (ss_cons (s_if (st_w (sw_or (st_not (st_val (sd_call fam c__law_eq (by decide) (fun _ => rfl) (su_cons (sd_call fam c_strong_dimension (by decide) (fun _ => rfl) (su_cons (sd_var 3) (su_cons (sd_var 4) su_nil))) (su_cons (sd_sub fam (sd_len fam z_len (fun _ => rfl) (sa_cons (sd_var 5) sa_nil)) sd_int) su_nil))))) (sw_or1 (st_not (st_val (sd_call fam c__law_eq (by decide) (fun _ => rfl) (su_cons (sd_call fam c_tells_strongly (by decide) (fun _ => rfl) (su_cons (sd_var 3) (su_cons (sd_var 4) (su_cons (sd_tuple fam z_tuple (fun _ => rfl) (sa_cons (sd_slice fam.K (sd_var 5) (so_some sd_int) so_none) sa_nil)) su_nil)))) (su_cons sd_bl su_nil)))))))) (ss_one (s_ret sd_bl)) ss_nil) (ss_cons (s_set fam 3 (sd_add fam sd_int (sd_call fam c__law_draw (by decide) (fun _ => rfl) (su_cons (sd_var 1) (su_cons sd_int su_nil))))) (ss_cons (s_if (st_w (sw_or (st_not (st_val (sd_call fam c__law_eq (by decide) (fun _ => rfl) (su_cons (sd_call fam c_strong_dimension (by decide) (fun _ => rfl) (su_cons (sd_var 3) (su_cons (sd_call fam c__law_ring (by decide) (fun _ => rfl) (su_cons (sd_var 3) su_nil)) su_nil))) (su_cons (sd_div fam (sd_add fam (sd_var 3) sd_int) sd_int) su_nil))))) (sw_or1 (st_not (st_val (sd_call fam c__law_eq (by decide) (fun _ => rfl) (su_cons (sd_call fam c_strong_dimension (by decide) (fun _ => rfl) (su_cons (sd_var 3) (su_cons (sd_call fam c__law_whole (by decide) (fun _ => rfl) (su_cons (sd_var 3) su_nil)) su_nil))) (su_cons (sd_sub fam (sd_var 3) sd_int) su_nil)))))))) (ss_one (s_ret sd_bl)) ss_nil) (ss_one (s_ret (sd_and (sd_call fam c__law_eq (by decide) (fun _ => rfl) (su_cons (sd_call fam c_strong_dimension (by decide) (fun _ => rfl) (su_cons sd_int (su_cons (sd_tup sav_nil) su_nil))) (su_cons sd_int su_nil))) (sd_one (sd_call fam c_parts_strongly (by decide) (fun _ => rfl) (su_cons sd_int (su_cons (sd_tup (sav_cons (sd_tup (sav_cons sd_int (sav_cons sd_int sav_nil))) sav_nil)) (su_cons sd_int (su_cons sd_int (su_cons sd_int su_nil)))))))))))))))))
def spLaw (K : PySem.W.Frag) : Sp := fun vs H Q _ => ∃ (a : Addr) (ns : List Int), vs = [.ref a] ∧ SqL K H a (ns.map V.int) ∧ ns.length ≤ 63 ∧ ∀ H', Q (.bl true) H'
theorem ok_law {P : Program} {w : World} {K : PySem.W.Frag} {mg : Str → Option Value} {base : Heap} {f : Addr} {fd : FuncData} (F : Fun K "law" "law" st_law f fd) {fS : Addr} {fdS : FuncData} (GS : FnOk P w K mg base CX0 1 fS fdS ["script"] (spState K)) (gS : mg "_law_state" = some (.ref fS)) (kS : PySem.W.keepIn K (.ref fS) = true) (bS : Binds K fdS ["script"] []) (z_tuple : mg "tuple" = none) (z_len : mg "len" = none) (z_range : mg "range" = none) (z_min : mg "min" = none) (c_parts_strongly : Callee P w K mg base 4 "parts_strongly" 5 m_parts_strongly) (c__law_eq : Callee P w K mg base 6 "_law_eq" 2 (m__law_eq 6)) (c_strong_dimension : Callee P w K mg base 5 "strong_dimension" 2 m_strong_dimension) (c__law_whole : Callee P w K mg base 1 "_law_whole" 1 m__law_whole) (c__law_ring : Callee P w K mg base 1 "_law_ring" 1 m__law_ring) (c__law_draw : Callee P w K mg base 1 "_law_draw" 2 mDraw) (c_tells_strongly : Callee P w K mg base 4 "tells_strongly" 3 m_tells_strongly) (c__law_beside : Callee P w K mg base 1 "_law_beside" 2 m__law_beside) (c__law_tree : Callee P w K mg base 3 "_law_tree" 2 m__law_tree) (c__law_all_strong : Callee P w K mg base 1 "_law_all_strong" 3 m__law_all_strong) (c__law_sets : Callee P w K mg base 1 "_law_sets" 2 m__law_sets) (c_far_pairs : Callee P w K mg base 4 "far_pairs" 2 m_far_pairs) (c__law_steps : Callee P w K mg base 2 "_law_steps" 3 m__law_steps) (c__law_some_web : Callee P w K mg base 4 "_law_some_web" 2 m__law_some_web) : FnOk P w K mg base CX0 7 f fd ["script"] (spLaw K) := by
  refine F.ok sc_law (fun vs H Q E h => ?_) (fun cdv A outer s H vs Q E hr h => ?_)
  · obtain ⟨_, _, rfl, _⟩ := h
    rfl
  · obtain ⟨a, ns, rfl, hS, hl, q⟩ := h
    obtain ⟨t, pt, wt⟩ := dv_law (Xs := fun _ => (cxOf CX0 P w K mg base ["script", "state", "turn", "n", "ties", "leaves", "table", "due", "x", "best", "k", "y", "some", "one", "strong", "z", "pair"] "law" (defScope st_law) f cdv A outer s H E).nox) ⟨fun _ => rfl, fun _ => rfl, fun _ => rfl, fun _ => rfl, fun _ => rfl, fun _ => rfl, fun _ => sc_law.nd, fun _ => hr⟩ rfl z_tuple z_len z_range z_min c_parts_strongly c__law_eq c_strong_dimension c__law_whole c__law_ring c__law_draw c_tells_strongly c__law_beside c__law_tree c__law_all_strong c__law_sets c_far_pairs c__law_steps c__law_some_web
    refine ⟨_, pss_cons (ps_set (i := 1) sc_law.nd rfl (.inl rfl) (pe_call (GS.mono (by decide)) hr (by rfl) gS kS bS .nil pass0 (pa_cons (pv 0) pa_nil))) (pt ()), ?_⟩
    refine ⟨.ref a, rfl, a, ns, rfl, hS, hl, fun H' ps pc cells seed hne h1 h2 => ?_⟩
    obtain ⟨fl, ρ', g', e, rfl, hg'⟩ := go_law (g := .k1 cells seed) (s0 := .no) (s2 := .no) (s3 := .no) (s4 := .no) (s5 := .no) (s6 := .no) (s7 := .no) (s8 := .no) (s9 := .no) (s10 := .no) (s11 := .no) (s12 := .no) (s13 := .no) (s14 := .no) (s15 := .no) (s16 := .no) rfl
    refine wt _ [.no, .st, .no, .no, .no, .no, .no, .no, .no, .no, .no, .no, .no, .no, .no, .no, .no] (.k1 cells seed) (fun _ => none) H' ps pc _ _ _ _ ⟨fun _ _ z => (by cases z), rfl, fun i s' hs => ?_, fun i j s' s2 p _ hs _ ho => ?_, ⟨hne, h1, h2, rfl, rfl⟩⟩ e fun v F2 H2 _ _ _ _ r => ?_
    · match i, hs with
      | 0, hs => cases hs; trivial
      | 1, hs => cases hs; exact ⟨rfl, fun z => by cases z⟩
      | i + 2, hs =>
        have : s' = .no := by
          have hm := List.mem_of_getElem? (l := ([.no, .no, .no, .no, .no, .no, .no, .no, .no, .no, .no, .no, .no, .no, .no] : List Sl)) (i := i) hs
          simpa using hm
        subst this
        trivial
    · match i, hs with
      | 0, hs => cases hs; exact ho.elim
      | 1, hs => cases hs; exact ho.elim
      | i + 2, hs =>
        have : s' = .no := by
          have hm := List.mem_of_getElem? (l := ([.no, .no, .no, .no, .no, .no, .no, .no, .no, .no, .no, .no, .no, .no, .no] : List Sl)) (i := i) hs
          simpa using hm
        subst this
        exact ho.elim
    · cases r
      exact q _
theorem all_mk {l : PySem.W.OpenLaw} {w : World} {K : PySem.W.Frag} {h : Heap} {mg : Str → Option Value} {fa f0 f1 f2 f3 f4 f5 f6 f7 f8 f9 f10 f11 f12 f13 f14 f15 f16 f17 f18 f19 f20 f21 f22 f23 f24 f25 : Addr} (X : K.In h) (G : h.Ns mainGlobals mg) (hfa : mg "law" = some (.ref fa))
    {od0 an0 od1 an1 od2 an2 od3 an3 od4 an4 od5 an5 od6 an6 od7 an7 od8 an8 od9 an9 od10 an10 od11 an11 od12 an12 od13 an13 od14 an14 od15 an15 od16 an16 od17 an17 od18 an18 od19 an19 od20 an20 od21 an21 od22 an22 od23 an23 od24 an24 od25 an25 : Option Addr} {sl0 sl1 sl2 sl3 sl4 sl5 sl6 sl7 sl8 sl9 sl10 sl11 sl12 sl13 sl14 sl15 sl16 sl17 sl18 sl19 sl20 sl21 sl22 sl23 sl24 sl25 : Array (Option Value)} {oc0 kV0 dc0 pm0 cd0 ct0 oc1 kV1 dc1 pm1 cd1 ct1 oc2 kV2 dc2 pm2 cd2 ct2 oc3 kV3 dc3 pm3 cd3 ct3 oc4 kV4 dc4 pm4 cd4 ct4 oc5 kV5 dc5 pm5 cd5 ct5 oc6 kV6 dc6 pm6 cd6 ct6 oc7 kV7 dc7 pm7 cd7 ct7 oc8 kV8 dc8 pm8 cd8 ct8 oc9 kV9 dc9 pm9 cd9 ct9 oc10 kV10 dc10 pm10 cd10 ct10 oc11 kV11 dc11 pm11 cd11 ct11 oc12 kV12 dc12 pm12 cd12 ct12 oc13 kV13 dc13 pm13 cd13 ct13 oc14 kV14 dc14 pm14 cd14 ct14 oc15 kV15 dc15 pm15 cd15 ct15 oc16 kV16 dc16 pm16 cd16 ct16 oc17 kV17 dc17 pm17 cd17 ct17 oc18 kV18 dc18 pm18 cd18 ct18 oc19 kV19 dc19 pm19 cd19 ct19 oc20 kV20 dc20 pm20 cd20 ct20 oc21 kV21 dc21 pm21 cd21 ct21 oc22 kV22 dc22 pm22 cd22 ct22 oc23 kV23 dc23 pm23 cd23 ct23 oc24 kV24 dc24 pm24 cd24 ct24 oc25 kV25 dc25 pm25 cd25 ct25 : Value}
    (a0 : PySem.W.nsIn K mainGlobals "beside" = some (some (.ref f0))) (l0 : K.lookup f0 = some ⟨oc0, od0, .func (PySem.W.fnOf "beside" "beside" (defArgs st_beside) (defBody st_beside) (defScope st_beside) .none kV0 dc0 pm0 an0 cd0 ct0), sl0⟩) (c0 : PySem.W.codeIn K cd0 "beside" = true) (k0 : PySem.W.keepIn K (.ref f0) = true)
    (a1 : PySem.W.nsIn K mainGlobals "steps_from" = some (some (.ref f1))) (l1 : K.lookup f1 = some ⟨oc1, od1, .func (PySem.W.fnOf "steps_from" "steps_from" (defArgs st_steps_from) (defBody st_steps_from) (defScope st_steps_from) .none kV1 dc1 pm1 an1 cd1 ct1), sl1⟩) (c1 : PySem.W.codeIn K cd1 "steps_from" = true) (k1 : PySem.W.keepIn K (.ref f1) = true)
    (a2 : PySem.W.nsIn K mainGlobals "steps_of" = some (some (.ref f2))) (l2 : K.lookup f2 = some ⟨oc2, od2, .func (PySem.W.fnOf "steps_of" "steps_of" (defArgs st_steps_of) (defBody st_steps_of) (defScope st_steps_of) .none kV2 dc2 pm2 an2 cd2 ct2), sl2⟩) (c2 : PySem.W.codeIn K cd2 "steps_of" = true) (k2 : PySem.W.keepIn K (.ref f2) = true)
    (a3 : PySem.W.nsIn K mainGlobals "is_on_way" = some (some (.ref f3))) (l3 : K.lookup f3 = some ⟨oc3, od3, .func (PySem.W.fnOf "is_on_way" "is_on_way" (defArgs st_is_on_way) (defBody st_is_on_way) (defScope st_is_on_way) .none kV3 dc3 pm3 an3 cd3 ct3), sl3⟩) (c3 : PySem.W.codeIn K cd3 "is_on_way" = true) (k3 : PySem.W.keepIn K (.ref f3) = true)
    (a4 : PySem.W.nsIn K mainGlobals "parts_strongly" = some (some (.ref f4))) (l4 : K.lookup f4 = some ⟨oc4, od4, .func (PySem.W.fnOf "parts_strongly" "parts_strongly" (defArgs st_parts_strongly) (defBody st_parts_strongly) (defScope st_parts_strongly) .none kV4 dc4 pm4 an4 cd4 ct4), sl4⟩) (c4 : PySem.W.codeIn K cd4 "parts_strongly" = true) (k4 : PySem.W.keepIn K (.ref f4) = true)
    (a5 : PySem.W.nsIn K mainGlobals "tells_strongly" = some (some (.ref f5))) (l5 : K.lookup f5 = some ⟨oc5, od5, .func (PySem.W.fnOf "tells_strongly" "tells_strongly" (defArgs st_tells_strongly) (defBody st_tells_strongly) (defScope st_tells_strongly) .none kV5 dc5 pm5 an5 cd5 ct5), sl5⟩) (c5 : PySem.W.codeIn K cd5 "tells_strongly" = true) (k5 : PySem.W.keepIn K (.ref f5) = true)
    (a6 : PySem.W.nsIn K mainGlobals "far_pairs" = some (some (.ref f6))) (l6 : K.lookup f6 = some ⟨oc6, od6, .func (PySem.W.fnOf "far_pairs" "far_pairs" (defArgs st_far_pairs) (defBody st_far_pairs) (defScope st_far_pairs) .none kV6 dc6 pm6 an6 cd6 ct6), sl6⟩) (c6 : PySem.W.codeIn K cd6 "far_pairs" = true) (k6 : PySem.W.keepIn K (.ref f6) = true)
    (a7 : PySem.W.nsIn K mainGlobals "count_of" = some (some (.ref f7))) (l7 : K.lookup f7 = some ⟨oc7, od7, .func (PySem.W.fnOf "count_of" "count_of" (defArgs st_count_of) (defBody st_count_of) (defScope st_count_of) .none kV7 dc7 pm7 an7 cd7 ct7), sl7⟩) (c7 : PySem.W.codeIn K cd7 "count_of" = true) (k7 : PySem.W.keepIn K (.ref f7) = true)
    (a8 : PySem.W.nsIn K mainGlobals "strong_dimension" = some (some (.ref f8))) (l8 : K.lookup f8 = some ⟨oc8, od8, .func (PySem.W.fnOf "strong_dimension" "strong_dimension" (defArgs st_strong_dimension) (defBody st_strong_dimension) (defScope st_strong_dimension) .none kV8 dc8 pm8 an8 cd8 ct8), sl8⟩) (c8 : PySem.W.codeIn K cd8 "strong_dimension" = true) (k8 : PySem.W.keepIn K (.ref f8) = true)
    (a9 : PySem.W.nsIn K mainGlobals "_law_state" = some (some (.ref f9))) (l9 : K.lookup f9 = some ⟨oc9, od9, .func (PySem.W.fnOf "_law_state" "_law_state" (defArgs st__law_state) (defBody st__law_state) (defScope st__law_state) .none kV9 dc9 pm9 an9 cd9 ct9), sl9⟩) (c9 : PySem.W.codeIn K cd9 "_law_state" = true) (k9 : PySem.W.keepIn K (.ref f9) = true)
    (a10 : PySem.W.nsIn K mainGlobals "_law_draw" = some (some (.ref f10))) (l10 : K.lookup f10 = some ⟨oc10, od10, .func (PySem.W.fnOf "_law_draw" "_law_draw" (defArgs st__law_draw) (defBody st__law_draw) (defScope st__law_draw) .none kV10 dc10 pm10 an10 cd10 ct10), sl10⟩) (c10 : PySem.W.codeIn K cd10 "_law_draw" = true) (k10 : PySem.W.keepIn K (.ref f10) = true)
    (a11 : PySem.W.nsIn K mainGlobals "_law_pick" = some (some (.ref f11))) (l11 : K.lookup f11 = some ⟨oc11, od11, .func (PySem.W.fnOf "_law_pick" "_law_pick" (defArgs st__law_pick) (defBody st__law_pick) (defScope st__law_pick) .none kV11 dc11 pm11 an11 cd11 ct11), sl11⟩) (c11 : PySem.W.codeIn K cd11 "_law_pick" = true) (k11 : PySem.W.keepIn K (.ref f11) = true)
    (a12 : PySem.W.nsIn K mainGlobals "_law_eq" = some (some (.ref f12))) (l12 : K.lookup f12 = some ⟨oc12, od12, .func (PySem.W.fnOf "_law_eq" "_law_eq" (defArgs st__law_eq) (defBody st__law_eq) (defScope st__law_eq) .none kV12 dc12 pm12 an12 cd12 ct12), sl12⟩) (c12 : PySem.W.codeIn K cd12 "_law_eq" = true) (k12 : PySem.W.keepIn K (.ref f12) = true)
    (a13 : PySem.W.nsIn K mainGlobals "_law_mixed" = some (some (.ref f13))) (l13 : K.lookup f13 = some ⟨oc13, od13, .func (PySem.W.fnOf "_law_mixed" "_law_mixed" (defArgs st__law_mixed) (defBody st__law_mixed) (defScope st__law_mixed) .none kV13 dc13 pm13 an13 cd13 ct13), sl13⟩) (c13 : PySem.W.codeIn K cd13 "_law_mixed" = true) (k13 : PySem.W.keepIn K (.ref f13) = true)
    (a14 : PySem.W.nsIn K mainGlobals "_law_path" = some (some (.ref f14))) (l14 : K.lookup f14 = some ⟨oc14, od14, .func (PySem.W.fnOf "_law_path" "_law_path" (defArgs st__law_path) (defBody st__law_path) (defScope st__law_path) .none kV14 dc14 pm14 an14 cd14 ct14), sl14⟩) (c14 : PySem.W.codeIn K cd14 "_law_path" = true) (k14 : PySem.W.keepIn K (.ref f14) = true)
    (a15 : PySem.W.nsIn K mainGlobals "_law_ring" = some (some (.ref f15))) (l15 : K.lookup f15 = some ⟨oc15, od15, .func (PySem.W.fnOf "_law_ring" "_law_ring" (defArgs st__law_ring) (defBody st__law_ring) (defScope st__law_ring) .none kV15 dc15 pm15 an15 cd15 ct15), sl15⟩) (c15 : PySem.W.codeIn K cd15 "_law_ring" = true) (k15 : PySem.W.keepIn K (.ref f15) = true)
    (a16 : PySem.W.nsIn K mainGlobals "_law_star" = some (some (.ref f16))) (l16 : K.lookup f16 = some ⟨oc16, od16, .func (PySem.W.fnOf "_law_star" "_law_star" (defArgs st__law_star) (defBody st__law_star) (defScope st__law_star) .none kV16 dc16 pm16 an16 cd16 ct16), sl16⟩) (c16 : PySem.W.codeIn K cd16 "_law_star" = true) (k16 : PySem.W.keepIn K (.ref f16) = true)
    (a17 : PySem.W.nsIn K mainGlobals "_law_whole" = some (some (.ref f17))) (l17 : K.lookup f17 = some ⟨oc17, od17, .func (PySem.W.fnOf "_law_whole" "_law_whole" (defArgs st__law_whole) (defBody st__law_whole) (defScope st__law_whole) .none kV17 dc17 pm17 an17 cd17 ct17), sl17⟩) (c17 : PySem.W.codeIn K cd17 "_law_whole" = true) (k17 : PySem.W.keepIn K (.ref f17) = true)
    (a18 : PySem.W.nsIn K mainGlobals "_law_beside" = some (some (.ref f18))) (l18 : K.lookup f18 = some ⟨oc18, od18, .func (PySem.W.fnOf "_law_beside" "_law_beside" (defArgs st__law_beside) (defBody st__law_beside) (defScope st__law_beside) .none kV18 dc18 pm18 an18 cd18 ct18), sl18⟩) (c18 : PySem.W.codeIn K cd18 "_law_beside" = true) (k18 : PySem.W.keepIn K (.ref f18) = true)
    (a19 : PySem.W.nsIn K mainGlobals "_law_joined" = some (some (.ref f19))) (l19 : K.lookup f19 = some ⟨oc19, od19, .func (PySem.W.fnOf "_law_joined" "_law_joined" (defArgs st__law_joined) (defBody st__law_joined) (defScope st__law_joined) .none kV19 dc19 pm19 an19 cd19 ct19), sl19⟩) (c19 : PySem.W.codeIn K cd19 "_law_joined" = true) (k19 : PySem.W.keepIn K (.ref f19) = true)
    (a20 : PySem.W.nsIn K mainGlobals "_law_tree" = some (some (.ref f20))) (l20 : K.lookup f20 = some ⟨oc20, od20, .func (PySem.W.fnOf "_law_tree" "_law_tree" (defArgs st__law_tree) (defBody st__law_tree) (defScope st__law_tree) .none kV20 dc20 pm20 an20 cd20 ct20), sl20⟩) (c20 : PySem.W.codeIn K cd20 "_law_tree" = true) (k20 : PySem.W.keepIn K (.ref f20) = true)
    (a21 : PySem.W.nsIn K mainGlobals "_law_some_web" = some (some (.ref f21))) (l21 : K.lookup f21 = some ⟨oc21, od21, .func (PySem.W.fnOf "_law_some_web" "_law_some_web" (defArgs st__law_some_web) (defBody st__law_some_web) (defScope st__law_some_web) .none kV21 dc21 pm21 an21 cd21 ct21), sl21⟩) (c21 : PySem.W.codeIn K cd21 "_law_some_web" = true) (k21 : PySem.W.keepIn K (.ref f21) = true)
    (a22 : PySem.W.nsIn K mainGlobals "_law_steps" = some (some (.ref f22))) (l22 : K.lookup f22 = some ⟨oc22, od22, .func (PySem.W.fnOf "_law_steps" "_law_steps" (defArgs st__law_steps) (defBody st__law_steps) (defScope st__law_steps) .none kV22 dc22 pm22 an22 cd22 ct22), sl22⟩) (c22 : PySem.W.codeIn K cd22 "_law_steps" = true) (k22 : PySem.W.keepIn K (.ref f22) = true)
    (a23 : PySem.W.nsIn K mainGlobals "_law_sets" = some (some (.ref f23))) (l23 : K.lookup f23 = some ⟨oc23, od23, .func (PySem.W.fnOf "_law_sets" "_law_sets" (defArgs st__law_sets) (defBody st__law_sets) (defScope st__law_sets) .none kV23 dc23 pm23 an23 cd23 ct23), sl23⟩) (c23 : PySem.W.codeIn K cd23 "_law_sets" = true) (k23 : PySem.W.keepIn K (.ref f23) = true)
    (a24 : PySem.W.nsIn K mainGlobals "_law_all_strong" = some (some (.ref f24))) (l24 : K.lookup f24 = some ⟨oc24, od24, .func (PySem.W.fnOf "_law_all_strong" "_law_all_strong" (defArgs st__law_all_strong) (defBody st__law_all_strong) (defScope st__law_all_strong) .none kV24 dc24 pm24 an24 cd24 ct24), sl24⟩) (c24 : PySem.W.codeIn K cd24 "_law_all_strong" = true) (k24 : PySem.W.keepIn K (.ref f24) = true)
    (a25 : PySem.W.nsIn K mainGlobals "law" = some (some (.ref f25))) (l25 : K.lookup f25 = some ⟨oc25, od25, .func (PySem.W.fnOf "law" "law" (defArgs st_law) (defBody st_law) (defScope st_law) .none kV25 dc25 pm25 an25 cd25 ct25), sl25⟩) (c25 : PySem.W.codeIn K cd25 "law" = true) (k25 : PySem.W.keepIn K (.ref f25) = true)
    (z_sorted : PySem.W.nsIn K mainGlobals "sorted" = some none)
    (z_len : PySem.W.nsIn K mainGlobals "len" = some none)
    (z_range : PySem.W.nsIn K mainGlobals "range" = some none)
    (z_any : PySem.W.nsIn K mainGlobals "any" = some none)
    (z_all : PySem.W.nsIn K mainGlobals "all" = some none)
    (z_min : PySem.W.nsIn K mainGlobals "min" = some none)
    (z_isinstance : PySem.W.nsIn K mainGlobals "isinstance" = some none)
    (z_bool : PySem.W.nsIn K mainGlobals "bool" = some none)
    (z_int : PySem.W.nsIn K mainGlobals "int" = some none)
    (z_str : PySem.W.nsIn K mainGlobals "str" = some none)
    (z_tuple : PySem.W.nsIn K mainGlobals "tuple" = some none)
    (z_list : PySem.W.nsIn K mainGlobals "list" = some none)
    (z_set : PySem.W.nsIn K mainGlobals "set" = some none)
    (z_max : PySem.W.nsIn K mainGlobals "max" = some none)
    (z_abs : PySem.W.nsIn K mainGlobals "abs" = some none) :
    ∃ fd : FuncData, (∀ (s : Shared) (v : Value), BindsTo s fd ⟨[v], []⟩ [("script", v)]) ∧ ∀ base : Heap, K.In base → base.Ns mainGlobals mg → FnOk l.prog w K mg base CX0 7 fa fd ["script"] (spLaw K) := by
  have e := hfa.symm.trans (PySem.W.mg_of X G a25)
  cases e
  refine ⟨PySem.W.fnOf "law" "law" (defArgs st_law) (defBody st_law) (defScope st_law) .none kV25 dc25 pm25 an25 cd25 ct25, fun s v => .of_eq rfl, fun base _ _ => ?_⟩
  have F0 := fun_mk (st := st_beside) l0 c0 k0
  have b0 := F0.binds (ps := ["ties", "place"]) fun _ _ _ _ _ _ us hl => match us, hl with | [_, _], _ => rfl
  have g0 := PySem.W.mg_of X G a0
  have C_beside : Callee l.prog w K mg base 1 "beside" 2 m_beside := ⟨_, _, _, ok_beside F0 (PySem.W.mg_none_of X G z_sorted) , g0, F0.kp, b0⟩
  have F1 := fun_mk (st := st_steps_from) l1 c1 k1
  have b1 := F1.binds (ps := ["n", "ties", "place"]) fun _ _ _ _ _ _ us hl => match us, hl with | [_, _, _], _ => rfl
  have g1 := PySem.W.mg_of X G a1
  have C_steps_from : Callee l.prog w K mg base 2 "steps_from" 3 m_steps_from := ⟨_, _, _, ok_steps_from F1 (PySem.W.mg_none_of X G z_len) C_beside, g1, F1.kp, b1⟩
  have F2 := fun_mk (st := st_steps_of) l2 c2 k2
  have b2 := F2.binds (ps := ["n", "ties"]) fun _ _ _ _ _ _ us hl => match us, hl with | [_, _], _ => rfl
  have g2 := PySem.W.mg_of X G a2
  have C_steps_of : Callee l.prog w K mg base 3 "steps_of" 2 m_steps_of := ⟨_, _, _, ok_steps_of F2 (PySem.W.mg_none_of X G z_range) C_steps_from, g2, F2.kp, b2⟩
  have F3 := fun_mk (st := st_is_on_way) l3 c3 k3
  have b3 := F3.binds (ps := ["table", "c", "x", "y"]) fun _ _ _ _ _ _ us hl => match us, hl with | [_, _, _, _], _ => rfl
  have g3 := PySem.W.mg_of X G a3
  have C_is_on_way : Callee l.prog w K mg base 1 "is_on_way" 4 m_is_on_way := ⟨_, _, _, ok_is_on_way F3  , g3, F3.kp, b3⟩
  have F4 := fun_mk (st := st_parts_strongly) l4 c4 k4
  have b4 := F4.binds (ps := ["n", "ties", "c", "x", "y"]) fun _ _ _ _ _ _ us hl => match us, hl with | [_, _, _, _, _], _ => rfl
  have g4 := PySem.W.mg_of X G a4
  have C_parts_strongly : Callee l.prog w K mg base 4 "parts_strongly" 5 m_parts_strongly := ⟨_, _, _, ok_parts_strongly F4  C_is_on_way C_steps_of, g4, F4.kp, b4⟩
  have F5 := fun_mk (st := st_tells_strongly) l5 c5 k5
  have b5 := F5.binds (ps := ["n", "ties", "some"]) fun _ _ _ _ _ _ us hl => match us, hl with | [_, _, _], _ => rfl
  have g5 := PySem.W.mg_of X G a5
  have C_tells_strongly : Callee l.prog w K mg base 4 "tells_strongly" 3 m_tells_strongly := ⟨_, _, _, ok_tells_strongly F5 (PySem.W.mg_none_of X G z_any) (PySem.W.mg_none_of X G z_range) C_is_on_way C_steps_of, g5, F5.kp, b5⟩
  have F6 := fun_mk (st := st_far_pairs) l6 c6 k6
  have b6 := F6.binds (ps := ["n", "ties"]) fun _ _ _ _ _ _ us hl => match us, hl with | [_, _], _ => rfl
  have g6 := PySem.W.mg_of X G a6
  have C_far_pairs : Callee l.prog w K mg base 4 "far_pairs" 2 m_far_pairs := ⟨_, _, _, ok_far_pairs F6 (PySem.W.mg_none_of X G z_all) (PySem.W.mg_none_of X G z_range) C_beside C_steps_of, g6, F6.kp, b6⟩
  have F7 := fun_mk (st := st_count_of) l7 c7 k7
  have b7 := F7.binds (ps := ["mask"]) fun _ _ _ _ _ _ us hl => match us, hl with | [_], _ => rfl
  have g7 := PySem.W.mg_of X G a7
  have C_count_of : Callee l.prog w K mg base 1 "count_of" 1 m_count_of := ⟨_, _, _, ok_count_of F7  , g7, F7.kp, b7⟩
  have F8 := fun_mk (st := st_strong_dimension) l8 c8 k8
  have b8 := F8.binds (ps := ["n", "ties"]) fun _ _ _ _ _ _ us hl => match us, hl with | [_, _], _ => rfl
  have g8 := PySem.W.mg_of X G a8
  have C_strong_dimension : Callee l.prog w K mg base 5 "strong_dimension" 2 m_strong_dimension := ⟨_, _, _, ok_strong_dimension F8 (PySem.W.mg_none_of X G z_min) C_count_of C_far_pairs, g8, F8.kp, b8⟩
  have F9 := fun_mk (st := st__law_state) l9 c9 k9
  have b9 := F9.binds (ps := ["script"]) fun _ _ _ _ _ _ us hl => match us, hl with | [_], _ => rfl
  have g9 := PySem.W.mg_of X G a9
  have GS : FnOk l.prog w K mg base CX0 1 _ _ ["script"] (spState K) := ok_state F9 (PySem.W.mg_none_of X G z_int) (PySem.W.mg_none_of X G z_abs)
  have F10 := fun_mk (st := st__law_draw) l10 c10 k10
  have b10 := F10.binds (ps := ["state", "many"]) fun _ _ _ _ _ _ us hl => match us, hl with | [_, _], _ => rfl
  have g10 := PySem.W.mg_of X G a10
  have C__law_draw : Callee l.prog w K mg base 1 "_law_draw" 2 mDraw := ⟨_, _, _, ok_draw F10 (PySem.W.mg_none_of X G z_len) (PySem.W.mg_none_of X G z_int), g10, F10.kp, b10⟩
  have F11 := fun_mk (st := st__law_pick) l11 c11 k11
  have b11 := F11.binds (ps := ["state", "row"]) fun _ _ _ _ _ _ us hl => match us, hl with | [_, _], _ => rfl
  have g11 := PySem.W.mg_of X G a11
  have C__law_pick : Callee l.prog w K mg base 2 "_law_pick" 2 m__law_pick := ⟨_, _, _, ok__law_pick F11 (PySem.W.mg_none_of X G z_len) C__law_draw, g11, F11.kp, b11⟩
  have F12 := fun_mk (st := st__law_eq) l12 c12 k12
  have b12 := F12.binds (ps := ["told", "due"]) fun _ _ _ _ _ _ us hl => match us, hl with | [_, _], _ => rfl
  have g12 := PySem.W.mg_of X G a12
  have C__law_eq : Callee l.prog w K mg base 6 "_law_eq" 2 (m__law_eq 6) := ok__law_eq F12 g12 b12 (PySem.W.mg_none_of X G z_isinstance) (PySem.W.mg_none_of X G z_bool) (PySem.W.mg_none_of X G z_int) (PySem.W.mg_none_of X G z_str) (PySem.W.mg_none_of X G z_tuple) (PySem.W.mg_none_of X G z_list) (PySem.W.mg_none_of X G z_len) (PySem.W.mg_none_of X G z_range)  6
  have F13 := fun_mk (st := st__law_mixed) l13 c13 k13
  have b13 := F13.binds (ps := ["state", "rows"]) fun _ _ _ _ _ _ us hl => match us, hl with | [_, _], _ => rfl
  have g13 := PySem.W.mg_of X G a13
  have C__law_mixed : Callee l.prog w K mg base 2 "_law_mixed" 2 m__law_mixed := ⟨_, _, _, ok__law_mixed F13 (PySem.W.mg_none_of X G z_len) C__law_draw, g13, F13.kp, b13⟩
  have F14 := fun_mk (st := st__law_path) l14 c14 k14
  have b14 := F14.binds (ps := ["n"]) fun _ _ _ _ _ _ us hl => match us, hl with | [_], _ => rfl
  have g14 := PySem.W.mg_of X G a14
  have C__law_path : Callee l.prog w K mg base 1 "_law_path" 1 m__law_path := ⟨_, _, _, ok__law_path F14 (PySem.W.mg_none_of X G z_range) (PySem.W.mg_none_of X G z_tuple) , g14, F14.kp, b14⟩
  have F15 := fun_mk (st := st__law_ring) l15 c15 k15
  have b15 := F15.binds (ps := ["n"]) fun _ _ _ _ _ _ us hl => match us, hl with | [_], _ => rfl
  have g15 := PySem.W.mg_of X G a15
  have C__law_ring : Callee l.prog w K mg base 1 "_law_ring" 1 m__law_ring := ⟨_, _, _, ok__law_ring F15 (PySem.W.mg_none_of X G z_range) (PySem.W.mg_none_of X G z_sorted) (PySem.W.mg_none_of X G z_tuple) , g15, F15.kp, b15⟩
  have F16 := fun_mk (st := st__law_star) l16 c16 k16
  have b16 := F16.binds (ps := ["n"]) fun _ _ _ _ _ _ us hl => match us, hl with | [_], _ => rfl
  have g16 := PySem.W.mg_of X G a16
  have C__law_star : Callee l.prog w K mg base 1 "_law_star" 1 m__law_star := ⟨_, _, _, ok__law_star F16 (PySem.W.mg_none_of X G z_range) (PySem.W.mg_none_of X G z_tuple) , g16, F16.kp, b16⟩
  have F17 := fun_mk (st := st__law_whole) l17 c17 k17
  have b17 := F17.binds (ps := ["n"]) fun _ _ _ _ _ _ us hl => match us, hl with | [_], _ => rfl
  have g17 := PySem.W.mg_of X G a17
  have C__law_whole : Callee l.prog w K mg base 1 "_law_whole" 1 m__law_whole := ⟨_, _, _, ok__law_whole F17 (PySem.W.mg_none_of X G z_tuple) (PySem.W.mg_none_of X G z_range) , g17, F17.kp, b17⟩
  have F18 := fun_mk (st := st__law_beside) l18 c18 k18
  have b18 := F18.binds (ps := ["ties", "x"]) fun _ _ _ _ _ _ us hl => match us, hl with | [_, _], _ => rfl
  have g18 := PySem.W.mg_of X G a18
  have C__law_beside : Callee l.prog w K mg base 1 "_law_beside" 2 m__law_beside := ⟨_, _, _, ok__law_beside F18 (PySem.W.mg_none_of X G z_sorted) , g18, F18.kp, b18⟩
  have F19 := fun_mk (st := st__law_joined) l19 c19 k19
  have b19 := F19.binds (ps := ["state", "n", "more"]) fun _ _ _ _ _ _ us hl => match us, hl with | [_, _, _], _ => rfl
  have g19 := PySem.W.mg_of X G a19
  have C__law_joined : Callee l.prog w K mg base 2 "_law_joined" 3 m__law_joined := ⟨_, _, _, ok__law_joined F19 (PySem.W.mg_none_of X G z_sorted) (PySem.W.mg_none_of X G z_set) (PySem.W.mg_none_of X G z_tuple) (PySem.W.mg_none_of X G z_max) (PySem.W.mg_none_of X G z_min) (PySem.W.mg_none_of X G z_range) C__law_draw, g19, F19.kp, b19⟩
  have F20 := fun_mk (st := st__law_tree) l20 c20 k20
  have b20 := F20.binds (ps := ["state", "n"]) fun _ _ _ _ _ _ us hl => match us, hl with | [_, _], _ => rfl
  have g20 := PySem.W.mg_of X G a20
  have C__law_tree : Callee l.prog w K mg base 3 "_law_tree" 2 m__law_tree := ⟨_, _, _, ok__law_tree F20 (PySem.W.mg_none_of X G z_sorted) (PySem.W.mg_none_of X G z_tuple) (PySem.W.mg_none_of X G z_range) (PySem.W.mg_none_of X G z_list) C__law_draw C__law_mixed, g20, F20.kp, b20⟩
  have F21 := fun_mk (st := st__law_some_web) l21 c21 k21
  have b21 := F21.binds (ps := ["state", "most"]) fun _ _ _ _ _ _ us hl => match us, hl with | [_, _], _ => rfl
  have g21 := PySem.W.mg_of X G a21
  have C__law_some_web : Callee l.prog w K mg base 4 "_law_some_web" 2 m__law_some_web := ⟨_, _, _, ok__law_some_web F21  C__law_pick C__law_ring C__law_path C__law_whole C__law_star C__law_joined C__law_draw C__law_tree, g21, F21.kp, b21⟩
  have F22 := fun_mk (st := st__law_steps) l22 c22 k22
  have b22 := F22.binds (ps := ["n", "ties", "x"]) fun _ _ _ _ _ _ us hl => match us, hl with | [_, _, _], _ => rfl
  have g22 := PySem.W.mg_of X G a22
  have C__law_steps : Callee l.prog w K mg base 2 "_law_steps" 3 m__law_steps := ⟨_, _, _, ok__law_steps F22 (PySem.W.mg_none_of X G z_len) C__law_beside, g22, F22.kp, b22⟩
  have F23 := fun_mk (st := st__law_sets) l23 c23 k23
  have b23 := F23.binds (ps := ["n", "k"]) fun _ _ _ _ _ _ us hl => match us, hl with | [_, _], _ => rfl
  have g23 := PySem.W.mg_of X G a23
  have C__law_sets : Callee l.prog w K mg base 1 "_law_sets" 2 m__law_sets := ⟨_, _, _, ok__law_sets F23 (PySem.W.mg_none_of X G z_range) , g23, F23.kp, b23⟩
  have F24 := fun_mk (st := st__law_all_strong) l24 c24 k24
  have b24 := F24.binds (ps := ["n", "table", "some"]) fun _ _ _ _ _ _ us hl => match us, hl with | [_, _, _], _ => rfl
  have g24 := PySem.W.mg_of X G a24
  have C__law_all_strong : Callee l.prog w K mg base 1 "_law_all_strong" 3 m__law_all_strong := ⟨_, _, _, ok__law_all_strong F24 (PySem.W.mg_none_of X G z_abs) (PySem.W.mg_none_of X G z_range) , g24, F24.kp, b24⟩
  exact ok_law (fun_mk (st := st_law) l25 c25 k25) GS g9 F9.kp b9 (PySem.W.mg_none_of X G z_tuple) (PySem.W.mg_none_of X G z_len) (PySem.W.mg_none_of X G z_range) (PySem.W.mg_none_of X G z_min) C_parts_strongly C__law_eq C_strong_dimension C__law_whole C__law_ring C__law_draw C_tells_strongly C__law_beside C__law_tree C__law_all_strong C__law_sets C_far_pairs C__law_steps C__law_some_web
end Sd
open PySem PySem.W PyProof.Rows
set_option maxHeartbeats 0 in
theorem PySem.Challenge.cw_chasedwebs_k49_whole_strong_dimensions_holds : PySem.Challenge.rw_chasedwebs_k49_whole_strong_dimensions.Holds := by
  w_on; o_law; k_head; (case hw => w_witness2)
  k_fill
  refine L2.walk_of (l := PySem.Challenge.rw_chasedwebs_k49_whole_strong_dimensions) (n := 63) (k := 7) (x := "script") (CX := fun _ => L2.CX0) (sp := fun w => Sd.spLaw _) rfl (by decide) rfl ⟨rfl, by decide, by decide⟩ (fun w h Y => PySem.W.kIn_of Y) ?F (fun _ _ a ns hl _ hS => ⟨a, ns, rfl, hS, hl, fun _ => rfl⟩) (fun _ _ _ _ _ h => h)
  case F =>
    intro w mg fa h KX G hmg
    refine' Sd.all_mk KX G hmg ?a0 ?l0 ?c0 ?k0 ?a1 ?l1 ?c1 ?k1 ?a2 ?l2 ?c2 ?k2 ?a3 ?l3 ?c3 ?k3 ?a4 ?l4 ?c4 ?k4 ?a5 ?l5 ?c5 ?k5 ?a6 ?l6 ?c6 ?k6 ?a7 ?l7 ?c7 ?k7 ?a8 ?l8 ?c8 ?k8 ?a9 ?l9 ?c9 ?k9 ?a10 ?l10 ?c10 ?k10 ?a11 ?l11 ?c11 ?k11 ?a12 ?l12 ?c12 ?k12 ?a13 ?l13 ?c13 ?k13 ?a14 ?l14 ?c14 ?k14 ?a15 ?l15 ?c15 ?k15 ?a16 ?l16 ?c16 ?k16 ?a17 ?l17 ?c17 ?k17 ?a18 ?l18 ?c18 ?k18 ?a19 ?l19 ?c19 ?k19 ?a20 ?l20 ?c20 ?k20 ?a21 ?l21 ?c21 ?k21 ?a22 ?l22 ?c22 ?k22 ?a23 ?l23 ?c23 ?k23 ?a24 ?l24 ?c24 ?k24 ?a25 ?l25 ?c25 ?k25 ?z_sorted ?z_len ?z_range ?z_any ?z_all ?z_min ?z_isinstance ?z_bool ?z_int ?z_str ?z_tuple ?z_list ?z_set ?z_max ?z_abs
    (case a0 => k_is); (case l0 => k_is); (case c0 => k_is); (case k0 => k_is); (case a1 => k_is); (case l1 => k_is); (case c1 => k_is); (case k1 => k_is); (case a2 => k_is); (case l2 => k_is); (case c2 => k_is); (case k2 => k_is); (case a3 => k_is); (case l3 => k_is); (case c3 => k_is); (case k3 => k_is); (case a4 => k_is); (case l4 => k_is); (case c4 => k_is); (case k4 => k_is); (case a5 => k_is); (case l5 => k_is); (case c5 => k_is); (case k5 => k_is); (case a6 => k_is); (case l6 => k_is); (case c6 => k_is); (case k6 => k_is); (case a7 => k_is); (case l7 => k_is); (case c7 => k_is); (case k7 => k_is); (case a8 => k_is); (case l8 => k_is); (case c8 => k_is); (case k8 => k_is); (case a9 => k_is); (case l9 => k_is); (case c9 => k_is); (case k9 => k_is); (case a10 => k_is); (case l10 => k_is); (case c10 => k_is); (case k10 => k_is); (case a11 => k_is); (case l11 => k_is); (case c11 => k_is); (case k11 => k_is); (case a12 => k_is); (case l12 => k_is); (case c12 => k_is); (case k12 => k_is); (case a13 => k_is); (case l13 => k_is); (case c13 => k_is); (case k13 => k_is); (case a14 => k_is); (case l14 => k_is); (case c14 => k_is); (case k14 => k_is); (case a15 => k_is); (case l15 => k_is); (case c15 => k_is); (case k15 => k_is); (case a16 => k_is); (case l16 => k_is); (case c16 => k_is); (case k16 => k_is); (case a17 => k_is); (case l17 => k_is); (case c17 => k_is); (case k17 => k_is); (case a18 => k_is); (case l18 => k_is); (case c18 => k_is); (case k18 => k_is); (case a19 => k_is); (case l19 => k_is); (case c19 => k_is); (case k19 => k_is); (case a20 => k_is); (case l20 => k_is); (case c20 => k_is); (case k20 => k_is); (case a21 => k_is); (case l21 => k_is); (case c21 => k_is); (case k21 => k_is); (case a22 => k_is); (case l22 => k_is); (case c22 => k_is); (case k22 => k_is); (case a23 => k_is); (case l23 => k_is); (case c23 => k_is); (case k23 => k_is); (case a24 => k_is); (case l24 => k_is); (case c24 => k_is); (case k24 => k_is); (case a25 => k_is); (case l25 => k_is); (case c25 => k_is); (case k25 => k_is); (case z_sorted => k_is); (case z_len => k_is); (case z_range => k_is); (case z_any => k_is); (case z_all => k_is); (case z_min => k_is); (case z_isinstance => k_is); (case z_bool => k_is); (case z_int => k_is); (case z_str => k_is); (case z_tuple => k_is); (case z_list => k_is); (case z_set => k_is); (case z_max => k_is); (case z_abs => k_is)
