import PyProof.Rows.All
import Wide.All
import OpenK.AllK
import Wide.FinOn
import KE.KStateDown
import PySem.Challenge.RW_boundorvoid_k43_whole_kept_lots_and_smal
import HandS.ForMost
import HandS.Walk
import HandS.Deep
import HandS.Lambda
import HandS.DictComp
import HandS.TupAny
import HandS.Style
import HandS.IsInst
import HandS.TupSets
import HandS.SetTxt0
import KE.SortKeyHeap
import HandS.Strs
import HandS.ExcValue
import KE.KDictKeyed
import HandS.TupLen
import KE.KDictList
import KE.KDictWalk
import KE.GoesEnum
import HandS.Nested
import KE.DataCmp
import KE.DataMinMax
import HandS.Text
import HandS.Iter
import HandS.EndTab
import KE.RegKIsAll
import KE.KNestM
section TKa
set_option Elab.async false
set_option linter.all false
set_option maxRecDepth 100000
set_option maxHeartbeats 4000000
/-! Ka: an abstract environment over the hand layer. Slots hold data (whatever stands on tuples, lists that nobody changes any more), or a container
that this frame alone still changes. A reading tells what an expression gives over such an environment; heaps are out of sight from here on. -/
namespace Kb
open PySem PySem.Spec PyProof.Rows L2

/-! ### data -/
/-- a tuple, its object told or not -/
inductive TuO (xs : List V) : HO → Prop
  | t : TuO xs (.tup xs)
  | f (ob : Obj) : TuO xs (.frz ob (.tup xs))
theorem TuO.sq {K : PySem.W.Frag} {F : Hp} {a : Addr} {o : HO} {xs : List V} (h : F a = some o) (t : TuO xs o) : SqT K F a xs := by
  cases t with
  | t => exact SqT.of h
  | f ob => exact .inl (.inr ⟨ob, h⟩)
mutual
inductive Rp (F : Hp) : V → PyData → Prop
  | non : Rp F .non .none
  | bl (b : Bool) : Rp F (.bl b) (.bool b)
  | int (i : Int) : Rp F (.int i) (.int i)
  | str (x : Str) : Rp F (.str x) (.str x)
  | lst {a : Addr} {xs : List V} {ds : List PyData} : F a = some (.lst xs) → RpL F xs ds → Rp F (.ref a) (.list ds)
  | tup {a : Addr} {o : HO} {xs : List V} {ds : List PyData} : F a = some o → TuO xs o → RpL F xs ds → Rp F (.ref a) (.tuple ds)
inductive RpL (F : Hp) : List V → List PyData → Prop
  | nil : RpL F [] []
  | cons {v : V} {vs : List V} {d : PyData} {ds : List PyData} : Rp F v d → RpL F vs ds → RpL F (v :: vs) (d :: ds)
end

mutual
theorem Rp.mono {F F' : Hp} (e : Same F F') : ∀ (d : PyData) (v : V), Rp F v d → Rp F' v d
  | .none, _, h => by cases h; exact .non
  | .bool _, _, h => by cases h; exact .bl _
  | .int _, _, h => by cases h; exact .int _
  | .str _, _, h => by cases h; exact .str _
  | .list ds, _, h => by
    cases h with
    | lst h1 h2 => exact .lst (e _ _ h1) (RpL.mono e ds _ h2)
  | .tuple ds, _, h => by
    cases h with
    | tup h1 ht h2 => exact .tup (e _ _ h1) ht (RpL.mono e ds _ h2)
  | .dict _, _, h => by cases h
theorem RpL.mono {F F' : Hp} (e : Same F F') : ∀ (ds : List PyData) (vs : List V), RpL F vs ds → RpL F' vs ds
  | [], _, h => by cases h; exact .nil
  | d :: ds, _, h => by
    cases h with
    | cons h1 h2 => exact .cons (Rp.mono e d _ h1) (RpL.mono e ds _ h2)
end

mutual
theorem Rp.dp {K : PySem.W.Frag} {F : Hp} : ∀ (d : PyData) (v : V), Rp F v d → Dp K F v d
  | .none, _, h => by cases h; exact .non
  | .bool _, _, h => by cases h; exact .bl _
  | .int _, _, h => by cases h; exact .int _
  | .str _, _, h => by cases h; exact .str _
  | .list ds, _, h => by
    cases h with
    | lst h1 h2 => exact .lst (SqL.of h1) (RpL.dp ds _ h2)
  | .tuple ds, _, h => by
    cases h with
    | tup h1 ht h2 => exact .tup (ht.sq h1) (RpL.dp ds _ h2)
  | .dict _, _, h => by cases h
theorem RpL.dp {K : PySem.W.Frag} {F : Hp} : ∀ (ds : List PyData) (vs : List V), RpL F vs ds → DpAll K F vs ds
  | [], _, h => by cases h; exact .nil
  | d :: ds, _, h => by
    cases h with
    | cons h1 h2 => exact .cons (Rp.dp d _ h1) (RpL.dp ds _ h2)
end

theorem RpL.len {F : Hp} : ∀ {vs : List V} {ds : List PyData}, RpL F vs ds → vs.length = ds.length
  | _, _, .nil => rfl
  | _, _, .cons _ t => congrArg (· + 1) (RpL.len t)
theorem RpL.get {F : Hp} : ∀ {vs : List V} {ds : List PyData} {i : Nat} {v : V}, RpL F vs ds → vs[i]? = some v → ∃ d, ds[i]? = some d ∧ Rp F v d
  | _, _, _, _, .nil, e => by simp at e
  | _, _, 0, _, .cons r _, e => by
    simp at e
    subst e
    exact ⟨_, rfl, r⟩
  | _, _, i + 1, _, .cons _ t, e => by
    obtain ⟨d, h1, h2⟩ := RpL.get (i := i) t (by simpa using e)
    exact ⟨d, by simpa using h1, h2⟩
theorem RpL.at {F : Hp} : ∀ {vs : List V} {ds : List PyData} {i : Nat} {d : PyData}, RpL F vs ds → ds[i]? = some d → ∃ v, vs[i]? = some v ∧ Rp F v d
  | _, _, _, _, .nil, e => by simp at e
  | _, _, 0, _, .cons r _, e => by
    simp at e
    subst e
    exact ⟨_, rfl, r⟩
  | _, _, i + 1, _, .cons _ t, e => by
    obtain ⟨d, h1, h2⟩ := RpL.at (i := i) t (by simpa using e)
    exact ⟨d, by simpa using h1, h2⟩
theorem RpL.app {F : Hp} : ∀ {vs us : List V} {ds es : List PyData}, RpL F vs ds → RpL F us es → RpL F (vs ++ us) (ds ++ es)
  | _, _, _, _, .nil, s => s
  | _, _, _, _, .cons r t, s => .cons r (RpL.app t s)
theorem RpL.one {F : Hp} {v : V} {d : PyData} (h : Rp F v d) : RpL F [v] [d] := .cons h .nil
theorem RpL.take {F : Hp} : ∀ {vs : List V} {ds : List PyData} (n : Nat), RpL F vs ds → RpL F (vs.take n) (ds.take n)
  | _, _, 0, _ => .nil
  | _, _, _ + 1, .nil => .nil
  | _, _, n + 1, .cons r t => .cons r (RpL.take n t)
theorem RpL.drop {F : Hp} : ∀ {vs : List V} {ds : List PyData} (n : Nat), RpL F vs ds → RpL F (vs.drop n) (ds.drop n)
  | _, _, 0, r => r
  | _, _, _ + 1, .nil => .nil
  | _, _, n + 1, .cons _ t => RpL.drop n t
theorem RpL.rev {F : Hp} : ∀ {vs : List V} {ds : List PyData}, RpL F vs ds → RpL F vs.reverse ds.reverse
  | _, _, .nil => .nil
  | _, _, .cons r t => by
    rw [List.reverse_cons, List.reverse_cons]
    exact (RpL.rev t).app (.one r)
theorem RpL.set {F : Hp} {v : V} {d : PyData} (r : Rp F v d) : ∀ {vs : List V} {ds : List PyData} (n : Nat), RpL F vs ds → RpL F (vs.set n v) (ds.set n d)
  | _, _, _, .nil => .nil
  | _, _, 0, .cons _ t => .cons r t
  | _, _, n + 1, .cons q t => .cons q (RpL.set r n t)
theorem RpL.erase {F : Hp} : ∀ {vs : List V} {ds : List PyData} (n : Nat), RpL F vs ds → RpL F (vs.eraseIdx n) (ds.eraseIdx n)
  | _, _, _, .nil => .nil
  | _, _, 0, .cons _ t => t
  | _, _, n + 1, .cons q t => .cons q (RpL.erase n t)
theorem Rp.inj_str {F : Hp} {v : V} {x : Str} (h : Rp F v (.str x)) : v = .str x := by cases h; rfl
theorem Rp.inj_int {F : Hp} {v : V} {x : Int} (h : Rp F v (.int x)) : v = .int x := by cases h; rfl
theorem Rp.inj_bl {F : Hp} {v : V} {x : Bool} (h : Rp F v (.bool x)) : v = .bl x := by cases h; rfl
theorem Rp.inj_non {F : Hp} {v : V} (h : Rp F v .none) : v = .non := by cases h; rfl
theorem RpL.strs {F : Hp} : ∀ {vs : List V} {xs : List Str}, RpL F vs (xs.map .str) → vs = xs.map .str
  | _, [], h => by cases h; rfl
  | _, x :: xs, h => by
    cases h with
    | cons h1 h2 =>
      cases h1
      rw [RpL.strs h2]
      rfl
theorem RpL.ints {F : Hp} : ∀ {vs : List V} {xs : List Int}, RpL F vs (xs.map .int) → vs = xs.map .int
  | _, [], h => by cases h; rfl
  | _, x :: xs, h => by
    cases h with
    | cons h1 h2 =>
      cases h1
      rw [RpL.ints h2]
      rfl
theorem RpL.bls {F : Hp} : ∀ {vs : List V} {xs : List Bool}, RpL F vs (xs.map .bool) → vs = xs.map .bl
  | _, [], h => by cases h; rfl
  | _, x :: xs, h => by
    cases h with
    | cons h1 h2 =>
      cases h1
      rw [RpL.bls h2]
      rfl
theorem RpL.of_strs {F : Hp} : ∀ xs : List Str, RpL F (xs.map .str) (xs.map .str)
  | [] => .nil
  | x :: xs => .cons (.str x) (RpL.of_strs xs)

/-! ### what a slot holds -/
/-- a value's kind: what is true of it over the heap of what nobody changes -/
structure Ty where
  ok : Hp → V → Prop
  mono : ∀ {F F' : Hp} {v : V}, Same F F' → ok F v → ok F' v
/-- data -/
def Dt (d : PyData) : Ty := ⟨fun F v => Rp F v d, fun e h => Rp.mono e d _ h⟩
/-- a container at an address, its things over the heap of what nobody changes -/
structure Mt where
  ok : Addr → Hp → HO → Prop
  mono : ∀ {F F' : Hp} {p : Addr} {o : HO}, Same F F' → ok p F o → ok p F' o
  nc : ∀ {F : Hp} {p : Addr} {o : HO}, ok p F o → ∀ (c : Addr) (q : Str), o ≠ LamX.CodeO c q
def mL (ds : List PyData) : Mt := ⟨fun _ F o => ∃ vs, o = .lst vs ∧ RpL F vs ds, fun e ⟨vs, h1, h2⟩ => ⟨vs, h1, RpL.mono e ds vs h2⟩, fun ⟨vs, h1, _⟩ c q z => by rw [h1] at z; cases z⟩
def mT (ds : List PyData) : Mt := ⟨fun _ F o => ∃ vs, TuO vs o ∧ RpL F vs ds, fun e ⟨vs, h1, h2⟩ => ⟨vs, h1, RpL.mono e ds vs h2⟩, fun ⟨vs, h1, _⟩ c q z => by rw [z] at h1; cases h1⟩
/-- some one of several kinds -/
def Ty.ex {α : Type} (p : α → Prop) (t : α → Ty) : Ty := ⟨fun F v => ∃ a, p a ∧ (t a).ok F v, fun e ⟨a, h1, h2⟩ => ⟨a, h1, (t a).mono e h2⟩⟩
/-- a kind that no object is needed for -/
def Ty.flat (t : Ty) : Prop := ∀ (F F' : Hp) (v : V), t.ok F v → t.ok F' v
theorem flat_int (i : Int) : (Dt (.int i)).flat := fun F F' v h => by cases (show Rp F v _ from h); exact .int i
theorem flat_bl (i : Bool) : (Dt (.bool i)).flat := fun F F' v h => by cases (show Rp F v _ from h); exact .bl i
theorem flat_str (i : Str) : (Dt (.str i)).flat := fun F F' v h => by cases (show Rp F v _ from h); exact .str i
theorem flat_non : (Dt .none).flat := fun F F' v h => by cases (show Rp F v _ from h); exact .non

inductive AV where
  | im (t : Ty) | mu (m : Mt) | dl
abbrev En := List (Option AV)

/-! ### the state -/
/-- what changes under all: the table of the lambda's code object; in the law's own draws, the deal and its cells -/
structure Zn where
  tb : Addr
  qn : Str
  q : Option (Addr × Addr)
def Zn.out (Z : Zn) (a : Addr) : Prop := a = Z.tb ∨ ∃ p, Z.q = some p ∧ (a = p.1 ∨ a = p.2)
/-- the deal: a list of a list of cells and a number -/
def Deal (H : Hp) (q l : Addr) : Prop := ∃ (cs : List Int) (b : Int), H q = some (.lst [.ref l, .int b]) ∧ H l = some (.lst (cs.map V.int)) ∧ cs.length ≤ 63 ∧ (∀ c ∈ cs, 0 ≤ c) ∧ 0 ≤ b ∧ b < 2147483647
structure Zn.ok (Z : Zn) (H : Hp) : Prop where
  tab : LamX.TabS H Z.tb Z.qn
  deal : ∀ p, Z.q = some p → Deal H p.1 p.2
theorem Zn.ok.there {Z : Zn} {H : Hp} (k : Z.ok H) {a : Addr} (h : Z.out a) : H a ≠ none := by
  rcases h with e | ⟨p, e, h⟩
  · obtain ⟨ps, h1, _⟩ := k.tab
    rw [e, h1]
    intro z
    cases z
  · obtain ⟨cs, b, h1, h2, _⟩ := k.deal p e
    rcases h with h | h
    · rw [h, h1]
      intro z
      cases z
    · rw [h, h2]
      intro z
      cases z
/-- from a heap to a later one: F, of what nobody changes, grows by new things alone; nothing but the outs changes -/
structure Go (Z : Zn) (F H F' H' : Hp) : Prop where
  f : Same F F'
  fh : Same F' H'
  h : ∀ a o, ¬ Z.out a → H a = some o → H' a = some o
  nw : ∀ a, F a = none → H a ≠ none → F' a = none
  zk : Z.ok H'
theorem Go.trans {Z : Zn} {F H F1 H1 F2 H2 : Hp} (k : Z.ok H1) (a : Go Z F H F1 H1) (b : Go Z F1 H1 F2 H2) : Go Z F H F2 H2 where
  f := a.f.trans b.f
  fh := b.fh
  h := fun x o n e => b.h x o n (a.h x o n e)
  nw := fun x h1 h2 => b.nw x (a.nw x h1 h2) (by
    by_cases hx : Z.out x
    · exact k.there hx
    · cases e : H x with
      | none => exact absurd e h2
      | some o =>
        rw [a.h x o hx e]
        intro z
        cases z)
  zk := b.zk
theorem Go.tr {Z : Zn} {F H F1 H1 F2 H2 : Hp} (a : Go Z F H F1 H1) (b : Go Z F1 H1 F2 H2) : Go Z F H F2 H2 := a.trans a.zk b
theorem Go.rfl {Z : Zn} {F H : Hp} (fh : Same F H) (k : Z.ok H) : Go Z F H F H := ⟨Same.refl F, fh, fun _ _ _ e => e, fun _ h _ => h, k⟩
theorem Zn.ok.new {Z : Zn} {H : Hp} {p : Addr} {o : HO} (k : Z.ok H) (h : H p = none) : Z.ok (upd H p o) := by
  have s : Same H (upd H p o) := fun b u e => by
    rw [upd_ne (ne_of_none e h)]
    exact e
  refine ⟨k.tab.ext s, fun q e => ?_⟩
  obtain ⟨cs, b, h1, h2, r⟩ := k.deal q e
  exact ⟨cs, b, s _ _ h1, s _ _ h2, r⟩
theorem same_new {H : Hp} {p : Addr} {o : HO} (h : H p = none) : Same H (upd H p o) := fun b u e => by
  rw [upd_ne (ne_of_none e h)]
  exact e
/-- a new object, of which nobody knows yet -/
theorem Go.new {Z : Zn} {F H : Hp} {p : Addr} {o : HO} (fh : Same F H) (k : Z.ok H) (h : H p = none) : Go Z F H F (upd H p o) :=
  ⟨Same.refl F, fh.trans (same_new h), fun a u _ e => same_new h a u e, fun _ h _ => h, k.new h⟩
/-- a new object that nobody changes -/
theorem Go.put {Z : Zn} {F H : Hp} {p : Addr} {o : HO} (fh : Same F H) (k : Z.ok H) (h : H p = none) : Go Z F H (upd F p o) (upd H p o) := by
  have hf : F p = none := fh.free h
  refine ⟨same_new hf, fun a u e => ?_, fun a u _ e => same_new h a u e, fun a h1 h2 => ?_, k.new h⟩
  · by_cases ha : a = p
    · subst ha
      rw [upd_same] at e ⊢
      exact e
    · rw [upd_ne ha] at e ⊢
      exact fh _ _ e
  · have ha : a ≠ p := fun z => h2 (by rw [z]; exact h)
    rw [upd_ne ha]
    exact h1
/-- what was new and unknown is from now on what nobody changes -/
theorem Go.keep {Z : Zn} {F H F' H' : Hp} {p : Addr} {o : HO} (g : Go Z F H F' H') (h : H p = none) (h' : H' p = some o) (n : F' p = none) : Go Z F H (upd F' p o) H' := by
  refine ⟨g.f.trans (same_new n), fun a u e => ?_, g.h, fun a h1 h2 => ?_, g.zk⟩
  · by_cases ha : a = p
    · subst ha
      rw [upd_same] at e
      rw [← e]
      exact h'
    · rw [upd_ne ha] at e
      exact g.fh _ _ e
  · have ha : a ≠ p := fun z => h2 (by rw [z]; exact h)
    rw [upd_ne ha]
    exact g.nw a h1 h2

structure St (Z : Zn) (F0 G F H : Hp) (σ : L2.St) (ρ : En) : Prop where
  go : Go Z F0 G F H
  zo : ∀ a, Z.out a → F a = none
  len : σ.length = ρ.length
  im : ∀ (i : Nat) (t : Ty), ρ[i]? = some (some (.im t)) → ∃ v, σ[i]? = some (some v) ∧ t.ok F v
  mu : ∀ (i : Nat) (m : Mt), ρ[i]? = some (some (.mu m)) → ∃ p o, σ[i]? = some (some (.ref p)) ∧ H p = some o ∧ m.ok p F o ∧ F p = none ∧ G p = none ∧ ¬ Z.out p
  ap : ∀ (i j : Nat) (m n : Mt) (p q : Addr), i ≠ j → ρ[i]? = some (some (.mu m)) → ρ[j]? = some (some (.mu n)) → σ[i]? = some (some (.ref p)) → σ[j]? = some (some (.ref q)) → p ≠ q
  dl : ∀ i : Nat, ρ[i]? = some (some .dl) → ∃ p, Z.q = some p ∧ σ[i]? = some (some (.ref p.1))
section
variable {Z : Zn} {F0 G F H F' H' : Hp} {σ : L2.St} {ρ : En}
theorem St.mv (s : St Z F0 G F H σ ρ) (g : Go Z F H F' H') : St Z F0 G F' H' σ ρ where
  go := s.go.tr g
  zo := fun a h => g.nw a (s.zo a h) (s.go.zk.there h)
  len := s.len
  im := fun i t h => by
    obtain ⟨v, h1, h2⟩ := s.im i t h
    exact ⟨v, h1, t.mono g.f h2⟩
  mu := fun i m h => by
    obtain ⟨p, o, h1, h2, h3, h4, h5, h6⟩ := s.mu i m h
    exact ⟨p, o, h1, g.h p o h6 h2, m.mono g.f h3, g.nw p h4 (by rw [h2]; intro z; cases z), h5, h6⟩
  ap := s.ap
  dl := s.dl
theorem St.fh (s : St Z F0 G F H σ ρ) : Same F H := s.go.fh
theorem St.zk (s : St Z F0 G F H σ ρ) : Z.ok H := s.go.zk
theorem St.self (s : St Z F0 G F H σ ρ) : Go Z F H F H := Go.rfl s.fh s.zk
theorem gt_set {α : Type} {l : List α} {i j : Nat} {x y : α} (h : (l.set i x)[j]? = some y) : (j = i ∧ x = y) ∨ (j ≠ i ∧ l[j]? = some y) := by
  by_cases e : j = i
  · subst e
    rw [List.getElem?_set] at h
    simp only [if_true] at h
    split at h
    · exact .inl ⟨rfl, Option.some.inj h⟩
    · cases h
  · rw [List.getElem?_set_ne (Ne.symm e)] at h
    exact .inr ⟨e, h⟩
theorem St.lt (s : St Z F0 G F H σ ρ) {i : Nat} (h : i < ρ.length) : i < σ.length := by
  rw [s.len]
  exact h
/-- a slot is stored -/
theorem St.setI (s : St Z F0 G F H σ ρ) {i : Nat} {v : V} {t : Ty} (hi : i < ρ.length) (h : t.ok F v) : St Z F0 G F H (σ.set i (some v)) (ρ.set i (some (.im t))) where
  go := s.go
  zo := s.zo
  len := by rw [List.length_set, List.length_set, s.len]
  im := fun j u hj => by
    rcases gt_set hj with ⟨e, hu⟩ | ⟨e, hu⟩
    · cases hu
      refine ⟨v, ?_, h⟩
      rw [e, List.getElem?_set_self (s.lt hi)]
    · obtain ⟨w, h1, h2⟩ := s.im j u hu
      exact ⟨w, by rw [List.getElem?_set_ne (Ne.symm e)]; exact h1, h2⟩
  mu := fun j u hj => by
    rcases gt_set hj with ⟨e, hu⟩ | ⟨e, hu⟩
    · cases hu
    · obtain ⟨p, o, h1, h2⟩ := s.mu j u hu
      exact ⟨p, o, by rw [List.getElem?_set_ne (Ne.symm e)]; exact h1, h2⟩
  ap := fun j k m n p q jk hj hk hp hq => by
    rcases gt_set hj with ⟨e, hu⟩ | ⟨e, hu⟩
    · cases hu
    · rcases gt_set hk with ⟨e', hu'⟩ | ⟨e', hu'⟩
      · cases hu'
      · rw [List.getElem?_set_ne (Ne.symm e)] at hp
        rw [List.getElem?_set_ne (Ne.symm e')] at hq
        exact s.ap j k m n p q jk hu hu' hp hq
  dl := fun j hj => by
    rcases gt_set hj with ⟨e, hu⟩ | ⟨e, hu⟩
    · cases hu
    · obtain ⟨p, h1, h2⟩ := s.dl j hu
      exact ⟨p, h1, by rw [List.getElem?_set_ne (Ne.symm e)]; exact h2⟩
/-- a slot is forgotten -/
theorem St.drop (s : St Z F0 G F H σ ρ) {i : Nat} {x : Option V} : St Z F0 G F H (σ.set i x) (ρ.set i none) where
  go := s.go
  zo := s.zo
  len := by rw [List.length_set, List.length_set, s.len]
  im := fun j u hj => by
    rcases gt_set hj with ⟨e, hu⟩ | ⟨e, hu⟩
    · cases hu
    · obtain ⟨w, h1, h2⟩ := s.im j u hu
      exact ⟨w, by rw [List.getElem?_set_ne (Ne.symm e)]; exact h1, h2⟩
  mu := fun j u hj => by
    rcases gt_set hj with ⟨e, hu⟩ | ⟨e, hu⟩
    · cases hu
    · obtain ⟨p, o, h1, h2⟩ := s.mu j u hu
      exact ⟨p, o, by rw [List.getElem?_set_ne (Ne.symm e)]; exact h1, h2⟩
  ap := fun j k m n p q jk hj hk hp hq => by
    rcases gt_set hj with ⟨e, hu⟩ | ⟨e, hu⟩
    · cases hu
    · rcases gt_set hk with ⟨e', hu'⟩ | ⟨e', hu'⟩
      · cases hu'
      · rw [List.getElem?_set_ne (Ne.symm e)] at hp
        rw [List.getElem?_set_ne (Ne.symm e')] at hq
        exact s.ap j k m n p q jk hu hu' hp hq
  dl := fun j hj => by
    rcases gt_set hj with ⟨e, hu⟩ | ⟨e, hu⟩
    · cases hu
    · obtain ⟨p, h1, h2⟩ := s.dl j hu
      exact ⟨p, h1, by rw [List.getElem?_set_ne (Ne.symm e)]; exact h2⟩
/-- a slot is stored: a container made on the way -/
theorem St.setM (s : St Z F0 G F H σ ρ) {i : Nat} {p : Addr} {o : HO} {m : Mt} (hi : i < ρ.length) (g : Go Z F H F' H') (hn : H p = none) (hp : H' p = some o) (hf : F' p = none) (h : m.ok p F' o) :
    St Z F0 G F' H' (σ.set i (some (.ref p))) (ρ.set i (some (.mu m))) := by
  have s' := s.mv g
  have npo : ¬ Z.out p := fun z => s.zk.there z hn
  have ngp : G p = none := by
    cases e : G p with
    | none => rfl
    | some u =>
      rw [s.go.h p u npo e] at hn
      cases hn
  have apart : ∀ (j : Nat) (n : Mt) (q : Addr), ρ[j]? = some (some (.mu n)) → σ[j]? = some (some (.ref q)) → q ≠ p := fun j n q h1 h2 e => by
    obtain ⟨r, u, a1, a2, _⟩ := s.mu j n h1
    rw [h2] at a1
    cases a1
    rw [e, hn] at a2
    cases a2
  refine ⟨s'.go, s'.zo, by rw [List.length_set, List.length_set, s.len], fun j u hj => ?_, fun j u hj => ?_, fun j k m' n q r jk hj hk hq hr => ?_, fun j hj => ?_⟩
  · rcases gt_set hj with ⟨e, hu⟩ | ⟨e, hu⟩
    · cases hu
    · obtain ⟨w, h1, h2⟩ := s'.im j u hu
      exact ⟨w, by rw [List.getElem?_set_ne (Ne.symm e)]; exact h1, h2⟩
  · rcases gt_set hj with ⟨e, hu⟩ | ⟨e, hu⟩
    · cases hu
      exact ⟨p, o, by rw [e, List.getElem?_set_self (s.lt hi)], hp, h, hf, ngp, npo⟩
    · obtain ⟨q, u, h1, h2⟩ := s'.mu j u hu
      exact ⟨q, u, by rw [List.getElem?_set_ne (Ne.symm e)]; exact h1, h2⟩
  · rcases gt_set hj with ⟨e, hu⟩ | ⟨e, hu⟩
    · rcases gt_set hk with ⟨e', hu'⟩ | ⟨e', hu'⟩
      · exact absurd (e.trans e'.symm) jk
      · rw [List.getElem?_set_ne (Ne.symm e')] at hr
        rw [e, List.getElem?_set_self (s.lt hi)] at hq
        cases hq
        exact (apart k n r hu' hr).symm
    · rw [List.getElem?_set_ne (Ne.symm e)] at hq
      rcases gt_set hk with ⟨e', hu'⟩ | ⟨e', hu'⟩
      · rw [e', List.getElem?_set_self (s.lt hi)] at hr
        cases hr
        exact apart j m' q hu hq
      · rw [List.getElem?_set_ne (Ne.symm e')] at hr
        exact s.ap j k m' n q r jk hu hu' hq hr
  · rcases gt_set hj with ⟨e, hu⟩ | ⟨e, hu⟩
    · cases hu
    · obtain ⟨q, h1, h2⟩ := s.dl j hu
      exact ⟨q, h1, by rw [List.getElem?_set_ne (Ne.symm e)]; exact h2⟩
/-- a container is changed -/
theorem St.chg (s : St Z F0 G F H σ ρ) {i : Nat} {p : Addr} {o : HO} {m n : Mt} (hi : ρ[i]? = some (some (.mu m))) (hp : σ[i]? = some (some (.ref p))) (h : n.ok p F o) :
    St Z F0 G F (upd H p o) σ (ρ.set i (some (.mu n))) := by
  obtain ⟨r, u, a1, a2, a3, a4, a5, a6⟩ := s.mu i m hi
  rw [hp] at a1
  cases a1
  have hil : i < ρ.length := (List.getElem?_eq_some_iff.mp hi).1
  have sm : ∀ a w, a ≠ p → H a = some w → upd H p o a = some w := fun a w ha e => by
    rw [upd_ne ha]
    exact e
  have out : ∀ a, Z.out a → upd H p o a = H a := fun a ha => upd_ne (fun z => a6 (by rw [← z]; exact ha))
  refine ⟨⟨s.go.f, fun a w e => ?_, fun a w na e => ?_, s.go.nw, ⟨?_, fun z e => ?_⟩⟩, s.zo, by rw [List.length_set, s.len], fun j u hj => ?_, fun j u hj => ?_, fun j k m' n' q r jk hj hk hq hr => ?_, fun j hj => ?_⟩
  · exact sm a w (fun z => by rw [z, a4] at e; cases e) (s.fh a w e)
  · exact sm a w (fun z => by rw [z, a5] at e; cases e) (s.go.h a w na e)
  · obtain ⟨ps, h1, h2, h3⟩ := s.zk.tab
    refine ⟨ps, ?_, h2, fun pos cv hc => ?_⟩
    · rw [out _ (.inl rfl)]
      exact h1
    · obtain ⟨c, e1, e2⟩ := h3 pos cv hc
      refine ⟨c, e1, ?_⟩
      by_cases hc : c = p
      · rw [hc, a2] at e2
        rw [← hc] at e2
        exact absurd (Option.some.inj e2) (m.nc a3 c Z.qn)
      · rw [upd_ne hc]
        exact e2
  · obtain ⟨cs, b, h1, h2, r⟩ := s.zk.deal z e
    exact ⟨cs, b, by rw [out _ (.inr ⟨z, e, .inl rfl⟩)]; exact h1, by rw [out _ (.inr ⟨z, e, .inr rfl⟩)]; exact h2, r⟩
  · rcases gt_set hj with ⟨e, hu⟩ | ⟨e, hu⟩
    · cases hu
    · exact s.im j u hu
  · rcases gt_set hj with ⟨e, hu⟩ | ⟨e, hu⟩
    · cases hu
      exact ⟨p, o, by rw [e]; exact hp, upd_same, h, a4, a5, a6⟩
    · obtain ⟨q, w, h1, h2, h3⟩ := s.mu j u hu
      exact ⟨q, w, h1, sm q w (s.ap j i u m q p e hu hi h1 hp) h2, h3⟩
  · have hj' : ∃ m'', ρ[j]? = some (some (.mu m'')) := by
      rcases gt_set hj with ⟨e, hu⟩ | ⟨e, hu⟩
      · exact ⟨m, by rw [e]; exact hi⟩
      · exact ⟨_, hu⟩
    have hk' : ∃ m'', ρ[k]? = some (some (.mu m'')) := by
      rcases gt_set hk with ⟨e, hu⟩ | ⟨e, hu⟩
      · exact ⟨m, by rw [e]; exact hi⟩
      · exact ⟨_, hu⟩
    obtain ⟨_, hj'⟩ := hj'
    obtain ⟨_, hk'⟩ := hk'
    exact s.ap j k _ _ q r jk hj' hk' hq hr
  · rcases gt_set hj with ⟨e, hu⟩ | ⟨e, hu⟩
    · cases hu
    · exact s.dl j hu
end
end Kb
end TKa
section TKc
set_option Elab.async false
set_option linter.all false
set_option maxRecDepth 100000
set_option maxHeartbeats 4000000
/-! Kc: readings over the abstract environment; names, constants, numbers, tests, displays, calls. -/
namespace Kb
open PySem PySem.Spec PyProof.Rows L2

/-! ### what an operand is -/
structure Od (Z : Zn) where
  ok : Hp → Hp → V → Prop
  mv : ∀ {F H F' H' : Hp} {v : V}, Go Z F H F' H' → ok F H v → ok F' H' v
def Ty.od {Z : Zn} (t : Ty) : Od Z := ⟨fun F _ v => t.ok F v, fun g h => t.mono g.f h⟩
/-- a container, looked at -/
def Mt.od {Z : Zn} (m : Mt) : Od Z := ⟨fun F H v => ∃ p o, v = .ref p ∧ H p = some o ∧ m.ok p F o ∧ ¬ Z.out p, fun g ⟨p, o, h1, h2, h3, h4⟩ => ⟨p, o, h1, g.h p o h4 h2, m.mono g.f h3, h4⟩⟩
open Classical in
noncomputable def clr (Z : Zn) (H : Hp) : Hp := fun a => if Z.out a then none else H a
theorem clr_at {Z : Zn} {H : Hp} {a : Addr} (n : ¬ Z.out a) : clr Z H a = H a := by unfold clr; exact if_neg n
theorem clr_out {Z : Zn} {H : Hp} {a : Addr} (n : Z.out a) : clr Z H a = none := by unfold clr; exact if_pos n
theorem clr_same {Z : Zn} {H : Hp} : Same (clr Z H) H := fun a o e => by
  by_cases n : Z.out a
  · rw [clr_out n] at e
    cases e
  · rw [clr_at n] at e
    exact e
theorem clr_of {Z : Zn} {F H : Hp} (fh : Same F H) (zo : ∀ a, Z.out a → F a = none) : Same F (clr Z H) := fun a o e => by
  by_cases n : Z.out a
  · rw [zo a n] at e
    cases e
  · rw [clr_at n]
    exact fh a o e
theorem clr_go {Z : Zn} {F H F' H' : Hp} (g : Go Z F H F' H') : Same (clr Z H) (clr Z H') := fun a o e => by
  by_cases n : Z.out a
  · rw [clr_out n] at e
    cases e
  · rw [clr_at n] at e ⊢
    exact g.h a o n e
/-- a value that is so now, over all that stands but the outs -/
noncomputable def Ty.bo {Z : Zn} (t : Ty) : Od Z := ⟨fun _ H v => t.ok (clr Z H) v, fun g h => t.mono (clr_go g) h⟩

/-! ### readings -/
def tO (Z : Zn) (ρ : En) (w : Od Z) : TE := fun σ H Q => ∃ F0 G F, St Z F0 G F H σ ρ ∧ ∀ v F' H', Go Z F H F' H' → w.ok F' H' v → Q v H'
/-- a new container -/
def tN (Z : Zn) (ρ : En) (m : Mt) : TE := fun σ H Q => ∃ F0 G F, St Z F0 G F H σ ρ ∧ ∀ p o F' H', Go Z F H F' H' → H p = none → F' p = none → H' p = some o → m.ok p F' o → Q (.ref p) H'
def tP (Z : Zn) (ρ : En) (b : Bool → Prop) : TT := fun σ H Q => ∃ F0 G F, St Z F0 G F H σ ρ ∧ ∀ c F' H', Go Z F H F' H' → b c → Q c H'
inductive OkL {Z : Zn} (F H : Hp) : List V → List (Od Z) → Prop
  | nil : OkL F H [] []
  | cons {v : V} {vs : List V} {w : Od Z} {ws : List (Od Z)} : w.ok F H v → OkL F H vs ws → OkL F H (v :: vs) (w :: ws)
theorem OkL.mv {Z : Zn} {F H F' H' : Hp} (g : Go Z F H F' H') : ∀ {vs : List V} {ws : List (Od Z)}, OkL F H vs ws → OkL F' H' vs ws
  | _, _, .nil => .nil
  | _, _, .cons (w := w) h t => .cons (w.mv g h) (OkL.mv g t)
def tOs (Z : Zn) (ρ : En) (ws : List (Od Z)) : TA := fun σ H Q => ∃ F0 G F, St Z F0 G F H σ ρ ∧ ∀ vs F' H', Go Z F H F' H' → OkL F' H' vs ws → Q vs H'
abbrev tD (Z : Zn) (ρ : En) (d : PyData) : TE := tO Z ρ (Dt d).od
abbrev tQ (Z : Zn) (ρ : En) (b : Bool) : TT := tP Z ρ (· = b)

theorem _root_.L2.PE.imp {X : Cx} {e : Expr} {t t' : TE} (h : PE X e t) (k : ∀ σ H Q, t' σ H Q → t σ H Q) : PE X e t' := ⟨fun pins s σ H Q I q => h.run pins s σ H Q I (k σ H Q q)⟩
theorem _root_.L2.PT.imp {X : Cx} {e : Expr} {t t' : TT} (h : PT X e t) (k : ∀ σ H Q, t' σ H Q → t σ H Q) : PT X e t' := ⟨fun pins s σ H Q I q => h.run pins s σ H Q I (k σ H Q q)⟩
theorem _root_.L2.PA.imp {X : Cx} {e : List Expr} {t t' : TA} (h : PA X e t) (k : ∀ σ H Q, t' σ H Q → t σ H Q) : PA X e t' := ⟨fun pos pins s σ H Q I q => h.run pos pins s σ H Q I (k σ H Q q)⟩
theorem _root_.L2.PS.imp {X : Cx} {e : Stmt} {t t' : TS} (h : PS X e t) (k : ∀ D σ H, t' D σ H → t D σ H) : PS X e t' := ⟨fun pins s σ H D I q => h.run pins s σ H D I (k D σ H q)⟩
theorem _root_.L2.PSs.imp {X : Cx} {e : List Stmt} {t t' : TS} (h : PSs X e t) (k : ∀ D σ H, t' D σ H → t D σ H) : PSs X e t' := ⟨fun pins s σ H D I q => h.run pins s σ H D I (k D σ H q)⟩

section
variable {X : Cx} {Z : Zn} {ρ : En} {e a b c : Expr} {es : List Expr} {pos : Pos} {t : Ty} {m : Mt}

/-! ### one operand handed on, two, a list -/
/-- a value-level one-place reading -/
theorem tO.bind {w : Od Z} {σ : L2.St} {H : Hp} {Q : VK} (h : ∃ F0 G F, St Z F0 G F H σ ρ ∧ ∀ v F' H', St Z F0 G F' H' σ ρ → Go Z F H F' H' → w.ok F' H' v → Q v H') : tO Z ρ w σ H Q := by
  obtain ⟨F0, G, F, s, k⟩ := h
  exact ⟨F0, G, F, s, fun v F' H' g ok => k v F' H' (s.mv g) g ok⟩
/-- what follows an operand, from what is wanted behind -/
theorem tO.use {w w' : Od Z} {σ : L2.St} {H : Hp} {Q Q' : VK} (h : tO Z ρ w' σ H Q)
    (k : ∀ F0 G F H1 v, St Z F0 G F H1 σ ρ → w.ok F H1 v → (∀ u F' H', Go Z F H1 F' H' → w'.ok F' H' u → Q u H') → Q' v H1) : tO Z ρ w σ H Q' := by
  obtain ⟨F0, G, F, s, q⟩ := h
  exact ⟨F0, G, F, s, fun v F' H' g ok => k F0 G F' H' v (s.mv g) ok fun u F2 H2 g2 ok2 => q u F2 H2 (g.tr g2) ok2⟩
theorem tO.useN {w : Od Z} {m' : Mt} {σ : L2.St} {H : Hp} {Q Q' : VK} (h : tN Z ρ m' σ H Q)
    (k : ∀ F0 G F H1 v, St Z F0 G F H1 σ ρ → w.ok F H1 v → (∀ p o F' H', Go Z F H1 F' H' → H1 p = none → F' p = none → H' p = some o → m'.ok p F' o → Q (.ref p) H') → Q' v H1) : tO Z ρ w σ H Q' := by
  obtain ⟨F0, G, F, s, q⟩ := h
  refine ⟨F0, G, F, s, fun v F' H' g ok => k F0 G F' H' v (s.mv g) ok fun p o F2 H2 g2 n1 n2 n3 ok2 => q p o F2 H2 (g.tr g2) ?_ n2 n3 ok2⟩
  cases e : H p with
  | none => rfl
  | some u =>
    by_cases hx : Z.out p
    · exact absurd n1 (g.zk.there hx)
    · rw [g.h p u hx e] at n1
      cases n1
theorem imp1 {w w' : Od Z} {r : V → Hp → VK → Prop} {te : TE} (hr : ∀ F0 G F H σ v (Q : VK), St Z F0 G F H σ ρ → w.ok F H v → (∀ u F' H', Go Z F H F' H' → w'.ok F' H' u → Q u H') → r v H Q) :
    ∀ σ H Q, tO Z ρ w' σ H Q → tUn r (tO Z ρ w) σ H Q := fun σ H Q h => tO.use h fun F0 G F H1 v s ok q => hr F0 G F H1 σ v Q s ok q
theorem imp2 {w1 w2 w' : Od Z} {r : R2} (hr : ∀ F0 G F H σ x y (Q : VK), St Z F0 G F H σ ρ → w1.ok F H x → w2.ok F H y → (∀ u F' H', Go Z F H F' H' → w'.ok F' H' u → Q u H') → r x y H Q) :
    ∀ σ H Q, tO Z ρ w' σ H Q → tOp r (tO Z ρ w1) (tO Z ρ w2) σ H Q := fun σ H Q h => by
  obtain ⟨F0, G, F, s, q⟩ := h
  refine ⟨F0, G, F, s, fun x F1 H1 g1 k1 => ⟨F0, G, F1, s.mv g1, fun y F2 H2 g2 k2 => ?_⟩⟩
  exact hr F0 G F2 H2 σ x y Q ((s.mv g1).mv g2) (w1.mv g2 k1) k2 fun u F3 H3 g3 k3 => q u F3 H3 ((g1.tr g2).tr g3) k3
/-- the same, a new container comes -/
theorem imp2N {w1 w2 : Od Z} {m' : Mt} {r : R2} (hr : ∀ F0 G F H σ x y (Q : VK), St Z F0 G F H σ ρ → w1.ok F H x → w2.ok F H y → (∀ p o F' H', Go Z F H F' H' → H p = none → F' p = none → H' p = some o → m'.ok p F' o → Q (.ref p) H') → r x y H Q) :
    ∀ σ H Q, tN Z ρ m' σ H Q → tOp r (tO Z ρ w1) (tO Z ρ w2) σ H Q := fun σ H Q h => tO.useN h fun F0 G F H1 x s k1 q =>
  ⟨F0, G, F, s, fun y F2 H2 g2 k2 => hr F0 G F2 H2 σ x y Q (s.mv g2) (w1.mv g2 k1) k2 fun p o F' H' g n1 n2 n3 ok => q p o F' H' (g2.tr g) (by
    cases e : H1 p with
    | none => rfl
    | some u =>
      by_cases hx : Z.out p
      · exact absurd n1 (g2.zk.there hx)
      · rw [g2.h p u hx e] at n1
        cases n1) n2 n3 ok⟩

/-! ### names, constants -/
theorem dv (i : Nat) {x : Str} (hN : X.N[i]? = some x := by rfl) (h : ρ[i]? = some (some (.im t)) := by rfl) (hv : Vis X.env.scope x := by first | exact Or.inl rfl | exact Or.inr (Or.inl rfl) | exact Or.inr (Or.inr rfl))
    (hd : (x == ("__debug__" : Str)) = false := by decide) (hcd : (x == ("__classdict__" : Str)) = false := by decide) : PE X (.Name x pos) (tO Z ρ t.od) :=
  (pe_var hN hv hd hcd).imp fun σ H Q ⟨F0, G, F, s, k⟩ => by
    obtain ⟨v, h1, h2⟩ := s.im i t h
    exact ⟨v, h1, k v F H s.self h2⟩
/-- a container of this frame, looked at -/
theorem dvm (i : Nat) {x : Str} (hN : X.N[i]? = some x := by rfl) (h : ρ[i]? = some (some (.mu m)) := by rfl) (hv : Vis X.env.scope x := by first | exact Or.inl rfl | exact Or.inr (Or.inl rfl) | exact Or.inr (Or.inr rfl))
    (hd : (x == ("__debug__" : Str)) = false := by decide) (hcd : (x == ("__classdict__" : Str)) = false := by decide) : PE X (.Name x pos) (tO Z ρ m.od) :=
  (pe_var hN hv hd hcd).imp fun σ H Q ⟨F0, G, F, s, k⟩ => by
    obtain ⟨p, o, h1, h2, h3, _, _, h6⟩ := s.mu i m h
    exact ⟨_, h1, k _ F H s.self ⟨p, o, rfl, h2, h3, h6⟩⟩
theorem ok_clr {Z : Zn} {F H : Hp} {p : Addr} {ds : List PyData} {vs : List V} (fh : Same F H) (zo : ∀ a, Z.out a → F a = none) (h : H p = some (.lst vs)) (n : ¬ Z.out p) (r : RpL F vs ds) : Rp (clr Z H) (.ref p) (.list ds) :=
  .lst (by rw [clr_at n]; exact h) (RpL.mono (clr_of fh zo) ds vs r)
theorem dvb (i : Nat) {x : Str} {ds : List PyData} (hN : X.N[i]? = some x := by rfl) (h : ρ[i]? = some (some (.mu (mL ds))) := by rfl) (hv : Vis X.env.scope x := by first | exact Or.inl rfl | exact Or.inr (Or.inl rfl) | exact Or.inr (Or.inr rfl))
    (hd : (x == ("__debug__" : Str)) = false := by decide) (hcd : (x == ("__classdict__" : Str)) = false := by decide) : PE X (.Name x pos) (tO Z ρ (Dt (.list ds)).bo) :=
  (pe_var hN hv hd hcd).imp fun σ H Q ⟨F0, G, F, s, k⟩ => by
    obtain ⟨p, o, h1, h2, ⟨vs, h3, h4⟩, _, _, h6⟩ := s.mu i _ h
    subst h3
    exact ⟨_, h1, k _ F H s.self (ok_clr s.fh s.zo h2 h6 h4)⟩
theorem dflat {v : V} (ht : ∀ F, t.ok F v) {te : TE} (he : ∀ σ H (Q : VK), Q v H → te σ H Q) (h : PE X e te) : PE X e (tO Z ρ t.od) :=
  h.imp fun σ H Q ⟨F0, G, F, s, k⟩ => he σ H Q (k v F H s.self (ht F))
theorem dint {i : Int} {j} : PE X (.Constant (.int i) j pos) (tD Z ρ (.int i)) := dflat (v := .int i) (fun F => .int i) (fun _ _ _ q => q) pe_int
theorem dstr {i : Str} {j} : PE X (.Constant (.str i) j pos) (tD Z ρ (.str i)) := dflat (v := .str i) (fun F => .str i) (fun _ _ _ q => q) pe_str
theorem dbl {i : Bool} {j} : PE X (.Constant (.bool i) j pos) (tD Z ρ (.bool i)) := dflat (v := .bl i) (fun F => .bl i) (fun _ _ _ q => q) pe_bl
theorem dnon {j} : PE X (.Constant .none j pos) (tD Z ρ .none) := dflat (v := .non) (fun F => .non) (fun _ _ _ q => q) pe_non
theorem dgi {x : Str} {i : Int} {u : Value} (hg : Gl X x) (hm : X.mg x = some u) (r : RelV (.int i) u) (hd : (x == ("__debug__" : Str)) = false := by decide) : PE X (.Name x pos) (tD Z ρ (.int i)) :=
  dflat (v := .int i) (fun F => .int i) (fun _ _ _ q => q) (pe_glob hg hm r hd)
theorem dgs {x : Str} {i : Str} {u : Value} (hg : Gl X x) (hm : X.mg x = some u) (r : RelV (.str i) u) (hd : (x == ("__debug__" : Str)) = false := by decide) : PE X (.Name x pos) (tD Z ρ (.str i)) :=
  dflat (v := .str i) (fun F => .str i) (fun _ _ _ q => q) (pe_glob hg hm r hd)

/-! ### from one kind of operand to another -/
theorem od.imp {w w' : Od Z} (hw : ∀ F H v, Same F H → (∀ a, Z.out a → F a = none) → w.ok F H v → w'.ok F H v) (h : PE X e (tO Z ρ w)) : PE X e (tO Z ρ w') :=
  h.imp fun σ H Q ⟨F0, G, F, s, k⟩ => ⟨F0, G, F, s, fun v F' H' g ok => k v F' H' g (hw F' H' v g.fh (fun a ha => g.nw a (s.zo a ha) (s.zk.there ha)) ok)⟩
theorem dis {d d' : PyData} (h : PE X e (tD Z ρ d)) (e' : d = d') : PE X e (tD Z ρ d') := e' ▸ h
/-- a list that nobody changes, looked at -/
theorem vL {ds : List PyData} (h : PE X e (tD Z ρ (.list ds))) : PE X e (tO Z ρ (mL ds).od) := od.imp (fun F H v fh zo r => by
  cases (show Rp F v _ from r) with
  | lst h1 h2 => exact ⟨_, _, rfl, fh _ _ h1, ⟨_, rfl, h2⟩, fun z => by rw [zo _ z] at h1; cases h1⟩) h
theorem vT {ds : List PyData} (h : PE X e (tD Z ρ (.tuple ds))) : PE X e (tO Z ρ (mT ds).od) := od.imp (fun F H v fh zo r => by
  cases (show Rp F v _ from r) with
  | tup h1 ht h2 => exact ⟨_, _, rfl, fh _ _ h1, ⟨_, ht, h2⟩, fun z => by rw [zo _ z] at h1; cases h1⟩) h
/-- a new list is one that nobody changes -/
theorem nL {ds : List PyData} (h : PE X e (tN Z ρ (mL ds))) : PE X e (tD Z ρ (.list ds)) := h.imp fun σ H Q ⟨F0, G, F, s, k⟩ => ⟨F0, G, F, s, fun p o F' H' g n1 n2 n3 ok => by
  obtain ⟨vs, h1, h2⟩ := ok
  subst h1
  exact k _ _ H' (g.keep n1 n3 n2) (.lst upd_same (RpL.mono (same_new n2) _ _ h2))⟩
theorem nT {ds : List PyData} (h : PE X e (tN Z ρ (mT ds))) : PE X e (tD Z ρ (.tuple ds)) := h.imp fun σ H Q ⟨F0, G, F, s, k⟩ => ⟨F0, G, F, s, fun p o F' H' g n1 n2 n3 ok => by
  obtain ⟨vs, h1, h2⟩ := ok
  exact k _ _ H' (g.keep n1 n3 n2) (.tup upd_same h1 (RpL.mono (same_new n2) _ _ h2))⟩
theorem nV {m : Mt} (h : PE X e (tN Z ρ m)) : PE X e (tO Z ρ m.od) := h.imp fun σ H Q ⟨F0, G, F, s, k⟩ => ⟨F0, G, F, s, fun p o F' H' g n1 n2 n3 ok =>
  k _ F' H' g ⟨p, o, rfl, n3, ok, fun z => s.zk.there z n1⟩⟩
/-- borrowed -/
theorem bo {t : Ty} (h : PE X e (tO Z ρ t.od)) : PE X e (tO Z ρ t.bo) := od.imp (fun F H v fh zo r => t.mono (clr_of fh zo) r) h

/-! ### numbers -/
theorem dI0 {op : Operator} {g : Int → Int → V} {f : Int → Int → PyData} {i j : Int} (ho : OpR X (binaryOp op) (rI0 g)) (hg : ∀ F, Rp F (g i j) (f i j)) (ha : PE X a (tD Z ρ (.int i))) (hb : PE X b (tD Z ρ (.int j))) : PE X (.BinOp a op b pos) (tD Z ρ (f i j)) :=
  (pe_op ho ha hb).imp (imp2 fun F0 G F H σ x y Q s h1 h2 k => by
    rw [Rp.inj_int h1, Rp.inj_int h2]
    exact ⟨i, j, rfl, rfl, k _ F H s.self (hg F)⟩)
theorem dI {op : Operator} {C : Int → Int → Prop} {g : Int → Int → V} {f : Int → Int → PyData} {i j : Int} (ho : OpR X (binaryOp op) (rI C g)) (hg : ∀ F, Rp F (g i j) (f i j)) (ha : PE X a (tD Z ρ (.int i))) (hb : PE X b (tD Z ρ (.int j))) (hc : C i j) :
    PE X (.BinOp a op b pos) (tD Z ρ (f i j)) :=
  (pe_op ho ha hb).imp (imp2 fun F0 G F H σ x y Q s h1 h2 k => by
    rw [Rp.inj_int h1, Rp.inj_int h2]
    exact ⟨i, j, rfl, rfl, hc, k _ F H s.self (hg F)⟩)
variable {i j : Int}
theorem dadd (ha : PE X a (tD Z ρ (.int i))) (hb : PE X b (tD Z ρ (.int j))) : PE X (.BinOp a .Add b pos) (tD Z ρ (.int (i + j))) := dI0 (f := fun i j => .int (i + j)) op_add (fun _ => .int _) ha hb
theorem dsub (ha : PE X a (tD Z ρ (.int i))) (hb : PE X b (tD Z ρ (.int j))) : PE X (.BinOp a .Sub b pos) (tD Z ρ (.int (i - j))) := dI0 (f := fun i j => .int (i - j)) op_sub (fun _ => .int _) ha hb
theorem dmul (ha : PE X a (tD Z ρ (.int i))) (hb : PE X b (tD Z ρ (.int j))) (hc : CMul i j) : PE X (.BinOp a .Mult b pos) (tD Z ρ (.int (i * j))) := dI (f := fun i j => .int (i * j)) op_mul (fun _ => .int _) ha hb hc
theorem ddiv (ha : PE X a (tD Z ρ (.int i))) (hb : PE X b (tD Z ρ (.int j))) (hc : CDiv i j) : PE X (.BinOp a .FloorDiv b pos) (tD Z ρ (.int (i / j))) := dI (f := fun i j => .int (i / j)) op_fdiv (fun _ => .int _) ha hb hc
theorem dmod (ha : PE X a (tD Z ρ (.int i))) (hb : PE X b (tD Z ρ (.int j))) (hc : 0 < j) : PE X (.BinOp a .Mod b pos) (tD Z ρ (.int (i % j))) := dI (f := fun i j => .int (i % j)) op_mod (fun _ => .int _) ha hb hc
theorem dshl (ha : PE X a (tD Z ρ (.int i))) (hb : PE X b (tD Z ρ (.int j))) (hc : CPow i j) : PE X (.BinOp a .LShift b pos) (tD Z ρ (.int (i * 2 ^ j.toNat))) := dI (f := fun i j => .int (i * 2 ^ j.toNat)) op_shl (fun _ => .int _) ha hb hc
theorem dshr (ha : PE X a (tD Z ρ (.int i))) (hb : PE X b (tD Z ρ (.int j))) (hc : 0 ≤ j) : PE X (.BinOp a .RShift b pos) (tD Z ρ (.int (i / 2 ^ j.toNat))) := dI (f := fun i j => .int (i / 2 ^ j.toNat)) op_shr (fun _ => .int _) ha hb hc
theorem dpow (ha : PE X a (tD Z ρ (.int i))) (hb : PE X b (tD Z ρ (.int j))) (hc : CPow i j) : PE X (.BinOp a .Pow b pos) (tD Z ρ (.int (i ^ j.toNat))) := dI (f := fun i j => .int (i ^ j.toNat)) op_pow (fun _ => .int _) ha hb hc
theorem dneg (ha : PE X a (tD Z ρ (.int i))) : PE X (.UnaryOp .USub a pos) (tD Z ρ (.int (-i))) :=
  (pe_un un_neg ha).imp fun σ H Q h => tO.use h fun F0 G F H1 v s ok q => by
    rw [Rp.inj_int ok]
    exact ⟨i, rfl, q _ F H1 s.self (.int _)⟩

/-! ### comparisons -/
/-- a comparison by its operator's rule, answering by a fixed bool -/
theorem dcmp {op : CmpOp} {r : R2} {w1 w2 : Od Z} {k : Bool} (ho : OpR X (compareOp op) r) (hr : ∀ F0 G F H σ x y (Q : VK), St Z F0 G F H σ ρ → w1.ok F H x → w2.ok F H y → Q (.bl k) H → r x y H Q)
    (ha : PE X a (tO Z ρ w1)) (hb : PE X b (tO Z ρ w2)) (hm : behindInMarks op b = false) : PE X (.Compare a [op] [b] pos) (tD Z ρ (.bool k)) :=
  (pe_cmpR ho ha hb hm).imp (imp2 fun F0 G F H σ x y Q s h1 h2 q => hr F0 G F H σ x y Q s h1 h2 (q _ F H s.self (.bl k)))
/-- as a test -/
theorem pcmp {op : CmpOp} {r : R2} {w1 w2 : Od Z} {k : Bool} (ho : OpR X (compareOp op) r) (hr : ∀ F0 G F H σ x y (Q : VK), St Z F0 G F H σ ρ → w1.ok F H x → w2.ok F H y → Q (.bl k) H → r x y H Q)
    (ha : PE X a (tO Z ρ w1)) (hb : PE X b (tO Z ρ w2)) (hm : behindInMarks op b = false) : PT X (.Compare a [op] [b] pos) (tQ Z ρ k) :=
  (pt_cmpR ho ha hb hm).imp fun σ H Q ⟨F0, G, F, s, q⟩ => ⟨F0, G, F, s, fun x F1 H1 g1 k1 => ⟨F0, G, F1, s.mv g1, fun y F2 H2 g2 k2 => hr F0 G F2 H2 σ x y _ ((s.mv g1).mv g2) (w1.mv g2 k1) k2 ⟨k, rfl, q k F2 H2 (g1.tr g2) rfl⟩⟩⟩
theorem rI0_bl {p : Int → Int → Bool} {F0 G F H : Hp} {σ : L2.St} {x y : V} {Q : VK} (s : St Z F0 G F H σ ρ) (h1 : (Dt (.int i)).ok F x) (h2 : (Dt (.int j)).ok F y) (q : Q (.bl (p i j)) H) : rI0 (fun i j => .bl (p i j)) x y H Q := by
  rw [Rp.inj_int h1, Rp.inj_int h2]
  exact ⟨i, j, rfl, rfl, q⟩
theorem dlt (ha : PE X a (tD Z ρ (.int i))) (hb : PE X b (tD Z ρ (.int j))) : PE X (.Compare a [.Lt] [b] pos) (tD Z ρ (.bool (decide (i < j)))) := dcmp op_lt (fun _ _ _ _ _ _ _ _ s h1 h2 q => rI0_bl s h1 h2 q) ha hb (nomark _)
theorem plt (ha : PE X a (tD Z ρ (.int i))) (hb : PE X b (tD Z ρ (.int j))) : PT X (.Compare a [.Lt] [b] pos) (tQ Z ρ (decide (i < j))) := pcmp op_lt (fun _ _ _ _ _ _ _ _ s h1 h2 q => rI0_bl s h1 h2 q) ha hb (nomark _)
theorem dle (ha : PE X a (tD Z ρ (.int i))) (hb : PE X b (tD Z ρ (.int j))) : PE X (.Compare a [.LtE] [b] pos) (tD Z ρ (.bool (decide (i ≤ j)))) := dcmp op_le (fun _ _ _ _ _ _ _ _ s h1 h2 q => rI0_bl s h1 h2 q) ha hb (nomark _)
theorem ple (ha : PE X a (tD Z ρ (.int i))) (hb : PE X b (tD Z ρ (.int j))) : PT X (.Compare a [.LtE] [b] pos) (tQ Z ρ (decide (i ≤ j))) := pcmp op_le (fun _ _ _ _ _ _ _ _ s h1 h2 q => rI0_bl s h1 h2 q) ha hb (nomark _)
theorem dgt (ha : PE X a (tD Z ρ (.int i))) (hb : PE X b (tD Z ρ (.int j))) : PE X (.Compare a [.Gt] [b] pos) (tD Z ρ (.bool (decide (j < i)))) := dcmp op_gt (fun _ _ _ _ _ _ _ _ s h1 h2 q => rI0_bl (p := fun i j => decide (j < i)) s h1 h2 q) ha hb (nomark _)
theorem pgt (ha : PE X a (tD Z ρ (.int i))) (hb : PE X b (tD Z ρ (.int j))) : PT X (.Compare a [.Gt] [b] pos) (tQ Z ρ (decide (j < i))) := pcmp op_gt (fun _ _ _ _ _ _ _ _ s h1 h2 q => rI0_bl (p := fun i j => decide (j < i)) s h1 h2 q) ha hb (nomark _)
theorem dge (ha : PE X a (tD Z ρ (.int i))) (hb : PE X b (tD Z ρ (.int j))) : PE X (.Compare a [.GtE] [b] pos) (tD Z ρ (.bool (decide (j ≤ i)))) := dcmp op_ge (fun _ _ _ _ _ _ _ _ s h1 h2 q => rI0_bl (p := fun i j => decide (j ≤ i)) s h1 h2 q) ha hb (nomark _)
theorem pge (ha : PE X a (tD Z ρ (.int i))) (hb : PE X b (tD Z ρ (.int j))) : PT X (.Compare a [.GtE] [b] pos) (tQ Z ρ (decide (j ≤ i))) := pcmp op_ge (fun _ _ _ _ _ _ _ _ s h1 h2 q => rI0_bl (p := fun i j => decide (j ≤ i)) s h1 h2 q) ha hb (nomark _)
theorem eqI {F0 G F H : Hp} {σ : L2.St} {x y : V} {Q : VK} (h1 : (Dt (.int i)).ok F x) (h2 : (Dt (.int j)).ok F y) (q : Q (.bl (decide (i = j))) H) : rEq x y H Q := by
  rw [Rp.inj_int h1, Rp.inj_int h2]
  refine ⟨rfl, ?_⟩
  rw [show decide (V.int i = V.int j) = decide (i = j) from decide_eq_decide.mpr ⟨fun e => V.int.inj e, fun e => by rw [e]⟩]
  exact q
theorem neI {F0 G F H : Hp} {σ : L2.St} {x y : V} {Q : VK} (h1 : (Dt (.int i)).ok F x) (h2 : (Dt (.int j)).ok F y) (q : Q (.bl (!decide (i = j))) H) : rNe x y H Q := by
  rw [Rp.inj_int h1, Rp.inj_int h2]
  refine ⟨rfl, ?_⟩
  rw [show decide (V.int i = V.int j) = decide (i = j) from decide_eq_decide.mpr ⟨fun e => V.int.inj e, fun e => by rw [e]⟩]
  exact q
theorem deqI (ha : PE X a (tD Z ρ (.int i))) (hb : PE X b (tD Z ρ (.int j))) : PE X (.Compare a [.Eq] [b] pos) (tD Z ρ (.bool (decide (i = j)))) := dcmp op_eq (fun F0 G F H σ _ _ _ _ h1 h2 q => eqI (F0 := F0) (G := G) (σ := σ) h1 h2 q) ha hb (nomark _)
theorem peqI (ha : PE X a (tD Z ρ (.int i))) (hb : PE X b (tD Z ρ (.int j))) : PT X (.Compare a [.Eq] [b] pos) (tQ Z ρ (decide (i = j))) := pcmp op_eq (fun F0 G F H σ _ _ _ _ h1 h2 q => eqI (F0 := F0) (G := G) (σ := σ) h1 h2 q) ha hb (nomark _)
theorem dneI (ha : PE X a (tD Z ρ (.int i))) (hb : PE X b (tD Z ρ (.int j))) : PE X (.Compare a [.NotEq] [b] pos) (tD Z ρ (.bool (!decide (i = j)))) := dcmp op_ne (fun F0 G F H σ _ _ _ _ h1 h2 q => neI (F0 := F0) (G := G) (σ := σ) h1 h2 q) ha hb (nomark _)
theorem pneI (ha : PE X a (tD Z ρ (.int i))) (hb : PE X b (tD Z ρ (.int j))) : PT X (.Compare a [.NotEq] [b] pos) (tQ Z ρ (!decide (i = j))) := pcmp op_ne (fun F0 G F H σ _ _ _ _ h1 h2 q => neI (F0 := F0) (G := G) (σ := σ) h1 h2 q) ha hb (nomark _)
variable {x y : Str}
theorem eqS {F0 G F H : Hp} {σ : L2.St} {u v : V} {Q : VK} (h1 : (Dt (.str x)).ok F u) (h2 : (Dt (.str y)).ok F v) (q : Q (.bl (decide (x = y))) H) : rEq u v H Q := by
  rw [Rp.inj_str h1, Rp.inj_str h2]
  refine ⟨rfl, ?_⟩
  rw [show decide (V.str x = V.str y) = decide (x = y) from decide_eq_decide.mpr ⟨fun e => V.str.inj e, fun e => by rw [e]⟩]
  exact q
theorem neS {F0 G F H : Hp} {σ : L2.St} {u v : V} {Q : VK} (h1 : (Dt (.str x)).ok F u) (h2 : (Dt (.str y)).ok F v) (q : Q (.bl (!decide (x = y))) H) : rNe u v H Q := by
  rw [Rp.inj_str h1, Rp.inj_str h2]
  refine ⟨rfl, ?_⟩
  rw [show decide (V.str x = V.str y) = decide (x = y) from decide_eq_decide.mpr ⟨fun e => V.str.inj e, fun e => by rw [e]⟩]
  exact q
theorem deqS (ha : PE X a (tD Z ρ (.str x))) (hb : PE X b (tD Z ρ (.str y))) : PE X (.Compare a [.Eq] [b] pos) (tD Z ρ (.bool (decide (x = y)))) := dcmp op_eq (fun F0 G F H σ _ _ _ _ h1 h2 q => eqS (F0 := F0) (G := G) (σ := σ) h1 h2 q) ha hb (nomark _)
theorem peqS (ha : PE X a (tD Z ρ (.str x))) (hb : PE X b (tD Z ρ (.str y))) : PT X (.Compare a [.Eq] [b] pos) (tQ Z ρ (decide (x = y))) := pcmp op_eq (fun F0 G F H σ _ _ _ _ h1 h2 q => eqS (F0 := F0) (G := G) (σ := σ) h1 h2 q) ha hb (nomark _)
theorem dneS (ha : PE X a (tD Z ρ (.str x))) (hb : PE X b (tD Z ρ (.str y))) : PE X (.Compare a [.NotEq] [b] pos) (tD Z ρ (.bool (!decide (x = y)))) := dcmp op_ne (fun F0 G F H σ _ _ _ _ h1 h2 q => neS (F0 := F0) (G := G) (σ := σ) h1 h2 q) ha hb (nomark _)
theorem pneS (ha : PE X a (tD Z ρ (.str x))) (hb : PE X b (tD Z ρ (.str y))) : PT X (.Compare a [.NotEq] [b] pos) (tQ Z ρ (!decide (x = y))) := pcmp op_ne (fun F0 G F H σ _ _ _ _ h1 h2 q => neS (F0 := F0) (G := G) (σ := σ) h1 h2 q) ha hb (nomark _)
/-- two bools -/
theorem eqB {F0 G F H : Hp} {σ : L2.St} {u v : V} {Q : VK} {x y : Bool} (h1 : (Dt (.bool x)).ok F u) (h2 : (Dt (.bool y)).ok F v) (q : Q (.bl (decide (x = y))) H) : rEq u v H Q := by
  rw [Rp.inj_bl h1, Rp.inj_bl h2]
  refine ⟨rfl, ?_⟩
  rw [show decide (V.bl x = V.bl y) = decide (x = y) from decide_eq_decide.mpr ⟨fun e => V.bl.inj e, fun e => by rw [e]⟩]
  exact q
theorem neB {F0 G F H : Hp} {σ : L2.St} {u v : V} {Q : VK} {x y : Bool} (h1 : (Dt (.bool x)).ok F u) (h2 : (Dt (.bool y)).ok F v) (q : Q (.bl (!decide (x = y))) H) : rNe u v H Q := by
  rw [Rp.inj_bl h1, Rp.inj_bl h2]
  refine ⟨rfl, ?_⟩
  rw [show decide (V.bl x = V.bl y) = decide (x = y) from decide_eq_decide.mpr ⟨fun e => V.bl.inj e, fun e => by rw [e]⟩]
  exact q
theorem deqB {x y : Bool} (ha : PE X a (tD Z ρ (.bool x))) (hb : PE X b (tD Z ρ (.bool y))) : PE X (.Compare a [.Eq] [b] pos) (tD Z ρ (.bool (decide (x = y)))) := dcmp op_eq (fun F0 G F H σ _ _ _ _ h1 h2 q => eqB (F0 := F0) (G := G) (σ := σ) h1 h2 q) ha hb (nomark _)
theorem peqB {x y : Bool} (ha : PE X a (tD Z ρ (.bool x))) (hb : PE X b (tD Z ρ (.bool y))) : PT X (.Compare a [.Eq] [b] pos) (tQ Z ρ (decide (x = y))) := pcmp op_eq (fun F0 G F H σ _ _ _ _ h1 h2 q => eqB (F0 := F0) (G := G) (σ := σ) h1 h2 q) ha hb (nomark _)
theorem pneB {x y : Bool} (ha : PE X a (tD Z ρ (.bool x))) (hb : PE X b (tD Z ρ (.bool y))) : PT X (.Compare a [.NotEq] [b] pos) (tQ Z ρ (!decide (x = y))) := pcmp op_ne (fun F0 G F H σ _ _ _ _ h1 h2 q => neB (F0 := F0) (G := G) (σ := σ) h1 h2 q) ha hb (nomark _)
/-- is None, is not None -/
def dNon : PyData → Bool
  | .none => true
  | _ => false
theorem Rp.isN {F : Hp} {v : V} {d : PyData} (h : Rp F v d) : decide (v = .non) = dNon d := by
  cases h <;> simp [dNon]
theorem disN {d : PyData} {j pos'} (ha : PE X a (tD Z ρ d)) : PE X (.Compare a [.Is] [.Constant .none j pos'] pos) (tD Z ρ (.bool (dNon d))) := dcmp (w2 := (Dt .none).od) op_isN (fun F0 G F H σ x y Q s h1 h2 q => ⟨Rp.inj_non h2, by rw [Rp.isN h1]; exact q⟩) ha dnon (nomark _)
theorem pisN {d : PyData} {j pos'} (ha : PE X a (tD Z ρ d)) : PT X (.Compare a [.Is] [.Constant .none j pos'] pos) (tQ Z ρ (dNon d)) := pcmp (w2 := (Dt .none).od) op_isN (fun F0 G F H σ x y Q s h1 h2 q => ⟨Rp.inj_non h2, by rw [Rp.isN h1]; exact q⟩) ha dnon (nomark _)
theorem dnoN {d : PyData} {j pos'} (ha : PE X a (tD Z ρ d)) : PE X (.Compare a [.IsNot] [.Constant .none j pos'] pos) (tD Z ρ (.bool (!dNon d))) := dcmp (w2 := (Dt .none).od) op_notN (fun F0 G F H σ x y Q s h1 h2 q => ⟨Rp.inj_non h2, by rw [Rp.isN h1]; exact q⟩) ha dnon (nomark _)
theorem pnoN {d : PyData} {j pos'} (ha : PE X a (tD Z ρ d)) : PT X (.Compare a [.IsNot] [.Constant .none j pos'] pos) (tQ Z ρ (!dNon d)) := pcmp (w2 := (Dt .none).od) op_notN (fun F0 G F H σ x y Q s h1 h2 q => ⟨Rp.inj_non h2, by rw [Rp.isN h1]; exact q⟩) ha dnon (nomark _)

/-! ### tests -/
/-- an expression that gives a bool, as a test (no comparison, no and, or, not) -/
theorem ptv {k : Bool} (h : PE X e (tD Z ρ (.bool k))) (he : ∀ whole, isTrue e X.env whole = (do let v ← whole; standAt e.pos; holding [v] (truthy v)) := by intro _; rfl) : PT X e (tQ Z ρ k) :=
  (pt_val h he).imp fun σ H Q ⟨F0, G, F, s, q⟩ => ⟨F0, G, F, s, fun v F' H' g ok => ⟨k, Rp.inj_bl ok, q k F' H' g rfl⟩⟩
theorem ptnot {k : Bool} (h : PT X a (tQ Z ρ k)) : PT X (.UnaryOp .Not a pos) (tQ Z ρ (!k)) :=
  (pt_not h).imp fun σ H Q ⟨F0, G, F, s, q⟩ => ⟨F0, G, F, s, fun c F' H' g e => q _ F' H' g (by rw [e])⟩
theorem _root_.L2.PW.imp {e : Expr} {t t' : TT} (h : PW X e t) (k : ∀ σ H Q, t' σ H Q → t σ H Q) : PW X e t' := ⟨fun whole pins s σ H Q I q => h.run whole pins s σ H Q I (k σ H Q q)⟩
theorem pwand1 {k : Bool} (h : PT X a (tQ Z ρ k)) : PW X (.BoolOp .And [a] pos) (tQ Z ρ k) := pw_and1 h
theorem pwor1 {k : Bool} (h : PT X a (tQ Z ρ k)) : PW X (.BoolOp .Or [a] pos) (tQ Z ρ k) := pw_or1 h
theorem pw_nv {e : Expr} : PW X e (fun _ _ _ => False) := ⟨fun _ _ _ _ _ _ _ q => q.elim⟩
theorem pwand {rest : List Expr} {k l : Bool} (h : PT X a (tQ Z ρ k)) (h2 : k = true → PW X (.BoolOp .And (b :: rest) pos) (tQ Z ρ l)) : PW X (.BoolOp .And (a :: b :: rest) pos) (tQ Z ρ (k && l)) := by
  cases k with
  | true => exact PW.imp (pw_and h (h2 rfl)) fun σ H Q ⟨F0, G, F, s, q⟩ => ⟨F0, G, F, s, fun c F' H' g e => by
      rw [e]
      exact iteT ⟨F0, G, F', s.mv g, fun c2 F2 H2 g2 e2 => q c2 F2 H2 (g.tr g2) (by rw [e2]; rfl)⟩⟩
  | false => exact PW.imp (pw_and h pw_nv) fun σ H Q ⟨F0, G, F, s, q⟩ => ⟨F0, G, F, s, fun c F' H' g e => by
      rw [e]
      exact iteF (q _ F' H' g rfl)⟩
theorem pwor {rest : List Expr} {k l : Bool} (h : PT X a (tQ Z ρ k)) (h2 : k = false → PW X (.BoolOp .Or (b :: rest) pos) (tQ Z ρ l)) : PW X (.BoolOp .Or (a :: b :: rest) pos) (tQ Z ρ (k || l)) := by
  cases k with
  | false => exact PW.imp (pw_or h (h2 rfl)) fun σ H Q ⟨F0, G, F, s, q⟩ => ⟨F0, G, F, s, fun c F' H' g e => by
      rw [e]
      exact iteF ⟨F0, G, F', s.mv g, fun c2 F2 H2 g2 e2 => q c2 F2 H2 (g.tr g2) (by rw [e2]; rfl)⟩⟩
  | true => exact PW.imp (pw_or h pw_nv) fun σ H Q ⟨F0, G, F, s, q⟩ => ⟨F0, G, F, s, fun c F' H' g e => by
      rw [e]
      exact iteT (q _ F' H' g rfl)⟩
/-- a test that is known -/
theorem ptis {k l : Bool} (h : PT X a (tQ Z ρ k)) (e : k = l) : PT X a (tQ Z ρ l) := e ▸ h
theorem pwis {k l : Bool} (h : PW X a (tQ Z ρ k)) (e : k = l) : PW X a (tQ Z ρ l) := e ▸ h
/-- and, or, not as values -/
theorem pe_nv {e : Expr} : PE X e (fun _ _ _ => False) := ⟨fun _ _ _ _ _ _ q => q.elim⟩
theorem dand {rest : List Expr} {k l : Bool} (h : PE X a (tD Z ρ (.bool k))) (h2 : k = true → PE X (.BoolOp .And (b :: rest) pos) (tD Z ρ (.bool l))) : PE X (.BoolOp .And (a :: b :: rest) pos) (tD Z ρ (.bool (k && l))) := by
  cases k with
  | true => exact (pe_and h (h2 rfl)).imp fun σ H Q ⟨F0, G, F, s, q⟩ => ⟨F0, G, F, s, fun v F' H' g e => ⟨true, Rp.inj_bl e, iteT ⟨F0, G, F', s.mv g, fun v2 F2 H2 g2 e2 => q v2 F2 H2 (g.tr g2) e2⟩⟩⟩
  | false => exact (pe_and h pe_nv).imp fun σ H Q ⟨F0, G, F, s, q⟩ => ⟨F0, G, F, s, fun v F' H' g e => ⟨false, Rp.inj_bl e, iteF (q _ F' H' g (.bl _))⟩⟩
theorem dor {rest : List Expr} {k l : Bool} (h : PE X a (tD Z ρ (.bool k))) (h2 : k = false → PE X (.BoolOp .Or (b :: rest) pos) (tD Z ρ (.bool l))) : PE X (.BoolOp .Or (a :: b :: rest) pos) (tD Z ρ (.bool (k || l))) := by
  cases k with
  | false => exact (pe_or h (h2 rfl)).imp fun σ H Q ⟨F0, G, F, s, q⟩ => ⟨F0, G, F, s, fun v F' H' g e => ⟨false, Rp.inj_bl e, iteF ⟨F0, G, F', s.mv g, fun v2 F2 H2 g2 e2 => q v2 F2 H2 (g.tr g2) e2⟩⟩⟩
  | true => exact (pe_or h pe_nv).imp fun σ H Q ⟨F0, G, F, s, q⟩ => ⟨F0, G, F, s, fun v F' H' g e => ⟨true, Rp.inj_bl e, iteT (q _ F' H' g (.bl _))⟩⟩
theorem dnot {k : Bool} (h : PE X a (tD Z ρ (.bool k))) : PE X (.UnaryOp .Not a pos) (tD Z ρ (.bool (!k))) :=
  (pe_not h).imp fun σ H Q ⟨F0, G, F, s, q⟩ => ⟨F0, G, F, s, fun v F' H' g e => ⟨k, Rp.inj_bl e, q _ F' H' g (.bl _)⟩⟩
/-- a if t else b -/
theorem dife {w : Od Z} {p : Bool → Prop} (hc : PT X c (tP Z ρ p)) (ha : p true → PE X a (tO Z ρ w)) (hb : p false → PE X b (tO Z ρ w)) : PE X (.IfExp c a b pos) (tO Z ρ w) := by
  have A : ∃ ta, PE X a ta ∧ (p true → ta = tO Z ρ w) := by
    by_cases h : p true
    · exact ⟨_, ha h, fun _ => rfl⟩
    · exact ⟨_, pe_nv, fun z => absurd z h⟩
  have B : ∃ tb, PE X b tb ∧ (p false → tb = tO Z ρ w) := by
    by_cases h : p false
    · exact ⟨_, hb h, fun _ => rfl⟩
    · exact ⟨_, pe_nv, fun z => absurd z h⟩
  obtain ⟨ta, A1, A2⟩ := A
  obtain ⟨tb, B1, B2⟩ := B
  exact (pe_ifExp hc A1 B1).imp fun σ H Q ⟨F0, G, F, s, q⟩ => ⟨F0, G, F, s, fun k F' H' g e => by
    cases k with
    | true =>
      refine iteT ?_
      rw [A2 e]
      exact ⟨F0, G, F', s.mv g, fun v2 F2 H2 g2 e2 => q v2 F2 H2 (g.tr g2) e2⟩
    | false =>
      refine iteF ?_
      rw [B2 e]
      exact ⟨F0, G, F', s.mv g, fun v2 F2 H2 g2 e2 => q v2 F2 H2 (g.tr g2) e2⟩⟩
/-- a chain a op b op' c -/
theorem dchain {op op' : CmpOp} {r r' : R2} {w1 w2 w3 : Od Z} {k l : Bool} (ho : OpR X (compareOp op) r) (ho' : OpR X (compareOp op') r') (ha : PE X a (tO Z ρ w1)) (hb : PE X b (tO Z ρ w2)) (hc : PE X c (tO Z ρ w3))
    (hr : ∀ F0 G F H σ x y (Q : VK), St Z F0 G F H σ ρ → w1.ok F H x → w2.ok F H y → Q (.bl l) H → r x y H Q) (hr' : ∀ F0 G F H σ x y (Q : VK), St Z F0 G F H σ ρ → w2.ok F H x → w3.ok F H y → Q (.bl k) H → r' x y H Q)
    (hm : lastMarks [op, op'] [b, c] = false := by with_unfolding_all rfl) : PE X (.Compare a [op, op'] [b, c] pos) (tD Z ρ (.bool (l && k))) :=
  (pe_chain ho ho' ha hb hc hm).imp fun σ H Q ⟨F0, G, F, s, q⟩ => ⟨F0, G, F, s, fun x F1 H1 g1 k1 => ⟨F0, G, F1, s.mv g1, fun y F2 H2 g2 k2 => by
    refine hr F0 G F2 H2 σ x y _ ((s.mv g1).mv g2) (w1.mv g2 k1) k2 ⟨l, rfl, ?_⟩
    cases l with
    | false => exact iteF (q _ F2 H2 (g1.tr g2) (.bl _))
    | true => exact iteT ⟨F0, G, F2, (s.mv g1).mv g2, fun z F3 H3 g3 k3 => hr' F0 G F3 H3 σ y z Q (((s.mv g1).mv g2).mv g3) (w2.mv g3 k2) k3 (q _ F3 H3 ((g1.tr g2).tr g3) (.bl _))⟩⟩⟩
theorem ptchain {op op' : CmpOp} {r r' : R2} {w1 w2 w3 : Od Z} {k l : Bool} (ho : OpR X (compareOp op) r) (ho' : OpR X (compareOp op') r') (ha : PE X a (tO Z ρ w1)) (hb : PE X b (tO Z ρ w2)) (hc : PE X c (tO Z ρ w3))
    (hr : ∀ F0 G F H σ x y (Q : VK), St Z F0 G F H σ ρ → w1.ok F H x → w2.ok F H y → Q (.bl l) H → r x y H Q) (hr' : ∀ F0 G F H σ x y (Q : VK), St Z F0 G F H σ ρ → w2.ok F H x → w3.ok F H y → Q (.bl k) H → r' x y H Q)
    (hm : lastMarks [op, op'] [b, c] = false := by with_unfolding_all rfl) : PT X (.Compare a [op, op'] [b, c] pos) (tQ Z ρ (l && k)) :=
  (pt_chain ho ho' ha hb hc hm).imp fun σ H Q ⟨F0, G, F, s, q⟩ => ⟨F0, G, F, s, fun x F1 H1 g1 k1 => ⟨F0, G, F1, s.mv g1, fun y F2 H2 g2 k2 => by
    refine hr F0 G F2 H2 σ x y _ ((s.mv g1).mv g2) (w1.mv g2 k1) k2 ⟨l, rfl, ?_⟩
    cases l with
    | false => exact iteF ⟨_, rfl, q _ F2 H2 (g1.tr g2) rfl⟩
    | true => exact iteT ⟨F0, G, F2, (s.mv g1).mv g2, fun z F3 H3 g3 k3 => hr' F0 G F3 H3 σ y z _ (((s.mv g1).mv g2).mv g3) (w2.mv g3 k2) k3 ⟨_, rfl, q _ F3 H3 ((g1.tr g2).tr g3) rfl⟩⟩⟩⟩
theorem dleC {i j k : Int} (ha : PE X a (tD Z ρ (.int i))) (hb : PE X b (tD Z ρ (.int j))) (hc : PE X c (tD Z ρ (.int k))) (hm : lastMarks [.LtE, .LtE] [b, c] = false := by with_unfolding_all rfl) : PE X (.Compare a [.LtE, .LtE] [b, c] pos) (tD Z ρ (.bool (decide (i ≤ j) && decide (j ≤ k)))) :=
  dchain op_le op_le ha hb hc (fun _ _ _ _ _ _ _ _ s h1 h2 q => rI0_bl s h1 h2 q) (fun _ _ _ _ _ _ _ _ s h1 h2 q => rI0_bl s h1 h2 q) hm
theorem pleC {i j k : Int} (ha : PE X a (tD Z ρ (.int i))) (hb : PE X b (tD Z ρ (.int j))) (hc : PE X c (tD Z ρ (.int k))) (hm : lastMarks [.LtE, .LtE] [b, c] = false := by with_unfolding_all rfl) : PT X (.Compare a [.LtE, .LtE] [b, c] pos) (tQ Z ρ (decide (i ≤ j) && decide (j ≤ k))) :=
  ptchain op_le op_le ha hb hc (fun _ _ _ _ _ _ _ _ s h1 h2 q => rI0_bl s h1 h2 q) (fun _ _ _ _ _ _ _ _ s h1 h2 q => rI0_bl s h1 h2 q) hm
end
end Kb
end TKc
section TKd
set_option Elab.async false
set_option linter.all false
set_option maxRecDepth 100000
set_option maxHeartbeats 4000000
/-! Kd: lists and tuples over the abstract environment. -/
namespace Kb
open PySem PySem.Spec PyProof.Rows L2

/-- the built-ins that the program calls are still the built-ins -/
structure Bi (mg : Str → Option Value) : Prop where
  len : mg "len" = none
  all : mg "all" = none
  any : mg "any" = none
  tuple : mg "tuple" = none
  list : mg "list" = none
  set : mg "set" = none
  sorted : mg "sorted" = none
  enumerate : mg "enumerate" = none
  zip : mg "zip" = none
  range : mg "range" = none
  max : mg "max" = none
  min : mg "min" = none
  isinstance : mg "isinstance" = none
  str : mg "str" = none
  int : mg "int" = none
  abs : mg "abs" = none

/-- a list or a tuple of these -/
def Sq (m : Mt) (ds : List PyData) : Prop := ∀ p F o, m.ok p F o → ∃ vs, (o = .lst vs ∨ TuO vs o) ∧ RpL F vs ds
theorem sqL {ds : List PyData} : Sq (mL ds) ds := fun p F o ⟨vs, h1, h2⟩ => ⟨vs, .inl h1, h2⟩
theorem sqT {ds : List PyData} : Sq (mT ds) ds := fun p F o ⟨vs, h1, h2⟩ => ⟨vs, .inr h1, h2⟩
theorem Sq.at {Z : Zn} {m : Mt} {ds : List PyData} (q : Sq m ds) {K : PySem.W.Frag} {F H : Hp} {v : V} (h : (m.od (Z := Z)).ok F H v) : ∃ p vs, v = .ref p ∧ (SqL K H p vs ∨ SqT K H p vs) ∧ RpL F vs ds := by
  obtain ⟨p, o, h1, h2, h3, h4⟩ := h
  obtain ⟨vs, h5, h6⟩ := q p F o h3
  refine ⟨p, vs, h1, ?_, h6⟩
  rcases h5 with e | e
  · subst e
    exact .inl (SqL.of h2)
  · exact .inr (e.sq h2)
theorem mL_at {Z : Zn} {ds : List PyData} {F H : Hp} {v : V} (h : ((mL ds).od (Z := Z)).ok F H v) : ∃ p vs, v = .ref p ∧ H p = some (.lst vs) ∧ RpL F vs ds := by
  obtain ⟨p, o, h1, h2, ⟨vs, h3, h4⟩, _⟩ := h
  subst h3
  exact ⟨p, vs, h1, h2, h4⟩
theorem mT_at {Z : Zn} {ds : List PyData} {F H : Hp} {v : V} (h : ((mT ds).od (Z := Z)).ok F H v) : ∃ p vs, v = .ref p ∧ (∀ K : PySem.W.Frag, SqT K H p vs) ∧ RpL F vs ds := by
  obtain ⟨p, o, h1, h2, ⟨vs, h3, h4⟩, _⟩ := h
  exact ⟨p, vs, h1, fun K => h3.sq h2, h4⟩

section
variable {X : Cx} {Z : Zn} {ρ : En} {e a b c : Expr} {es : List Expr} {pos p : Pos} {t : Ty} {m : Mt}

/-! ### argument lists, displays -/
theorem pa0 : PA X [] (tOs Z ρ []) := pa_nil.imp fun σ H Q ⟨F0, G, F, s, k⟩ => k [] F H s.self .nil
theorem pac {w : Od Z} {ws : List (Od Z)} (ha : PE X e (tO Z ρ w)) (hr : PA X es (tOs Z ρ ws)) (hs : starEach (e :: es) X.env = (false, eval e X.env) :: starEach es X.env := by rfl) : PA X (e :: es) (tOs Z ρ (w :: ws)) :=
  (pa_cons ha hr hs).imp fun σ H Q ⟨F0, G, F, s, k⟩ => ⟨F0, G, F, s, fun v F1 H1 g1 k1 => ⟨F0, G, F1, s.mv g1, fun vs F2 H2 g2 k2 => k _ F2 H2 (g1.tr g2) (.cons (w.mv g2 k1) k2)⟩⟩
theorem pa1 {w : Od Z} (ha : PE X e (tO Z ρ w)) (hs : starEach [e] X.env = (false, eval e X.env) :: starEach [] X.env := by rfl) : PA X [e] (tOs Z ρ [w]) := pac ha pa0 hs
def dts {Z : Zn} (ds : List PyData) : List (Od Z) := ds.map fun d => (Dt d).od
theorem OkL.data {F H : Hp} : ∀ {vs : List V} {ds : List PyData}, OkL (Z := Z) F H vs (dts ds) → RpL F vs ds
  | _, [], h => by cases h; exact .nil
  | _, d :: ds, h => by
    cases h with
    | cons h1 h2 => exact .cons h1 (OkL.data h2)
theorem small {n : Nat} (h : n ≤ 100000) : n ≤ sizeLine := Nat.le_trans h (by decide)
theorem smallS {n : Nat} (h : n < 100000) : n < sizeLine := Nat.lt_of_lt_of_le h (by decide)
/-- a display -/
theorem dlst {ds : List PyData} (h : PA X es (tOs Z ρ (dts ds))) (hl : ds.length ≤ 100000 := by decide) : PE X (.List es pos) (tN Z ρ (mL ds)) :=
  (pe_lst h).imp fun σ H Q ⟨F0, G, F, s, k⟩ => ⟨F0, G, F, s, fun vs F1 H1 g1 k1 => ⟨small (by rw [(OkL.data k1).len]; exact hl), fun p hp =>
    k p _ F1 _ (g1.tr (Go.new g1.fh g1.zk hp)) (by
      cases e : H p with
      | none => rfl
      | some u =>
        by_cases hx : Z.out p
        · exact absurd hp (g1.zk.there hx)
        · rw [g1.h p u hx e] at hp
          cases hp) (g1.fh.free hp) upd_same ⟨vs, rfl, OkL.data k1⟩⟩⟩
theorem Go.was {F H F' H' : Hp} {p : Addr} (g : Go Z F H F' H') (hp : H' p = none) : H p = none := by
  cases e : H p with
  | none => rfl
  | some u =>
    by_cases hx : Z.out p
    · exact absurd hp (g.zk.there hx)
    · rw [g.h p u hx e] at hp
      cases hp
theorem dtup {ds : List PyData} {k0 : Nat} (h : PA X es (tOs Z ρ (dts ds))) (hl : ds.length ≤ 100000 := by decide) : PE X (.Tuple es k0 pos) (tD Z ρ (.tuple ds)) :=
  (pe_tup h).imp fun σ H Q ⟨F0, G, F, s, k⟩ => ⟨F0, G, F, s, fun vs F1 H1 g1 k1 => ⟨small (by rw [(OkL.data k1).len]; exact hl), fun p hp =>
    k _ _ _ (g1.tr (Go.put g1.fh g1.zk hp)) (.tup upd_same .t (RpL.mono (same_new (g1.fh.free hp)) _ _ (OkL.data k1)))⟩⟩

/-! ### calls of built-ins -/
/-- what a call's reading asks, from what is wanted behind -/
def CIn (X : Cx) (Z : Zn) (ρ : En) (r : List V → Hp → VK → Prop) (ws : List (Od Z)) (w' : Od Z) : Prop :=
  ∀ F0 G F H σ vs (Q : VK), St Z F0 G F H σ ρ → OkL F H vs ws → (∀ u F' H', Go Z F H F' H' → w'.ok F' H' u → Q u H') → r vs H Q
def CInN (X : Cx) (Z : Zn) (ρ : En) (r : List V → Hp → VK → Prop) (ws : List (Od Z)) (m : Mt) : Prop :=
  ∀ F0 G F H σ vs (Q : VK), St Z F0 G F H σ ρ → OkL F H vs ws → (∀ p o F' H', Go Z F H F' H' → H p = none → F' p = none → H' p = some o → m.ok p F' o → Q (.ref p) H') → r vs H Q
theorem cb_imp {r : List V → Hp → VK → Prop} {ws : List (Od Z)} {w' : Od Z} (h : CIn X Z ρ r ws w') : ∀ σ H Q, tO Z ρ w' σ H Q → tCB r (tOs Z ρ ws) σ H Q := fun σ H Q ⟨F0, G, F, s, k⟩ =>
  ⟨F0, G, F, s, fun vs F1 H1 g1 k1 => h F0 G F1 H1 σ vs Q (s.mv g1) k1 fun u F2 H2 g2 k2 => k u F2 H2 (g1.tr g2) k2⟩
theorem cb_impN {r : List V → Hp → VK → Prop} {ws : List (Od Z)} {m : Mt} (h : CInN X Z ρ r ws m) : ∀ σ H Q, tN Z ρ m σ H Q → tCB r (tOs Z ρ ws) σ H Q := fun σ H Q ⟨F0, G, F, s, k⟩ =>
  ⟨F0, G, F, s, fun vs F1 H1 g1 k1 => h F0 G F1 H1 σ vs Q (s.mv g1) k1 fun p o F2 H2 g2 n1 n2 n3 k2 => k p o F2 H2 (g1.tr g2) (g1.was n1) n2 n3 k2⟩
variable (T : Bi X.mg)
include T
theorem dlen {ds : List PyData} (hq : Sq m ds) (ha : PE X a (tO Z ρ m.od)) (hg : Gl X "len" := by rfl) (hs : starEach [a] X.env = (false, eval a X.env) :: starEach [] X.env := by rfl) : PE X (.Call (.Name "len" p) [a] [] pos) (tD Z ρ (.int (ds.length : Int))) :=
  (pe_callB call_len_seq hg T.len PySem.boot_len (pa1 ha hs) (he := hs)).imp (cb_imp (X := X) fun F0 G F H σ vs Q s k1 q => by
    cases k1 with
    | cons h1 h2 =>
      cases h2
      obtain ⟨p, us, rfl, h3, h4⟩ := hq.at (K := X.K) h1
      refine ⟨p, us, rfl, h3, ?_⟩
      rw [h4.len]
      exact q _ F H s.self (.int _))
theorem dlenS {x : Str} (ha : PE X a (tD Z ρ (.str x))) (hx : x.length ≤ 100000) (hg : Gl X "len" := by rfl) (hs : starEach [a] X.env = (false, eval a X.env) :: starEach [] X.env := by rfl) : PE X (.Call (.Name "len" p) [a] [] pos) (tD Z ρ (.int (x.length : Int))) :=
  (pe_callB call_len_str hg T.len PySem.boot_len (pa1 ha hs) (he := hs)).imp (cb_imp (X := X) fun F0 G F H σ vs Q s k1 q => by
    cases k1 with
    | cons h1 h2 =>
      cases h2
      rw [Rp.inj_str h1]
      exact ⟨x, rfl, small hx, q _ F H s.self (.int _)⟩)
theorem dall {bs : List Bool} (hc : X.calm = true) (ha : PE X a (tO Z ρ (mL (bs.map .bool)).od)) (hg : Gl X "all" := by rfl) (hs : starEach [a] X.env = (false, eval a X.env) :: starEach [] X.env := by rfl) : PE X (.Call (.Name "all" p) [a] [] pos) (tD Z ρ (.bool (bs.all id))) :=
  (pe_callB (cr_all hc) hg T.all (by decide +kernel) (pa1 ha hs) (he := hs)).imp (cb_imp (X := X) fun F0 G F H σ vs Q s k1 q => by
    cases k1 with
    | cons h1 h2 =>
      cases h2
      obtain ⟨p, us, rfl, h3, h4⟩ := mL_at h1
      rw [RpL.bls h4] at h3
      exact ⟨p, bs, rfl, SqL.of h3, q _ F H s.self (.bl _)⟩)
theorem dany {bs : List Bool} (hc : X.calm = true) (ha : PE X a (tO Z ρ (mL (bs.map .bool)).od)) (hg : Gl X "any" := by rfl) (hs : starEach [a] X.env = (false, eval a X.env) :: starEach [] X.env := by rfl) : PE X (.Call (.Name "any" p) [a] [] pos) (tD Z ρ (.bool (bs.any id))) :=
  (pe_callB (cr_any hc) hg T.any (by decide +kernel) (pa1 ha hs) (he := hs)).imp (cb_imp (X := X) fun F0 G F H σ vs Q s k1 q => by
    cases k1 with
    | cons h1 h2 =>
      cases h2
      obtain ⟨p, us, rfl, h3, h4⟩ := mL_at h1
      rw [RpL.bls h4] at h3
      exact ⟨p, bs, rfl, SqL.of h3, q _ F H s.self (.bl _)⟩)
/-- the greatest of some ints -/
theorem dmax {ns : List Int} {k : Int} (hc : X.calm = true) (ha : PE X a (tO Z ρ (mL (ns.map .int)).od)) (h0 : 0 < ns.length) (hk : ∀ m, m ∈ ns → (∀ y, y ∈ ns → y ≤ m) → m = k) (hg : Gl X "max" := by rfl) (hs : starEach [a] X.env = (false, eval a X.env) :: starEach [] X.env := by rfl) :
    PE X (.Call (.Name "max" p) [a] [] pos) (tD Z ρ (.int k)) :=
  (pe_callB (cr_max hc) hg T.max (by decide +kernel) (pa1 ha hs) (he := hs)).imp (cb_imp (X := X) fun F0 G F H σ vs Q s k1 q => by
    cases k1 with
    | cons h1 h2 =>
      cases h2
      obtain ⟨p, us, rfl, h3, h4⟩ := mL_at h1
      rw [RpL.ints h4] at h3
      refine ⟨p, ns, rfl, SqL.of h3, h0, fun m hm hle => ?_⟩
      rw [hk m hm hle]
      exact q _ F H s.self (.int _))
theorem dtupL {ds : List PyData} (ha : PE X a (tO Z ρ (mL ds).od)) (hg : Gl X "tuple" := by rfl) (hs : starEach [a] X.env = (false, eval a X.env) :: starEach [] X.env := by rfl) : PE X (.Call (.Name "tuple" p) [a] [] pos) (tD Z ρ (.tuple ds)) :=
  (pe_callTy call_tuple_of hg T.tuple (by decide +kernel) (pa1 ha hs) (he := hs)).imp (cb_imp (X := X) fun F0 G F H σ vs Q s k1 q => by
    cases k1 with
    | cons h1 h2 =>
      cases h2
      obtain ⟨p, us, rfl, h3, h4⟩ := mL_at h1
      refine ⟨p, us, rfl, .inl ⟨SqL.of h3, fun l hl => ?_⟩⟩
      exact q _ _ _ (Go.put s.fh s.zk hl) (.tup upd_same .t (RpL.mono (same_new (s.fh.free hl)) _ _ h4)))
/-- tuple of a tuple -/
theorem dtupT {ds : List PyData} (ha : PE X a (tD Z ρ (.tuple ds))) (hg : Gl X "tuple" := by rfl) (hs : starEach [a] X.env = (false, eval a X.env) :: starEach [] X.env := by rfl) : PE X (.Call (.Name "tuple" p) [a] [] pos) (tD Z ρ (.tuple ds)) :=
  (pe_callTy call_tuple_of hg T.tuple (by decide +kernel) (pa1 ha hs) (he := hs)).imp (cb_imp (X := X) fun F0 G F H σ vs Q s k1 q => by
    cases k1 with
    | cons h1 h2 =>
      cases h2
      cases (show Rp F _ (.tuple ds) from h1) with
      | tup h3 ht h4 => exact ⟨_, _, rfl, .inr ⟨ht.sq (s.fh _ _ h3), q _ F H s.self h1⟩⟩)
theorem dlist {ds : List PyData} (hq : Sq m ds) (ha : PE X a (tO Z ρ m.od)) (hg : Gl X "list" := by rfl) (hs : starEach [a] X.env = (false, eval a X.env) :: starEach [] X.env := by rfl) : PE X (.Call (.Name "list" p) [a] [] pos) (tN Z ρ (mL ds)) :=
  (pe_callTy call_list_of hg T.list (by decide +kernel) (pa1 ha hs) (he := hs)).imp (cb_impN (X := X) fun F0 G F H σ vs Q s k1 q => by
    cases k1 with
    | cons h1 h2 =>
      cases h2
      obtain ⟨p, us, rfl, h3, h4⟩ := hq.at (K := X.K) h1
      refine ⟨p, us, rfl, h3, fun l hl => ?_⟩
      exact q l _ F _ (Go.new s.fh s.zk hl) hl (s.fh.free hl) upd_same ⟨us, rfl, h4⟩)
omit T
/-- int, abs -/
theorem dabs (T : Bi X.mg) {i : Int} (ha : PE X a (tD Z ρ (.int i))) (hg : Gl X "abs" := by rfl) (hs : starEach [a] X.env = (false, eval a X.env) :: starEach [] X.env := by rfl) : PE X (.Call (.Name "abs" p) [a] [] pos) (tD Z ρ (.int (if i < 0 then -i else i))) :=
  (pe_callB call_abs hg T.abs (by decide +kernel) (pa1 ha hs) (he := hs)).imp (cb_imp (X := X) fun F0 G F H σ vs Q s k1 q => by
    cases k1 with
    | cons h1 h2 =>
      cases h2
      rw [Rp.inj_int h1]
      exact ⟨i, rfl, q _ F H s.self (.int _)⟩)
theorem dintc (T : Bi X.mg) {i : Int} (ha : PE X a (tD Z ρ (.int i))) (hg : Gl X "int" := by rfl) (hs : starEach [a] X.env = (false, eval a X.env) :: starEach [] X.env := by rfl) : PE X (.Call (.Name "int" p) [a] [] pos) (tD Z ρ (.int i)) :=
  (pe_callTy call_int1 hg T.int (by decide +kernel) (pa1 ha hs) (he := hs)).imp (cb_imp (X := X) fun F0 G F H σ vs Q s k1 q => by
    cases k1 with
    | cons h1 h2 =>
      cases h2
      rw [Rp.inj_int h1]
      exact .inl ⟨i, rfl, q _ F H s.self (.int _)⟩)

/-! ### in, ==, items, slices, sums -/
theorem inV_strs (x : Str) (xs : List Str) : inV (.str x) (xs.map V.str) = decide (x ∈ xs) := by
  induction xs with
  | nil => rfl
  | cons y ys ih =>
    show (eqV (.str y) (.str x) || inV (.str x) (ys.map V.str)) = _
    rw [ih]
    show ((y == x) || decide (x ∈ ys)) = _
    by_cases h : x = y
    · subst h
      simp
    · have h' : ¬ y = x := fun z => h z.symm
      simp [h, h']
theorem strs_flat (xs : List Str) : (xs.map V.str).all flatV = true := by
  induction xs with
  | nil => rfl
  | cons y ys ih =>
    show (flatV (.str y) && (ys.map V.str).all flatV) = true
    rw [ih]
    rfl
theorem inR {F0 G F H : Hp} {σ : L2.St} {u v : V} {Q : VK} {x : Str} {xs : List Str} {neg : Bool} {K : PySem.W.Frag} (hq : Sq m (xs.map .str)) (h1 : (Dt (.str x)).ok F u) (h2 : (m.od (Z := Z)).ok F H v) (q : Q (.bl (if neg then !decide (x ∈ xs) else decide (x ∈ xs))) H) : rIn K neg u v H Q := by
  rw [Rp.inj_str h1]
  obtain ⟨p, us, rfl, h3, h4⟩ := hq.at (K := K) h2
  rw [RpL.strs h4] at h3
  refine ⟨p, _, rfl, h3, rfl, strs_flat xs, ?_⟩
  rw [inV_strs]
  exact q
variable {x : Str} {xs : List Str}
theorem din (hq : Sq m (xs.map .str)) (ha : PE X a (tD Z ρ (.str x))) (hb : PE X b (tO Z ρ m.od)) (hm : behindInMarks .In b = false := by rfl) : PE X (.Compare a [.In] [b] pos) (tD Z ρ (.bool (decide (x ∈ xs)))) :=
  dcmp op_in_seq (fun F0 G F H σ _ _ _ s h1 h2 q => inR (F0 := F0) (G := G) (σ := σ) (neg := false) hq h1 h2 q) ha hb hm
theorem pin (hq : Sq m (xs.map .str)) (ha : PE X a (tD Z ρ (.str x))) (hb : PE X b (tO Z ρ m.od)) (hm : behindInMarks .In b = false := by rfl) : PT X (.Compare a [.In] [b] pos) (tQ Z ρ (decide (x ∈ xs))) :=
  pcmp op_in_seq (fun F0 G F H σ _ _ _ s h1 h2 q => inR (F0 := F0) (G := G) (σ := σ) (neg := false) hq h1 h2 q) ha hb hm
theorem dnin (hq : Sq m (xs.map .str)) (ha : PE X a (tD Z ρ (.str x))) (hb : PE X b (tO Z ρ m.od)) (hm : behindInMarks .NotIn b = false := by rfl) : PE X (.Compare a [.NotIn] [b] pos) (tD Z ρ (.bool (!decide (x ∈ xs)))) :=
  dcmp op_notIn_seq (fun F0 G F H σ _ _ _ s h1 h2 q => inR (F0 := F0) (G := G) (σ := σ) (neg := true) hq h1 h2 q) ha hb hm
theorem pnin (hq : Sq m (xs.map .str)) (ha : PE X a (tD Z ρ (.str x))) (hb : PE X b (tO Z ρ m.od)) (hm : behindInMarks .NotIn b = false := by rfl) : PT X (.Compare a [.NotIn] [b] pos) (tQ Z ρ (!decide (x ∈ xs))) :=
  pcmp op_notIn_seq (fun F0 G F H σ _ _ _ s h1 h2 q => inR (F0 := F0) (G := G) (σ := σ) (neg := true) hq h1 h2 q) ha hb hm
/-- data == data -/
theorem boD {F H : Hp} {d : PyData} {v : V} {K : PySem.W.Frag} (h : ((Dt d).bo (Z := Z)).ok F H v) : Dp K H v d := Rp.dp d v (Rp.mono clr_same d v h)
variable {d d' : PyData} {ds : List PyData}
theorem deqD (hu : X.A.units + 64 < cLine) (s1 : SeqAt.shaped d = true) (s2 : SeqAt.shaped d' = true) (ha : PE X a (tO Z ρ (Dt d).bo)) (hb : PE X b (tO Z ρ (Dt d').bo)) : PE X (.Compare a [.Eq] [b] pos) (tD Z ρ (.bool (PyData.eqv d d'))) :=
  dcmp (op_eqD hu) (fun F0 G F H σ x y Q s h1 h2 q => ⟨d, d', boD h1, boD h2, s1, s2, q⟩) ha hb (nomark _)
theorem peqD (hu : X.A.units + 64 < cLine) (s1 : SeqAt.shaped d = true) (s2 : SeqAt.shaped d' = true) (ha : PE X a (tO Z ρ (Dt d).bo)) (hb : PE X b (tO Z ρ (Dt d').bo)) : PT X (.Compare a [.Eq] [b] pos) (tQ Z ρ (PyData.eqv d d')) :=
  pcmp (op_eqD hu) (fun F0 G F H σ x y Q s h1 h2 q => ⟨d, d', boD h1, boD h2, s1, s2, q⟩) ha hb (nomark _)
theorem dneD (hu : X.A.units + 64 < cLine) (s1 : SeqAt.shaped d = true) (s2 : SeqAt.shaped d' = true) (ha : PE X a (tO Z ρ (Dt d).bo)) (hb : PE X b (tO Z ρ (Dt d').bo)) : PE X (.Compare a [.NotEq] [b] pos) (tD Z ρ (.bool (!PyData.eqv d d'))) :=
  dcmp (op_neD hu) (fun F0 G F H σ x y Q s h1 h2 q => ⟨d, d', boD h1, boD h2, s1, s2, q⟩) ha hb (nomark _)
theorem pneD (hu : X.A.units + 64 < cLine) (s1 : SeqAt.shaped d = true) (s2 : SeqAt.shaped d' = true) (ha : PE X a (tO Z ρ (Dt d).bo)) (hb : PE X b (tO Z ρ (Dt d').bo)) : PT X (.Compare a [.NotEq] [b] pos) (tQ Z ρ (!PyData.eqv d d')) :=
  pcmp (op_neD hu) (fun F0 G F H σ x y Q s h1 h2 q => ⟨d, d', boD h1, boD h2, s1, s2, q⟩) ha hb (nomark _)
/-- data in a list of data -/
theorem pinD (hu : X.A.units + 65 < cLine) (s1 : SeqAt.shaped d = true) (s2 : SeqAt.shaped (.list ds) = true) (ha : PE X a (tO Z ρ (Dt d).bo)) (hb : PE X b (tO Z ρ (Dt (.list ds)).bo)) (hm : behindInMarks .In b = false := by rfl) : PT X (.Compare a [.In] [b] pos) (tQ Z ρ (ds.any fun z => PyData.eqv z d)) :=
  pcmp (op_inD hu) (fun F0 G F H σ x y Q s h1 h2 q => ⟨d, ds, boD h1, boD h2, s1, s2, q⟩) ha hb hm
theorem pninD (hu : X.A.units + 65 < cLine) (s1 : SeqAt.shaped d = true) (s2 : SeqAt.shaped (.list ds) = true) (ha : PE X a (tO Z ρ (Dt d).bo)) (hb : PE X b (tO Z ρ (Dt (.list ds)).bo)) (hm : behindInMarks .NotIn b = false := by rfl) : PT X (.Compare a [.NotIn] [b] pos) (tQ Z ρ (!ds.any fun z => PyData.eqv z d)) :=
  pcmp (op_notInD hu) (fun F0 G F H σ x y Q s h1 h2 q => ⟨d, ds, boD h1, boD h2, s1, s2, q⟩) ha hb hm
theorem at_rp {F : Hp} {vs : List V} {i : Int} {d : PyData} (h : RpL F vs ds) (hi : atI ds i = some d) : ∃ v, atI vs i = some v ∧ Rp F v d := by
  unfold atI at hi ⊢
  rw [h.len]
  cases e : ixN ds.length i with
  | none =>
    rw [e] at hi
    cases hi
  | some j =>
    rw [e] at hi
    exact RpL.at h hi
variable {i : Int}
/-- an item -/
theorem dixL (ha : PE X a (tO Z ρ (mL ds).od)) (hb : PE X b (tD Z ρ (.int i))) (hi : atI ds i = some d) (hp : PlainIx b := by exact fun _ _ => rfl) : PE X (.Subscript a b pos) (tD Z ρ d) :=
  (pe_ix ix_list ha hb hp).imp (imp2 fun F0 G F H σ x y Q s h1 h2 k => by
    obtain ⟨p, us, rfl, h3, h4⟩ := mL_at h1
    rw [Rp.inj_int h2]
    obtain ⟨v, h5, h6⟩ := at_rp h4 hi
    exact ⟨p, us, i, v, rfl, rfl, SqL.of h3, h5, k v F H s.self h6⟩)
theorem dixT (ha : PE X a (tO Z ρ (mT ds).od)) (hb : PE X b (tD Z ρ (.int i))) (hi : atI ds i = some d) (hp : PlainIx b := by exact fun _ _ => rfl) : PE X (.Subscript a b pos) (tD Z ρ d) :=
  (pe_ix ix_tup ha hb hp).imp (imp2 fun F0 G F H σ x y Q s h1 h2 k => by
    obtain ⟨p, us, rfl, h3, h4⟩ := mT_at h1
    rw [Rp.inj_int h2]
    obtain ⟨v, h5, h6⟩ := at_rp h4 hi
    exact ⟨p, us, i, v, rfl, rfl, h3 _, h5, k v F H s.self h6⟩)
/-- a sign of a text -/
theorem dixS {z : Str} {c : Nat} (ha : PE X a (tD Z ρ (.str z))) (hb : PE X b (tD Z ρ (.int i))) (hz : z.length ≤ 100000) (hi : atI z.cps.toList i = some c) (hp : PlainIx b := by exact fun _ _ => rfl) : PE X (.Subscript a b pos) (tD Z ρ (.str ⟨#[c]⟩)) :=
  (pe_ix ix_str ha hb hp).imp (imp2 fun F0 G F H σ x y Q s h1 h2 k => by
    rw [Rp.inj_str h1, Rp.inj_int h2]
    exact ⟨z, i, c, rfl, rfl, small hz, hi, k _ F H s.self (.str _)⟩)
/-- lists' and tuples' sums -/
theorem dcatL {ds' : List PyData} (ha : PE X a (tO Z ρ (mL ds).od)) (hb : PE X b (tO Z ρ (mL ds').od)) (hz : ds.length + ds'.length ≤ 100000) : PE X (.BinOp a .Add b pos) (tN Z ρ (mL (ds ++ ds'))) :=
  (pe_op op_cat ha hb).imp (imp2N fun F0 G F H σ x y Q s h1 h2 k => by
    obtain ⟨p, us, rfl, h3, h4⟩ := mL_at h1
    obtain ⟨q, ws, rfl, h5, h6⟩ := mL_at h2
    refine ⟨p, q, us, ws, rfl, rfl, h3, h5, small (by rw [h4.len, h6.len]; exact hz), fun l hl => ?_⟩
    exact k l _ F _ (Go.new s.fh s.zk hl) hl (s.fh.free hl) upd_same ⟨_, rfl, h4.app h6⟩)
theorem dcatT {ds' : List PyData} (ha : PE X a (tD Z ρ (.tuple ds))) (hb : PE X b (tD Z ρ (.tuple ds'))) (hz : ds.length + ds'.length ≤ 100000) : PE X (.BinOp a .Add b pos) (tD Z ρ (.tuple (ds ++ ds'))) :=
  (pe_op op_catA ha hb).imp (imp2 fun F0 G F H σ x y Q s h1 h2 k => by
    cases (show Rp F x _ from h1) with
    | tup h3 t3 h4 =>
      cases (show Rp F y _ from h2) with
      | tup h5 t5 h6 =>
        refine ⟨_, _, _, _, rfl, rfl, t3.sq (s.fh _ _ h3), t5.sq (s.fh _ _ h5), small (by rw [h4.len, h6.len]; exact hz), fun e => ?_, fun _ e => ?_, fun _ _ l hl => ?_⟩
        · subst e
          cases h4
          exact k _ F H s.self h2
        · subst e
          cases h6
          rw [List.append_nil] at k
          exact k _ F H s.self h1
        · exact k _ _ _ (Go.put s.fh s.zk hl) (.tup upd_same .t (RpL.mono (same_new (s.fh.free hl)) _ _ (h4.app h6))))
/-! slices -/
def cutA {α : Type} (xs : List α) (lo hi : Option Int) : List α := (xs.drop (HT.sIx xs.length 0 lo)).take (HT.sIx xs.length xs.length hi - HT.sIx xs.length 0 lo)
theorem RpL.cut {F : Hp} {vs : List V} {ds : List PyData} (h : RpL F vs ds) (lo hi : Option Int) : RpL F (cutV vs lo hi) (cutA ds lo hi) := by
  unfold cutV cutA
  rw [h.len]
  exact RpL.take _ (RpL.drop _ h)
theorem cutA_map {α β : Type} (f : α → β) (xs : List α) (lo hi : Option Int) : cutA (xs.map f) lo hi = (cutA xs lo hi).map f := by
  unfold cutA
  rw [List.length_map, List.map_take, List.map_drop]
theorem cutA_to {α : Type} (xs : List α) {n : Int} (h : 0 ≤ n) : cutA xs none (some n) = xs.take n.toNat := by
  unfold cutA
  rw [show HT.sIx xs.length 0 none = 0 from rfl]
  have e : (some n : Option Int) = some ((n.toNat : Nat) : Int) := by rw [Int.toNat_of_nonneg h]
  rw [e, HT.sIx_nat]
  show List.take (min n.toNat xs.length - 0) (List.drop 0 xs) = _
  rw [Nat.sub_zero, List.drop_zero]
  by_cases hl : n.toNat ≤ xs.length
  · rw [Nat.min_eq_left hl]
  · rw [Nat.min_eq_right (by omega), List.take_of_length_le (Nat.le_refl _), List.take_of_length_le (by omega)]
theorem cutA_from {α : Type} (xs : List α) {n : Int} (h : 0 ≤ n) : cutA xs (some n) none = xs.drop n.toNat := by
  unfold cutA
  rw [show HT.sIx xs.length xs.length none = xs.length from rfl]
  have e : (some n : Option Int) = some ((n.toNat : Nat) : Int) := by rw [Int.toNat_of_nonneg h]
  rw [e, HT.sIx_nat]
  by_cases hl : n.toNat ≤ xs.length
  · rw [Nat.min_eq_left hl, List.take_of_length_le (by rw [List.length_drop]; exact Nat.le_refl _)]
  · rw [Nat.min_eq_right (by omega), Nat.sub_self, List.take_zero, List.drop_of_length_le (by omega)]
/-- all but the last -/
theorem cutA_init {α : Type} (xs : List α) : cutA xs none (some (-1)) = xs.dropLast := by
  unfold cutA
  rw [show HT.sIx xs.length 0 none = 0 from rfl]
  have e : HT.sIx xs.length xs.length (some (-1)) = xs.length - 1 := by
    simp only [HT.sIx]
    rw [if_pos (show (-1 : Int) < 0 by decide)]
    omega
  rw [e, Nat.sub_zero, List.drop_zero, List.dropLast_eq_take]
/-- the last alone -/
theorem cutA_last {α : Type} (xs : List α) : cutA xs (some (-1)) none = xs.drop (xs.length - 1) := by
  unfold cutA
  rw [show HT.sIx xs.length xs.length none = xs.length from rfl]
  have e : HT.sIx xs.length 0 (some (-1)) = xs.length - 1 := by
    simp only [HT.sIx]
    rw [if_pos (show (-1 : Int) < 0 by decide)]
    omega
  rw [e, List.take_of_length_le (by rw [List.length_drop]; omega)]
def tPo (Z : Zn) (ρ : En) (o : Option Int) : TO := fun σ H Q => ∃ F0 G F, St Z F0 G F H σ ρ ∧ ∀ F' H', Go Z F H F' H' → Q o H'
theorem _root_.L2.PO.imp {e : Option Expr} {t t' : TO} (h : PO X e t) (k : ∀ σ H Q, t' σ H Q → t σ H Q) : PO X e t' := ⟨fun pins s σ H Q I q => h.run pins s σ H Q I (k σ H Q q)⟩
theorem po0 : PO X none (tPo Z ρ none) := po_none.imp fun σ H Q ⟨F0, G, F, s, k⟩ => k F H s.self
theorem po1 (h : PE X e (tD Z ρ (.int i))) : PO X (some e) (tPo Z ρ (some i)) := (po_some h).imp fun σ H Q ⟨F0, G, F, s, k⟩ => ⟨F0, G, F, s, fun v F1 H1 g1 k1 => ⟨i, Rp.inj_int k1, k F1 H1 g1⟩⟩
variable {lo hi : Option Expr} {ol oh : Option Int} {p2 : Pos}
theorem dslL (ha : PE X a (tO Z ρ (mL ds).od)) (hl : PO X lo (tPo Z ρ ol)) (hh : PO X hi (tPo Z ρ oh)) : PE X (.Subscript a (.Slice lo hi none p2) pos) (tN Z ρ (mL (cutA ds ol oh))) :=
  (pe_slice sl_list ha hl hh).imp fun σ H Q h => tO.useN h fun F0 G F H1 v s k1 q => ⟨F0, G, F, s, fun F2 H2 g2 => ⟨F0, G, F2, s.mv g2, fun F3 H3 g3 => by
    have g := g2.tr g3
    obtain ⟨p, us, rfl, h3, h4⟩ := mL_at (((mL ds).od (Z := Z)).mv g k1)
    refine ⟨p, us, rfl, SqL.of h3, fun l hl => ?_⟩
    exact q l _ F3 _ (g.tr (Go.new g.fh g.zk hl)) (g.was hl) (g.fh.free hl) upd_same ⟨_, rfl, h4.cut ol oh⟩⟩⟩
theorem dslT (ha : PE X a (tD Z ρ (.tuple ds))) (hl : PO X lo (tPo Z ρ ol)) (hh : PO X hi (tPo Z ρ oh)) : PE X (.Subscript a (.Slice lo hi none p2) pos) (tD Z ρ (.tuple (cutA ds ol oh))) :=
  (pe_slice sl_tupA ha hl hh).imp fun σ H Q h => tO.use h fun F0 G F H1 v s k1 q => ⟨F0, G, F, s, fun F2 H2 g2 => ⟨F0, G, F2, s.mv g2, fun F3 H3 g3 => by
    have g := g2.tr g3
    cases (show Rp F v _ from k1) with
    | @tup p o us _ h3 t3 h4 =>
      have h5 := RpL.mono g.f _ _ h4
      refine ⟨p, us, rfl, t3.sq (g.fh _ _ (g.f _ _ h3)), fun ⟨e1, e2⟩ => ?_, fun _ l hl => ?_⟩
      · have e : cutA ds ol oh = ds := by
          unfold cutA
          rw [← h4.len, e1, e2, Nat.sub_zero, List.drop_zero, List.take_of_length_le (by rw [h4.len]; exact Nat.le_refl _)]
        rw [e] at q
        exact q _ F3 H3 g (.tup (g.f _ _ h3) t3 h5)
      · exact q _ _ _ (g.tr (Go.put g.fh g.zk hl)) (.tup upd_same .t (RpL.mono (same_new (g.fh.free hl)) _ _ (h5.cut ol oh)))⟩⟩
/-- xs[::-1] -/
theorem drev {k : Nat} {p1 p3 p4 : Pos} (ha : PE X a (tO Z ρ (mL ds).od)) : PE X (.Subscript a (.Slice none none (some (.UnaryOp .USub (.Constant (.int 1) k p1) p3)) p4) pos) (tN Z ρ (mL ds.reverse)) :=
  (pe_revL ha).imp fun σ H Q h => tO.useN h fun F0 G F H1 v s k1 q => by
    obtain ⟨p, us, rfl, h3, h4⟩ := mL_at k1
    exact ⟨p, us, rfl, SqL.of h3, fun l hl => q l _ F _ (Go.new s.fh s.zk hl) hl (s.fh.free hl) upd_same ⟨_, rfl, h4.rev⟩⟩
end
end Kb
end TKd
section TKf
set_option Elab.async false
set_option linter.all false
set_option maxRecDepth 100000
set_option maxHeartbeats 4000000
/-! Kf: what is walked, targets, comprehensions over the abstract environment. -/
namespace Kb
open PySem PySem.Spec PyProof.Rows L2

/-- the iterator J gives things of these kinds, one by one, whatever new things are made meanwhile -/
def Wk (Z : Zn) (J : It) (ts : List Ty) (F1 : Hp) : Prop := ∀ F H, Same F1 F → Same F H → Z.ok H → (∀ a, Z.out a → F a = none) →
  (∀ i, i < ts.length → J.go i H) ∧ J.stop ts.length H ∧ ∀ i t x H', ts[i]? = some t → J.yld i H x H' → ∃ F', Go Z F H F' H' ∧ t.ok F' x
def tI (Z : Zn) (ρ : En) (ts : List Ty) : TI := fun σ H R => ∃ F0 G F, St Z F0 G F H σ ρ ∧ ∀ J F' H', Go Z F H F' H' → Wk Z J ts F' → R J H'
theorem _root_.L2.PI.imp {X : Cx} {tg e : Expr} {t t' : TI} (h : PI X tg e t) (k : ∀ σ H Q, t' σ H Q → t σ H Q) : PI X tg e t' := ⟨fun pins s σ H Q I q => h.run pins s σ H Q I (k σ H Q q)⟩
theorem _root_.L2.PG.imp {X : Cx} {tg : Expr} {t t' : TG} (h : PG X tg t) (k : ∀ v σ H Q, t' v σ H Q → t v σ H Q) : PG X tg t' := ⟨fun pins s σ H v u Q I r q => h.run pins s σ H v u Q I r (k v σ H Q q)⟩
theorem _root_.L2.PGs.imp {X : Cx} {tg : List Expr} {t t' : TGs} (h : PGs X tg t) (k : ∀ v σ H Q, t' v σ H Q → t v σ H Q) : PGs X tg t' := ⟨fun pins s σ H v u Q I r q => h.run pins s σ H v u Q I r (k v σ H Q q)⟩
theorem _root_.L2.PTs.imp {X : Cx} {e : List Expr} {t t' : TT} (h : PTs X e t) (k : ∀ σ H Q, t' σ H Q → t σ H Q) : PTs X e t' := ⟨fun pins s σ H Q I q => h.run pins s σ H Q I (k σ H Q q)⟩

theorem bl {i n : Nat} (h : Nat.blt i n = true) : i < n := Nat.le_of_ble_eq_true h
/-! ### targets -/
/-- what a comprehension keeps of its slots; a statement keeps nothing -/
def Rl : Option (List Nat) → L2.St → L2.St → Prop
  | none, _, _ => True
  | some vs, σ, σ' => wipe σ' vs = wipe σ vs
def okI : Option (List Nat) → Nat → Bool
  | none, _ => true
  | some vs, i => vs.contains i
theorem wipe_at : ∀ (vs : List Nat) (τ : L2.St) (j : Nat), (wipe τ vs)[j]? = if j ∈ vs then (if j < τ.length then some none else none) else τ[j]?
  | [], τ, j => by simp [wipe]
  | v :: vs, τ, j => by
    show ((wipe τ vs).set v none)[j]? = _
    by_cases e : v = j
    · subst e
      rw [List.getElem?_set]
      simp [wipe_length]
    · rw [List.getElem?_set_ne e, wipe_at vs τ j]
      have e' : ¬ j = v := fun z => e z.symm
      simp [e']
theorem wipe_wipe (σ : L2.St) (vs : List Nat) : wipe (wipe σ vs) vs = wipe σ vs := by
  apply List.ext_getElem?
  intro j
  rw [wipe_at, wipe_at, wipe_length]
  split <;> rfl
theorem wipe_set {σ : L2.St} {x : Option V} {i : Nat} {vs : List Nat} (hi : i ∈ vs) : wipe (σ.set i x) vs = wipe σ vs := by
  apply List.ext_getElem?
  intro j
  rw [wipe_at, wipe_at, List.length_set]
  split
  · rfl
  · rename_i h
    rw [List.getElem?_set_ne (fun e => h (by rw [← e]; exact hi))]
theorem Rl.set {o : Option (List Nat)} {σ : L2.St} {x : Option V} {i : Nat} (h : okI o i = true) : Rl o σ (σ.set i x) := by
  cases o with
  | none => trivial
  | some vs => exact wipe_set (List.elem_iff.mp h)
theorem Rl.rfl {o : Option (List Nat)} {σ : L2.St} : Rl o σ σ := by
  cases o with
  | none => trivial
  | some vs => exact Eq.refl _
theorem Rl.trans {o : Option (List Nat)} {a b c : L2.St} (h : Rl o a b) (k : Rl o b c) : Rl o a c := by
  cases o with
  | none => trivial
  | some vs => exact Eq.trans k h
def tGt (o : Option (List Nat)) (Z : Zn) (ρ : En) (t : Ty) (ρ' : En) : TG := fun v σ H Q => ∃ F0 G F, St Z F0 G F H σ ρ ∧ t.ok F v ∧ ∀ σ', St Z F0 G F H σ' ρ' → Rl o σ σ' → Q σ' H
def tGs (o : Option (List Nat)) (Z : Zn) (ρ : En) (ds : List PyData) (ρ' : En) : TGs := fun vs σ H Q => ∃ F0 G F, St Z F0 G F H σ ρ ∧ RpL F vs ds ∧ ∀ σ', St Z F0 G F H σ' ρ' → Rl o σ σ' → Q σ' H
section
variable {X : Cx} {Z : Zn} {ρ ρ1 ρ2 : En} {e a b c tg : Expr} {es : List Expr} {pos p : Pos} {t : Ty} {m : Mt} {o : Option (List Nat)} {d : PyData} {ds : List PyData}
theorem gn (i : Nat) {x : Str} (hN : X.N.Nodup) (hi : X.N[i]? = some x := by rfl) (hx : Loc X.env.scope x := by first | exact Or.inl rfl | exact Or.inr rfl) (hl : Nat.blt i ρ.length = true := by rfl) (ho : okI o i = true := by rfl)
    (hf : X.fn x = true ∨ X.env.scope.names.lookup x = some .local := by first | exact .inl rfl | exact .inr rfl) : PG X (.Name x pos) (tGt o Z ρ t (ρ.set i (some (.im t)))) :=
  (pg_name hN hi hx hf).imp fun v σ H Q ⟨F0, G, F, s, h, k⟩ => k _ (s.setI (bl hl) h) (Rl.set ho)
theorem gs0 : PGs X [] (tGs o Z ρ [] ρ) := pgs_nil.imp fun vs σ H Q ⟨F0, G, F, s, h, k⟩ => by
  cases h
  exact ⟨rfl, k _ s Rl.rfl⟩
theorem gsc (h1 : PG X e (tGt o Z ρ (Dt d) ρ1)) (h2 : PGs X es (tGs o Z ρ1 ds ρ2)) (hs : (assignEach (e :: es) X.env).map (·.2) = assign e X.env :: (assignEach es X.env).map (·.2) := by rfl) : PGs X (e :: es) (tGs o Z ρ (d :: ds) ρ2) :=
  (pgs_cons h1 h2 hs).imp fun vs σ H Q ⟨F0, G, F, s, h, k⟩ => by
    cases h with
    | cons r rr => exact ⟨_, _, rfl, F0, G, F, s, r, fun σ1 s1 l1 => ⟨F0, G, F, s1, rr, fun σ2 s2 l2 => k σ2 s2 (l1.trans l2)⟩⟩
theorem gt (hc : X.calm = true) {k : Nat} (h : PGs X es (tGs o Z ρ ds ρ1)) (hn : (assignEach es X.env).length = ds.length := by rfl) (hst : (assignEach es X.env).findIdx? (·.1) = none := by rfl) : PG X (.Tuple es k pos) (tGt o Z ρ (Dt (.tuple ds)) ρ1) :=
  (pg_tup hc h hn hst).imp fun v σ H Q ⟨F0, G, F, s, h, k⟩ => by
    cases (show Rp F v _ from h) with
    | tup h3 ht h4 => exact ⟨_, _, rfl, ht.sq (s.fh _ _ h3), h4.len, F0, G, F, s, h4, k⟩

/-! ### iterables -/
theorem Wk.list {K : PySem.W.Frag} {F1 : Hp} {a : Addr} {vs : List V} {ds : List PyData} (h : F1 a = some (.lst vs)) (r : RpL F1 vs ds) : Wk Z (Itl K a) (ds.map Dt) F1 := fun F H e1 e2 zk zo => by
  have hq : SqL K H a vs := SqL.of (e2 _ _ (e1 _ _ h))
  refine ⟨fun i hi => ?_, ⟨vs, hq, by rw [List.length_map, r.len]; exact Nat.le_refl _⟩, fun i t x H' hti y => ?_⟩
  · rw [List.length_map, ← r.len] at hi
    exact ⟨vs, vs[i], hq, by simp [hi]⟩
  · obtain ⟨rfl, y⟩ := y
    obtain ⟨d, h1, h2⟩ := r.get (y vs hq)
    rw [List.getElem?_map, h1] at hti
    cases hti
    exact ⟨F, Go.rfl e2 zk, Rp.mono e1 d x h2⟩
theorem Wk.tup {K : PySem.W.Frag} {F1 : Hp} {a : Addr} {vs : List V} {ds : List PyData} {o : HO} (h : F1 a = some o) (ht : TuO vs o) (r : RpL F1 vs ds) : Wk Z (Itt K a) (ds.map Dt) F1 := fun F H e1 e2 zk zo => by
  have hq : SqT K H a vs := ht.sq (e2 _ _ (e1 _ _ h))
  refine ⟨fun i hi => ?_, ⟨vs, hq, by rw [List.length_map, r.len]; exact Nat.le_refl _⟩, fun i t x H' hti y => ?_⟩
  · rw [List.length_map, ← r.len] at hi
    exact ⟨vs, vs[i], hq, by simp [hi]⟩
  · obtain ⟨rfl, y⟩ := y
    obtain ⟨d, h1, h2⟩ := r.get (y vs hq)
    rw [List.getElem?_map, h1] at hti
    cases hti
    exact ⟨F, Go.rfl e2 zk, Rp.mono e1 d x h2⟩
theorem itL (ha : PE X a (tD Z ρ (.list ds))) : PI X tg a (tI Z ρ (ds.map Dt)) := (pi_list ha).imp fun σ H Q ⟨F0, G, F, s, k⟩ => ⟨F0, G, F, s, fun v F1 H1 g1 k1 => by
  cases (show Rp F1 v _ from k1) with
  | lst h3 h4 => exact ⟨_, rfl, ⟨_, SqL.of (g1.fh _ _ h3)⟩, k _ F1 H1 g1 (Wk.list h3 h4)⟩⟩
theorem itT (ha : PE X a (tD Z ρ (.tuple ds))) : PI X tg a (tI Z ρ (ds.map Dt)) := (pi_tup ha).imp fun σ H Q ⟨F0, G, F, s, k⟩ => ⟨F0, G, F, s, fun v F1 H1 g1 k1 => by
  cases (show Rp F1 v _ from k1) with
  | tup h3 ht h4 => exact ⟨_, rfl, ⟨_, ht.sq (g1.fh _ _ h3)⟩, k _ F1 H1 g1 (Wk.tup h3 ht h4)⟩⟩
theorem itLs {α : Type} {xs : List α} {f : α → PyData} (ha : PE X a (tD Z ρ (.list (xs.map f)))) : PI X tg a (tI Z ρ (xs.map fun x => Dt (f x))) := by
  have h := itL (tg := tg) ha
  rw [List.map_map] at h
  exact h
theorem itTs {α : Type} {xs : List α} {f : α → PyData} (ha : PE X a (tD Z ρ (.tuple (xs.map f)))) : PI X tg a (tI Z ρ (xs.map fun x => Dt (f x))) := by
  have h := itT (tg := tg) ha
  rw [List.map_map] at h
  exact h
theorem itR (T : Bi X.mg) {n : Int} (ha : PE X a (tD Z ρ (.int n))) (h0 : -1 ≤ n ∧ n ≤ 100000) (hg : Gl X "range" := by rfl) (hs : starEach [a] X.env = [(false, eval a X.env)] := by rfl) : PI X tg (.Call (.Name "range" p) [a] [] pos) (tI Z ρ ((List.range n.toNat).map fun (i : Nat) => Dt (.int (i : Int)))) :=
  (pi_range1 hg T.range (pa1 ha (hs.trans rfl)) hs).imp fun σ H Q ⟨F0, G, F, s, k⟩ => ⟨F0, G, F, s, fun vs F1 H1 g1 k1 => by
    cases k1 with
    | cons h1 h2 =>
      cases h2
      rw [Rp.inj_int h1]
      refine ⟨n, rfl, by omega, by omega, k _ F1 H1 g1 fun F H e1 e2 zk zo => ⟨fun i hi => ?_, ?_, fun i t x H' ht y => ?_⟩⟩
      · rw [List.length_map, List.length_range] at hi
        exact hi
      · rw [List.length_map, List.length_range]
        exact Nat.le_refl _
      · obtain ⟨rfl, y⟩ := y
        rw [List.getElem?_map] at ht
        cases e : (List.range n.toNat)[i]? with
        | none =>
          rw [e] at ht
          cases ht
        | some j =>
          rw [e] at ht
          cases ht
          have ej : j = i := by
            rw [List.getElem?_range (by
              have := (List.getElem?_eq_some_iff.mp e).1
              rw [List.length_range] at this
              exact this)] at e
            exact (Option.some.inj e).symm
          subst ej
          rw [y, Int.zero_add]
          exact ⟨F, Go.rfl e2 zk, .int _⟩⟩
/-- a new pair -/
theorem Wk.pair {F H H' : Hp} {T : Addr} {x y : V} {d d' : PyData} (e2 : Same F H) (zk : Z.ok H) (hT : H T = none) (eH : H' = upd H T (.tup [x, y])) (h1 : Rp F x d) (h2 : Rp F y d') : ∃ F', Go Z F H F' H' ∧ (Dt (.tuple [d, d'])).ok F' (.ref T) := by
  subst eH
  exact ⟨_, Go.put e2 zk hT, .tup upd_same .t (.cons (Rp.mono (same_new (e2.free hT)) _ _ h1) (.cons (Rp.mono (same_new (e2.free hT)) _ _ h2) .nil))⟩
def enD (ds : List PyData) : List PyData := ds.zipIdx.map fun p => .tuple [.int (p.2 : Int), p.1]
theorem enD_len (ds : List PyData) : (enD ds).length = ds.length := by
  unfold enD
  rw [List.length_map, List.length_zipIdx]
theorem enD_at {ds : List PyData} {i : Nat} {d : PyData} (h : ds[i]? = some d) : (enD ds)[i]? = some (.tuple [.int (i : Int), d]) := by
  unfold enD
  rw [List.getElem?_map, List.getElem?_zipIdx, h]
  simp
theorem itE (T : Bi X.mg) {elts : List Expr} {kk : Nat} {tpos : Pos} (ha : PE X a (tD Z ρ (.list ds))) (hg : Gl X "enumerate" := by rfl) (hs : starEach [a] X.env = [(false, eval a X.env)] := by rfl) : PI X (.Tuple elts kk tpos) (.Call (.Name "enumerate" p) [a] [] pos) (tI Z ρ ((enD ds).map Dt)) :=
  (pi_enum hg T.enumerate (pa1 ha (hs.trans rfl)) hs).imp fun σ H Q ⟨F0, G, F, s, k⟩ => ⟨F0, G, F, s, fun vs F1 H1 g1 k1 => by
    cases k1 with
    | cons h1 h2 =>
      cases h2
      cases (show Rp F1 _ _ from h1) with
      | @lst p us _ h3 h4 =>
        refine ⟨p, us, rfl, SqL.of (g1.fh _ _ h3), k _ F1 H1 g1 fun F H e1 e2 zk zo => ?_⟩
        have hq : SqL X.K H p us := SqL.of (e2 _ _ (e1 _ _ h3))
        refine ⟨fun i hi => ?_, ⟨us, hq, by rw [List.length_map, enD_len, h4.len]; exact Nat.le_refl _⟩, fun i t x H' ht y => ?_⟩
        · rw [List.length_map, enD_len, ← h4.len] at hi
          exact ⟨us, us[i], hq, by simp [hi]⟩
        · obtain ⟨T, z, q1, q2, q3, q4⟩ := y
          obtain ⟨d, h5, h6⟩ := h4.get (q4 us hq)
          rw [List.getElem?_map, enD_at h5] at ht
          cases ht
          subst q1
          exact Wk.pair e2 zk q2 q3 (.int _) (Rp.mono e1 _ _ h6)⟩

theorem enD_map {α : Type} (xs : List α) (f : α → PyData) : enD (xs.map f) = xs.zipIdx.map fun p => .tuple [.int (p.2 : Int), f p.1] := by
  unfold enD
  rw [List.zipIdx_map, List.map_map]
  rfl
theorem itEs (T : Bi X.mg) {α : Type} {xs : List α} {f : α → PyData} {elts : List Expr} {kk : Nat} {tpos : Pos} (ha : PE X a (tD Z ρ (.list (xs.map f)))) (hg : Gl X "enumerate" := by rfl) (hs : starEach [a] X.env = [(false, eval a X.env)] := by rfl) :
    PI X (.Tuple elts kk tpos) (.Call (.Name "enumerate" p) [a] [] pos) (tI Z ρ (xs.zipIdx.map fun p => Dt (.tuple [.int (p.2 : Int), f p.1]))) := by
  have h := itE T (elts := elts) (kk := kk) (tpos := tpos) (p := p) (pos := pos) ha hg hs
  rw [enD_map, List.map_map] at h
  exact h

/-! ### comprehensions -/
/-- a new list with one of these contents -/
def tNe (Z : Zn) (ρ : En) (A : List PyData → Prop) : TE := fun σ H Q => ∃ F0 G F, St Z F0 G F H σ ρ ∧ ∀ acc, A acc → ∀ p vs F' H', Go Z F H F' H' → H p = none → F' p = none → H' p = some (.lst vs) → RpL F' vs acc → Q (.ref p) H'
theorem ne1 (h : PE X e (tNe Z ρ (· = ds))) : PE X e (tN Z ρ (mL ds)) := h.imp fun σ H Q ⟨F0, G, F, s, k⟩ => ⟨F0, G, F, s, fun acc ha p vs F' H' g n1 n2 n3 r => k p _ F' H' g n1 n2 n3 ⟨vs, rfl, by rw [← ha]; exact r⟩⟩
theorem neX (A : List PyData → Prop) (h : PE X e (tNe Z ρ A)) : PE X e (tO Z ρ (Ty.ex A fun l => Dt (.list l)).od) := h.imp fun σ H Q ⟨F0, G, F, s, k⟩ => ⟨F0, G, F, s, fun acc ha p vs F' H' g n1 n2 n3 r =>
  k _ _ H' (g.keep n1 n3 n2) ⟨acc, ha, .lst upd_same (RpL.mono (same_new n2) _ _ r)⟩⟩
def wipeA (ρ : En) : List Nat → En
  | [] => ρ
  | v :: vs => (wipeA ρ vs).set v none
theorem St.wipe {F0 G F H : Hp} {σ : L2.St} {ρ : En} (s : St Z F0 G F H σ ρ) : ∀ vs : List Nat, St Z F0 G F H (L2.wipe σ vs) (wipeA ρ vs)
  | [] => s
  | v :: vs => (s.wipe vs).drop
/-- an object that no slot holds is changed -/
theorem St.own {F0 G F H : Hp} {σ : L2.St} {ρ : En} {D : Addr} {o1 o2 : HO} (s : St Z F0 G F H σ ρ) (hF : F D = none) (hG : G D = none) (hx : ¬ Z.out D) (hD : ∀ (i : Nat) (m : Mt), ρ[i]? = some (some (.mu m)) → σ[i]? ≠ some (some (.ref D)))
    (ho : H D = some o1) (nc : ∀ c q, o1 ≠ LamX.CodeO c q) : St Z F0 G F (upd H D o2) σ ρ := by
  have sm : ∀ a w, a ≠ D → H a = some w → upd H D o2 a = some w := fun a w ha e => by
    rw [upd_ne ha]
    exact e
  have out : ∀ a, Z.out a → upd H D o2 a = H a := fun a ha => upd_ne (fun z => hx (by rw [← z]; exact ha))
  refine ⟨⟨s.go.f, fun a w e => ?_, fun a w na e => ?_, s.go.nw, ⟨?_, fun z e => ?_⟩⟩, s.zo, s.len, s.im, fun j u hj => ?_, s.ap, s.dl⟩
  · exact sm a w (fun z => by rw [z, hF] at e; cases e) (s.fh a w e)
  · exact sm a w (fun z => by rw [z, hG] at e; cases e) (s.go.h a w na e)
  · obtain ⟨ps, h1, h2, h3⟩ := s.zk.tab
    refine ⟨ps, by rw [out _ (.inl rfl)]; exact h1, h2, fun pos cv hc => ?_⟩
    obtain ⟨c, e1, e2⟩ := h3 pos cv hc
    refine ⟨c, e1, ?_⟩
    by_cases hc : c = D
    · rw [hc, ho] at e2
      rw [← hc] at e2
      exact absurd (Option.some.inj e2) (nc c Z.qn)
    · rw [upd_ne hc]
      exact e2
  · obtain ⟨cs, b, h1, h2, r⟩ := s.zk.deal z e
    exact ⟨cs, b, by rw [out _ (.inr ⟨z, e, .inl rfl⟩)]; exact h1, by rw [out _ (.inr ⟨z, e, .inr rfl⟩)]; exact h2, r⟩
  · obtain ⟨q, w, h1, h2, h3⟩ := s.mu j u hj
    exact ⟨q, w, h1, sm q w (fun z => hD j u hj (by rw [h1, z])) h2, h3⟩
theorem Go.own {F H F' H' : Hp} {D : Addr} {o2 : HO} (g : Go Z F H F' H') (h0 : H D = none) (hF : F' D = none) (zk : Z.ok (upd H' D o2)) : Go Z F H F' (upd H' D o2) where
  f := g.f
  fh := fun a w e => by
    rw [upd_ne (fun z => by rw [z, hF] at e; cases e)]
    exact g.fh a w e
  h := fun a w n e => by
    rw [upd_ne (fun z => by rw [z, h0] at e; cases e)]
    exact g.h a w n e
  nw := g.nw
  zk := zk
/-- the list comes: its state at a turn -/
structure CSt (Z : Zn) (F0 G Fs Hs : Hp) (σ : L2.St) (ρ : En) (D : Addr) (i : Nat) (A : List PyData → Prop) (F H : Hp) : Prop where
  st : St Z F0 G F H σ ρ
  go : Go Z Fs Hs F H
  h0 : Hs D = none
  fd : F D = none
  gd : G D = none
  xd : ¬ Z.out D
  sd : ∀ (i : Nat) (m : Mt), ρ[i]? = some (some (.mu m)) → σ[i]? ≠ some (some (.ref D))
  acc : ∃ acc vs, H D = some (.lst vs) ∧ RpL F vs acc ∧ A acc ∧ acc.length ≤ i
theorem CSt.start {F0 G F H : Hp} {σ : L2.St} {ρ : En} {D : Addr} {A : List PyData → Prop} (s : St Z F0 G F H σ ρ) (hD : H D = none) (h : A []) : CSt Z F0 G F H σ ρ D 0 A F (upd H D (.lst [])) := by
  have xd : ¬ Z.out D := fun z => s.zk.there z hD
  refine ⟨s.mv (Go.new s.fh s.zk hD), Go.new s.fh s.zk hD, hD, s.fh.free hD, ?_, xd, fun i m hi e => ?_, [], [], upd_same, .nil, h, Nat.le_refl _⟩
  · cases e : G D with
    | none => rfl
    | some u =>
      rw [s.go.h D u xd e] at hD
      cases hD
  · obtain ⟨p, o, h1, h2, _⟩ := s.mu i m hi
    rw [e] at h1
    cases h1
    rw [hD] at h2
    cases h2
theorem CSt.same {F0 G Fs Hs F H F' H' : Hp} {σ : L2.St} {ρ : En} {D : Addr} {i : Nat} {A A' : List PyData → Prop} (c : CSt Z F0 G Fs Hs σ ρ D i A F H) (g : Go Z F H F' H') (k : ∀ acc, A acc → A' acc) : CSt Z F0 G Fs Hs σ ρ D (i + 1) A' F' H' := by
  obtain ⟨acc, vs, a1, a2, a3, a4⟩ := c.acc
  exact ⟨c.st.mv g, c.go.tr g, c.h0, g.nw D c.fd (by rw [a1]; intro z; cases z), c.gd, c.xd, c.sd, acc, vs, g.h D _ c.xd a1, RpL.mono g.f _ _ a2, k acc a3, Nat.le_succ_of_le a4⟩
theorem CSt.at {F0 G Fs Hs F H F' H' : Hp} {σ : L2.St} {ρ : En} {D : Addr} {i : Nat} {A : List PyData → Prop} (c : CSt Z F0 G Fs Hs σ ρ D i A F H) (g : Go Z F H F' H') : CSt Z F0 G Fs Hs σ ρ D i A F' H' := by
  obtain ⟨acc, vs, a1, a2, a3, a4⟩ := c.acc
  exact ⟨c.st.mv g, c.go.tr g, c.h0, g.nw D c.fd (by rw [a1]; intro z; cases z), c.gd, c.xd, c.sd, acc, vs, g.h D _ c.xd a1, RpL.mono g.f _ _ a2, a3, a4⟩
theorem CSt.more {F0 G Fs Hs F H : Hp} {σ : L2.St} {ρ : En} {D : Addr} {i : Nat} {A A' : List PyData → Prop} {d : PyData} {v : V} (c : CSt Z F0 G Fs Hs σ ρ D i A F H) (r : Rp F v d) (k : ∀ acc, A acc → A' (acc ++ [d])) (hi : i < 100000) :
    ∃ vs, H D = some (.lst vs) ∧ vs.length < sizeLine ∧ CSt Z F0 G Fs Hs σ ρ D (i + 1) A' F (upd H D (.lst (vs ++ [v]))) := by
  obtain ⟨acc, vs, a1, a2, a3, a4⟩ := c.acc
  have s' : St Z F0 G F (upd H D (.lst (vs ++ [v]))) σ ρ := c.st.own c.fd c.gd c.xd c.sd a1 (fun c q z => by cases z)
  refine ⟨vs, a1, smallS (by rw [a2.len]; omega), s', c.go.own c.h0 c.fd s'.zk, c.h0, c.fd, c.gd, c.xd, c.sd, acc ++ [d], vs ++ [v], upd_same, a2.app (.one r), k acc a3, ?_⟩
  rw [List.length_append]
  exact Nat.add_le_add_right a4 1
/-- a comprehension's parts, and what comes -/
def LcOk (X : Cx) (Z : Zn) (ρ : En) (elt tg iter : Expr) (ifs : List Expr) (scope : Scope) (own : List (Str × Nat)) (A : List PyData → Prop) : Prop :=
  ∃ (wi : TI) (g : TG) (tt : TT) (te : TE), X.calm = true ∧ X.N.Nodup ∧ PI X tg iter wi ∧ BlkOk X.N X.env.scope scope own ∧
    (∀ (s : Shared) (H : Hp) (C : Addr) (cl : List (Str × Addr)) (fp : List Addr), PG (X.blk s H scope (compEnvC scope cl C X.env) fp) tg g) ∧
    (∀ (s : Shared) (H : Hp) (C : Addr) (cl : List (Str × Addr)) (fp : List Addr), PTs (X.blk s H scope (compEnvC scope cl C X.env) fp) ifs tt) ∧
    (∀ (s : Shared) (H : Hp) (C : Addr) (cl : List (Str × Addr)) (fp : List Addr), PE (X.blk s H scope (compEnvC scope cl C X.env) fp) elt te) ∧
    (∀ x, foldedSetIterable iter X.env x = pure x) ∧ ∀ σ H Q, tNe Z ρ A σ H Q → tLc wi g tt te (own.map (·.2)) σ H Q
theorem LcOk.imp {elt tg iter : Expr} {ifs : List Expr} {scope : Scope} {own : List (Str × Nat)} {A B : List PyData → Prop} (h : LcOk X Z ρ elt tg iter ifs scope own A) (k : ∀ acc, A acc → B acc) : LcOk X Z ρ elt tg iter ifs scope own B := by
  obtain ⟨wi, g, tt, te, a1, a2, a3, a4, a5, a6, a7, a8, a9⟩ := h
  exact ⟨wi, g, tt, te, a1, a2, a3, a4, a5, a6, a7, a8, fun σ H Q ⟨F0, G, F, s, q⟩ => a9 σ H Q ⟨F0, G, F, s, fun acc ha => q acc (k acc ha)⟩⟩
/-- [elt for tg in iter if ..]: I, what may have come behind so many turns -/
theorem dlcG {elt iter : Expr} {ifs : List Expr} {scope : Scope} {own : List (Str × Nat)} {ts : List Ty} {ρ' : Nat → En} {pb : Nat → Bool → Prop} {qd : Nat → PyData → Prop} (I : Nat → List PyData → Prop) (hc : X.calm = true) (hN : X.N.Nodup)
    (hi : PI X tg iter (tI Z ρ ts)) (ok : BlkOk X.N X.env.scope scope own)
    (hg : ∀ (s : Shared) (H : Hp) (C : Addr) (cl : List (Str × Addr)) (fp : List Addr) (i : Nat) (t : Ty), ts[i]? = some t → PG (X.blk s H scope (compEnvC scope cl C X.env) fp) tg (tGt (some (own.map (·.2))) Z (wipeA ρ (own.map (·.2))) t (ρ' i)))
    (ht : ∀ (s : Shared) (H : Hp) (C : Addr) (cl : List (Str × Addr)) (fp : List Addr) (i : Nat), i < ts.length → PTs (X.blk s H scope (compEnvC scope cl C X.env) fp) ifs (tP Z (ρ' i) (pb i)))
    (he : ∀ (s : Shared) (H : Hp) (C : Addr) (cl : List (Str × Addr)) (fp : List Addr) (i : Nat), i < ts.length → pb i true → PE (X.blk s H scope (compEnvC scope cl C X.env) fp) elt (tO Z (ρ' i) (Ty.ex (qd i) Dt).od))
    (h0 : I 0 []) (hk : ∀ i acc, i < ts.length → pb i false → I i acc → I (i + 1) acc) (hs : ∀ i acc d, i < ts.length → pb i true → qd i d → I i acc → I (i + 1) (acc ++ [d])) (hn : ts.length ≤ 100000)
    (hf : ∀ x, foldedSetIterable iter X.env x = pure x := by intro _; rfl) : LcOk X Z ρ elt tg iter ifs scope own (I ts.length) := by
  refine ⟨tI Z ρ ts, fun v σ H Q => ∃ i t, ts[i]? = some t ∧ tGt (some (own.map (·.2))) Z (wipeA ρ (own.map (·.2))) t (ρ' i) v σ H Q,
    fun σ H Q => ∃ i, i < ts.length ∧ tP Z (ρ' i) (pb i) σ H Q, fun σ H Q => ∃ i, i < ts.length ∧ pb i true ∧ tO Z (ρ' i) (Ty.ex (qd i) Dt).od σ H Q, hc, hN, hi, ok, fun s H C cl fp => ⟨?_⟩, fun s H C cl fp => ⟨?_⟩, fun s H C cl fp => ⟨?_⟩, hf, ?_⟩
  · rintro pins s1 σ H v u Q Iv r ⟨i, t, h1, h2⟩
    exact (hg s _ C cl fp i t h1).run pins s1 σ H v u Q Iv r h2
  · rintro pins s1 σ H Q Iv ⟨i, h1, h2⟩
    exact (ht s _ C cl fp i h1).run pins s1 σ H Q Iv h2
  · rintro pins s1 σ H Q Iv ⟨i, h1, h2, h3⟩
    exact (he s _ C cl fp i h1 h2).run pins s1 σ H Q Iv h3
  · rintro σ H Q ⟨F0, G, F, s, k⟩
    refine ⟨F0, G, F, s, fun J F1 H1 g1 wk D hD => ?_⟩
    have s1 := (s.mv g1).wipe (own.map (·.2))
    refine ⟨fun i m H' => m = ts.length - i ∧ i ≤ ts.length ∧ ∃ F', CSt Z F0 G F1 H1 (L2.wipe σ (own.map (·.2))) (wipeA ρ (own.map (·.2))) D i (I i) F' H', ⟨ts.length, rfl, Nat.zero_le _, F1, CSt.start s1 hD h0⟩, ?_⟩
    rintro i m H2 ⟨rfl, hi, F2, c2⟩
    obtain ⟨w1, w2, w3⟩ := wk F2 H2 c2.go.f c2.st.fh c2.st.zk c2.st.zo
    by_cases hlt : i < ts.length
    · refine .inr ⟨w1 i hlt, fun H' => ∃ F', CSt Z F0 G F1 H1 (L2.wipe σ (own.map (·.2))) (wipeA ρ (own.map (·.2))) D (i + 1) (I (i + 1)) F' H', fun H' h => ⟨ts.length - (i + 1), by omega, rfl, hlt, h⟩, fun x H3 y => ?_⟩
      obtain ⟨F3, g3, ok3⟩ := w3 i ts[i] x H3 (List.getElem?_eq_getElem hlt) y
      have c3 := c2.at g3
      refine ⟨i, ts[i], List.getElem?_eq_getElem hlt, F0, G, F3, c3.st, ok3, fun σ4 s4 e4 => ⟨Eq.trans e4 (wipe_wipe σ _), i, hlt, F0, G, F3, s4, fun b F5 H5 g5 hb => ?_⟩⟩
      have c5 := c3.at g5
      cases b with
      | false => exact iteF ⟨F5, c3.same g5 fun acc => hk i acc hlt hb⟩
      | true =>
        refine iteT ⟨i, hlt, hb, F0, G, F5, s4.mv g5, fun v F6 H6 g6 ⟨d, h1, h2⟩ => ?_⟩
        obtain ⟨vs, a1, a2, a3⟩ := (c5.at g6).more h2 (fun acc => hs i acc d hlt hb h1) (by omega)
        exact ⟨vs, a1, a2, F6, a3⟩
    · have e : i = ts.length := by omega
      subst e
      refine .inl ⟨w2, ?_⟩
      obtain ⟨acc, vs, a1, a2, a3, a4⟩ := c2.acc
      exact k acc a3 D vs F2 H2 (g1.tr c2.go) (g1.was c2.h0) c2.fd a1 a2
theorem pt0 : PTs X [] (tQ Z ρ true) := pts_nil.imp fun σ H Q ⟨F0, G, F, s, k⟩ => k true F H s.self rfl
theorem pt1 {b : Bool → Prop} (h : PT X e (tP Z ρ b)) : PTs X [e] (tP Z ρ b) := pts_one h
theorem od_ex {d : PyData} {q : PyData → Prop} (h : PE X e (tD Z ρ d)) (hq : q d) : PE X e (tO Z ρ (Ty.ex q Dt).od) := od.imp (fun F H v fh zo r => ⟨d, hq, r⟩) h
/-- the same, every thing known: xs, their kinds, which stay, what comes of each -/
theorem dlc {α : Type} {elt iter : Expr} {ifs : List Expr} {scope : Scope} {own : List (Str × Nat)} {xs : List α} {enc : α → Ty} {ρ' : α → En} {f : α → Bool} {g : α → PyData} (hc : X.calm = true) (hN : X.N.Nodup)
    (hi : PI X tg iter (tI Z ρ (xs.map enc))) (ok : BlkOk X.N X.env.scope scope own)
    (hg : ∀ (s : Shared) (H : Hp) (C : Addr) (cl : List (Str × Addr)) (fp : List Addr) (x : α), x ∈ xs → PG (X.blk s H scope (compEnvC scope cl C X.env) fp) tg (tGt (some (own.map (·.2))) Z (wipeA ρ (own.map (·.2))) (enc x) (ρ' x)))
    (ht : ∀ (s : Shared) (H : Hp) (C : Addr) (cl : List (Str × Addr)) (fp : List Addr) (x : α), x ∈ xs → PTs (X.blk s H scope (compEnvC scope cl C X.env) fp) ifs (tQ Z (ρ' x) (f x)))
    (he : ∀ (s : Shared) (H : Hp) (C : Addr) (cl : List (Str × Addr)) (fp : List Addr) (x : α), x ∈ xs → f x = true → PE (X.blk s H scope (compEnvC scope cl C X.env) fp) elt (tD Z (ρ' x) (g x)))
    (hn : xs.length ≤ 100000) (hf : ∀ x, foldedSetIterable iter X.env x = pure x := by intro _; rfl) : LcOk X Z ρ elt tg iter ifs scope own (· = (xs.filter f).map g) := by
  have hl : (xs.map enc).length = xs.length := List.length_map _
  cases xs with
  | nil =>
    exact (dlcG (ρ' := fun _ => []) (pb := fun _ _ => False) (qd := fun _ _ => False) (fun _ acc => acc = []) hc hN hi ok (fun s H C cl fp i t h => by simp at h) (fun s H C cl fp i h => absurd h (by simp)) (fun s H C cl fp i h => absurd h (by simp)) rfl (fun i acc h => absurd h (by simp)) (fun i acc d h => absurd h (by simp)) (by simp) hf).imp fun acc h => h
  | cons x0 xr =>
    have mem : ∀ {i : Nat}, i < (x0 :: xr).length → (x0 :: xr).getD i x0 ∈ (x0 :: xr) := fun {i} h => by
      rw [List.getD_eq_getElem?_getD, List.getElem?_eq_getElem h]
      exact List.getElem_mem h
    have take_ : ∀ {i : Nat}, i < (x0 :: xr).length → (x0 :: xr).take (i + 1) = (x0 :: xr).take i ++ [(x0 :: xr).getD i x0] := fun {i} h => by
      rw [List.take_add_one, List.getElem?_eq_getElem h, List.getD_eq_getElem?_getD, List.getElem?_eq_getElem h]
      rfl
    have key := dlcG (ρ' := fun i => ρ' ((x0 :: xr).getD i x0)) (pb := fun i b => b = f ((x0 :: xr).getD i x0)) (qd := fun i d => d = g ((x0 :: xr).getD i x0)) (fun i acc => acc = (((x0 :: xr).take i).filter f).map g) (elt := elt) (ifs := ifs) hc hN hi ok
      (fun s H C cl fp i t h => by
        rw [List.getElem?_map] at h
        cases e : (x0 :: xr)[i]? with
        | none =>
          rw [e] at h
          cases h
        | some y =>
          rw [e] at h
          have et : t = enc y := (Option.some.inj h).symm
          have ey : (x0 :: xr).getD i x0 = y := by rw [List.getD_eq_getElem?_getD, e]; rfl
          rw [et, ey]
          exact hg s H C cl fp y (List.mem_of_getElem? e))
      (fun s H C cl fp i h => ht s H C cl fp _ (mem (by rw [hl] at h; exact h)))
      (fun s H C cl fp i h hb => od_ex (he s H C cl fp _ (mem (by rw [hl] at h; exact h)) hb.symm) rfl)
      rfl
      (fun i acc h hb e => by
        rw [hl] at h
        rw [e, take_ h, List.filter_append, List.map_append, List.filter_cons, if_neg (by rw [← hb]; decide)]
        simp)
      (fun i acc d h hb hd e => by
        rw [hl] at h
        rw [e, hd, take_ h, List.filter_append, List.map_append, List.filter_cons, if_pos hb.symm]
        simp)
      (by rw [hl]; exact hn) hf
    refine key.imp fun acc ha => ?_
    rw [ha, hl, List.take_of_length_le (Nat.le_refl _)]
theorem lcE {elt tg iter : Expr} {ifs : List Expr} {scope : Scope} {own : List (Str × Nat)} {A : List PyData → Prop} (h : LcOk X Z ρ elt tg iter ifs scope own A) : PE X (.ListComp elt [⟨tg, iter, ifs, 0⟩] scope pos) (tNe Z ρ A) := by
  obtain ⟨wi, g, tt, te, a1, a2, a3, a4, a5, a6, a7, a8, a9⟩ := h
  exact (pe_lc a1 a2 a3 a4 a5 a6 a7 a8).imp a9
theorem lcD {elt tg iter : Expr} {ifs : List Expr} {scope : Scope} {own : List (Str × Nat)} (h : LcOk X Z ρ elt tg iter ifs scope own (· = ds)) : PE X (.ListComp elt [⟨tg, iter, ifs, 0⟩] scope pos) (tN Z ρ (mL ds)) := ne1 (lcE h)
end
end Kb
end TKf
section TKg
set_option Elab.async false
set_option linter.all false
set_option maxRecDepth 100000
set_option maxHeartbeats 4000000
/-! Kg: statements, defs and their calls over the abstract environment. -/
namespace Kb
open PySem PySem.Spec PyProof.Rows L2

/-- what is wanted behind a block -/
structure Po where
  nx : En → Prop
  rt : Ty → Prop
  bk : En → Prop := fun _ => False
  ct : En → Prop := fun _ => False
def tS (Z : Zn) (F0 G : Hp) (ρ : En) (Φ : Po) : TS := fun D σ H => ∃ F, St Z F0 G F H σ ρ ∧ (∀ ρ' σ' F' H', Φ.nx ρ' → Same F F' → St Z F0 G F' H' σ' ρ' → D.nx σ' H') ∧ (∀ t v F' H', Φ.rt t → Go Z F0 G F' H' → t.ok F' v → D.rt v H') ∧
  (∀ ρ' σ' F' H', Φ.bk ρ' → Same F F' → St Z F0 G F' H' σ' ρ' → D.bk σ' H') ∧ (∀ ρ' σ' F' H', Φ.ct ρ' → Same F F' → St Z F0 G F' H' σ' ρ' → D.ct σ' H')
/-- the same from a later heap of what nobody changes -/
theorem tS.from {Z : Zn} {F0 G : Hp} {ρ : En} {Φ : Po} {D : Ends} {F F1 H1 : Hp} {σ1 : L2.St} (e : Same F F1) (s : St Z F0 G F1 H1 σ1 ρ) (k1 : ∀ ρ' σ' F' H', Φ.nx ρ' → Same F F' → St Z F0 G F' H' σ' ρ' → D.nx σ' H') (k2 : ∀ t v F' H', Φ.rt t → Go Z F0 G F' H' → t.ok F' v → D.rt v H')
    (k3 : ∀ ρ' σ' F' H', Φ.bk ρ' → Same F F' → St Z F0 G F' H' σ' ρ' → D.bk σ' H') (k4 : ∀ ρ' σ' F' H', Φ.ct ρ' → Same F F' → St Z F0 G F' H' σ' ρ' → D.ct σ' H') : tS Z F0 G ρ Φ D σ1 H1 :=
  ⟨F1, s, fun ρ' σ' F' H' h a => k1 ρ' σ' F' H' h (e.trans a), k2, fun ρ' σ' F' H' h a => k3 ρ' σ' F' H' h (e.trans a), fun ρ' σ' F' H' h a => k4 ρ' σ' F' H' h (e.trans a)⟩
section
variable {X : Cx} {Z : Zn} {F0 G : Hp} {ρ ρ1 ρ2 : En} {e a b c tg : Expr} {es : List Expr} {pos p : Pos} {t : Ty} {m : Mt} {o : Option (List Nat)} {d : PyData} {ds : List PyData} {Φ Ψ : Po} {sts rest : List Stmt} {st : Stmt}
theorem s0 (h : Φ.nx ρ) : PSs X [] (tS Z F0 G ρ Φ) := pss_nil.imp fun D σ H ⟨F, s, k1, _⟩ => k1 ρ σ F H h (Same.refl F) s
/-- one statement, then the rest -/
theorem scons {u : TS} (h : PS X st u) (h2 : ∀ ρ', Ψ.nx ρ' → PSs X rest (tS Z F0 G ρ' Φ)) (hu : ∀ D σ H, tS Z F0 G ρ Ψ D σ H → u D σ H) (e1 : Ψ.rt = Φ.rt := by rfl) (e2 : Ψ.bk = Φ.bk := by rfl) (e3 : Ψ.ct = Φ.ct := by rfl) : PSs X (st :: rest) (tS Z F0 G ρ Φ) := by
  refine (pss_cons (h.imp hu) (u := fun D σ H => ∃ ρ', Ψ.nx ρ' ∧ tS Z F0 G ρ' Φ D σ H) ⟨?_⟩).imp ?_
  · rintro pins s σ H D I ⟨ρ', h1, h3⟩
    exact (h2 ρ' h1).run pins s σ H D I h3
  · rintro D σ H ⟨F, s, k1, k2, k3, k4⟩
    refine ⟨F, s, fun ρ' σ' F' H' hn a s' => ⟨ρ', hn, tS.from a s' k1 k2 k3 k4⟩, ?_, ?_, ?_⟩
    · rw [e1]
      exact k2
    · rw [e2]
      exact k3
    · rw [e3]
      exact k4
/-- a statement whose end is known -/
theorem sone {u : TS} (h : PS X st u) (h2 : PSs X rest (tS Z F0 G ρ1 Φ)) (hu : ∀ D σ H, tS Z F0 G ρ { Φ with nx := (· = ρ1) } D σ H → u D σ H) : PSs X (st :: rest) (tS Z F0 G ρ Φ) :=
  scons h (Ψ := { Φ with nx := (· = ρ1) }) (fun ρ' e => e ▸ h2) hu
theorem sany (h : PSs X sts (tS Z F0 G ρ Φ)) (k : ∀ ρ', Φ.nx ρ' → Ψ.nx ρ') (e1 : ∀ t, Φ.rt t → Ψ.rt t) (e2 : ∀ t, Φ.bk t → Ψ.bk t) (e3 : ∀ t, Φ.ct t → Ψ.ct t) : PSs X sts (tS Z F0 G ρ Ψ) := h.imp fun D σ H ⟨F, s, k1, k2, k3, k4⟩ =>
  ⟨F, s, fun ρ' σ' F' H' hn => k1 ρ' σ' F' H' (k ρ' hn), fun t v F' H' hn => k2 t v F' H' (e1 t hn), fun ρ' σ' F' H' hn => k3 ρ' σ' F' H' (e2 ρ' hn), fun ρ' σ' F' H' hn => k4 ρ' σ' F' H' (e3 ρ' hn)⟩

/-! ### stores -/
/-- x = e -/
theorem sset (i : Nat) {x : Str} {pos' : Pos} (hN : X.N.Nodup) (he : PE X e (tO Z ρ t.od)) (h2 : PSs X rest (tS Z F0 G (ρ.set i (some (.im t))) Φ)) (hi : X.N[i]? = some x := by rfl) (hx : Loc X.env.scope x := by first | exact Or.inl rfl | exact Or.inr rfl)
    (hl : Nat.blt i ρ.length = true := by rfl) (hs : swapsWith e (some (.Name x pos')) pos.line X.env = pure false := by rfl) (hf : X.fn x = true ∨ X.env.scope.names.lookup x = some .local := by first | exact .inl rfl | exact .inr rfl) : PSs X (.Assign [.Name x pos'] e pos :: rest) (tS Z F0 G ρ Φ) :=
  sone (ps_set hN hi hx he hs hf) h2 fun D σ H ⟨F, s, k1, k2⟩ => ⟨F0, G, F, s, fun v F1 H1 g1 ok => k1 _ _ F1 H1 rfl g1.f ((s.mv g1).setI (bl hl) ok)⟩
/-- x = a new container, which is this frame's own -/
theorem ssetN (i : Nat) {x : Str} {pos' : Pos} (hN : X.N.Nodup) (he : PE X e (tN Z ρ m)) (h2 : PSs X rest (tS Z F0 G (ρ.set i (some (.mu m))) Φ)) (hi : X.N[i]? = some x := by rfl) (hx : Loc X.env.scope x := by first | exact Or.inl rfl | exact Or.inr rfl)
    (hl : Nat.blt i ρ.length = true := by rfl) (hs : swapsWith e (some (.Name x pos')) pos.line X.env = pure false := by rfl) (hf : X.fn x = true ∨ X.env.scope.names.lookup x = some .local := by first | exact .inl rfl | exact .inr rfl) : PSs X (.Assign [.Name x pos'] e pos :: rest) (tS Z F0 G ρ Φ) :=
  sone (ps_set hN hi hx he hs hf) h2 fun D σ H ⟨F, s, k1, k2⟩ => ⟨F0, G, F, s, fun p o F1 H1 g1 n1 n2 n3 ok => k1 _ _ F1 H1 rfl g1.f (s.setM (bl hl) g1 n1 n3 n2 ok)⟩
/-- x = [.. for ..], x a local that no block captures: the list is one that nobody changes from here on -/
theorem ssetLc (i : Nat) {x : Str} {pos' spos : Pos} {elt iter : Expr} {ifs : List Expr} {scope : Scope} {own : List (Str × Nat)} {A : List PyData → Prop} (h : LcOk X Z ρ elt tg iter ifs scope own A) (h2 : ∀ acc, A acc → PSs X rest (tS Z F0 G (ρ.set i (some (.im (Dt (.list acc))))) Φ))
    (hi : X.N[i]? = some x := by rfl) (hx : X.env.scope.names.lookup x = some .local := by rfl) (hsw : swapsWith (.ListComp elt [⟨tg, iter, ifs, 0⟩] scope pos) (some (.Name x pos')) spos.line X.env = pure true := by exact sw_true rfl rfl rfl (by decide +kernel)) (hl : Nat.blt i ρ.length = true := by rfl) :
    PSs X (.Assign [.Name x pos'] (.ListComp elt [⟨tg, iter, ifs, 0⟩] scope pos) spos :: rest) (tS Z F0 G ρ Φ) := by
  obtain ⟨wi, g, tt, te, a1, a2, a3, a4, a5, a6, a7, a8, a9⟩ := h
  refine scons (ps_setLc a1 a2 hi hx hsw a3 a4 a5 a6 a7 a8) (Ψ := { Φ with nx := fun ρ' => ∃ acc, A acc ∧ ρ' = ρ.set i (some (.im (Dt (.list acc)))) }) (fun ρ' ⟨acc, ha, e⟩ => e ▸ h2 acc ha) fun D σ H ⟨F, s, k1, k2⟩ => a9 σ H _ ⟨F0, G, F, s, fun acc ha p vs F1 H1 g1 n1 n2 n3 r => ?_⟩
  exact k1 _ _ _ H1 ⟨acc, ha, rfl⟩ (g1.keep n1 n3 n2).f ((s.mv (g1.keep n1 n3 n2)).setI (bl hl) (Rp.lst upd_same (RpL.mono (same_new n2) _ _ r)))
theorem ssetLcN (i : Nat) {x : Str} {pos' spos : Pos} {elt iter : Expr} {ifs : List Expr} {scope : Scope} {own : List (Str × Nat)} {A : List PyData → Prop} (h : LcOk X Z ρ elt tg iter ifs scope own A) (h2 : ∀ acc, A acc → PSs X rest (tS Z F0 G (ρ.set i (some (.mu (mL acc)))) Φ))
    (hi : X.N[i]? = some x := by rfl) (hx : X.env.scope.names.lookup x = some .local := by rfl) (hsw : swapsWith (.ListComp elt [⟨tg, iter, ifs, 0⟩] scope pos) (some (.Name x pos')) spos.line X.env = pure true := by exact sw_true rfl rfl rfl (by decide +kernel)) (hl : Nat.blt i ρ.length = true := by rfl) :
    PSs X (.Assign [.Name x pos'] (.ListComp elt [⟨tg, iter, ifs, 0⟩] scope pos) spos :: rest) (tS Z F0 G ρ Φ) := by
  obtain ⟨wi, g, tt, te, a1, a2, a3, a4, a5, a6, a7, a8, a9⟩ := h
  refine scons (ps_setLc a1 a2 hi hx hsw a3 a4 a5 a6 a7 a8) (Ψ := { Φ with nx := fun ρ' => ∃ acc, A acc ∧ ρ' = ρ.set i (some (.mu (mL acc))) }) (fun ρ' ⟨acc, ha, e⟩ => e ▸ h2 acc ha) fun D σ H ⟨F, s, k1, k2⟩ => a9 σ H _ ⟨F0, G, F, s, fun acc ha p vs F1 H1 g1 n1 n2 n3 r => ?_⟩
  exact k1 _ _ _ H1 ⟨acc, ha, rfl⟩ g1.f (s.setM (bl hl) g1 n1 n3 n2 ⟨vs, rfl, r⟩)
/-- a, b = e, e a tuple -/
theorem sunp {es : List Expr} {kt : Nat} {pt : Pos} (he : PE X e (tO Z ρ t.od)) (hg : PG X (.Tuple es kt pt) (tGt none Z ρ t ρ1)) (h2 : PSs X rest (tS Z F0 G ρ1 Φ))
    (hs : swapsWithSole [.Tuple es kt pt] e pos.line X.env = pure false := by rfl) (hw : swappedStores [.Tuple es kt pt] e X.env = pure none := by rfl) : PSs X (.Assign [.Tuple es kt pt] e pos :: rest) (tS Z F0 G ρ Φ) :=
  sone (ps_asg he hg hs hw) h2 fun D σ H ⟨F, s, k1, k2⟩ => ⟨F0, G, F, s, fun v F1 H1 g1 ok => ⟨F0, G, F1, s.mv g1, ok, fun σ' s' _ => k1 _ _ F1 H1 rfl g1.f s'⟩⟩
/-- what a slot holds may be told otherwise -/
theorem stell {σ : L2.St} (h : PSs X sts (tS Z F0 G ρ1 Φ)) (k : ∀ F H σ, St Z F0 G F H σ ρ → ∃ F', Same F F' ∧ St Z F0 G F' H σ ρ1) : PSs X sts (tS Z F0 G ρ Φ) := h.imp fun D σ H ⟨F, s, k1, k2, k3, k4⟩ => by
  obtain ⟨F', a, s'⟩ := k F H σ s
  exact tS.from a s' k1 k2 k3 k4
/-- some one of several: which -/
theorem sopen {α : Type} {p : α → Prop} {q : α → Ty} (i : Nat) (hi : ρ[i]? = some (some (.im (Ty.ex p q)))) (h : ∀ x, p x → PSs X sts (tS Z F0 G (ρ.set i (some (.im (q x)))) Φ)) : PSs X sts (tS Z F0 G ρ Φ) := by
  refine PSs.imp (t := fun D σ H => ∃ x, p x ∧ tS Z F0 G (ρ.set i (some (.im (q x)))) Φ D σ H) ⟨?_⟩ fun D σ H ⟨F, s, k⟩ => ?_
  · rintro pins s σ H D I ⟨x, hx, h1⟩
    exact (h x hx).run pins s σ H D I h1
  · obtain ⟨v, h1, x, hx, h2⟩ := s.im i _ hi
    have e := s.setI (i := i) (v := v) (t := q x) (List.getElem?_eq_some_iff.mp hi).1 h2
    rw [show σ.set i (some v) = σ by
      apply List.ext_getElem?
      intro j
      by_cases e : i = j
      · subst e
        rw [List.getElem?_set_self (List.getElem?_eq_some_iff.mp h1).1, h1]
      · rw [List.getElem?_set_ne e]] at e
    exact ⟨x, hx, F, e, k⟩
/-- a container that is changed no more -/
theorem sfrz {t : Ty} (i : Nat) (hi : ρ[i]? = some (some (.mu m))) (ht : ∀ F p o, F p = none → m.ok p F o → t.ok (upd F p o) (.ref p)) (h : PSs X sts (tS Z F0 G (ρ.set i (some (.im t))) Φ)) : PSs X sts (tS Z F0 G ρ Φ) := h.imp fun D σ H ⟨F, s, k1, k2, k3, k4⟩ => by
  obtain ⟨p, o, h1, h2, h3, h4, h5, h6⟩ := s.mu i m hi
  have hil : i < ρ.length := (List.getElem?_eq_some_iff.mp hi).1
  have e1 : σ.set i (some (.ref p)) = σ := by
    apply List.ext_getElem?
    intro j
    by_cases e : i = j
    · subst e
      rw [List.getElem?_set_self (List.getElem?_eq_some_iff.mp h1).1, h1]
    · rw [List.getElem?_set_ne e]
  -- over F grown by the object: the slot apart, the rest as it was
  have s0 := s.drop (i := i) (x := some (.ref p))
  rw [e1] at s0
  have sF := same_new (o := o) h4
  have s1 : St Z F0 G (upd F p o) H σ (ρ.set i none) := by
    refine ⟨⟨s.go.f.trans sF, fun a u e => ?_, s.go.h, fun a ha hg => ?_, s.zk⟩, fun a ha => ?_, s0.len, fun j u hj => ?_, fun j u hj => ?_, s0.ap, s0.dl⟩
    · by_cases ha : a = p
      · rw [ha, upd_same] at e
        rw [ha, ← e]
        exact h2
      · rw [upd_ne ha] at e
        exact s.fh a u e
    · rw [upd_ne (fun z => hg (by rw [z]; exact h5))]
      exact s.go.nw a ha hg
    · rw [upd_ne (fun z => h6 (by rw [← z]; exact ha))]
      exact s.zo a ha
    · obtain ⟨v, q1, q2⟩ := s0.im j u hj
      exact ⟨v, q1, u.mono sF q2⟩
    · obtain ⟨q, w, q1, q2, q3, q4, q5⟩ := s0.mu j u hj
      refine ⟨q, w, q1, q2, u.mono sF q3, ?_, q5⟩
      rcases gt_set hj with ⟨e, hu⟩ | ⟨e, hu⟩
      · cases hu
      · rw [upd_ne (s.ap j i u m q p e hu hi q1 h1)]
        exact q4
  have s2 := s1.setI (i := i) (v := .ref p) (t := t) (by rw [List.length_set]; exact hil) (ht F p o h4 h3)
  rw [e1, List.set_set] at s2
  exact tS.from sF s2 k1 k2 k3 k4
theorem frzL (ds : List PyData) : ∀ F p o, F p = none → (mL ds).ok p F o → (Dt (.list ds)).ok (upd F p o) (.ref p) := fun F p o n ⟨vs, h1, h2⟩ => by
  subst h1
  exact .lst upd_same (RpL.mono (same_new n) _ _ h2)

/-! ### return, if, loops -/
theorem sret (he : PE X e (tO Z ρ t.od)) (h : Φ.rt t) : PSs X (.Return (some e) pos :: rest) (tS Z F0 G ρ Φ) :=
  (pss_cons (u := tNever) (ps_ret he) pss_never).imp fun D σ H ⟨F, s, k1, k2, k3⟩ => ⟨F0, G, F, s, fun v F1 H1 g1 ok => k2 t v F1 H1 h (s.go.tr g1) ok⟩
theorem sbrk (h : Φ.bk ρ) : PSs X (.Break pos :: rest) (tS Z F0 G ρ Φ) := (pss_cons (u := tNever) ps_break pss_never).imp fun D σ H ⟨F, s, k1, k2, k3, k4⟩ => k3 ρ σ F H h (Same.refl F) s
/-- a way that is not gone -/
theorem snv {q : Prop} (h : ¬ q) : q → PSs X sts (tS Z F0 G ρ Φ) := fun z => absurd z h
theorem sif {A B : List Stmt} {pb : Bool → Prop} (hc : PT X c (tP Z ρ pb)) (ha : pb true → PSs X A (tS Z F0 G ρ Ψ)) (hb : pb false → PSs X B (tS Z F0 G ρ Ψ)) (h2 : ∀ ρ', Ψ.nx ρ' → PSs X rest (tS Z F0 G ρ' Φ))
    (e1 : Ψ.rt = Φ.rt := by rfl) (e2 : Ψ.bk = Φ.bk := by rfl) (e3 : Ψ.ct = Φ.ct := by rfl) : PSs X (.If c A B pos :: rest) (tS Z F0 G ρ Φ) := by
  have A' : ∃ ta, PSs X A ta ∧ (pb true → ta = tS Z F0 G ρ Ψ) := by
    by_cases h : pb true
    · exact ⟨_, ha h, fun _ => rfl⟩
    · exact ⟨_, pss_never, fun z => absurd z h⟩
  have B' : ∃ tb, PSs X B tb ∧ (pb false → tb = tS Z F0 G ρ Ψ) := by
    by_cases h : pb false
    · exact ⟨_, hb h, fun _ => rfl⟩
    · exact ⟨_, pss_never, fun z => absurd z h⟩
  obtain ⟨ta, A1, A2⟩ := A'
  obtain ⟨tb, B1, B2⟩ := B'
  refine scons (ps_if hc A1 B1) h2 (fun D σ H ⟨F, s, k1, k2, k3, k4⟩ => ⟨F0, G, F, s, fun v F1 H1 g1 hp => ?_⟩) e1 e2 e3
  cases v with
  | true =>
    refine iteT ?_
    rw [A2 hp]
    exact tS.from g1.f (s.mv g1) k1 k2 k3 k4
  | false =>
    refine iteF ?_
    rw [B2 hp]
    exact tS.from g1.f (s.mv g1) k1 k2 k3 k4
/-- if without else, its branch known -/
theorem sifF {A B : List Stmt} (hc : PT X c (tQ Z ρ false)) (hb : PSs X B (tS Z F0 G ρ { Φ with nx := (· = ρ) })) (h2 : PSs X rest (tS Z F0 G ρ Φ)) : PSs X (.If c A B pos :: rest) (tS Z F0 G ρ Φ) :=
  sif hc (fun z => absurd z (by decide)) (fun _ => hb) fun ρ' e => e ▸ h2
/-- for: I, what the environment is ahead of a turn -/
theorem sfor {iter : Expr} {body : List Stmt} {ts : List Ty} (I : Nat → En → Prop) (B : En → Prop) (hp : PassesOwn (model X.prog X.w) X.A X.env X.xe) (hc : X.calm = true) (hi : PI X tg iter (tI Z ρ ts)) (h0 : I 0 ρ)
    (hb : ∀ i t ρ1, ts[i]? = some t → I i ρ1 → ∃ ρ2, PG X tg (tGt none Z ρ1 t ρ2) ∧ PSs X body (tS Z F0 G ρ2 ⟨I (i + 1), Φ.rt, B, I (i + 1)⟩)) (h2 : ∀ ρ', I ts.length ρ' ∨ B ρ' → PSs X rest (tS Z F0 G ρ' Φ))
    (hs : ∀ x, foldedSetIterable iter X.env x = pure x := by intro _; rfl) : PSs X (.For tg iter body [] pos :: rest) (tS Z F0 G ρ Φ) := by
  refine scons (Ψ := { Φ with nx := fun ρ' => I ts.length ρ' ∨ B ρ' })
    (ps_for (g := fun v σ H Q => ∃ i t ρ1 ρ2, ts[i]? = some t ∧ I i ρ1 ∧ PG X tg (tGt none Z ρ1 t ρ2) ∧ tGt none Z ρ1 t ρ2 v σ H Q) (tb := fun D σ H => ∃ i ρ2, PSs X body (tS Z F0 G ρ2 ⟨I (i + 1), Φ.rt, B, I (i + 1)⟩) ∧ tS Z F0 G ρ2 ⟨I (i + 1), Φ.rt, B, I (i + 1)⟩ D σ H) hp hc hi ⟨?_⟩ ⟨?_⟩ hs) h2 ?_
  · rintro pins s σ H v u Q Iv r ⟨i, t, ρ1, ρ2, _, _, h3, h4⟩
    exact h3.run pins s σ H v u Q Iv r h4
  · rintro pins s σ H D Iv ⟨i, ρ2, h3, h4⟩
    exact h3.run pins s σ H D Iv h4
  · rintro D σ H ⟨F, s, k1, k2, k3, k4⟩
    refine ⟨F0, G, F, s, fun J F1 H1 g1 wk => ?_⟩
    refine ⟨fun i m σ' H' => m = ts.length - i ∧ i ≤ ts.length ∧ ∃ ρ1 F', I i ρ1 ∧ Same F1 F' ∧ St Z F0 G F' H' σ' ρ1, ⟨ts.length, rfl, Nat.zero_le _, ρ, F1, h0, Same.refl _, s.mv g1⟩, ?_⟩
    rintro i m σ' H2 ⟨rfl, hi', ρ1, F2, hI, sf, s2⟩
    obtain ⟨w1, w2, w3⟩ := wk F2 H2 sf s2.fh s2.zk s2.zo
    by_cases hlt : i < ts.length
    · refine .inr ⟨w1 i hlt, fun σ3 H3 => ∃ ρ3 F3, I (i + 1) ρ3 ∧ Same F1 F3 ∧ St Z F0 G F3 H3 σ3 ρ3, fun σ3 H3 h3 => ⟨ts.length - (i + 1), by omega, rfl, hlt, h3⟩, fun x H3 y => ?_⟩
      obtain ⟨F3, g3, ok3⟩ := w3 i ts[i] x H3 (List.getElem?_eq_getElem hlt) y
      obtain ⟨ρ2, hg, hbd⟩ := hb i ts[i] ρ1 (List.getElem?_eq_getElem hlt) hI
      refine ⟨i, ts[i], ρ1, ρ2, List.getElem?_eq_getElem hlt, hI, hg, F0, G, F3, s2.mv g3, ok3, fun σ4 s4 _ => ⟨i, ρ2, hbd, F3, s4, fun ρ' σ' F' H' hn a s' => ⟨ρ', F', hn, (sf.trans g3.f).trans a, s'⟩, k2, fun ρ' σ' F' H' hn a s' => k1 ρ' σ' F' H' (.inr hn) ((g1.f.trans (sf.trans g3.f)).trans a) s', fun ρ' σ' F' H' hn a s' => ⟨ρ', F', hn, (sf.trans g3.f).trans a, s'⟩⟩⟩
    · have e : i = ts.length := by omega
      subst e
      exact .inl ⟨w2, k1 ρ1 σ' F2 H2 (.inl hI) (g1.f.trans sf) s2⟩
end
end Kb
end TKg
section TKh
set_option Elab.async false
set_option linter.all false
set_option maxRecDepth 100000
set_option maxHeartbeats 4000000
/-! Kh: what changes a container; numbers added to; several targets; a def's promise and its call. -/
namespace Kb
open PySem PySem.Spec PyProof.Rows L2
section
variable {X : Cx} {Z : Zn} {F0 G : Hp} {ρ ρ1 ρ2 : En} {e a b c tg : Expr} {es : List Expr} {pos p : Pos} {t : Ty} {m : Mt} {o : Option (List Nat)} {d : PyData} {ds : List PyData} {Φ Ψ : Po} {sts rest : List Stmt} {st : Stmt}
/-- the slot i's object -/
theorem St.obj {F H : Hp} {σ : L2.St} (s : St Z F0 G F H σ ρ) {i : Nat} (hi : ρ[i]? = some (some (.mu m))) {q : Addr} {o1 : HO} (hs : σ[i]? = some (some (.ref q))) : ∃ o, H q = some o ∧ m.ok q F o := by
  obtain ⟨p, o, h1, h2, h3, _⟩ := s.mu i m hi
  rw [hs] at h1
  cases h1
  exact ⟨o, h2, h3⟩
/-- xs.append(e), xs this frame's own -/
theorem sapp (i : Nat) {x : Str} {px apos cpos : Pos} (he : PE X e (tD Z ρ d)) (h2 : PSs X rest (tS Z F0 G (ρ.set i (some (.mu (mL (ds ++ [d]))))) Φ)) (hz : ds.length < 100000) (hi : ρ[i]? = some (some (.mu (mL ds))) := by rfl) (hN : X.N[i]? = some x := by rfl)
    (hv : Vis X.env.scope x := by first | exact Or.inl rfl | exact Or.inr (Or.inl rfl) | exact Or.inr (Or.inr rfl)) (hd : (x == ("__debug__" : Str)) = false := by decide) (hcd : (x == ("__classdict__" : Str)) = false := by decide)
    (hbase : attributeBase (.Name x px) "append" X.env (eval (.Name x px) X.env) = eval (.Name x px) X.env := by rfl)
    (hfew : ((backTo cpos (starEach [e] X.env)).all (fun x => !x.1) && (backToKw cpos (keywordEach [] X.env)).all (fun x => x.1.isSome)
      && decide ([e].length + ([] : List Keyword).length + (if ([] : List Keyword).isEmpty then 0 else 1) < 30)) = true := by rfl)
    (hline : (apos.endLine == cpos.line) = true := by rfl) (hs : starEach [e] X.env = (false, eval e X.env) :: starEach [] X.env := by rfl) (hplain : (backTo cpos (starEach [] X.env)).any (·.1) = false := by rfl)
    (hsw : swapsWith (.Call (.Attribute (.Name x px) "append" apos) [e] [] cpos) none pos.line X.env = pure false := by rfl) : PSs X (.Expr (.Call (.Attribute (.Name x px) "append" apos) [e] [] cpos) pos :: rest) (tS Z F0 G ρ Φ) :=
  sone (ps_expr (pe_bm PySem.F.plainAttrs_list PySem.F.slot_list_append PySem.F.type_list_append mt_append (pe_var hN hv hd hcd) (pa1 he hs) hbase hfew hline hs hplain) hsw) h2 fun D σ H ⟨F, s, k1, k2⟩ => by
    obtain ⟨q, o, h3, h4, ⟨vs, h5, h6⟩, h7, h8, h9⟩ := s.mu i _ hi
    subst h5
    refine ⟨.ref q, h3, .inl ⟨rfl, _, SqL.of h4⟩, F0, G, F, s, fun us F1 H1 g1 ok => ?_⟩
    cases ok with
    | @cons v _ _ _ r1 r2 =>
      cases r2
      have s1 := s.mv g1
      have h10 := g1.h q _ h9 h4
      refine ⟨q, vs, v, rfl, rfl, h10, smallS (by rw [h6.len]; exact hz), ?_⟩
      exact k1 _ _ F1 _ rfl g1.f (s1.chg hi h3 ⟨vs ++ [v], rfl, (RpL.mono g1.f _ _ h6).app (.one r1)⟩)
/-- xs[k] = e, xs this frame's own -/
theorem ssetL (i : Nat) {x : Str} {k : Expr} {px pk : Pos} {n : Nat} (he : PE X e (tD Z ρ d)) (hk : PE X k (tD Z ρ (.int (n : Int)))) (hn : n < ds.length) (h2 : PSs X rest (tS Z F0 G (ρ.set i (some (.mu (mL (ds.set n d))))) Φ)) (hi : ρ[i]? = some (some (.mu (mL ds))) := by rfl) (hN : X.N[i]? = some x := by rfl)
    (hv : Vis X.env.scope x := by first | exact Or.inl rfl | exact Or.inr (Or.inl rfl) | exact Or.inr (Or.inr rfl)) (hd : (x == ("__debug__" : Str)) = false := by decide) (hcd : (x == ("__classdict__" : Str)) = false := by decide)
    (ha : ∀ v, assign (.Subscript (.Name x px) k pk) X.env v = (do
      let ov ← holding [v] (eval (.Name x px) X.env)
      let iv ← holding [v, ov] (eval k X.env)
      standAt pk
      holding [v, ov, iv] (setItem ov iv v)
      release [v, ov, iv] []) := by intro _; rfl)
    (hs : swapsWithSole [.Subscript (.Name x px) k pk] e pos.line X.env = pure false := by rfl) (hw : swappedStores [.Subscript (.Name x px) k pk] e X.env = pure none := by rfl) : PSs X (.Assign [.Subscript (.Name x px) k pk] e pos :: rest) (tS Z F0 G ρ Φ) :=
  sone (ps_asg he (pg_sub (pe_var hN hv hd hcd) hk set_list ha) hs hw) h2 fun D σ H ⟨F, s, k1, k2⟩ => by
    obtain ⟨q, o, h3, h4, ⟨vs, h5, h6⟩, h7, h8, h9⟩ := s.mu i _ hi
    subst h5
    refine ⟨F0, G, F, s, fun v F1 H1 g1 ok => ⟨.ref q, h3, F0, G, F1, s.mv g1, fun u F2 H2 g2 ok2 => ?_⟩⟩
    have g := g1.tr g2
    have e1 : ixN vs.length (n : Int) = some n := by
      unfold ixN
      rw [if_pos (Int.natCast_nonneg n), if_pos (by rw [h6.len]; exact Int.ofNat_lt.mpr hn), Int.toNat_natCast]
    refine ⟨q, vs, n, n, rfl, Rp.inj_int ok2, g.h q _ h9 h4, e1, ?_⟩
    exact k1 _ _ F2 _ rfl g.f (((s.mv g1).mv g2).chg hi h3 ⟨vs.set n v, rfl, RpL.set (Rp.mono g2.f _ _ ok) n (RpL.mono g.f _ _ h6)⟩)
/-- x += e, x |= e: numbers -/
theorem saug (i : Nat) {x : Str} {op : Operator} {f : Int → Int → Int} {n k : Int} {pos' : Pos} (hN : X.N.Nodup) (ho : PIp X op (ipI f)) (he : PE X e (tD Z ρ (.int k))) (h2 : PSs X rest (tS Z F0 G (ρ.set i (some (.im (Dt (.int (f n k)))))) Φ)) (hr : ρ[i]? = some (some (.im (Dt (.int n)))) := by rfl)
    (hi : X.N[i]? = some x := by rfl) (hx : Loc X.env.scope x := by first | exact Or.inl rfl | exact Or.inr rfl) (hl : Nat.blt i ρ.length = true := by rfl) (hf : X.fn x = true ∨ X.env.scope.names.lookup x = some .local := by first | exact .inl rfl | exact .inr rfl) :
    PSs X (.AugAssign (.Name x pos') op e pos :: rest) (tS Z F0 G ρ Φ) :=
  sone (ps_aug hN hi hx he ho hf) h2 fun D σ H ⟨F, s, k1, k2⟩ => by
    obtain ⟨v, h3, h4⟩ := s.im i _ hr
    refine ⟨v, h3, F0, G, F, s, fun u F1 H1 g1 ok => ⟨n, k, Rp.inj_int h4, Rp.inj_int ok, ?_⟩⟩
    exact k1 _ _ F1 H1 rfl g1.f ((s.mv g1).setI (bl hl) (.int _))
end

/-! ### several targets at once -/
/-- what is stored: a value, or a container made on the way -/
inductive AK where
  | v (t : Ty) | n (m : Mt)
/-- the values as they come: H0 the heap ahead of all -/
inductive OkK (H0 F H : Hp) : List V → List AK → Prop
  | nil : OkK H0 F H [] []
  | v {v : V} {vs : List V} {t : Ty} {ks : List AK} : t.ok F v → OkK H0 F H vs ks → OkK H0 F H (v :: vs) (.v t :: ks)
  | n {p : Addr} {o : HO} {vs : List V} {m : Mt} {ks : List AK} : H0 p = none → F p = none → H p = some o → m.ok p F o → V.ref p ∉ vs → OkK H0 F H vs ks → OkK H0 F H (.ref p :: vs) (.n m :: ks)
def tK (Z : Zn) (ρ : En) (ks : List AK) : TA := fun σ H Q => ∃ F0 G F, St Z F0 G F H σ ρ ∧ ∀ vs F' H', Go Z F H F' H' → OkK H F' H' vs ks → Q vs H'
section
variable {X : Cx} {Z : Zn} {F0 G : Hp} {ρ ρ1 ρ2 : En} {e a b c tg : Expr} {es : List Expr} {pos p : Pos} {t : Ty} {m : Mt} {o : Option (List Nat)} {d : PyData} {ds : List PyData} {Φ Ψ : Po} {sts rest : List Stmt} {st : Stmt}
theorem ka0 : PA X [] (tK Z ρ []) := pa_nil.imp fun σ H Q ⟨F0, G, F, s, k⟩ => k [] F H s.self .nil
theorem OkK.before {H0 H1 F H : Hp} (h : ∀ a, H1 a = none → H0 a = none) : ∀ {vs : List V} {ks : List AK}, OkK H1 F H vs ks → OkK H0 F H vs ks
  | _, _, .nil => .nil
  | _, _, .v h1 r => .v h1 (r.before h)
  | _, _, .n h1 h2 h3 h4 h5 r => .n (h _ h1) h2 h3 h4 h5 (r.before h)
theorem kav {ks : List AK} (ha : PE X e (tO Z ρ t.od)) (hr : PA X es (tK Z ρ ks)) (hs : starEach (e :: es) X.env = (false, eval e X.env) :: starEach es X.env := by rfl) : PA X (e :: es) (tK Z ρ (.v t :: ks)) :=
  (pa_cons ha hr hs).imp fun σ H Q ⟨F0, G, F, s, k⟩ => ⟨F0, G, F, s, fun v F1 H1 g1 k1 => ⟨F0, G, F1, s.mv g1, fun vs F2 H2 g2 k2 => k _ F2 H2 (g1.tr g2) (.v (t.mono g2.f k1) (k2.before fun a => g1.was))⟩⟩
/-- what comes later is no container that came ahead, if no later value is one that nobody changes and that is it -/
theorem OkK.notin {H0 F H : Hp} {p : Addr} (h0 : H0 p ≠ none) (hf : F p = none) : ∀ {vs : List V} {ks : List AK}, OkK H0 F H vs ks → (∀ t, AK.v t ∈ ks → ∀ F v, t.ok F v → v = .ref p → F p ≠ none) → V.ref p ∉ vs
  | _, _, .nil, _ => by simp
  | _, _, .v (t := t) h1 r, q => by
    intro hm
    rcases List.mem_cons.mp hm with e | hm
    · exact q t List.mem_cons_self _ _ h1 e.symm hf
    · exact OkK.notin h0 hf r (fun t ht => q t (List.mem_cons_of_mem _ ht)) hm
  | _, _, .n h1 h2 h3 h4 h5 r, q => by
    intro hm
    rcases List.mem_cons.mp hm with e | hm
    · cases e
      exact h0 h1
    · exact OkK.notin h0 hf r (fun t ht => q t (List.mem_cons_of_mem _ ht)) hm
/-- a kind whose objects are such as nobody changes -/
def Ty.held (t : Ty) : Prop := ∀ F v p, t.ok F v → v = .ref p → F p ≠ none
theorem held_dt (d : PyData) : (Dt d).held := fun F v p h e => by
  subst e
  cases (show Rp F _ d from h) with
  | lst h1 _ =>
    rw [h1]
    intro z
    cases z
  | tup h1 _ _ =>
    rw [h1]
    intro z
    cases z
def AK.held : AK → Prop
  | .v t => t.held
  | .n _ => True
theorem kan {ks : List AK} (ha : PE X e (tN Z ρ m)) (hr : PA X es (tK Z ρ ks)) (hh : ∀ k ∈ ks, k.held) (hs : starEach (e :: es) X.env = (false, eval e X.env) :: starEach es X.env := by rfl) : PA X (e :: es) (tK Z ρ (.n m :: ks)) :=
  (pa_cons ha hr hs).imp fun σ H Q ⟨F0, G, F, s, k⟩ => ⟨F0, G, F, s, fun p o F1 H1 g1 n1 n2 n3 ok => ⟨F0, G, F1, s.mv g1, fun vs F2 H2 g2 k2 => by
    have xp : ¬ Z.out p := fun z => s.zk.there z n1
    have n4 : F2 p = none := g2.nw p n2 (by rw [n3]; intro z; cases z)
    refine k _ F2 H2 (g1.tr g2) (.n n1 n4 (g2.h p o xp n3) (m.mono g2.f ok) ?_ (k2.before fun a => g1.was))
    exact OkK.notin (by rw [n3]; intro z; cases z) n4 k2 fun t ht F v h1 e1 => hh _ ht F v p h1 e1⟩⟩
/-- the slots' numbers with what they get -/
def enK (ρ : En) : List Nat → List AK → En
  | i :: is, .v t :: ks => enK (ρ.set i (some (.im t))) is ks
  | i :: is, .n m :: ks => enK (ρ.set i (some (.mu m))) is ks
  | _, _ => ρ
def svK (σ : L2.St) : List Nat → List V → L2.St
  | i :: is, v :: vs => svK (σ.set i (some v)) is vs
  | _, _ => σ
/-- the containers among them are new: no slot of the environment holds one -/
theorem St.setK : ∀ {is : List Nat} {ks : List AK} {vs : List V} {F H H0 : Hp} {σ : L2.St} {ρ : En}, St Z F0 G F H σ ρ → OkK H0 F H vs ks → (∀ a, H0 a = none → G a = none) → (∀ a, Z.out a → H0 a ≠ none) →
    (∀ (j : Nat) (m : Mt) (q : Addr), ρ[j]? = some (some (.mu m)) → σ[j]? = some (some (.ref q)) → H0 q ≠ none ∨ V.ref q ∉ vs) → (∀ i ∈ is, i < ρ.length) → is.length = ks.length → St Z F0 G F H (svK σ is vs) (enK ρ is ks)
  | [], [], [], _, _, _, _, _, s, _, _, _, _, _, _ => s
  | i :: is, .v t :: ks, v :: vs, F, H, H0, σ, ρ, s, .v h1 r, hG, hZ, hD, hi, hl => by
    show St Z F0 G F H (svK (σ.set i (some v)) is vs) (enK (ρ.set i (some (.im t))) is ks)
    refine St.setK (s.setI (hi i List.mem_cons_self) h1) r hG hZ (fun j m q h2 h3 => ?_) (fun k hk => by rw [List.length_set]; exact hi k (List.mem_cons_of_mem _ hk)) (Nat.succ.inj hl)
    rcases gt_set h2 with ⟨e, hu⟩ | ⟨e, hu⟩
    · cases hu
    · rw [List.getElem?_set_ne (Ne.symm e)] at h3
      rcases hD j m q hu h3 with z | z
      · exact .inl z
      · exact .inr fun y => z (List.mem_cons_of_mem _ y)
  | i :: is, .n m :: ks, .ref p :: vs, F, H, H0, σ, ρ, s, .n (o := o) h1 h2 h3 h4 h5 r, hG, hZ, hD, hi, hl => by
    have hil := hi i List.mem_cons_self
    have xp : ¬ Z.out p := fun z => hZ p z h1
    have apart : ∀ (j : Nat) (n : Mt) (q : Addr), ρ[j]? = some (some (.mu n)) → σ[j]? = some (some (.ref q)) → q ≠ p := fun j n q a1 a2 e => by
      rcases hD j n q a1 a2 with z | z
      · rw [e] at z
        exact z h1
      · rw [e] at z
        exact z List.mem_cons_self
    have s1 : St Z F0 G F H (σ.set i (some (.ref p))) (ρ.set i (some (.mu m))) := by
      have s' := s.drop (i := i) (x := some (.ref p))
      refine ⟨s.go, s.zo, by rw [List.length_set, List.length_set, s.len], fun j u hj => ?_, fun j u hj => ?_, fun j k m' n q r' jk hj hk hq hr => ?_, fun j hj => ?_⟩
      · rcases gt_set hj with ⟨e, hu⟩ | ⟨e, hu⟩
        · cases hu
        · obtain ⟨w, q1, q2⟩ := s.im j u hu
          exact ⟨w, by rw [List.getElem?_set_ne (Ne.symm e)]; exact q1, q2⟩
      · rcases gt_set hj with ⟨e, hu⟩ | ⟨e, hu⟩
        · cases hu
          exact ⟨p, o, by rw [e, List.getElem?_set_self (s.lt hil)], h3, h4, h2, hG p h1, xp⟩
        · obtain ⟨q, w, q1, q2⟩ := s.mu j u hu
          exact ⟨q, w, by rw [List.getElem?_set_ne (Ne.symm e)]; exact q1, q2⟩
      · rcases gt_set hj with ⟨e, hu⟩ | ⟨e, hu⟩
        · rcases gt_set hk with ⟨e', hu'⟩ | ⟨e', hu'⟩
          · exact absurd (e.trans e'.symm) jk
          · rw [List.getElem?_set_ne (Ne.symm e')] at hr
            rw [e, List.getElem?_set_self (s.lt hil)] at hq
            cases hq
            exact (apart k n r' hu' hr).symm
        · rw [List.getElem?_set_ne (Ne.symm e)] at hq
          rcases gt_set hk with ⟨e', hu'⟩ | ⟨e', hu'⟩
          · rw [e', List.getElem?_set_self (s.lt hil)] at hr
            cases hr
            exact apart j m' q hu hq
          · rw [List.getElem?_set_ne (Ne.symm e')] at hr
            exact s.ap j k m' n q r' jk hu hu' hq hr
      · rcases gt_set hj with ⟨e, hu⟩ | ⟨e, hu⟩
        · cases hu
        · obtain ⟨q, q1, q2⟩ := s.dl j hu
          exact ⟨q, q1, by rw [List.getElem?_set_ne (Ne.symm e)]; exact q2⟩
    show St Z F0 G F H (svK (σ.set i (some (.ref p))) is vs) (enK (ρ.set i (some (.mu m))) is ks)
    refine St.setK s1 r hG hZ (fun j n q a1 a2 => ?_) (fun k hk => by rw [List.length_set]; exact hi k (List.mem_cons_of_mem _ hk)) (Nat.succ.inj hl)
    rcases gt_set a1 with ⟨e, hu⟩ | ⟨e, hu⟩
    · rw [e, List.getElem?_set_self (s.lt hil)] at a2
      cases a2
      exact .inr h5
    · rw [List.getElem?_set_ne (Ne.symm e)] at a2
      rcases hD j n q hu a2 with z | z
      · exact .inl z
      · exact .inr fun y => z (List.mem_cons_of_mem _ y)
theorem St.setK' {is : List Nat} {ks : List AK} {vs : List V} {F H F' H' : Hp} {σ : L2.St} (s : St Z F0 G F H σ ρ) (g : Go Z F H F' H') (ok : OkK H F' H' vs ks) (hi : ∀ i ∈ is, i < ρ.length) (hl : is.length = ks.length) : St Z F0 G F' H' (svK σ is vs) (enK ρ is ks) :=
  St.setK (s.mv g) ok (fun a ha => by
    cases e : G a with
    | none => rfl
    | some u =>
      by_cases hx : Z.out a
      · exact absurd ha (s.zk.there hx)
      · rw [s.go.h a u hx e] at ha
        cases ha) (fun a ha => s.zk.there ha) (fun j m q h1 h2 => by
    obtain ⟨p, o, a1, a2, _⟩ := s.mu j m h1
    rw [h2] at a1
    cases a1
    exact .inl (by rw [a2]; intro z; cases z)) hi hl
theorem OkK.len {H0 F H : Hp} : ∀ {vs : List V} {ks : List AK}, OkK H0 F H vs ks → vs.length = ks.length
  | _, _, .nil => rfl
  | _, _, .v _ r => congrArg (· + 1) r.len
  | _, _, .n _ _ _ _ _ r => congrArg (· + 1) r.len
theorem OkK.mv {H0 F H F' H' : Hp} (zk : ∀ a, Z.out a → H0 a ≠ none) (g : Go Z F H F' H') : ∀ {vs : List V} {ks : List AK}, OkK H0 F H vs ks → OkK H0 F' H' vs ks
  | _, _, .nil => .nil
  | _, _, .v (t := t) h1 r => .v (t.mono g.f h1) (r.mv zk g)
  | _, _, .n (m := m) h1 h2 h3 h4 h5 r => .n h1 (g.nw _ h2 (by rw [h3]; intro z; cases z)) (g.h _ _ (fun z => zk _ z h1) h3) (m.mono g.f h4) h5 (r.mv zk g)
theorem lt2 {n i j : Nat} (h1 : i < n) (h2 : j < n) : ∀ k ∈ [i, j], k < n := fun k hk => by
  rcases List.mem_cons.mp hk with e | hk
  · rw [e]
    exact h1
  · rcases List.mem_cons.mp hk with e | hk
    · rw [e]
      exact h2
    · cases hk
theorem lt3 {n i j l : Nat} (h1 : i < n) (h2 : j < n) (h3 : l < n) : ∀ k ∈ [i, j, l], k < n := fun k hk => by
  rcases List.mem_cons.mp hk with e | hk
  · rw [e]
    exact h1
  · exact lt2 h2 h3 k hk
/-- x, y = a, b: plain locals -/
theorem spar2 (i j : Nat) {x y : Str} {ks : List AK} {px py pt : Pos} {kt k2 : Nat} {pt2 : Pos} (hc : X.calm = true) (hN : X.N.Nodup) (ha : PA X [a, b] (tK Z ρ ks)) (h2 : PSs X rest (tS Z F0 G (enK ρ [i, j] ks) Φ)) (hi : X.N[i]? = some x := by rfl) (hj : X.N[j]? = some y := by rfl)
    (hij : i ≠ j := by decide) (hx : X.env.scope.names.lookup x = some .local := by rfl) (hy : X.env.scope.names.lookup y = some .local := by rfl)
    (hw : swappedStores [.Tuple [.Name x px, .Name y py] kt pt] (.Tuple [a, b] k2 pt2) X.env = pure (some [x, y]) := by rfl) (hs : swapsWithSole [.Tuple [.Name x px, .Name y py] kt pt] (.Tuple [a, b] k2 pt2) pos.line X.env = pure false := by rfl)
    (hil : Nat.blt i ρ.length = true := by rfl) (hjl : Nat.blt j ρ.length = true := by rfl) (hk : ks.length = 2 := by rfl) : PSs X (.Assign [.Tuple [.Name x px, .Name y py] kt pt] (.Tuple [a, b] k2 pt2) pos :: rest) (tS Z F0 G ρ Φ) := by
  refine sone (ps_par hc hN hi hj hij hx hy ha hw hs) h2 fun D σ H ⟨F, s, k1, k2⟩ => ⟨F0, G, F, s, fun vs F1 H1 g1 ok => ?_⟩
  have e := ok.len
  rw [hk] at e
  match vs, e, ok with
  | [u, w], _, ok => exact ⟨u, w, rfl, k1 _ _ F1 H1 rfl g1.f (s.setK' (is := [i, j]) g1 ok (lt2 (bl hil) (bl hjl)) hk.symm)⟩
theorem spar3 (i j l : Nat) {x y z : Str} {ks : List AK} {px py pz pt : Pos} {kt k2 : Nat} {pt2 : Pos} (hc : X.calm = true) (hN : X.N.Nodup) (ha : PA X [a, b, c] (tK Z ρ ks)) (h2 : PSs X rest (tS Z F0 G (enK ρ [i, j, l] ks) Φ)) (hi : X.N[i]? = some x := by rfl) (hj : X.N[j]? = some y := by rfl) (hl : X.N[l]? = some z := by rfl)
    (hij : i ≠ j := by decide) (hil : i ≠ l := by decide) (hjl : j ≠ l := by decide) (hx : X.env.scope.names.lookup x = some .local := by rfl) (hy : X.env.scope.names.lookup y = some .local := by rfl) (hz : X.env.scope.names.lookup z = some .local := by rfl)
    (hw : swappedStores [.Tuple [.Name x px, .Name y py, .Name z pz] kt pt] (.Tuple [a, b, c] k2 pt2) X.env = pure (some [x, y, z]) := by rfl) (hs : swapsWithSole [.Tuple [.Name x px, .Name y py, .Name z pz] kt pt] (.Tuple [a, b, c] k2 pt2) pos.line X.env = pure false := by rfl)
    (l1 : Nat.blt i ρ.length = true := by rfl) (l2 : Nat.blt j ρ.length = true := by rfl) (l3 : Nat.blt l ρ.length = true := by rfl) (hk : ks.length = 3 := by rfl) : PSs X (.Assign [.Tuple [.Name x px, .Name y py, .Name z pz] kt pt] (.Tuple [a, b, c] k2 pt2) pos :: rest) (tS Z F0 G ρ Φ) := by
  refine sone (ps_par3 hc hN hi hj hl hij hil hjl hx hy hz ha hw hs) h2 fun D σ H ⟨F, s, k1, k2⟩ => ⟨F0, G, F, s, fun vs F1 H1 g1 ok => ?_⟩
  have e := ok.len
  rw [hk] at e
  match vs, e, ok with
  | [u, v, w], _, ok => exact ⟨u, v, w, rfl, k1 _ _ F1 H1 rfl g1.f (s.setK' (is := [i, j, l]) g1 ok (lt3 (bl l1) (bl l2) (bl l3)) hk.symm)⟩
/-- names as targets -/
def gAll (is : List Nat) : TGs := fun vs σ H Q => vs.length = is.length ∧ Q (svK σ is vs) H
theorem ga0 : PGs X [] (gAll []) := pgs_nil.imp fun vs σ H Q ⟨h1, h2⟩ => by
  have e : vs = [] := List.eq_nil_of_length_eq_zero h1
  subst e
  exact ⟨rfl, h2⟩
theorem gac (i : Nat) {is : List Nat} {x : Str} (hN : X.N.Nodup) (h : PGs X es (gAll is)) (hi : X.N[i]? = some x := by rfl) (hx : Loc X.env.scope x := by first | exact Or.inl rfl | exact Or.inr rfl)
    (hf : X.fn x = true ∨ X.env.scope.names.lookup x = some .local := by first | exact .inl rfl | exact .inr rfl) (hs : (assignEach (.Name x pos :: es) X.env).map (·.2) = assign (.Name x pos) X.env :: (assignEach es X.env).map (·.2) := by rfl) : PGs X (.Name x pos :: es) (gAll (i :: is)) :=
  (pgs_cons (pg_name hN hi hx hf) h hs).imp fun vs σ H Q ⟨h1, h2⟩ => by
    match vs, h1, h2 with
    | v :: vs, h1, h2 => exact ⟨v, vs, rfl, Nat.succ.inj h1, h2⟩
/-- x, y, .. = a, b, ..: the pair is made and unpacked -/
theorem spar (is : List Nat) {ks : List AK} {ns : List Expr} {kt k2 : Nat} {pt pt2 : Pos} (hc : X.calm = true) (ha : PA X es (tK Z ρ ks)) (hg : PGs X ns (gAll is)) (h2 : PSs X rest (tS Z F0 G (enK ρ is ks) Φ)) (hk : is.length = ks.length := by rfl) (hi : is.all (fun i => Nat.blt i ρ.length) = true := by rfl)
    (hn : (assignEach ns X.env).length = is.length := by rfl) (hst : (assignEach ns X.env).findIdx? (·.1) = none := by rfl)
    (hs : swapsWithSole [.Tuple ns kt pt] (.Tuple es k2 pt2) pos.line X.env = pure false := by rfl) (hw : swappedStores [.Tuple ns kt pt] (.Tuple es k2 pt2) X.env = pure none := by rfl) (hz : ks.length ≤ 100000 := by decide) :
    PSs X (.Assign [.Tuple ns kt pt] (.Tuple es k2 pt2) pos :: rest) (tS Z F0 G ρ Φ) :=
  sone (ps_asg (pe_tup ha) (pg_tup hc hg hn hst) hs hw) h2 fun D σ H ⟨F, s, k1, k2⟩ => ⟨F0, G, F, s, fun vs F1 H1 g1 ok => ⟨small (by rw [ok.len]; exact hz), fun p hp => by
    have g2 := Go.new (o := .tup vs) g1.fh g1.zk hp
    refine ⟨p, vs, rfl, SqT.of upd_same, by rw [ok.len, hk], by rw [ok.len, hk], ?_⟩
    exact k1 _ _ F1 _ rfl g1.f (s.setK' (g1.tr g2) (ok.mv (fun a ha => s.zk.there ha) g2) (fun i hm => bl (List.all_eq_true.mp hi i hm)) hk)⟩⟩
end

/-! ### defs -/
def Zn.no (Z : Zn) : Zn := { Z with q := none }
theorem Zn.no_out {Z : Zn} {a : Addr} (h : Z.no.out a) : Z.out a := by
  rcases h with h | ⟨p, h, _⟩
  · exact .inl h
  · cases h
theorem Zn.ok.no {Z : Zn} {H : Hp} (k : Z.ok H) : Z.no.ok H := ⟨k.tab, fun p h => by cases h⟩
theorem Go.up {Z : Zn} {F H F' H' : Hp} (g : Go Z.no F H F' H') (k : Z.ok H) : Go Z F H F' H' := by
  refine ⟨g.f, g.fh, fun a o n e => g.h a o (fun z => n (Zn.no_out z)) e, g.nw, g.zk.tab, fun p e => ?_⟩
  obtain ⟨cs, b, h1, h2, r⟩ := k.deal p e
  obtain ⟨ps, h3, _⟩ := k.tab
  have n1 : ¬ Z.no.out p.1 := fun z => by
    rcases z with z | ⟨_, z, _⟩
    · rw [z] at h1
      have h3' : H Z.tb = some (.tbl ps) := h3
      have z' : H Z.no.tb = H Z.tb := Eq.refl _
      rw [z', h3'] at h1
      cases h1
    · cases z
  have n2 : ¬ Z.no.out p.2 := fun z => by
    rcases z with z | ⟨_, z, _⟩
    · rw [z] at h2
      have h3' : H Z.tb = some (.tbl ps) := h3
      have z' : H Z.no.tb = H Z.tb := Eq.refl _
      rw [z', h3'] at h2
      cases h2
    · cases z
  exact ⟨cs, b, g.h _ _ n1 h1, g.h _ _ n2 h2, r⟩
/-- what a def of data promises -/
def spD (Z : Zn) {α : Type} (ins : α → List Ty) (pre : α → Prop) (out : α → Ty) : Sp := fun vs H Q _ => ∃ (x : α) (F : Hp), pre x ∧ Same F H ∧ (∀ a, Z.out a → F a = none) ∧ Z.ok H ∧ OkL (Z := Z) F H vs ((ins x).map Ty.od) ∧ ∀ v F' H', Go Z F H F' H' → (out x).ok F' v → Q v H'
/-- .. of the deal and data -/
def Zn.dl (Z : Zn) (q l : Addr) : Zn := { Z with q := some (q, l) }
def spQ (Z : Zn) {α : Type} (ins : α → List Ty) (pre : α → Prop) (out : α → Ty) : Sp := fun vs H Q _ => ∃ (x : α) (F : Hp) (q l : Addr) (ws : List V), vs = .ref q :: ws ∧ pre x ∧ Same F H ∧ (∀ a, (Z.dl q l).out a → F a = none) ∧ (Z.dl q l).ok H ∧
  OkL (Z := Z.dl q l) F H ws ((ins x).map Ty.od) ∧ ∀ v F' H', Go (Z.dl q l) F H F' H' → (out x).ok F' v → Q v H'
/-- a def of the top that keeps a promise -/
def Okd (P : Program) (w : World) (K : PySem.W.Frag) (mg : Str → Option Value) (base : Heap) (x : Str) (n : Nat) (sp : Sp) : Prop :=
  ∃ (k : Nat) (f : Addr) (fd : FuncData) (ps : List Str), FnOk P w K mg base CX0 k f fd ps sp ∧ k ≤ n ∧ mg x = some (.ref f) ∧ PySem.W.keepIn K (.ref f) = true ∧ Binds K fd ps []
abbrev Can (X : Cx) (x : Str) (n : Nat) (sp : Sp) : Prop := Okd X.prog X.w X.K X.mg X.base x n sp
/-- a def as it stands behind the top -/
structure Dn (K : PySem.W.Frag) (mg : Str → Option Value) (x : Str) (st : Stmt) (ps : List Str) : Prop where
  ex : ∃ (f : Addr) (fd : FuncData), Fun K x x st f fd ∧ mg x = some (.ref f) ∧ Binds K fd ps []
theorem OkL.len {Z : Zn} {F H : Hp} : ∀ {vs : List V} {ws : List (Od Z)}, OkL F H vs ws → vs.length = ws.length
  | _, _, .nil => rfl
  | _, _, .cons _ t => congrArg (· + 1) t.len
theorem OkL.over {Z Z' : Zn} {F F' H H' : Hp} (e : Same F F') : ∀ {vs : List V} {ts : List Ty}, OkL (Z := Z) F H vs (ts.map Ty.od) → OkL (Z := Z') F' H' vs (ts.map Ty.od)
  | _, [], h => by cases h; exact .nil
  | _, t :: ts, h => by
    cases h with
    | cons h1 h2 => exact .cons (t.mono e h1) (h2.over e)
theorem OkL.bo {Z Z' : Zn} {F H H' : Hp} : ∀ {vs : List V} {ts : List Ty}, OkL (Z := Z) F H vs (ts.map Ty.bo) → OkL (Z := Z') (clr Z H) H' vs (ts.map Ty.od)
  | _, [], h => by cases h; exact .nil
  | _, t :: ts, h => by
    cases h with
    | cons h1 h2 => exact .cons h1 h2.bo
section
variable {X : Cx} {Z : Zn} {ρ : En} {e : Expr} {es : List Expr} {pos p : Pos} {x : Str} {n : Nat} {α : Type} {ins : α → List Ty} {pre : α → Prop} {out : α → Ty}
theorem dcall {j : Nat} (hr : Room n X.A) (C : Can X x j (spD Z.no ins pre out)) (a : α) (hp : pre a) (ha : PA X (e :: es) (tOs Z ρ ((ins a).map Ty.od))) (hg : Gl X x := by rfl) (hj : j ≤ n := by decide) (hdb : (x == ("__debug__" : Str)) = false := by decide)
    (he : starEach (e :: es) X.env = (false, eval e X.env) :: starEach es X.env := by rfl) (hpl : (backTo pos (starEach es X.env)).any (·.1) = false := by rfl) : PE X (.Call (.Name x p) (e :: es) [] pos) (tO Z ρ (out a).od) := by
  obtain ⟨k, f, fd, ps, F, hk, hm, kp, hb⟩ := C
  refine (pe_call F (hr.mono (Nat.le_trans hk hj)) hg hm kp hb .nil pass0 ha hdb he hpl).imp fun σ H Q ⟨F0, G, F, s, q⟩ => ⟨F0, G, F, s, fun vs F1 H1 g1 ok => ?_⟩
  have s1 := s.mv g1
  show spD Z.no ins pre out (vs ++ []) H1 Q E0
  rw [List.append_nil]
  exact ⟨a, F1, hp, s1.fh, fun b hb => s1.zo b (Zn.no_out hb), s1.zk.no, ok.over (Same.refl _), fun v F' H' g h => q v F' H' (g1.tr (g.up s1.zk)) h⟩
/-- arguments looked at, the answer flat -/
theorem dcallB {j : Nat} (hr : Room n X.A) (C : Can X x j (spD Z.no ins pre out)) (a : α) (hp : pre a) (ho : (out a).flat) (ha : PA X (e :: es) (tOs Z ρ ((ins a).map Ty.bo))) (hg : Gl X x := by rfl) (hj : j ≤ n := by decide) (hdb : (x == ("__debug__" : Str)) = false := by decide)
    (he : starEach (e :: es) X.env = (false, eval e X.env) :: starEach es X.env := by rfl) (hpl : (backTo pos (starEach es X.env)).any (·.1) = false := by rfl) : PE X (.Call (.Name x p) (e :: es) [] pos) (tO Z ρ (out a).od) := by
  obtain ⟨k, f, fd, ps, F, hk, hm, kp, hb⟩ := C
  refine (pe_call F (hr.mono (Nat.le_trans hk hj)) hg hm kp hb .nil pass0 ha hdb he hpl).imp fun σ H Q ⟨F0, G, F, s, q⟩ => ⟨F0, G, F, s, fun vs F1 H1 g1 ok => ?_⟩
  have s1 := s.mv g1
  show spD Z.no ins pre out (vs ++ []) H1 Q E0
  rw [List.append_nil]
  refine ⟨a, clr Z H1, hp, clr_same, fun b hb => clr_out (Zn.no_out hb), s1.zk.no, ok.bo, fun v F' H' g h => ?_⟩
  have g2 := g.up s1.zk
  refine q v F1 H' (g1.tr ⟨Same.refl _, fun c o e => ?_, g2.h, fun _ h _ => h, g2.zk⟩) (ho _ _ v h)
  have nc : ¬ Z.out c := fun z => by rw [s1.zo c z] at e; cases e
  exact g2.h c o nc (s1.fh c o e)
/-- the deal's own -/
theorem dcallQ {tb : Addr} {qn : Str} {q l : Addr} {pd : Pos} {y : Str} (i : Nat) {j : Nat} (hr : Room n X.A) (C : Can X x j (spQ ⟨tb, qn, none⟩ ins pre out)) (a : α) (hp : pre a) (ha : PA X es (tOs ⟨tb, qn, some (q, l)⟩ ρ ((ins a).map Ty.od))) (hd : ρ[i]? = some (some .dl) := by rfl) (hN : X.N[i]? = some y := by rfl)
    (hv : Vis X.env.scope y := by first | exact Or.inl rfl | exact Or.inr (Or.inl rfl) | exact Or.inr (Or.inr rfl)) (hd1 : (y == ("__debug__" : Str)) = false := by decide) (hcd : (y == ("__classdict__" : Str)) = false := by decide)
    (hg : Gl X x := by rfl) (hj : j ≤ n := by decide) (hdb : (x == ("__debug__" : Str)) = false := by decide)
    (he : starEach (.Name y pd :: es) X.env = (false, eval (.Name y pd) X.env) :: starEach es X.env := by rfl) (hpl : (backTo pos (starEach es X.env)).any (·.1) = false := by rfl) : PE X (.Call (.Name x p) (.Name y pd :: es) [] pos) (tO ⟨tb, qn, some (q, l)⟩ ρ (out a).od) := by
  obtain ⟨k, f, fd, ps, F, hk, hm, kp, hb⟩ := C
  refine (pe_call F (hr.mono (Nat.le_trans hk hj)) hg hm kp hb .nil pass0 (pa_cons (pe_var hN hv hd1 hcd) ha he) hdb he hpl).imp fun σ H Q ⟨F0, G, F, s, k⟩ => ?_
  obtain ⟨r, e1, e2⟩ := s.dl i hd
  cases e1
  refine ⟨_, e2, F0, G, F, s, fun vs F1 H1 g1 ok => ?_⟩
  have s1 := s.mv g1
  show spQ ⟨tb, qn, none⟩ ins pre out (V.ref q :: vs ++ []) H1 Q E0
  rw [List.append_nil]
  exact ⟨a, F1, q, l, vs, rfl, hp, s1.fh, s1.zo, s1.zk, ok, fun v F' H' g h => k v F' H' (g1.tr g) h⟩
end

/-! ### a def keeps its promise -/
def en0 (ts : List Ty) (n : Nat) : En := ts.map (fun t => some (.im t)) ++ List.replicate n none
theorem OkL.slot {Z : Zn} {F H : Hp} : ∀ {vs : List V} {ts : List Ty} {i : Nat} {t : Ty}, OkL (Z := Z) F H vs (ts.map Ty.od) → ts[i]? = some t → ∃ v, vs[i]? = some v ∧ t.ok F v
  | _, [], _, _, _, e => by simp at e
  | _, t :: ts, 0, _, h, e => by
    cases h with
    | cons h1 h2 =>
      simp at e
      subst e
      exact ⟨_, rfl, h1⟩
  | _, t :: ts, i + 1, _, h, e => by
    cases h with
    | cons h1 h2 =>
      obtain ⟨v, a1, a2⟩ := OkL.slot (i := i) h2 (by simpa using e)
      exact ⟨v, by simpa using a1, a2⟩
theorem en0_at {ts : List Ty} {n i : Nat} {a : AV} (h : (en0 ts n)[i]? = some (some a)) : ∃ t, ts[i]? = some t ∧ a = .im t := by
  unfold en0 at h
  by_cases hi : i < ts.length
  · rw [List.getElem?_append_left (by rw [List.length_map]; exact hi), List.getElem?_map] at h
    rw [List.getElem?_eq_getElem hi] at h ⊢
    cases h
    exact ⟨_, rfl, rfl⟩
  · rw [List.getElem?_append_right (by rw [List.length_map]; omega), List.getElem?_replicate] at h
    split at h <;> cases h
theorem start_at {N : List Str} {vs : List V} {i : Nat} {v : V} (h : vs[i]? = some v) : (L2.start N vs)[i]? = some (some v) := by
  unfold L2.start
  have hi := (List.getElem?_eq_some_iff.mp h).1
  rw [List.getElem?_append_left (by rw [List.length_map]; exact hi), List.getElem?_map, h]
  rfl
theorem St.first {Z : Zn} {F H : Hp} {N : List Str} {vs : List V} {ts : List Ty} (fh : Same F H) (zo : ∀ a, Z.out a → F a = none) (zk : Z.ok H) (ok : OkL (Z := Z) F H vs (ts.map Ty.od)) (hl : ts.length ≤ N.length) : St Z F H F H (L2.start N vs) (en0 ts (N.length - ts.length)) := by
  have lv : vs.length = ts.length := by rw [ok.len, List.length_map]
  refine ⟨Go.rfl fh zk, zo, ?_, fun i t h => ?_, fun i m h => ?_, fun i j m n p q _ h => ?_, fun i h => ?_⟩
  · unfold L2.start en0
    simp [lv]
  · obtain ⟨t', h1, h2⟩ := en0_at h
    cases h2
    obtain ⟨v, h3, h4⟩ := ok.slot h1
    exact ⟨v, start_at h3, h4⟩
  · obtain ⟨t', h1, h2⟩ := en0_at h
    cases h2
  · obtain ⟨t', h1, h2⟩ := en0_at h
    cases h2
  · obtain ⟨t', h1, h2⟩ := en0_at h
    cases h2
section
variable {P : Program} {w : World} {K : PySem.W.Frag} {mg : Str → Option Value} {base : Heap} {x : Str} {st : Stmt} {N ps : List Str} {k : Nat} {Z : Zn} {α : Type} {ins : α → List Ty} {pre : α → Prop} {out : α → Ty}
/-- what a body gives back: the wanted kind; it may end without a return where None is wanted -/
def Fin (t : Ty) : Po := ⟨fun _ => t = Dt .none, (· = t), fun _ => False, fun _ => False⟩
theorem okD (D : Dn K mg x st ps) (S : FnScope N ps (defScope st)) (hl : ∀ a, (ins a).length = ps.length) (hn : ps.length ≤ N.length)
    (body : ∀ (f : Addr) (cdv : Value) (A : Around) (outer : List Env) (s : Shared) (H : Hp) (E : XK) (a : α) (F0 G : Hp), Room k (A.deeper (envOfC x (defScope st) s.heap.objs.size f cdv)) → pre a →
      PSs (cxOf CX0 P w K mg base N x (defScope st) f cdv A outer s H E).nox (defBody st) (tS Z F0 G (en0 (ins a) (N.length - ps.length)) (Fin (out a)))) : Okd P w K mg base x (k + 1) (spD Z ins pre out) := by
  obtain ⟨f, fd, F, hm, hb⟩ := D.ex
  refine ⟨k + 1, f, fd, ps, ?_, Nat.le_refl _, hm, F.kp, hb⟩
  refine F.ok S (fun vs H Q E h => ?_) (fun cdv A outer s H vs Q E hr h => ?_)
  · obtain ⟨a, F, _, _, _, _, ok, _⟩ := h
    rw [ok.len, List.length_map, hl]
  · obtain ⟨a, F, hp, fh, zo, zk, ok, q⟩ := h
    refine ⟨_, body f cdv A outer s H E a F H hr hp, F, ?_, fun ρ' σ' F' H' hnx _ s' => ?_, fun t v F' H' ht g hv => ?_, fun _ _ _ _ h => h.elim, fun _ _ _ _ h => h.elim⟩
    · have s1 := St.first (N := N) fh zo zk ok (by rw [hl]; exact hn)
      rw [hl] at s1
      exact s1
    · have hnx' : out a = Dt .none := hnx
      exact q .non F' H' s'.go (by rw [hnx']; exact Rp.non)
    · have ht' : t = out a := ht
      subst ht'
      exact q v F' H' g hv
/-- .. with the deal ahead -/
def enQ (ts : List Ty) (n : Nat) : En := some .dl :: en0 ts n
theorem okQ {tb : Addr} {qn : Str} (D : Dn K mg x st ps) (S : FnScope N ps (defScope st)) (hl : ∀ a, (ins a).length + 1 = ps.length) (hn : ps.length ≤ N.length)
    (body : ∀ (f : Addr) (cdv : Value) (A : Around) (outer : List Env) (s : Shared) (H : Hp) (E : XK) (a : α) (F0 G : Hp) (q l : Addr), Room k (A.deeper (envOfC x (defScope st) s.heap.objs.size f cdv)) → pre a →
      PSs (cxOf CX0 P w K mg base N x (defScope st) f cdv A outer s H E).nox (defBody st) (tS ⟨tb, qn, some (q, l)⟩ F0 G (enQ (ins a) (N.length - ps.length)) (Fin (out a)))) : Okd P w K mg base x (k + 1) (spQ ⟨tb, qn, none⟩ ins pre out) := by
  obtain ⟨f, fd, F, hm, hb⟩ := D.ex
  refine ⟨k + 1, f, fd, ps, ?_, Nat.le_refl _, hm, F.kp, hb⟩
  refine F.ok S (fun vs H Q E h => ?_) (fun cdv A outer s H vs Q E hr h => ?_)
  · obtain ⟨a, F, q, l, ws, rfl, _, _, _, _, ok, _⟩ := h
    rw [List.length_cons, ok.len, List.length_map, hl]
  · obtain ⟨a, F, q, l, ws, rfl, hp, fh, zo, zk, ok, k⟩ := h
    refine ⟨_, body f cdv A outer s H E a F H q l hr hp, F, ?_, fun ρ' σ' F' H' hnx _ s' => ?_, fun t v F' H' ht g hv => ?_, fun _ _ _ _ h => h.elim, fun _ _ _ _ h => h.elim⟩
    · have lw : ws.length = (ins a).length := by rw [ok.len, List.length_map]
      refine ⟨Go.rfl fh zk, zo, ?_, fun i t h => ?_, fun i m h => ?_, fun i j m n p q _ h => ?_, fun i h => ?_⟩
      · unfold L2.start enQ en0
        have := hl a
        simp [lw]
        omega
      · cases i with
        | zero => cases h
        | succ i =>
          obtain ⟨t', h1, h2⟩ := en0_at (show (en0 (ins a) (N.length - ps.length))[i]? = _ by simpa [enQ] using h)
          cases h2
          obtain ⟨v, h3, h4⟩ := ok.slot h1
          exact ⟨v, start_at (by simpa using h3), h4⟩
      · cases i with
        | zero => cases h
        | succ i =>
          obtain ⟨t', h1, h2⟩ := en0_at (show (en0 (ins a) (N.length - ps.length))[i]? = _ by simpa [enQ] using h)
          cases h2
      · cases i with
        | zero => cases h
        | succ i =>
          obtain ⟨t', h1, h2⟩ := en0_at (show (en0 (ins a) (N.length - ps.length))[i]? = _ by simpa [enQ] using h)
          cases h2
      · cases i with
        | zero => exact ⟨(q, l), rfl, start_at rfl⟩
        | succ i =>
          obtain ⟨t', h1, h2⟩ := en0_at (show (en0 (ins a) (N.length - ps.length))[i]? = _ by simpa [enQ] using h)
          cases h2
    · have hnx' : out a = Dt .none := hnx
      exact k .non F' H' s'.go (by rw [hnx']; exact Rp.non)
    · have ht' : t = out a := ht
      subst ht'
      exact k v F' H' g hv
end
end Kb
end TKh
section TKi
set_option Elab.async false
set_option linter.all false
set_option maxRecDepth 100000
set_option maxHeartbeats 4000000
/-! Ki: dicts with texts as keys, instances, isinstance over the abstract environment. -/
namespace Kb
open PySem PySem.Spec PyProof.Rows L2

/-! ### dicts whose keys are texts -/
inductive KvR (F : Hp) : List (Key × V) → List (Str × Ty) → Prop
  | nil : KvR F [] []
  | cons {x : Str} {v : V} {t : Ty} {r : List (Key × V)} {s : List (Str × Ty)} : t.ok F v → KvR F r s → KvR F ((.inr x, v) :: r) ((x, t) :: s)
theorem KvR.mono {F F' : Hp} (e : Same F F') : ∀ {r : List (Key × V)} {s : List (Str × Ty)}, KvR F r s → KvR F' r s
  | _, _, .nil => .nil
  | _, _, .cons (t := t) h k => .cons (t.mono e h) (k.mono e)
theorem KvR.len {F : Hp} : ∀ {r : List (Key × V)} {s : List (Str × Ty)}, KvR F r s → r.length = s.length
  | _, _, .nil => rfl
  | _, _, .cons _ k => congrArg (· + 1) k.len
def lookS {β : Type} : List (Str × β) → Str → Option β
  | [], _ => none
  | (y, b) :: r, x => if y = x then some b else lookS r x
def putS {β : Type} : List (Str × β) → Str → β → List (Str × β)
  | [], x, b => [(x, b)]
  | (y, c) :: r, x, b => if y = x then (y, b) :: r else (y, c) :: putS r x b
theorem KvR.look {F : Hp} {x : Str} : ∀ {r : List (Key × V)} {s : List (Str × Ty)}, KvR F r s → (∀ t, lookS s x = some t → ∃ v, valV r (Sum.inr x) = some v ∧ t.ok F v) ∧ (lookS s x = none → valV r (Sum.inr x) = none)
  | _, _, .nil => by
    refine ⟨fun t h => ?_, fun _ => rfl⟩
    rw [lookS] at h
    cases h
  | _, _, .cons (x := y) (v := v) (t := t) (r := r) (s := s) h k => by
    by_cases e : y = x
    · subst e
      refine ⟨fun u hu => ?_, fun hu => ?_⟩
      · rw [lookS, if_pos rfl] at hu
        cases hu
        exact ⟨v, valV_pos rfl, h⟩
      · rw [lookS, if_pos rfl] at hu
        cases hu
    · have ne : ¬ ((Sum.inr y : Key) = Sum.inr x) := fun z => e (Sum.inr.inj z)
      have q := k.look (x := x)
      refine ⟨fun u hu => ?_, fun hu => ?_⟩
      · rw [lookS, if_neg e] at hu
        obtain ⟨w, h1, h2⟩ := q.1 u hu
        exact ⟨w, by rw [valV_neg (p := (Sum.inr y, v)) ne]; exact h1, h2⟩
      · rw [lookS, if_neg e] at hu
        rw [valV_neg (p := (Sum.inr y, v)) ne]
        exact q.2 hu
theorem KvR.snoc {F : Hp} {x : Str} {v : V} {t : Ty} (h : t.ok F v) : ∀ {r : List (Key × V)} {s : List (Str × Ty)}, KvR F r s → KvR F (r ++ [(Sum.inr x, v)]) (s ++ [(x, t)])
  | _, _, .nil => .cons h .nil
  | _, _, .cons a k => .cons a (k.snoc h)
theorem putS_new {β : Type} {x : Str} {b : β} : ∀ {s : List (Str × β)}, lookS s x = none → putS s x b = s ++ [(x, b)]
  | [], _ => rfl
  | (y, c) :: r, h => by
    by_cases e : y = x
    · rw [lookS, if_pos e] at h
      cases h
    · rw [lookS, if_neg e] at h
      rw [putS, if_neg e, putS_new h]
      rfl
theorem len_putS {β : Type} (x : Str) (b : β) : ∀ s : List (Str × β), (putS s x b).length ≤ s.length + 1
  | [] => Nat.le_refl _
  | (y, c) :: r => by
    rw [putS]
    split
    · simp
    · have := len_putS x b r
      simp only [List.length_cons]
      omega
def mK (kvs : List (Str × Ty)) : Mt := ⟨fun _ F o => ∃ r, o = .dK r ∧ KvR F r kvs, fun e ⟨r, h1, h2⟩ => ⟨r, h1, h2.mono e⟩, fun ⟨r, h1, _⟩ c q z => by rw [h1] at z; cases z⟩
def tyK (kvs : List (Str × Ty)) : Ty := ⟨fun F v => ∃ a r, v = .ref a ∧ F a = some (.dK r) ∧ KvR F r kvs, fun e ⟨a, r, h1, h2, h3⟩ => ⟨a, r, h1, e _ _ h2, h3.mono e⟩⟩
section
variable {X : Cx} {Z : Zn} {F0 G : Hp} {ρ ρ1 ρ2 : En} {e a b c tg : Expr} {es : List Expr} {pos p : Pos} {t : Ty} {m : Mt} {o : Option (List Nat)} {d : PyData} {ds : List PyData} {Φ Ψ : Po} {sts rest : List Stmt} {st : Stmt} {x : Str} {kvs : List (Str × Ty)}
theorem vK (h : PE X e (tO Z ρ (tyK kvs).od)) : PE X e (tO Z ρ (mK kvs).od) := od.imp (fun F H v fh zo h => by
  obtain ⟨q, r, h1, h2, h3⟩ := (show (tyK kvs).ok F v from h)
  exact ⟨q, _, h1, fh _ _ h2, ⟨r, rfl, h3⟩, fun z => by rw [zo _ z] at h2; cases h2⟩) h
theorem nK (h : PE X e (tN Z ρ (mK kvs))) : PE X e (tO Z ρ (tyK kvs).od) := h.imp fun σ H Q ⟨F0, G, F, s, k⟩ => ⟨F0, G, F, s, fun p o F' H' g n1 n2 n3 ok => by
  obtain ⟨r, h1, h2⟩ := ok
  subst h1
  exact k _ _ H' (g.keep n1 n3 n2) ⟨p, r, rfl, upd_same, h2.mono (same_new n2)⟩⟩
theorem frzK (kvs : List (Str × Ty)) : ∀ F p o, F p = none → (mK kvs).ok p F o → (tyK kvs).ok (upd F p o) (.ref p) := fun F p o n ⟨vs, h1, h2⟩ => by
  subst h1
  exact ⟨p, vs, rfl, upd_same, h2.mono (same_new n)⟩
theorem dnewK : PE X (.Dict [] [] pos) (tN Z ρ (mK [])) := pe_dnewK.imp fun σ H Q ⟨F0, G, F, s, k⟩ => fun p hp => k p _ F _ (Go.new s.fh s.zk hp) hp (s.fh.free hp) upd_same ⟨[], rfl, .nil⟩
theorem mK_at {F H : Hp} {v : V} (h : ((mK kvs).od (Z := Z)).ok F H v) : ∃ p r, v = .ref p ∧ H p = some (.dK r) ∧ KvR F r kvs ∧ ¬ Z.out p := by
  obtain ⟨p, o, h1, h2, ⟨vs, h3, h4⟩, h5⟩ := h
  subst h3
  exact ⟨p, vs, h1, h2, h4, h5⟩
/-- d[k] -/
theorem dgetK (hu : X.A.units + 1 < cLine) (ha : PE X a (tO Z ρ (mK kvs).od)) (hb : PE X b (tD Z ρ (.str x))) (hl : lookS kvs x = some t) (hs : NoSl b := by exact fun _ _ => rfl) : PE X (.Subscript a b pos) (tO Z ρ t.od) :=
  (pe_dget hu ha hb hs).imp fun σ H Q h => tO.use h fun F0 G F H1 v s k1 q => ⟨F0, G, F, s, fun u F2 H2 g2 k2 => by
    obtain ⟨p, r, rfl, h3, h4, h5⟩ := mK_at (((mK kvs).od (Z := Z)).mv g2 k1)
    obtain ⟨w, h6, h7⟩ := h4.look.1 t hl
    refine ⟨p, w, rfl, ?_, q w F2 H2 g2 h7⟩
    rw [Rp.inj_str k2, ← h6]
    exact DGet.k (k := Sum.inr x) h3⟩
theorem inKr {σ : L2.St} {H : Hp} {Q : Bool → Prop} (k : Bool) : True := trivial
/-- k in d -/
theorem pinK (hu : X.A.units + 1 < cLine) (ha : PE X a (tD Z ρ (.str x))) (hb : PE X b (tO Z ρ (mK kvs).od)) (hm : behindInMarks .In b = false := by rfl) : PT X (.Compare a [.In] [b] pos) (tQ Z ρ (lookS kvs x).isSome) :=
  (pt_cmp (pc_din hu ha hb) hm).imp fun σ H Q ⟨F0, G, F, s, q⟩ => ⟨F0, G, F, s, fun u F1 H1 g1 k1 => ⟨F0, G, F1, s.mv g1, fun v F2 H2 g2 k2 => by
    obtain ⟨p, r, rfl, h3, h4, h5⟩ := mK_at k2
    rw [Rp.inj_str k1]
    refine ⟨p, valV r (Sum.inr x), rfl, DGet.k (k := Sum.inr x) h3, (lookS kvs x).isSome, ?_, q _ F2 H2 (g1.tr g2) rfl⟩
    have z := h4.look (x := x)
    cases e : lookS kvs x with
    | none => rw [z.2 e]; rfl
    | some t =>
      obtain ⟨w, h6, _⟩ := z.1 t e
      rw [h6]
      rfl⟩⟩
theorem pninK (hu : X.A.units + 1 < cLine) (ha : PE X a (tD Z ρ (.str x))) (hb : PE X b (tO Z ρ (mK kvs).od)) (hm : behindInMarks .NotIn b = false := by rfl) : PT X (.Compare a [.NotIn] [b] pos) (tQ Z ρ (!(lookS kvs x).isSome)) :=
  (pt_cmp (pc_dnotin hu ha hb) hm).imp fun σ H Q ⟨F0, G, F, s, q⟩ => ⟨F0, G, F, s, fun u F1 H1 g1 k1 => ⟨F0, G, F1, s.mv g1, fun v F2 H2 g2 k2 => by
    obtain ⟨p, r, rfl, h3, h4, h5⟩ := mK_at k2
    rw [Rp.inj_str k1]
    refine ⟨p, valV r (Sum.inr x), rfl, DGet.k (k := Sum.inr x) h3, !(lookS kvs x).isSome, ?_, q _ F2 H2 (g1.tr g2) rfl⟩
    have z := h4.look (x := x)
    cases e : lookS kvs x with
    | none => rw [z.2 e]; rfl
    | some t =>
      obtain ⟨w, h6, _⟩ := z.1 t e
      rw [h6]
      rfl⟩⟩
/-- d.get(k), k there -/
theorem dget1K {apos cpos : Pos} (hu : X.A.units + 1 < cLine) (ha : PE X a (tO Z ρ (mK kvs).od)) (hb : PE X b (tD Z ρ (.str x))) (hl : lookS kvs x = some t) (h1 : attributeBase a "get" X.env (eval a X.env) = eval a X.env := by rfl)
    (h2 : ((backTo cpos (starEach [b] X.env)).all (fun x => !x.1) && (backToKw cpos (keywordEach [] X.env)).all (fun x => x.1.isSome) && decide (([b] : List Expr).length + ([] : List Keyword).length + (if ([] : List Keyword).isEmpty then 0 else 1) < 30)) = true := by rfl)
    (h3 : (apos.endLine == cpos.line) = true := by rfl) (h4 : backTo cpos (starEach [b] X.env) = [(false, eval b X.env)] := by rfl) : PE X (.Call (.Attribute a "get" apos) [b] [] cpos) (tO Z ρ t.od) :=
  (pe_dget1 hu ha hb ⟨h1, h2, h3, h4⟩).imp fun σ H Q h => tO.use h fun F0 G F H1 v s k1 q => by
    obtain ⟨p0, r0, e0, h30, h40, h50⟩ := mK_at k1
    subst e0
    refine ⟨p0, rfl, .inl ⟨r0, .inl h30⟩, F0, G, F, s, fun u F2 H2 g2 k2 => ?_⟩
    obtain ⟨w, h6, h7⟩ := h40.look.1 t hl
    refine ⟨some w, ?_, q w F2 H2 g2 (t.mono g2.f h7)⟩
    rw [Rp.inj_str k2, ← h6]
    exact DGet.k (k := Sum.inr x) (g2.h p0 _ h50 h30)
/-- d[k] = e, k not there yet, d this frame's own -/
theorem sputK (i : Nat) {y : Str} {px pos' : Pos} (hu : X.A.units + 1 < cLine) (he : PE X e (tO Z ρ t.od)) (hb : PE X b (tD Z ρ (.str x))) (hl : lookS kvs x = none) (hz : kvs.length < 100000) (h2 : PSs X rest (tS Z F0 G (ρ.set i (some (.mu (mK (kvs ++ [(x, t)]))))) Φ)) (hi : ρ[i]? = some (some (.mu (mK kvs))) := by rfl) (hN : X.N[i]? = some y := by rfl)
    (hv : Vis X.env.scope y := by first | exact Or.inl rfl | exact Or.inr (Or.inl rfl) | exact Or.inr (Or.inr rfl)) (hd : (y == ("__debug__" : Str)) = false := by decide) (hcd : (y == ("__classdict__" : Str)) = false := by decide)
    (hs : swapsWith e (some (.Subscript (.Name y px) b pos')) pos.line X.env = pure false := by rfl) : PSs X (.Assign [.Subscript (.Name y px) b pos'] e pos :: rest) (tS Z F0 G ρ Φ) :=
  sone (ps_dput hu (pe_var hN hv hd hcd) hb he hs) h2 fun D σ H ⟨F, s, k1, k2⟩ => by
    obtain ⟨q, o, h3, h4, ⟨r, h5, h6⟩, h7, h8, h9⟩ := s.mu i _ hi
    subst h5
    refine ⟨F0, G, F, s, fun v F1 H1 g1 ok => ⟨.ref q, h3, F0, G, F1, s.mv g1, fun u F2 H2 g2 ok2 => ?_⟩⟩
    have g := g1.tr g2
    have hq := g.h q _ h9 h4
    refine ⟨q, _, rfl, (by rw [Rp.inj_str ok2]; exact DPut.k (k := Sum.inr x) hq (smallS (by rw [h6.len]; exact hz))), ?_⟩
    have h6' := h6.mono g.f
    rw [putK_new v (h6'.look.2 hl)]
    exact k1 _ _ F2 _ rfl g.f (((s.mv g1).mv g2).chg hi h3 ⟨_, rfl, h6'.snoc (t.mono g2.f ok)⟩)
/-- d[k] = e, any k -/
theorem KvR.put {F : Hp} {v : V} (h : t.ok F v) : ∀ {r : List (Key × V)} {s : List (Str × Ty)}, KvR F r s → (s.map (·.1)).Nodup → KvR F (putK r (Sum.inr x) v) (putS s x t) := fun {r s} k nd => by
  cases e : lookS s x with
  | none =>
    rw [putK_new v (k.look.2 e), putS_new e]
    exact k.snoc h
  | some u =>
    obtain ⟨w, h1, _⟩ := k.look.1 u e
    have ha : (r.any fun kv => decide (kv.1 = Sum.inr x)) = true := by rw [valV_any, h1]; rfl
    unfold putK
    rw [if_pos ha]
    clear h1 ha
    induction k with
    | nil => cases e
    | @cons y v' t' r s a k ih =>
      rw [List.map_cons, List.nodup_cons] at nd
      by_cases ey : y = x
      · subst ey
        rw [putS, if_pos rfl, List.map_cons, if_pos rfl]
        refine .cons h ?_
        have nm : ∀ {r : List (Key × V)} {s : List (Str × Ty)}, KvR F r s → y ∉ s.map (·.1) → r.map (fun kv => if kv.1 = Sum.inr y then (kv.1, v) else kv) = r := by
          intro r s k
          induction k with
          | nil => intro _; rfl
          | @cons z _ _ _ _ _ _ ih =>
            intro hn
            rw [List.map_cons, List.mem_cons, not_or] at hn
            rw [List.map_cons, ih hn.2, if_neg (fun z' => hn.1 (Sum.inr.inj z').symm)]
        rw [nm k nd.1]
        exact k
      · rw [lookS, if_neg ey] at e
        rw [putS, if_neg ey, List.map_cons, if_neg (fun z => ey (Sum.inr.inj z))]
        exact .cons a (ih nd.2 e)
theorem keys_putS {β : Type} (x : Str) (b : β) : ∀ s : List (Str × β), (putS s x b).map (·.1) = if x ∈ s.map (·.1) then s.map (·.1) else s.map (·.1) ++ [x]
  | [] => by simp [putS]
  | (y, c) :: r => by
    rw [putS]
    by_cases e : y = x
    · subst e
      simp
    · rw [if_neg e, List.map_cons, keys_putS x b r, List.map_cons]
      by_cases h : x ∈ r.map (·.1)
      · rw [if_pos h, if_pos (List.mem_cons_of_mem _ h)]
      · rw [if_neg h, if_neg (by
          rw [List.mem_cons]
          rintro (z | z)
          · exact e z.symm
          · exact h z)]
        rfl
theorem nodup_putS {β : Type} (x : Str) (b : β) (s : List (Str × β)) (h : (s.map (·.1)).Nodup) : ((putS s x b).map (·.1)).Nodup := by
  rw [keys_putS]
  split
  · exact h
  · rename_i n
    rw [List.nodup_append]
    refine ⟨h, by simp, fun a ha b hb => ?_⟩
    rw [List.mem_singleton] at hb
    subst hb
    exact fun z => n (by rw [← z]; exact ha)
theorem sputA (i : Nat) {y : Str} {px pos' : Pos} (hu : X.A.units + 1 < cLine) (he : PE X e (tO Z ρ t.od)) (hb : PE X b (tD Z ρ (.str x))) (hz : kvs.length < 100000) (nd : (kvs.map (·.1)).Nodup) (h2 : PSs X rest (tS Z F0 G (ρ.set i (some (.mu (mK (putS kvs x t))))) Φ)) (hi : ρ[i]? = some (some (.mu (mK kvs))) := by rfl) (hN : X.N[i]? = some y := by rfl)
    (hv : Vis X.env.scope y := by first | exact Or.inl rfl | exact Or.inr (Or.inl rfl) | exact Or.inr (Or.inr rfl)) (hd : (y == ("__debug__" : Str)) = false := by decide) (hcd : (y == ("__classdict__" : Str)) = false := by decide)
    (hs : swapsWith e (some (.Subscript (.Name y px) b pos')) pos.line X.env = pure false := by rfl) : PSs X (.Assign [.Subscript (.Name y px) b pos'] e pos :: rest) (tS Z F0 G ρ Φ) :=
  sone (ps_dput hu (pe_var hN hv hd hcd) hb he hs) h2 fun D σ H ⟨F, s, k1, k2⟩ => by
    obtain ⟨q, o, h3, h4, ⟨r, h5, h6⟩, h7, h8, h9⟩ := s.mu i _ hi
    subst h5
    refine ⟨F0, G, F, s, fun v F1 H1 g1 ok => ⟨.ref q, h3, F0, G, F1, s.mv g1, fun u F2 H2 g2 ok2 => ?_⟩⟩
    have g := g1.tr g2
    have hq := g.h q _ h9 h4
    refine ⟨q, _, rfl, (by rw [Rp.inj_str ok2]; exact DPut.k (k := Sum.inr x) hq (smallS (by rw [h6.len]; exact hz))), ?_⟩
    exact k1 _ _ F2 _ rfl g.f (((s.mv g1).mv g2).chg hi h3 ⟨_, rfl, (h6.mono g.f).put (t.mono g2.f ok) nd⟩)
end

/-! ### instances -/
def FsR (F : Hp) (vs : List (Str × V)) (fs : List (Str × Ty)) : Prop := ∀ f t, lookS fs f = some t → ∃ v, vs.lookup f = some v ∧ t.ok F v
theorem FsR.mono {F F' : Hp} {vs : List (Str × V)} {fs : List (Str × Ty)} (e : Same F F') (h : FsR F vs fs) : FsR F' vs fs := fun f t hl => by
  obtain ⟨v, h1, h2⟩ := h f t hl
  exact ⟨v, h1, t.mono e h2⟩
theorem FsR.put {F : Hp} {vs : List (Str × V)} {fs : List (Str × Ty)} {f : Str} {v : V} {t : Ty} (h : FsR F vs fs) (k : t.ok F v) : FsR F (putF f v vs) ((f, t) :: fs) := fun g u hl => by
  rw [lookup_putF]
  by_cases e : f = g
  · subst e
    rw [lookS, if_pos rfl] at hl
    cases hl
    exact ⟨v, if_pos rfl, k⟩
  · rw [lookS, if_neg e] at hl
    rw [if_neg (fun z => e z.symm)]
    exact h g u hl
/-- an instance of the class at C with these attributes -/
def tyI (C : Addr) (fs : List (Str × Ty)) : Ty := ⟨fun F v => ∃ a dx vs, v = .ref a ∧ F a = some (.ins C dx vs) ∧ FsR F vs fs, fun e ⟨a, dx, vs, h1, h2, h3⟩ => ⟨a, dx, vs, h1, e _ _ h2, h3.mono e⟩⟩
/-- the instance at p while it is made: n stores so far -/
def mI (C p : Addr) (n : Nat) (fs : List (Str × Ty)) : Mt := ⟨fun q F o => q = p ∧ ∃ dx vs, o = .ins C dx vs ∧ vs.length ≤ n ∧ FsR F vs fs, fun e ⟨h0, dx, vs, h1, h2, h3⟩ => ⟨h0, dx, vs, h1, h2, h3.mono e⟩, fun ⟨_, dx, vs, h1, _⟩ c q z => by rw [h1] at z; cases z⟩
section
variable {X : Cx} {Z : Zn} {F0 G : Hp} {ρ ρ1 ρ2 : En} {e a b c tg : Expr} {es : List Expr} {pos p : Pos} {t : Ty} {m : Mt} {o : Option (List Nat)} {d : PyData} {ds : List PyData} {Φ Ψ : Po} {sts rest : List Stmt} {st : Stmt} {x f : Str} {C : Addr} {fs : List (Str × Ty)}
/-- e.f -/
theorem dfld (cl : Cls X.K C) (na : NoAttr X.K C f) (ha : PE X a (tO Z ρ (tyI C fs).od)) (hl : lookS fs f = some t) (hb : attributeBase a f X.env (eval a X.env) = eval a X.env := by rfl) : PE X (.Attribute a f pos) (tO Z ρ t.od) :=
  (pe_fld ha hb).imp fun σ H Q h => tO.use h fun F0 G F H1 v s ⟨q, dx, vs, h1, h2, h3⟩ k => by
    obtain ⟨w, h4, h5⟩ := h3 f t hl
    exact ⟨q, C, dx, vs, w, h1, s.fh _ _ h2, cl, na, h4, k w F H1 s.self h5⟩
/-- self.f = e, while self is made -/
theorem sfld (i : Nat) {y : Str} {q : Addr} {n : Nat} {px pos' : Pos} (cl : Cls X.K C) (na : NoAttr X.K C f) (he : PE X e (tO Z ρ t.od)) (hn : n < 1000) (h2 : PSs X rest (tS Z F0 G (ρ.set i (some (.mu (mI C q (n + 1) ((f, t) :: fs))))) Φ)) (hi : ρ[i]? = some (some (.mu (mI C q n fs))) := by rfl) (hN : X.N[i]? = some y := by rfl)
    (hv : Vis X.env.scope y := by first | exact Or.inl rfl | exact Or.inr (Or.inl rfl) | exact Or.inr (Or.inr rfl)) (hd : (y == ("__debug__" : Str)) = false := by decide) (hcd : (y == ("__classdict__" : Str)) = false := by decide)
    (hs : swapsWith e (some (.Attribute (.Name y px) f pos')) pos.line X.env = pure false := by rfl) : PSs X (.Assign [.Attribute (.Name y px) f pos'] e pos :: rest) (tS Z F0 G ρ Φ) :=
  sone (ps_fld (pe_var hN hv hd hcd) he hs) h2 fun D σ H ⟨F, s, k1, k2⟩ => by
    obtain ⟨r, o, h3, h4, ⟨h0, dx, vs, h5, h6, h10⟩, h7, h8, h9⟩ := s.mu i _ hi
    subst h5
    refine ⟨F0, G, F, s, fun v F1 H1 g1 ok => ⟨.ref r, h3, r, C, dx, vs, rfl, g1.h r _ h9 h4, cl, na, Nat.lt_of_le_of_lt h6 hn, ?_⟩⟩
    refine k1 _ _ F1 _ rfl g1.f ((s.mv g1).chg hi h3 ⟨h0, dx, _, rfl, ?_, (h10.mono g1.f).put ok⟩)
    exact Nat.le_trans (length_putF _ _ _) (Nat.succ_le_succ h6)
end
def hide (p : Addr) (H : Hp) : Hp := fun a => if a = p then none else H a
theorem hide_ne {p a : Addr} {H : Hp} (h : a ≠ p) : hide p H a = H a := if_neg h
theorem hide_eq {p : Addr} {H : Hp} : hide p H p = none := if_pos rfl
/-- what an __init__ promises -/
def spI (Z : Zn) {α : Type} (C : Addr) (ins : α → List Ty) (pre : α → Prop) (fs : α → List (Str × Ty)) : Sp := fun vs H Q _ => ∃ (x : α) (F : Hp) (p dx : Addr) (ws : List V), vs = .ref p :: ws ∧ pre x ∧ Same F H ∧ (∀ a, Z.out a → F a = none) ∧ Z.ok H ∧ F p = none ∧ H p = some (.ins C dx []) ∧
  OkL (Z := Z) F H ws ((ins x).map Ty.od) ∧ ∀ F' H' dx' vs', Go Z F (hide p H) F' H' → F' p = none → H' p = some (.ins C dx' vs') → FsR F' vs' (fs x) → Q .non H'
/-- a class's __init__ as it stands behind the top, and the class -/
structure Dc (K : PySem.W.Frag) (mg : Str → Option Value) (x qual : Str) (C : Addr) (st : Stmt) (ps : List Str) : Prop where
  ex : ∃ (f : Addr) (fd : FuncData), Fun K "__init__" qual st f fd ∧ Binds K fd ps [] ∧ Mk K C f
  mg : mg x = some (.ref C)
def Okc (P : Program) (w : World) (K : PySem.W.Frag) (mg : Str → Option Value) (base : Heap) (x : Str) (C : Addr) (n : Nat) (sp : Sp) : Prop :=
  ∃ (k : Nat) (f : Addr) (fd : FuncData) (ps : List Str), FnOk P w K mg base CX0 k f fd ps sp ∧ k ≤ n ∧ mg x = some (.ref C) ∧ Mk K C f ∧ Binds K fd ps []
section
variable {X : Cx} {Z : Zn} {ρ : En} {e : Expr} {es : List Expr} {pos p : Pos} {x : Str} {n : Nat} {α : Type} {ins : α → List Ty} {pre : α → Prop} {fs : α → List (Str × Ty)} {C : Addr}
/-- C(e, ..) -/
theorem dmake {j : Nat} (hr : Room n X.A) (M : Okc X.prog X.w X.K X.mg X.base x C j (spI Z.no C ins pre fs)) (a : α) (hp : pre a) (ha : PA X (e :: es) (tOs Z ρ ((ins a).map Ty.od))) (hg : Gl X x := by rfl) (hj : j + 1 ≤ n := by decide) (hdb : (x == ("__debug__" : Str)) = false := by decide)
    (he : starEach (e :: es) X.env = (false, eval e X.env) :: starEach es X.env := by rfl) (hpl : (backTo pos (starEach es X.env)).any (·.1) = false := by rfl) : PE X (.Call (.Name x p) (e :: es) [] pos) (tO Z ρ (tyI C (fs a)).od) := by
  obtain ⟨k, f, fd, ps, F, hk, hm, mk, hb⟩ := M
  refine (pe_make mk F (hr.mono (Nat.le_trans (Nat.succ_le_succ hk) hj)) hg hm hb .nil pass0 ha hdb he hpl).imp fun σ H Q ⟨F0, G, F, s, q⟩ => ⟨F0, G, F, s, fun vs F1 H1 g1 ok => ?_⟩
  have s1 := s.mv g1
  intro y dx n1 n2 n3
  rw [List.append_nil]
  have n4 : upd H1 dx (.own y) y = none := by rw [upd_ne (Ne.symm n3)]; exact n1
  have zk1 : Z.ok (upd H1 dx (.own y)) := s1.zk.new n2
  have sm : Same H1 (upd (upd H1 dx (.own y)) y (.ins C dx [])) := (same_new n2).trans (same_new n4)
  refine ⟨a, F1, y, dx, vs, rfl, hp, s1.fh.trans sm, fun b hb => s1.zo b (Zn.no_out hb), (zk1.new n4).no, s1.fh.free n1, upd_same, ok.over (Same.refl _), fun F' H' dx' vs' g h1 h2 h3 => ⟨rfl, ?_⟩⟩
  have g2 : Go Z F1 H1 F' H' := by
    refine ⟨g.f, g.fh, fun c o nc e => ?_, fun c h4 h5 => ?_, g.zk.tab, fun pr e => ?_⟩
    · have cy : c ≠ y := fun z => by rw [z, n1] at e; cases e
      exact g.h c o (fun z => nc (Zn.no_out z)) (by rw [hide_ne cy]; exact sm c o e)
    · have cy : c ≠ y := fun z => h5 (by rw [z]; exact n1)
      refine g.nw c h4 ?_
      rw [hide_ne cy]
      cases e : H1 c with
      | none => exact absurd e h5
      | some o =>
        rw [sm c o e]
        intro z
        cases z
    · obtain ⟨cs, b, q1, q2, q3⟩ := s1.zk.deal pr e
      obtain ⟨tps, q4, _⟩ := s1.zk.tab
      have m1 : ¬ Z.no.out pr.1 := fun z => by
        rcases z with z | ⟨_, z, _⟩
        · rw [z] at q1
          exact absurd (q1.symm.trans q4) (by intro z; cases z)
        · cases z
      have m2 : ¬ Z.no.out pr.2 := fun z => by
        rcases z with z | ⟨_, z, _⟩
        · rw [z] at q2
          exact absurd (q2.symm.trans q4) (by intro z; cases z)
        · cases z
      have y1 : pr.1 ≠ y := fun z => by rw [z, n1] at q1; cases q1
      have y2 : pr.2 ≠ y := fun z => by rw [z, n1] at q2; cases q2
      exact ⟨cs, b, g.h _ _ m1 (by rw [hide_ne y1]; exact sm _ _ q1), g.h _ _ m2 (by rw [hide_ne y2]; exact sm _ _ q2), q3⟩
  exact q _ _ H' (g1.tr (g2.keep n1 h2 h1)) ⟨y, dx', vs', rfl, upd_same, h3.mono (same_new h1)⟩
end
section
variable {P : Program} {w : World} {K : PySem.W.Frag} {mg : Str → Option Value} {base : Heap} {x qual : Str} {st : Stmt} {N ps : List Str} {k : Nat} {Z : Zn} {α : Type} {ins : α → List Ty} {pre : α → Prop} {fs : α → List (Str × Ty)} {C : Addr}
theorem Zn.ok.notIns {Z : Zn} {H : Hp} (zk : Z.ok H) {p C dx : Addr} {vs : List (Str × V)} (h : H p = some (.ins C dx vs)) : ¬ Z.out p := fun z => by
  rcases z with z | ⟨pr, e, z⟩
  · obtain ⟨tps, q4, _⟩ := zk.tab
    rw [z, q4] at h
    cases h
  · obtain ⟨cs, b, q1, q2, q3⟩ := zk.deal pr e
    rcases z with z | z
    · rw [z, q1] at h
      cases h
    · rw [z, q2] at h
      cases h
/-- an __init__ keeps its promise -/
theorem okInit (D : Dc K mg x qual C st ps) (S : FnScope N ps (defScope st)) (hl : ∀ a, (ins a).length + 1 = ps.length) (hn : ps.length ≤ N.length)
    (body : ∀ (f : Addr) (cdv : Value) (A : Around) (outer : List Env) (s : Shared) (H : Hp) (E : XK) (a : α) (F0 G : Hp) (p : Addr), Room k (A.deeper (envOfC qual (defScope st) s.heap.objs.size f cdv)) → pre a →
      PSs (cxOf CX0 P w K mg base N qual (defScope st) f cdv A outer s H E).nox (defBody st) (tS Z F0 G (some (.mu (mI C p 0 [])) :: en0 (ins a) (N.length - ps.length)) ⟨fun ρ => ∃ n, ρ[0]? = some (some (.mu (mI C p n (fs a)))), fun _ => False, fun _ => False, fun _ => False⟩)) :
    Okc P w K mg base x C (k + 1) (spI Z C ins pre fs) := by
  obtain ⟨f, fd, F, hb, mk⟩ := D.ex
  refine ⟨k + 1, f, fd, ps, ?_, Nat.le_refl _, D.mg, mk, hb⟩
  refine F.ok S (fun vs H Q E h => ?_) (fun cdv A outer s H vs Q E hr h => ?_)
  · obtain ⟨a, F, p, dx, ws, rfl, _, _, _, _, _, _, ok, _⟩ := h
    rw [List.length_cons, ok.len, List.length_map, hl]
  · obtain ⟨a, F, p, dx, ws, rfl, hp, fh, zo, zk, fp, hpp, ok, q⟩ := h
    have np := zk.notIns hpp
    refine ⟨_, body f cdv A outer s H E a F (hide p H) p hr hp, F, ?_, fun ρ' σ' F' H' hnx _ s' => ?_, fun t v F' H' ht g hv => ht.elim, fun _ _ _ _ h => h.elim, fun _ _ _ _ h => h.elim⟩
    · have lw : ws.length = (ins a).length := by rw [ok.len, List.length_map]
      refine ⟨⟨Same.refl F, fh, fun c o nc e => ?_, fun c h _ => h, zk⟩, zo, ?_, fun i t h => ?_, fun i m h => ?_, fun i j m n r t ij hi hj h1 h2 => ?_, fun i h => ?_⟩
      · by_cases hc : c = p
        · rw [hc, hide_eq] at e
          cases e
        · rw [hide_ne hc] at e
          exact e
      · unfold L2.start en0
        have := hl a
        simp [lw]
        omega
      · cases i with
        | zero => cases h
        | succ i =>
          obtain ⟨t', h1, h2⟩ := en0_at (show (en0 (ins a) (N.length - ps.length))[i]? = _ by simpa using h)
          cases h2
          obtain ⟨v, h3, h4⟩ := ok.slot h1
          exact ⟨v, start_at (by simpa using h3), h4⟩
      · cases i with
        | zero =>
          cases h
          exact ⟨p, _, start_at rfl, hpp, ⟨rfl, dx, [], rfl, Nat.le_refl _, fun f t h => by cases h⟩, fp, hide_eq, np⟩
        | succ i =>
          obtain ⟨t', h1, h2⟩ := en0_at (show (en0 (ins a) (N.length - ps.length))[i]? = _ by simpa using h)
          cases h2
      · cases i with
        | succ i =>
          obtain ⟨t', h1, h2⟩ := en0_at (show (en0 (ins a) (N.length - ps.length))[i]? = _ by simpa using hi)
          cases h2
        | zero =>
          cases j with
          | zero => exact absurd rfl ij
          | succ j =>
            obtain ⟨t', h1, h2⟩ := en0_at (show (en0 (ins a) (N.length - ps.length))[j]? = _ by simpa using hj)
            cases h2
      · cases i with
        | zero => cases h
        | succ i =>
          obtain ⟨t', h1, h2⟩ := en0_at (show (en0 (ins a) (N.length - ps.length))[i]? = _ by simpa using h)
          cases h2
    · obtain ⟨n, hn⟩ := hnx
      obtain ⟨r, o, h1, h2, ⟨h3, dx', vs', h4, h5, h6⟩, h7, h8, h9⟩ := s'.mu 0 _ hn
      subst h3 h4
      exact q F' H' dx' vs' s'.go h7 h2 h6
end

/-! ### isinstance -/
theorem ty_str {K : PySem.W.Frag} {F H : Hp} {v : V} {x : Str} (h : Rp F v (.str x)) : TyX K H v (.type "str") := by cases h; exact .base (.str _)
theorem ty_tup {K : PySem.W.Frag} {F H : Hp} {v : V} {ds : List PyData} (fh : Same F H) (h : Rp F v (.tuple ds)) : TyX K H v (.type "tuple") := by
  cases h with
  | tup h1 ht _ =>
    cases ht with
    | t => exact .base (.tup (fh _ _ h1))
    | f ob => exact .fTuple (fh _ _ h1)
theorem ty_lst {K : PySem.W.Frag} {F H : Hp} {v : V} {ds : List PyData} (fh : Same F H) (h : Rp F v (.list ds)) : TyX K H v (.type "list") := by
  cases h with
  | lst h1 _ => exact .base (.lst (fh _ _ h1))
section
variable {X : Cx} {Z : Zn} {ρ : En} {a b : Expr} {pos p p1 p2 p3 : Pos} {x : Str} {ds : List PyData} {d : PyData}
/-- isinstance(a, T): both built-in -/
theorem disB (T : Bi X.mg) {n m : String} {y : Str} {r : Bool} (hty : ∀ F H v, Same F H → Rp F v d → TyX X.K H v (.type n)) (ha : PE X a (tD Z ρ d)) (hgy : Gl X y) (hmy : X.mg y = none) (hvy : bootBuiltins y = some (.type m)) (hk : kitB n m = some r) (hny : y ≠ "__name__" := by decide) (hdy : (y == ("__debug__" : Str)) = false := by decide)
    (hg : Gl X "isinstance" := by rfl) (hs : starEach [a, .Name y p1] X.env = (false, eval a X.env) :: starEach [.Name y p1] X.env := by rfl) (hs2 : starEach [.Name y p1] X.env = (false, eval (.Name y p1) X.env) :: starEach [] X.env := by rfl) (hpl : (backTo pos (starEach [.Name y p1] X.env)).any (·.1) = false := by rfl) :
    PE X (.Call (.Name "isinstance" p) [a, .Name y p1] [] pos) (tD Z ρ (.bool r)) :=
  (pe_callB call_isi hg T.isinstance (by decide +kernel) (pa_cons ha (pa_cons (pe_bltn (v := .ty m) hgy hmy hvy rfl hny hdy) pa_nil hs2) hs) (he := hs) (hpl := hpl)).imp fun σ H Q ⟨F0, G, F, s, k⟩ => ⟨F0, G, F, s, fun v F1 H1 g1 k1 =>
    ⟨v, .ty m, .type n, .type m, r, rfl, .ty m, hty F1 H1 v g1.fh k1, kit_ty hk, k _ F1 H1 g1 (.bl r)⟩⟩
/-- isinstance(a, (list, tuple)), a a list or a tuple -/
theorem disLT (T : Bi X.mg) {n : String} {kk : Nat} (hn : n = "list" ∨ n = "tuple") (hty : ∀ F H v, Same F H → Rp F v d → TyX X.K H v (.type n)) (ha : PE X a (tD Z ρ d)) (h1 : Gl X "list" := by rfl) (h2 : Gl X "tuple" := by rfl) (hg : Gl X "isinstance" := by rfl)
    (hs : starEach [a, .Tuple [.Name "list" p1, .Name "tuple" p2] kk p3] X.env = (false, eval a X.env) :: starEach [.Tuple [.Name "list" p1, .Name "tuple" p2] kk p3] X.env := by rfl)
    (hs2 : starEach [.Tuple [.Name "list" p1, .Name "tuple" p2] kk p3] X.env = (false, eval (.Tuple [.Name "list" p1, .Name "tuple" p2] kk p3) X.env) :: starEach [] X.env := by rfl)
    (hs3 : starEach [.Name "list" p1, .Name "tuple" p2] X.env = (false, eval (.Name "list" p1) X.env) :: starEach [.Name "tuple" p2] X.env := by rfl) (hs4 : starEach [.Name "tuple" p2] X.env = (false, eval (.Name "tuple" p2) X.env) :: starEach [] X.env := by rfl)
    (hpl : (backTo pos (starEach [.Tuple [.Name "list" p1, .Name "tuple" p2] kk p3] X.env)).any (·.1) = false := by rfl) :
    PE X (.Call (.Name "isinstance" p) [a, .Tuple [.Name "list" p1, .Name "tuple" p2] kk p3] [] pos) (tD Z ρ (.bool true)) :=
  (pe_callB call_isiT hg T.isinstance (by decide +kernel) (pa_cons ha (pa_cons (pe_tup (pa_cons (pe_bltn (v := .ty "list") h1 T.list (by decide +kernel) rfl) (pa_cons (pe_bltn (v := .ty "tuple") h2 T.tuple (by decide +kernel) rfl) pa_nil hs4) hs3)) pa_nil hs2) hs) (he := hs) (hpl := hpl)).imp
    fun σ H Q ⟨F0, G, F, s, k⟩ => ⟨F0, G, F, s, fun v F1 H1 g1 k1 => ⟨by show 2 ≤ sizeLine; decide, fun q hq => by
      have g2 := Go.new (o := .tup [.ty "list", .ty "tuple"]) g1.fh g1.zk hq
      refine ⟨v, q, [.ty "list", .ty "tuple"], .type n, [.type "list", .type "tuple"], true, rfl, upd_same, .cons (.ty _) (.cons (.ty _) .nil), hty F1 _ v (g1.fh.trans (same_new hq)) k1, ?_, k _ F1 _ (g1.tr g2) (.bl true)⟩
      rcases hn with e | e
      · subst e
        exact kitAny_cons (b := true) (kit_ty (by decide +kernel)) (fun z => nomatch z) (fun _ => rfl)
      · subst e
        exact kitAny_cons (b := false) (kit_ty (by decide +kernel)) (fun _ => kitAny_cons (b := true) (kit_ty (by decide +kernel)) (fun z => nomatch z) (fun _ => rfl)) (fun z => nomatch z)⟩⟩
end
end Kb
end TKi
section TKj
set_option Elab.async false
set_option linter.all false
set_option maxRecDepth 100000
set_option maxHeartbeats 4000000
/-! Kj: set(xs) of texts and of tuples of texts; its members sorted, counted. -/
namespace Kb
open PySem PySem.Spec PyProof.Rows L2

section
variable {P : Program} {w : World} {A : Around} {E : Value → Shared → Prop} {s : Shared}
def frObj (w : World) : Obj := { cls := .type "set", dict := none, data := .set #[] 0 (.fresh 0 0 (!w.params.followText "set-order")) }
/-- how a set grows: J i of the heap behind i things; a step adds one more -/
structure Grow (P : Program) (w : World) (h0 : Heap) (S n : Nat) (J : Nat → Heap → Prop) (Pv : Nat → Value → Prop) (lim : Nat) : Prop where
  fr : ∀ i h h', J i h → (∀ b o, h0.get? b = some o ∨ b = S → h.get? b = some o → h'.get? b = some o) → J i h'
  zero : ∀ h, h.get? S = some (frObj w) → (∀ b o, h0.get? b = some o → h.get? b = some o) → J 0 h
  step : ∀ (A : Around) (E : Value → Shared → Prop) (s : Shared) (i : Nat) (v : Value) (Q : Bool → Shared → Prop), A.units < lim → i < n → Pv i v → J i s.heap → (∀ b o, h0.get? b = some o → s.heap.get? b = some o) →
    (∀ c h' tk, Heap.SameBut S s.heap h' → s.toks ≤ tk → J (i + 1) h' → Q c { s with heap := h', toks := tk }) → wpAny (model P w) A (setAdd S v) Q E s
theorem grow_loop {I : Addr} {fp wr : List Addr} {G : Array GenState → Array GenState → Prop} {n : Nat} {Pv : Nat → Value → Prop} {St : Nat → Shared → Prop} {R : Result → Shared → Prop}
    (W : WalksS P w A.in1 I fp wr G n Pv St) {S : Addr} (hSf : S ∉ fp) {h0 : Heap} {J : Nat → Heap → Prop} {lim : Nat} (K : Grow P w h0 S n J Pv lim) (hu : A.in1.units < lim) (hS0 : h0.get? S = none) (hw0 : ∀ b ∈ wr, h0.get? b = none) :
    ∀ (k i : Nat) (s : Shared), n - i = k → i ≤ n → St i s → (∀ b o, h0.get? b = some o → s.heap.get? b = some o) → J i s.heap →
      (∀ s', Moved (S :: wr) G s s' → J n s'.heap → (∀ b o, h0.get? b = some o → s'.heap.get? b = some o) → R (.ok (.ret .none)) s') → codeAny (model P w) A (.builtin "set.update.loop" ⟨[.ref S, .ref I], []⟩) R s := by
  have hSw : S ∉ wr := fun z => hSf (W.sub _ z)
  have up : ∀ b ∈ wr, b ∈ S :: wr := fun b hb => List.mem_cons_of_mem _ hb
  have old : ∀ {s s' : Shared}, Moved wr G s s' → (∀ b o, h0.get? b = some o → s.heap.get? b = some o) → ∀ b o, h0.get? b = some o → s'.heap.get? b = some o := fun m k b o e =>
    m.heap b o (fun hb => by rw [hw0 b hb] at e; cases e) (k b o e)
  have stay : ∀ {s s' : Shared} {i : Nat}, Moved wr G s s' → J i s.heap → J i s'.heap := fun {s s' i} m j => K.fr i _ _ j fun b o hb e => by
    refine m.heap b o (fun hw => ?_) e
    rcases hb with z | z
    · rw [hw0 b hw] at z
      cases z
    · exact hSw (by rw [← z]; exact hw)
  intro k
  induction k with
  | zero =>
    intro i s hk hi hst hkp hJ hR
    obtain rfl : i = n := by omega
    refine codeAny_builtin PyProof.Rows.F.entry_set_update_loop ?_
    rw [Around.under_plainId PyProof.Rows.F.plain_set_update_loop _]; show wpAny _ A.in1 (pyNext (.ref I) >>= _) _ _ s
    refine wpAny_bind (W.done s _ _ hst fun s' m => ?_); show wpAny _ A.in1 (ret Value.none) _ _ s'
    exact wpAny_pure (hR s' (m.mono up) (stay m hJ) (old m hkp))
  | succ k ih =>
    intro i s hk hi hst hkp hJ hR
    have hlt : i < n := by omega
    refine codeAny_builtin PyProof.Rows.F.entry_set_update_loop ?_
    rw [Around.under_plainId PyProof.Rows.F.plain_set_update_loop _]; show wpAny _ A.in1 (pyNext (.ref I) >>= _) _ _ s
    refine wpAny_bind (W.item i s _ _ hlt hst fun v s' hP hst' m => ?_)
    have kp := old m hkp
    show wpAny _ A.in1 (holding [v] (setAdd S v) >>= _) _ _ s'
    refine wpAny_bind (wpAny_holding (K.step _ _ _ i v _ hu hlt hP (stay m hJ) kp fun c h' tk sb htk hJ' => ?_))
    have kp2 : ∀ b o, h0.get? b = some o → h'.get? b = some o := fun b o e => (sb.2 b (fun z => by rw [z, hS0] at e; cases e)).trans (kp b o e)
    refine wpAny_pure ⟨plainId_quiet PyProof.Rows.F.plain_set_update_loop _, ih (i + 1) _ (by omega) hlt (W.frame _ s' _ _ hst' htk fun b hb o e => ?_) kp2 hJ' fun s2 m2 j2 k2 => ?_⟩
    · exact (sb.2 b (fun z => hSf (by rw [← z]; exact hb))).trans e
    · refine hR s2 (Moved.trans W.gtrans ((m.mono up).then_heap htk fun b o hb e => ?_) m2) j2 k2
      exact (sb.2 b (fun z => hb (by rw [z]; exact List.mem_cons_self))).trans e
theorem none_of {h : Heap} {b : Addr} (hb : h.objs.size ≤ b) : h.get? b = none := by
  cases q : h.get? b with
  | none => rfl
  | some o => exact absurd (Nat.lt_of_lt_of_le (Heap.lt_size q) hb) (Nat.lt_irrefl _)
set_option maxRecDepth 100000 in
/-- set(xs), a list -/
theorem mkset_list {l : Addr} {items : Array Value} {J : Nat → Heap → Prop} {lim : Nat} {Q : Value → Shared → Prop} (hh : A.handled = none) (hl : s.heap.IsList l items) (K : Grow P w s.heap s.heap.objs.size items.size J (fun i v => items[i]? = some v) lim) (hu : A.in1.in1.in1.units < lim)
    (h : ∀ (h' : Heap) (tk : Nat), J items.size h' → (∀ b o, s.heap.get? b = some o → h'.get? b = some o) → Q (.ref s.heap.objs.size) { s with heap := h', toks := tk }) : wpAny (model P w) A (call (.type "set") [.ref l]) Q E s := by
  obtain ⟨c, tl, hmro⟩ := PySem.F.called_set.mro
  have hmade := PySem.F.called_set.made
  have hsub := PySem.F.called_set.sub
  refine wpAny_call (codeAny_of_tree ?_); show wpAny _ _ (callAny (.type "set") _) _ _ _
  refine wpAny_pure ⟨Code.quiet_builtin _ (by decide +kernel), codeAny_builtin PySem.F.entry_type_call ?_⟩
  rw [Around.under_plain (weight_type_call_type "set" [.ref l] []) rfl]
  have h1 := PySem.F.called_set.notType
  have h2 := PySem.F.called_set.canCreate
  have hct := PySem.F.typeCall_set_1 (.ref l)
  repeat (any_goals (first | assumption | wp_step))
  refine codeAny_mono (code_set_led1 (.ref l) (E := E) (Q₁ := fun obj s₁ => obj = .ref s.heap.objs.size ∧ s₁ = { s with heap := s.heap.push (frObj w) }) ⟨rfl, rfl⟩) fun r s₁ hr => ?_
  cases r with
  | error e => exact hr
  | ok fl =>
    cases fl with
    | ret obj =>
      obtain ⟨rfl, rfl⟩ := hr
      have hS : (s.heap.push (frObj w)).get? s.heap.objs.size = some (frObj w) := Heap.get?_push_size _ rfl
      have hT : Shared.TypeIs { s with heap := s.heap.push (frObj w) } (.ref s.heap.objs.size) "set" := ⟨_, hS, rfl⟩
      have hli := PySem.F.called_set.init.lookup
      have hbi := PySem.F.called_set.init.bind (.ref s.heap.objs.size)
      repeat (any_goals (first | assumption | wp_step))
      refine codeAny_mono (codeAny_call_builtin (R := wants (fun r s₂ => r = .none ∧ ∃ h' tk, s₂ = { s with heap := h', toks := tk } ∧ J items.size h' ∧ (∀ b o, s.heap.get? b = some o → h'.get? b = some o)) E) PySem.F.called_set.init.plain PySem.F.entry_set_init (check_set_init_1 hT ?_)) fun r₂ s₂ hr₂ => ?_
      · obtain ⟨⟨ocls, odict, odata, oslots⟩, hol, hcl, nl, hdl⟩ := hl
        simp only at hcl hdl; subst hcl hdl
        have hol' : (s.heap.push (frObj w)).get? l = some { cls := .type "list", dict := odict, data := .seq items nl, slots := oslots } := Heap.get?_push_of_some _ hol
        have hsls := PySem.F.sub_list_set
        have hslf := PySem.F.sub_list_frozenset
        have hne : (Value.type "list" == Value.type "dict") = false := by decide
        have hl1 : (s.heap.push (frObj w)).IsList l items := ⟨_, hol', rfl, nl, rfl⟩
        unfold Builtin.«set.__init__» noKeywords Builtin.Frozenset.updateFrom
        generalize hPI : pyIter = PI; wp_walk; subst hPI
        refine wpAny_pyIter_list hl1 ?_; refine wpAny_bind (wpAny_runValue ?_)
        have hlS : l < s.heap.objs.size := Heap.lt_size hol
        have hh3 : A.in1.in1.in1.handled = none := by simp [hh]
        have hz : (s.heap.push (frObj w)).objs.size = s.heap.objs.size + 1 := Heap.size_push ..
        have hneI : l ≠ (s.heap.push (frObj w)).objs.size := by rw [hz]; exact Nat.ne_of_lt (Nat.lt_succ_of_lt hlS)
        have hSf : s.heap.objs.size ∉ [(s.heap.push (frObj w)).objs.size, l] := by
          rw [hz]; simp only [List.mem_cons, List.mem_singleton, List.not_mem_nil, or_false, not_or]; exact ⟨Nat.ne_of_lt (Nat.lt_succ_self _), Nat.ne_of_gt hlS⟩
        have kp : ∀ b o, s.heap.get? b = some o → ((s.heap.push (frObj w)).push { cls := .type "list_iterator", data := .fields #[.ref l, .int 0 0] }).get? b = some o := fun b o e => Heap.get?_push_of_some _ (Heap.get?_push_of_some _ e)
        refine grow_loop ((Walks.list hh3 _ l hneI items).toS) hSf K hu (none_of (Nat.le_refl _)) (fun b hb => none_of (by rw [List.mem_singleton.mp hb, hz]; exact Nat.le_succ _)) (items.size - 0) 0 _ (by omega) (Nat.zero_le _) ⟨⟨_, Heap.get?_push_size _ rfl, rfl, rfl⟩, (hl1.push _)⟩ kp (K.zero _ (Heap.get?_push_of_some _ hS) kp) fun s' m j k2 => ?_
        obtain ⟨h', g2, d', tk', os'⟩ := s'
        obtain rfl : g2 = s.gens := m.gens
        obtain rfl : d' = s.drawn := m.drawn
        obtain rfl : os' = s.os := m.os
        refine wpAny_pure ?_; show wpAny _ _ (ret Value.none) _ _ _
        exact wpAny_pure ⟨rfl, h', tk', rfl, j, k2⟩
      · cases r₂ with
        | error e => exact hr₂
        | ok fl₂ =>
          cases fl₂ with
          | ret r =>
            obtain ⟨rfl, h', tk, rfl, hJ, hk'⟩ := hr₂
            repeat (any_goals (first | assumption | wp_step))
            exact h _ _ hJ hk'
          | _ => exact hr₂.elim
    | _ => exact hr.elim
set_option maxRecDepth 100000 in
/-- set(xs), a tuple -/
theorem mkset_tup {l : Addr} {items : Array Value} {J : Nat → Heap → Prop} {lim : Nat} {Q : Value → Shared → Prop} (hh : A.handled = none) (hl : s.heap.IsTuple l items) (K : Grow P w s.heap s.heap.objs.size items.size J (fun i v => items[i]? = some v) lim) (hu : A.in1.in1.in1.units < lim)
    (h : ∀ (h' : Heap) (tk : Nat), J items.size h' → (∀ b o, s.heap.get? b = some o → h'.get? b = some o) → Q (.ref s.heap.objs.size) { s with heap := h', toks := tk }) : wpAny (model P w) A (call (.type "set") [.ref l]) Q E s := by
  obtain ⟨c, tl, hmro⟩ := PySem.F.called_set.mro
  have hmade := PySem.F.called_set.made
  have hsub := PySem.F.called_set.sub
  refine wpAny_call (codeAny_of_tree ?_); show wpAny _ _ (callAny (.type "set") _) _ _ _
  refine wpAny_pure ⟨Code.quiet_builtin _ (by decide +kernel), codeAny_builtin PySem.F.entry_type_call ?_⟩
  rw [Around.under_plain (weight_type_call_type "set" [.ref l] []) rfl]
  have h1 := PySem.F.called_set.notType
  have h2 := PySem.F.called_set.canCreate
  have hct := PySem.F.typeCall_set_1 (.ref l)
  repeat (any_goals (first | assumption | wp_step))
  refine codeAny_mono (code_set_led1 (.ref l) (E := E) (Q₁ := fun obj s₁ => obj = .ref s.heap.objs.size ∧ s₁ = { s with heap := s.heap.push (frObj w) }) ⟨rfl, rfl⟩) fun r s₁ hr => ?_
  cases r with
  | error e => exact hr
  | ok fl =>
    cases fl with
    | ret obj =>
      obtain ⟨rfl, rfl⟩ := hr
      have hS : (s.heap.push (frObj w)).get? s.heap.objs.size = some (frObj w) := Heap.get?_push_size _ rfl
      have hT : Shared.TypeIs { s with heap := s.heap.push (frObj w) } (.ref s.heap.objs.size) "set" := ⟨_, hS, rfl⟩
      have hli := PySem.F.called_set.init.lookup
      have hbi := PySem.F.called_set.init.bind (.ref s.heap.objs.size)
      repeat (any_goals (first | assumption | wp_step))
      refine codeAny_mono (codeAny_call_builtin (R := wants (fun r s₂ => r = .none ∧ ∃ h' tk, s₂ = { s with heap := h', toks := tk } ∧ J items.size h' ∧ (∀ b o, s.heap.get? b = some o → h'.get? b = some o)) E) PySem.F.called_set.init.plain PySem.F.entry_set_init (check_set_init_1 hT ?_)) fun r₂ s₂ hr₂ => ?_
      · obtain ⟨⟨ocls, odict, odata, oslots⟩, hol, hcl, nl, hdl⟩ := hl
        simp only at hcl hdl; subst hcl hdl
        have hol' : (s.heap.push (frObj w)).get? l = some { cls := .type "tuple", dict := odict, data := .seq items nl, slots := oslots } := Heap.get?_push_of_some _ hol
        have hsls := PySem.F.sub_tuple_set
        have hslf := PySem.F.sub_tuple_frozenset
        have hne : (Value.type "tuple" == Value.type "dict") = false := by decide
        have hl1 : (s.heap.push (frObj w)).IsTuple l items := ⟨_, hol', rfl, nl, rfl⟩
        unfold Builtin.«set.__init__» noKeywords Builtin.Frozenset.updateFrom
        generalize hPI : pyIter = PI; wp_walk; subst hPI
        refine wpAny_pyIter_tuple hl1 ?_; refine wpAny_bind (wpAny_runValue ?_)
        have hlS : l < s.heap.objs.size := Heap.lt_size hol
        have hh3 : A.in1.in1.in1.handled = none := by simp [hh]
        have hz : (s.heap.push (frObj w)).objs.size = s.heap.objs.size + 1 := Heap.size_push ..
        have hneI : l ≠ (s.heap.push (frObj w)).objs.size := by rw [hz]; exact Nat.ne_of_lt (Nat.lt_succ_of_lt hlS)
        have hSf : s.heap.objs.size ∉ [(s.heap.push (frObj w)).objs.size, l] := by
          rw [hz]; simp only [List.mem_cons, List.mem_singleton, List.not_mem_nil, or_false, not_or]; exact ⟨Nat.ne_of_lt (Nat.lt_succ_self _), Nat.ne_of_gt hlS⟩
        have kp : ∀ b o, s.heap.get? b = some o → ((s.heap.push (frObj w)).push { cls := .type "tuple_iterator", data := .fields #[.ref l, .int 0 0] }).get? b = some o := fun b o e => Heap.get?_push_of_some _ (Heap.get?_push_of_some _ e)
        refine grow_loop ((Walks.tuple hh3 _ l hneI items).toS) hSf K hu (none_of (Nat.le_refl _)) (fun b hb => none_of (by rw [List.mem_singleton.mp hb, hz]; exact Nat.le_succ _)) (items.size - 0) 0 _ (by omega) (Nat.zero_le _) ⟨⟨_, Heap.get?_push_size _ rfl, rfl, rfl⟩, (hl1.push _)⟩ kp (K.zero _ (Heap.get?_push_of_some _ hS) kp) fun s' m j k2 => ?_
        obtain ⟨h', g2, d', tk', os'⟩ := s'
        obtain rfl : g2 = s.gens := m.gens
        obtain rfl : d' = s.drawn := m.drawn
        obtain rfl : os' = s.os := m.os
        refine wpAny_pure ?_; show wpAny _ _ (ret Value.none) _ _ _
        exact wpAny_pure ⟨rfl, h', tk', rfl, j, k2⟩
      · cases r₂ with
        | error e => exact hr₂
        | ok fl₂ =>
          cases fl₂ with
          | ret r =>
            obtain ⟨rfl, h', tk, rfl, hJ, hk'⟩ := hr₂
            repeat (any_goals (first | assumption | wp_step))
            exact h _ _ hJ hk'
          | _ => exact hr₂.elim
    | _ => exact hr.elim
end
end Kb
end TKj
section TKk
set_option Elab.async false
set_option linter.all false
set_option maxRecDepth 100000
set_option maxHeartbeats 4000000
/-! Kk: sorted(xs) of data, empty tuples among them too. -/
namespace Kb
open PySem PySem.Spec PyProof.Rows L2 PySem.W PySem.SeqAt

section
variable {P : Program} {w : World} {A : Around} {E : Value → Shared → Prop} {s : Shared}
theorem mapM_each {M : Model} {α β : Type} {f : α → Sem β} {r : α → β} : ∀ (l : List α) {Q : List β → Shared → Prop}, (∀ v ∈ l, ∀ (Q' : β → Shared → Prop), Q' (r v) s → wpAny M A (f v) Q' E s) → Q (l.map r) s → wpAny M A (l.mapM f) Q E s
  | [], _, _, h => by rw [List.mapM_nil]; exact wpAny_pure h
  | x :: l, Q, hf, h => by
    rw [List.mapM_cons]
    exact wpAny_bind (hf x List.mem_cons_self _ (wpAny_bind (mapM_each l (Q := fun bs s' => wpAny M A (pure (r x :: bs)) Q E s') (fun v hv => hf v (List.mem_cons_of_mem _ hv)) (wpAny_pure h))))
def headIn (h : Heap) : Value → Option Value
  | .ref a => match h.get? a with
    | some o => match o.data with
      | .seq xs _ => xs[0]?
      | _ => none
    | none => none
  | _ => none
theorem headIn_at {h : Heap} {v : Value} {xs : List PyData} {as : List Addr} (r : Reads h v (.tuple xs) as) : ∃ (a : Addr) (o : Obj) (us : Array Value) (n : Nat), v = .ref a ∧ h.get? a = some o ∧ o.cls = .type "tuple" ∧ o.data = .seq us n ∧ us.size = xs.length ∧ headIn h v = us[0]? := by
  cases r with
  | @tuple l o us n _ as₁ h1 h2 h3 h4 =>
    refine ⟨l, o, us, n, rfl, h1, h2, h3, by simpa using ReadsAll.length _ _ _ h4, ?_⟩
    unfold headIn
    simp only [h1, h3]
/-- one key against another: tuples by tuple's own < -/
theorem tupLt_one {xs ys : List PyData} {a b : Value} {as bs : List Addr} {Q : Bool → Shared → Prop} (ra : Reads s.heap a (.tuple xs) as) (rb : Reads s.heap b (.tuple ys) bs) (h : alike (.tuple xs) (.tuple ys) = true) (hu : A.units + min (PyData.depth (.tuple xs)) (PyData.depth (.tuple ys)) < cLine) (hq : Q (dataLt (.tuple xs) (.tuple ys)) s) :
    wpAny (model P w) A (oneLt' true a b) Q E s := by
  have hal : alikeAll xs ys = true := by simpa [alike] using h
  cases ra with
  | @tuple l o vs n _ as₁ h1 h2 h3 h4 =>
    cases rb with
    | @tuple l' o' vs' n' _ bs₁ k1 k2 k3 k4 =>
      have n1 : vs.size = xs.length := by simpa using ReadsAll.length _ _ _ h4
      have n2 : vs'.size = ys.length := by simpa using ReadsAll.length _ _ _ k4
      rw [dataLt_tuple, ← firstLt_toks xs ys hal, ← n1, ← n2] at hq
      rw [oneLt'_eq]
      simp only [if_true]
      obtain ⟨c1, d1, e1, f1⟩ := o
      obtain ⟨c2, d2, e2, f2⟩ := o'
      simp only at h2 h3 k2 k3
      subst h2 h3 k2 k3
      refine wpAny_bind (wpAny_cRoomFor (room_here hu) (wpAny_bind (wpAny_callSpecialIfBound?_slot (T := "tuple") ⟨_, h1, rfl⟩ PySem.F.slot_tuple_lt (call_meets PySem.F.slot_tuple_lt ⟨_, h1, rfl⟩ PySem.F.entry_tuple_lt (PySem.F.args_tuple_lt_2 _ _)
        (tuple_ltAt l l' vs vs' n n' _ _ _ _ (pairEq xs ys) (fun j => dataLt (xs.getD j .none) (ys.getD j .none))) ⟨h1, k1, fun j j1 j2 => ?_, fun j j1 j2 hj => ?_, ?_⟩))))
      · have q := eqAt_alikeAll xs ys A.in1 s vs.toList vs'.toList _ _ h4 k4 hal (room_in hu) j (by simpa using j1) (by simpa using j2); simpa using q
      · have q := rcLt_alikeAll xs ys A.in1 s vs.toList vs'.toList _ _ h4 k4 hal (room_in hu) j (by simpa using j1) (by simpa using j2) hj; simpa using q
      · exact wpAny_truthy_bool hq
/-- which way the keys are compared, an empty tuple among them -/
theorem kind_mixed {vs : List Value} {ds : List PyData} {Q : SortKind → Shared → Prop} (e : EachIs (fun v d => ∃ as, Reads s.heap v d as) vs ds) (ht : ∀ d ∈ ds, ∃ xs, d = PyData.tuple xs) (he : PyData.tuple [] ∈ ds) (h2 : 2 ≤ vs.length)
    (h : Q (if ((vs.map (headIn s.heap))[0]?.bind id).isSome then general' else oneType') s) : wpAny (model P w) A (keyKind' vs.toArray) Q E s := by
  have at_ : ∀ v ∈ vs, ∃ (a : Addr) (o : Obj) (us : Array Value) (n : Nat), v = .ref a ∧ s.heap.get? a = some o ∧ o.cls = .type "tuple" ∧ o.data = .seq us n ∧ headIn s.heap v = us[0]? := fun v hv => by
    obtain ⟨d, hd, as, r⟩ := e.left v hv
    obtain ⟨xs, rfl⟩ := ht d hd
    obtain ⟨a, o, us, n, h1, h2, h3, h4, _, h6⟩ := headIn_at r
    exact ⟨a, o, us, n, h1, h2, h3, h4, h6⟩
  have no : ∃ v ∈ vs, headIn s.heap v = none := by
    have key : ∀ {vs : List Value} {ds : List PyData}, EachIs (fun v d => ∃ as, Reads s.heap v d as) vs ds → PyData.tuple [] ∈ ds → ∃ v ∈ vs, headIn s.heap v = none := by
      intro vs ds e
      induction e with
      | nil => intro z; cases z
      | @cons v d vs ds h1 _ ih =>
        intro z
        rcases List.mem_cons.mp z with z | z
        · subst z
          obtain ⟨as, r⟩ := h1
          obtain ⟨a, o, us, n, _, _, _, _, h5, h6⟩ := headIn_at r
          refine ⟨v, List.mem_cons_self, ?_⟩
          rw [h6]
          simp at h5
          simp [h5]
        · obtain ⟨u, h2, h3⟩ := ih z
          exact ⟨u, List.mem_cons_of_mem _ h2, h3⟩
    exact key e he
  rw [keyKind'_eq, List.mapM_toArray, map_eq_pure_bind]
  refine wpAny_bind (wpAny_bind (mapM_each (r := headIn s.heap) _ (fun v hv Q' hq => ?_) (wpAny_pure ?_)))
  · obtain ⟨a, o, us, n, rfl, h1, h2, h3, h4⟩ := at_ v hv
    rw [kas_first_eq]
    refine wpAny_bind (wpAny_typeOf (T := "tuple") ⟨o, h1, h2⟩ ?_)
    rw [if_neg (by decide)]
    refine wpAny_bind (listItems_at h1 h3 (wpAny_pure ?_))
    rw [← h4]
    exact hq
  · have hno : ¬ ((vs.map (headIn s.heap)).toArray.all fun x => x.isSome) = true := by
      obtain ⟨v, hv, hn⟩ := no
      simp only [List.all_toArray, List.all_map, List.all_eq_true]
      intro z
      have := z v hv
      simp only [Function.comp] at this
      rw [hn] at this
      cases this
    rw [if_neg hno]
    have e0 : (vs.map (headIn s.heap)).toArray[0]? = (vs.map (headIn s.heap))[0]? := by simp
    rw [e0]
    by_cases hs : ((vs.map (headIn s.heap))[0]?.bind id).isSome = true
    · rw [if_pos hs] at h ⊢
      exact wpAny_pure h
    · rw [if_neg hs] at h ⊢
      rw [oneTypeOnly'_eq, List.mapM_toArray, map_eq_pure_bind]
      refine wpAny_bind (wpAny_bind (wpAny_bind (kas_mapM (r := Value.type "tuple") _ (fun v hv Q' hq => ?_) (wpAny_pure ?_))))
      · obtain ⟨a, o, us, n, rfl, h1, h2, _⟩ := at_ v hv
        exact wpAny_typeOf (T := "tuple") ⟨o, h1, h2⟩ hq
      have hall : ((List.map (fun _ => Value.type "tuple") vs).toArray.all fun x => x == Value.type "tuple") = true := by
        simp only [List.all_toArray, List.all_map, List.all_eq_true]
        intro _ _
        rfl
      have h0 : (List.map (fun _ => Value.type "tuple") vs).toArray[0]? = some (Value.type "tuple") := by
        match vs, h2 with
        | v :: r, _ => simp
      rw [h0]
      simp only [hall, if_true]
      exact wpAny_pure (wpAny_pure h)
/-- data that can be sorted -/
def SortOk (ds : List PyData) : Prop := AllAlike ds ∧ (Sortable ds ∨ ∀ d ∈ ds, ∃ xs, d = PyData.tuple xs)
theorem sortsAt {vs : List Value} {ds : List PyData} (e : EachIs (fun v d => ∃ as, Reads s.heap v d as) vs ds) (ok : SortOk ds) (hu : ∀ d, d ∈ ds → A.units + d.depth < cLine) : SortsAt P w A s (dataKind s.heap ds) vs := by
  obtain ⟨hal, hk⟩ := ok
  rcases hk with hk | ht
  · exact SortsAt.data e hal hk hu
  by_cases he : PyData.tuple [] ∈ ds
  · have room : ∀ {d d' : PyData}, d ∈ ds → A.units + min d.depth d'.depth < cLine := fun {d d'} hd => Nat.lt_of_le_of_lt (Nat.add_le_add_left (Nat.min_le_left _ _) _) (hu d hd)
    refine ⟨fun v hv => ?_, if ((vs.map (headIn s.heap))[0]?.bind id).isSome then general' else oneType', ?_, fun h2 E Q hq => kind_mixed e ht he h2 hq⟩
    · obtain ⟨d, hd, as, r⟩ := e.left v hv
      exact ⟨_, dataKind_some hal hd r⟩
    · intro E x y a b Q ha hb hq
      obtain ⟨d, as, hd, ra, rfl⟩ := dataKind_inv ha
      obtain ⟨d', as', hd', rb, rfl⟩ := dataKind_inv hb
      obtain ⟨xs, rfl⟩ := ht d hd
      obtain ⟨ys, rfl⟩ := ht d' hd'
      have hdd := hal _ hd _ hd'
      by_cases hs : ((vs.map (headIn s.heap))[0]?.bind id).isSome = true
      · rw [if_pos hs]
        exact oneLt_alike (f := false) (fun z => by cases z) ra rb hdd (fun z => by cases z) (room hd) hq
      · rw [if_neg hs, keyLt'_oneType]
        exact tupLt_one ra rb hdd (room hd) hq
  · refine SortsAt.data e hal (.inl fun d hd => ?_) hu
    obtain ⟨xs, rfl⟩ := ht d hd
    cases xs with
    | nil => exact absurd hd he
    | cons x r => exact ⟨x, r, rfl⟩
/-- sorted(x): x's things, gathered, are sorted -/
theorem sorted_of {x : Value} {C : List Value → Shared → Prop} {R : Value → PyData → Prop} {Q : Value → Shared → Prop} (hc : ∀ (E' : Value → Shared → Prop) (Q' : List Value → Shared → Prop), (∀ s' out, C out s' → Q' out s') → wpAny (model P w) A.in1 (collect x) Q' E' s)
    (hC : ∀ out s', C out s' → (∀ b o, s.heap.get? b = some o → s'.heap.get? b = some o) ∧ s'.gens = s.gens ∧ s'.os = s.os ∧ out.length ≤ 100000 ∧
      ∃ ds, EachIs R out ds ∧ EachIs (fun v d => ∃ as, Reads s'.heap v d as) out ds ∧ SortOk ds ∧ (∀ d ∈ ds, A.units + 2 + d.depth < cLine) ∧
        ∀ (s2 : Shared) p (rs : List Value) (c : Nat), (∀ b o, s.heap.get? b = some o → s2.heap.get? b = some o) → s2.gens = s.gens → s2.os = s.os → (∃ h1 : Heap, (∀ b o, s.heap.get? b = some o → h1.get? b = some o) ∧ h1.objs.size ≤ p) → s2.heap.get? p = some (seqObj "list" rs.toArray c) → rs.length = out.length →
          EachIs R rs (ds.mergeSort (dataLe false id)) → Q (.ref p) s2) :
    wpAny (model P w) A (call (.builtin "sorted") [x]) Q E s := by
  refine Calls.call_function_entry kind_sorted plain_sorted entry_sorted (args_sorted1 _) ?_
  unfold Builtin.«sorted»
  refine wpAny_bind (m := checkCount "sorted" 1 1 _) (wpAny_pure ?_)
  refine wpAny_bind (hc _ _ fun s1 vs hCv => ?_)
  obtain ⟨k1, g1, o1, hl, ds, eR, eD, ok, hu, fin⟩ := hC vs s1 hCv
  have hlz : vs.length ≤ sizeLine := Nat.le_trans hl (by decide)
  refine wpAny_bind (wpAny_newList ?_ hlz)
  have hoL : (s1.heap.push (seqObj "list" vs.toArray 0)).get? s1.heap.objs.size = some (seqObj "list" vs.toArray 0) := Heap.get?_push_size _ rfl
  have keep : ∀ b o, s1.heap.get? b = some o → (sortingHeap (s1.heap.push (seqObj "list" vs.toArray 0)) s1.heap.objs.size vs).get? b = some o := fun b o q => sortingHeap_old (Nat.ne_of_lt (Heap.lt_size q)) (Heap.get?_push_of_some _ q)
  have er : EachIs (fun v d => ∃ as, Reads (sortingHeap (s1.heap.push (seqObj "list" vs.toArray 0)) s1.heap.objs.size vs) v d as) vs ds := eD.mono fun _ _ ⟨as, r⟩ => ⟨as, PyProof.Rows.Reads.keeps keep r⟩
  refine wpAny_bind (wpAny_holding (wpAny_call_entry slot_list_sort ⟨_, hoL, rfl⟩ entry_list_sort (list_sort_vals (κ := dataKind (sortingHeap (s1.heap.push (seqObj "list" vs.toArray 0)) s1.heap.objs.size vs) ds)
    (s := { s1 with heap := s1.heap.push (seqObj "list" vs.toArray 0) }) hoL (sortsAt (s := { s1 with heap := sortingHeap (s1.heap.push (seqObj "list" vs.toArray 0)) s1.heap.objs.size vs }) er ok (fun d hd => hu d hd)) hlz ⟨_, rfl, ?_⟩) (args_list_sort _)))
  have sv := sortVals_data (R := R) (enc := id) (bs := ds) (h' := sortingHeap (s1.heap.push (seqObj "list" vs.toArray 0)) s1.heap.objs.size vs) false eR er (by rw [List.map_id]; exact ok.1)
  rw [List.map_id] at sv
  obtain ⟨c, hc'⟩ := sortedHeap_at (vs := vs) (out := (sortVals (dataKind (sortingHeap (s1.heap.push (seqObj "list" vs.toArray 0)) s1.heap.objs.size vs) ds) false vs vs).toArray) hoL
  refine wpAny_pure ⟨_, rfl, fin _ s1.heap.objs.size _ c (fun b o q => ?_) g1 o1 ⟨s1.heap, k1, Nat.le_refl _⟩ hc' (by rw [sortVals_length false rfl]) sv⟩
  have q1 := k1 b o q
  have hlt := Heap.lt_size q1
  show (sortedHeap (s1.heap.push (seqObj "list" vs.toArray 0)) s1.heap.objs.size vs _).get? b = some o
  rw [sortedHeap_old (Nat.ne_of_lt hlt) (by rw [size_push']; exact Nat.lt_succ_of_lt hlt)]
  exact Heap.get?_push_of_some _ q1
end
end Kb
end TKk
section TKl
set_option Elab.async false
set_option autoImplicit false
set_option linter.all false
set_option maxRecDepth 100000
set_option maxHeartbeats 4000000
/-! Kl: sets of texts; sorted(xs), sorted(set(xs)), len(set(xs)) over the abstract environment. -/
namespace Kb
open PySem PySem.Spec PyProof.Rows L2 PySem.W PySem.Froz

/-! ### a set of texts, in the heap -/
section
variable {P : Program} {w : World} {A : Around} {E : Value → Shared → Prop} {s : Shared}
structure TxS (P : Program) (w : World) (h : Heap) (a : Addr) (L : List Str) : Prop where
  ex : ∃ D : SD, h.get? a = some (sObj "set" D) ∧ TxOk P w D L ∧ Ris D.2.2.place.toList ∧ (w.params.followText "set-order" = true ∨ D.2.2.led = true)
  nd : L.Nodup
theorem TxS.at {h h' : Heap} {a : Addr} {L : List Str} (x : TxS P w h a L) (k : ∀ o, h.get? a = some o → h'.get? a = some o) : TxS P w h' a L := by
  obtain ⟨D, h1, r⟩ := x.ex
  exact ⟨⟨D, k _ h1, r⟩, x.nd⟩
theorem TxS.zero {h : Heap} {a : Addr} (e : h.get? a = some (frObj w)) : TxS P w h a [] := by
  refine ⟨⟨(#[], 0, .fresh 0 0 (!w.params.followText "set-order")), e, TxOk.nil rfl, List.Pairwise.nil, ?_⟩, List.nodup_nil⟩
  show _ ∨ (!w.params.followText "set-order") = true
  cases w.params.followText "set-order"
  · exact .inr rfl
  · exact .inl rfl
theorem ris_tail {ep : Nat} {es1 : Array (Int × Value)} {t2 : SetTable} {wd : Bool} (r : Ris t2.place.toList) : Ris (tailTx ep es1 t2 wd).2.2.place.toList := by
  unfold tailTx
  split
  · exact relayAll_ris _ _ _
  · exact r
theorem led_tail {ep : Nat} {es1 : Array (Int × Value)} {t2 : SetTable} {wd : Bool} : (tailTx ep es1 t2 wd).2.2.led = t2.led := by
  unfold tailTx
  split
  · exact relayAll_led _ _ _
  · rfl
theorem ris_addTx {h : Int} {v : Value} {D : SD} (r : Ris D.2.2.place.toList) : Ris (addTx h v D).2.2.place.toList := by
  unfold addTx
  refine ris_tail ?_
  split
  · exact layNew_ris _ _ _ _ r
  · exact layNew_ris _ _ _ _ r
theorem led_addTx {h : Int} {v : Value} {D : SD} : (addTx h v D).2.2.led = D.2.2.led := by
  unfold addTx
  rw [led_tail]
  split
  · exact layNew_led _ _ _ _
  · exact layNew_led _ _ _ _
/-- a text that is there already -/
theorem add_there {a : Addr} {D : SD} {l : List Str} {k : Str} {u : Tok} {Q : Bool → Shared → Prop} (ho : s.heap.get? a = some (sObj "set" D)) (F : TxOk P w D l) (hk : k ∈ l) (hb : l.length < scanBound) (h : Q false s) :
    wpAny (model P w) A (setAddHashed a (.str k u) (hashStr w k)) Q E s := by
  obtain ⟨es, ep, t⟩ := D
  have hd : (sObj "set" (es, ep, t)).data = .set es ep t := rfl
  have hf : t.fits es.size = true := F.fit
  have hel : ElemsOf (strKind P w) es.toList := F.el
  have hb0 : es.size < scanBound := by have : es.size = l.length := F.sz; omega
  obtain ⟨e, he, hq⟩ := (F.mem k).mp hk
  have hsome : (List.findIdx? (fun e => (strKind P w).is k e.2) es.toList).isSome = true := by
    cases hr : List.findIdx? (fun e => (strKind P w).is k e.2) es.toList with
    | some j => rfl
    | none =>
      have := List.findIdx?_eq_none_iff.mp hr e he
      rw [hq] at this
      cases this
  unfold setAddHashed setAddHashedIn
  refine wpAny_holding (wpAny_bind (wpAny_setState_of ho hd hf ?_))
  dsimp only
  rw [byScan_of rfl hb0 hel]
  simp only [↓reduceIte]
  unfold setAddByScan
  refine wpAny_bind (wpAny_bind (wpAny_rule (wpAny_bind (wpAny_setScan_of (knd := strKind P w) (k := k) (is_str k u) ho hd hf hel ?_))))
  cases hr : List.findIdx? (fun e => (strKind P w).is k e.2) es.toList with
  | none =>
    rw [hr] at hsome
    cases hsome
  | some j =>
    dsimp only
    exact wpAny_pure (wpAny_pure h)
theorem upd_same_but {h : Heap} {a : Addr} (f : Obj → Obj) : Heap.SameBut a h (h.update a f) := Heap.SameBut.update h a f
/-- set(xs) of texts grows -/
theorem grow_txt {h0 : Heap} {S : Addr} {xs : List Str} {items : Array Value} (hi : StrsAre items.toList xs) (hz : xs.length ≤ 4000) (hS0 : h0.get? S = none) :
    Grow P w h0 S items.size (fun i h => ∃ L, TxS P w h S L ∧ (∀ x, x ∈ L ↔ x ∈ xs.take i) ∧ L.length ≤ i) (fun i v => items[i]? = some v) (cLine + cLine) where
  fr := fun i h h' ⟨L, h1, h2⟩ k => ⟨L, h1.at fun o => k S o (.inr rfl), h2⟩
  zero := fun h e _ => ⟨[], TxS.zero e, fun x => by simp, Nat.le_refl _⟩
  step := fun A E s i v Q hu hin hP ⟨L, hL, hm, hl⟩ hk q => by
    obtain ⟨t, rfl⟩ := SS.strs_at hi i v (by rw [Array.getElem?_toList]; exact hP)
    have hlen : xs.length = items.size := by rw [← StrsAre.len_eq hi, Array.length_toList]
    have hxi : xs[i]? = some (xs.getD i Str.empty) := by
      rw [List.getD_eq_getElem?_getD, List.getElem?_eq_getElem (by omega)]
      rfl
    have nx : ∀ y, y ∈ xs.take (i + 1) ↔ y = xs.getD i Str.empty ∨ y ∈ xs.take i := fun y => by
      rw [List.take_add_one, hxi]
      simp [or_comm]
    generalize hx : xs.getD i Str.empty = x at *
    obtain ⟨D, h1, h2, h3, h4⟩ := hL.ex
    unfold setAdd
    refine wpAny_holding (wpAny_bind ((strKind P w).pyHash (k := x) (is_str x t) ?_))
    have lb : L.length + 1 < scanBound := by unfold scanBound; omega
    by_cases c : x ∈ L
    · refine add_there (s := { s with toks := s.toks + 1 }) h1 h2 c (by omega) (q false s.heap (s.toks + 1) (Heap.SameBut.refl S s.heap) (Nat.le_succ _) ⟨L, hL, fun y => ?_, by omega⟩)
      rw [nx, ← hm y]
      exact ⟨.inr, fun z => z.elim (fun z => z ▸ c) id⟩
    · refine add_x (s := { s with toks := s.toks + 1 }) h1 h2 c lb (q true _ (s.toks + 1) (upd_same_but _) (Nat.le_succ _) ⟨x :: L, ⟨⟨_, get_upd _ h1 rfl, add_ok t h2, ris_addTx h3, ?_⟩, List.nodup_cons.mpr ⟨c, hL.nd⟩⟩, fun y => ?_, by rw [List.length_cons]; omega⟩)
      · exact h4.imp id fun z => led_addTx.trans z
      · rw [nx, List.mem_cons, hm y]
end
end Kb
end TKl
section TKm
set_option Elab.async false
set_option autoImplicit false
set_option linter.all false
set_option maxRecDepth 100000
set_option maxHeartbeats 4000000
/-! Km: a set of tuples of texts: its table is searched, it grows. -/
namespace Kb
open PySem PySem.Spec PyProof.Rows L2 PySem.W

abbrev lotH (P : Program) (w : World) (k : List Str) : Int := tupleKeyHash (strKind P w) k
abbrev IsLot (P : Program) (w : World) (h : Heap) (k : List Str) (a : Addr) : Prop := IsTupleKey (strKind P w) h k a
/-- the step number c of the way of a hash -/
abbrev stp (m : Nat) (h : Int) (c : Nat) : SetTable.Probe := nth m (runAt m (SetTable.bits h % (m + 1)) (SetTable.bits h)) c
section
variable {P : Program} {w : World} {A : Around} {E : Value → Shared → Prop} {s : Shared}
theorem lot_items {k : List Str} {vs : List Value} (h : ItemsAre (strKind P w) k vs) : ∀ v ∈ vs, ∃ x t, v = Value.str x t := by
  induction h with
  | nil => intro v hv; cases hv
  | @cons k0 v' ks us h1 _ ih =>
    intro v hv
    rcases List.mem_cons.mp hv with e | hv
    · cases v' <;> first | exact ⟨_, _, e⟩ | exact absurd h1 (by simp [PySem.strKind, Value.isStrOf])
    · exact ih v hv
theorem noClass_lot {k : List Str} {b : Addr} {Q : Bool → Shared → Prop} (hk : IsLot P w s.heap k b) (h : Q false s) : wpAny (model P w) A (ofAClassStatement 8 (.ref b)) Q E s := by
  have hT := hk.typeIs
  obtain ⟨o, items, n, ho, _, hd, hi⟩ := hk
  unfold ofAClassStatement; refine wpAny_bind (wpAny_typeOf hT ?_); dsimp only
  have e : (("tuple" : String) == "tuple") = true := by decide
  simp only [e, if_true, Bool.not_true, Bool.false_eq_true, if_false]
  try refine wpAny_bind (wpAny_pure ?_)
  try simp only [Bool.not_true, Bool.false_eq_true, if_false]
  show wpAny _ _ (seqItems? (.ref b) >>= _) _ _ s; refine wpAny_bind (wpAny_seqItems ho hd ?_); dsimp only
  refine wpAny_bind ?_; show wpAny _ _ (forIn items _ _) _ _ s; rw [← Array.forIn_toList]
  refine wpAny_forIn_list _ (fun rest r s' => r.1 = none ∧ s' = s ∧ ∀ v ∈ rest, ∃ x t, v = Value.str x t) _ ?_ ?_ _ _ ⟨rfl, rfl, lot_items hi⟩
  · rintro v rest r s' ⟨hr, rfl, hall⟩
    obtain ⟨x, t, rfl⟩ := hall v List.mem_cons_self
    rw [show ofAClassStatement 7 (Value.str x t) = pure false from rfl]
    refine wpAny_bind (wpAny_pure ?_); simp only [Bool.false_eq_true, if_false]
    exact wpAny_pure ⟨rfl, rfl, fun u hu' => hall u (List.mem_cons_of_mem _ hu')⟩
  · rintro ⟨r1, r2⟩ s' ⟨hr, rfl, _⟩; simp only at hr; subst hr
    exact wpAny_pure h
/-- whether its hash is of its value: whichever -/
theorem hashBy_lot {k : List Str} {b : Addr} {Q : Bool → Shared → Prop} (hk : IsLot P w s.heap k b) (h : ∀ c, Q c s) : wpAny (model P w) A (hashByValue 8 (.ref b)) Q E s := by
  have hT := hk.typeIs
  obtain ⟨o, items, n, ho, _, hd, hi⟩ := hk
  unfold hashByValue; refine wpAny_bind (wpAny_specialOf hT PySem.F.slot_tuple_hash.lookup ?_)
  show wpAny _ _ (seqItems? (.ref b) >>= _) _ _ s; refine wpAny_bind (wpAny_seqItems ho hd ?_)
  refine wpAny_bind ?_; show wpAny _ _ (forIn items _ _) _ _ s; rw [← Array.forIn_toList]
  refine wpAny_forIn_list _ (fun rest r s' => s' = s ∧ ∀ v ∈ rest, ∃ x t, v = Value.str x t) _ ?_ ?_ _ _ ⟨rfl, lot_items hi⟩
  · rintro v rest r s' ⟨rfl, hall⟩
    obtain ⟨x, t, rfl⟩ := hall v List.mem_cons_self
    rw [show hashByValue 7 (Value.str x t) = pure false from rfl]
    refine wpAny_bind (wpAny_pure ?_); simp only [Bool.not_false, if_true]
    exact wpAny_pure (by first | exact wpAny_pure (h false) | exact h false)
  · rintro ⟨r1, r2⟩ s' ⟨rfl, _⟩
    cases r1 with
    | none => exact wpAny_pure (h true)
    | some c => exact wpAny_pure (h c)
/-- a search among them would show nothing -/
theorem unseen_lot {k : List Str} {b : Addr} {Q : Bool → Shared → Prop} (hk : IsLot P w s.heap k b) {ys : List Value} (hy : ∀ y ∈ ys, ∃ k' c, y = Value.ref c ∧ IsLot P w s.heap k' c) (h : Q false s) : wpAny (model P w) A (searchCouldBeSeen (.ref b) ys) Q E s := by
  unfold searchCouldBeSeen; refine wpAny_bind ?_
  refine wpAny_forIn_list _ (fun rest r s' => r.1 = none ∧ s' = s ∧ ∀ y ∈ rest, ∃ k' c, y = Value.ref c ∧ IsLot P w s.heap k' c) _ ?_ ?_ _ _ ⟨rfl, rfl, hy⟩
  · rintro v rest r s' ⟨hr, rfl, hall⟩
    obtain ⟨k', c, rfl, hc⟩ := hall v List.mem_cons_self
    have more : ∀ y ∈ rest, ∃ k' c, y = Value.ref c ∧ IsLot P w s'.heap k' c := fun u hu' => hall u (List.mem_cons_of_mem _ hu')
    dsimp only
    by_cases hv : (b == c || (carriedByValue (.ref b) && carriedByValue (.ref c))) = true
    · exact wp_if_pos hv (wpAny_pure ⟨rfl, rfl, more⟩)
    · refine wp_if_neg hv (wpAny_bind (wpAny_eqIsQuiet_tuple hk ?_)); simp only [Bool.not_true, Bool.false_eq_true, if_false]
      refine wpAny_bind (wpAny_eqIsQuiet_tuple hc ?_); simp only [Bool.not_true, Bool.false_eq_true, if_false]
      refine wpAny_bind (noClass_lot hk ?_); simp only [Bool.false_eq_true, if_false]
      refine wpAny_bind (noClass_lot hc ?_); simp only [Bool.false_eq_true, if_false]
      exact wpAny_pure ⟨rfl, rfl, more⟩
  · rintro ⟨r1, r2⟩ s' ⟨hr, rfl, _⟩; simp only at hr; subst hr
    exact wpAny_pure h

def rowsL (P : Program) (w : World) (L : List (Addr × List Str)) : List (Int × Value) := L.map fun p => (lotH P w p.2, Value.ref p.1)
/-- the set's own part -/
structure LotT (P : Program) (w : World) (h : Heap) (a : Addr) (L : List (Addr × List Str)) (es : Array (Int × Value)) (ep : Nat) (t : SetTable) : Prop where
  ob : ∃ o, h.get? a = some o ∧ o.ExactSet ∧ o.data = .set es ep t
  rows : es.toList = rowsL P w L
  tab : TabOk t (L.map fun p => lotH P w p.2)
  nd : (L.map (·.2)).Nodup
  led : w.params.followText "set-order" = true ∨ t.led = true
  room : L.length * 5 < t.mask * 3
  few : L.length < 64
variable {a : Addr} {L : List (Addr × List Str)} {es : Array (Int × Value)} {ep : Nat} {t : SetTable}
theorem rows_len {es : Array (Int × Value)} {L : List (Addr × List Str)} (h : es.toList = rowsL P w L) : es.size = L.length := by
  have q := congrArg List.length h
  unfold rowsL at q
  rwa [Array.length_toList, List.length_map] at q
theorem LotT.at {h h' : Heap} (R : LotT P w h a L es ep t) (k : ∀ o, h.get? a = some o → h'.get? a = some o) : LotT P w h' a L es ep t := by
  obtain ⟨o, ho, r⟩ := R.ob
  exact ⟨⟨o, k o ho, r⟩, R.rows, R.tab, R.nd, R.led, R.room, R.few⟩
theorem LotT.fits (R : LotT P w s.heap a L es ep t) : t.fits es.size = true := by
  have h1 := R.tab.sz
  have h2 := rows_len R.rows
  have h3 := R.room
  rw [List.length_map] at h1
  unfold SetTable.fits SetTable.fill
  rw [R.tab.dm, Bool.and_eq_true, beq_iff_eq, decide_eq_true_eq]
  refine ⟨by omega, ?_⟩
  show t.place.size + 0 ≤ t.mask
  omega
theorem LotT.entry (R : LotT P w s.heap a L es ep t) {i : Nat} {p : Addr × List Str} (h : L[i]? = some p) : es[i]? = some (lotH P w p.2, Value.ref p.1) := by
  rw [← Array.getElem?_toList, R.rows]
  unfold rowsL
  rw [List.getElem?_map, h]
  rfl
theorem nth_dm (m : Nat) : ∀ (n : Nat) (p : SetTable.Probe), p.dummy = none → (nth m p n).dummy = none
  | 0, _, h => h
  | n + 1, p, h => nth_dm m n (adv m p) (by unfold adv; split <;> exact h)
/-- the search, from the step c of the way on; K is the first free step -/
theorem lot_search (R : LotT P w s.heap a L es ep t) (tup : ∀ p ∈ L, IsLot P w s.heap p.2 p.1) {x : Addr} {k : List Str} (hx : IsLot P w s.heap k x) (hu : A.units < cLine) {K : Nat} (hKf : K < 10 * SetTable.turns t.mask)
    (hK : (stp t.mask (lotH P w k) K).j ∉ t.place.toList) (hKb : ∀ c, c < K → (stp t.mask (lotH P w k) c).j ∈ t.place.toList) {Q : SetFound → Shared → Prop}
    (hin : k ∈ L.map (·.2) → Q (.there none) s) (hout : k ∉ L.map (·.2) → Q (.free (stp t.mask (lotH P w k) K).j false) s) :
    ∀ (f c : Nat) (stand : Option SetTable.Probe), stand.getD (t.probeStart (lotH P w k)) = stp t.mask (lotH P w k) c → c ≤ K → K - c < f →
      (∀ (i : Nat) p, L[i]? = some p → p.2 = k → ∃ c', c ≤ c' ∧ c' < K ∧ t.place.toList[i]? = some (stp t.mask (lotH P w k) c').j) → wpAny (model P w) A (setSearchFrom a (.ref x) (lotH P w k) true f stand) Q E s
  | 0, c, stand, _, _, hf, _ => absurd hf (Nat.not_lt_zero _)
  | f + 1, c, stand, hst, hc, hf, hre => by
    obtain ⟨o, ho, hex, hd⟩ := R.ob
    have gw : ¬ t.gaveWay = true := by
      unfold SetTable.gaveWay
      rw [mask_odd R.tab.mok]
      decide
    rw [setSearchFrom_succ]
    refine wpAny_bind (wpAny_setState_of ho hd R.fits ?_); dsimp only
    refine wp_if_neg gw ?_
    try refine wpAny_bind (wpAny_pure ?_)
    have on : ∀ q, nth t.mask (stp t.mask (lotH P w k) c) q = stp t.mask (lotH P w k) (c + q) := fun q => (nth_add t.mask c _ q).symm
    have cK : c + (K - c) = K := by omega
    have spec := go_spec t R.tab.ris R.tab.dm (fun i => (es[i]?.map (·.1)).getD 0) (lotH P w k) (10 * SetTable.turns t.mask) (K - c) (stp t.mask (lotH P w k) c) (nth_dm _ c _ rfl) (by omega)
      (fun q hq => by rw [on]; exact hKb (c + q) (by omega)) (by rw [on, cK]; exact hK)
    have hashAt : ∀ (i : Nat) p, L[i]? = some p → (es[i]?.map (·.1)).getD 0 = lotH P w p.2 := fun i p hp => by rw [R.entry hp]; rfl
    rcases spec with ⟨q, i, hq, hi, hh, hno, hpr⟩ | ⟨hno, hpr⟩
    · rw [on] at hi hpr
      rw [on] at hpr
      have hpr' : t.probe (fun i => (es[i]?.map (·.1)).getD 0) (lotH P w k) (stand.getD (t.probeStart (lotH P w k))) = some (.candidate (stp t.mask (lotH P w k) (c + q)).j i (stp t.mask (lotH P w k) (c + (q + 1)))) := by
        rw [hst]
        exact hpr
      rw [hpr']; dsimp only
      have hil : i < L.length := by
        have h1 : i < t.place.toList.length := (List.getElem?_eq_some_iff.mp hi).1
        have h2 := R.tab.sz
        rw [List.length_map] at h2
        rw [Array.length_toList] at h1
        omega
      have hp : L[i]? = some L[i] := List.getElem?_eq_getElem hil
      generalize L[i] = p at hp
      have hmem : p ∈ L := List.mem_of_getElem? hp
      have rest : wpAny (model P w) A (searchRest a (.ref x) (lotH P w k) true f es t (stp t.mask (lotH P w k) (c + q)).j i (stp t.mask (lotH P w k) (c + (q + 1)))) Q E s := by
        unfold searchRest
        rw [R.entry hp]; dsimp only
        refine wpAny_bind (wpAny_holding (wpAny_eqBool_tuple hu (tup p hmem) hx (wpAny_bind (wpAny_setState_of ho hd R.fits ?_)))); dsimp only
        by_cases hkk : p.2 = k
        · exact wp_if_pos (by simp [hkk]) (wpAny_pure (hin (List.mem_map.mpr ⟨p, hmem, hkk⟩)))
        · refine wp_if_neg (by simp [hkk]) ?_
          try refine wpAny_bind (wpAny_pure ?_)
          rw [sameMem]; dsimp only
          have hsl : t.slot (stp t.mask (lotH P w k) (c + q)).j = .live i := slot_live R.tab.ris hi
          simp only [if_true, hsl, R.entry hp]
          refine wpAny_bind (wpAny_isSame_ref_self (wpAny_bind (wpAny_pure ?_)))
          simp only [if_true]
          refine wp_if_neg (by simp [hkk]) ?_
          refine lot_search R tup hx hu hKf hK hKb hin hout f (c + (q + 1)) _ rfl (by omega) (by omega) fun i0 p0 h0 hk0 => ?_
          obtain ⟨c', a1, a2, a3⟩ := hre i0 p0 h0 hk0
          suffices gt : ¬ c' ≤ c + q from ⟨c', by omega, a2, a3⟩
          intro z
          rcases Nat.lt_or_eq_of_le z with z | z
          · exact hno (c' - c) i0 (by omega) (by rw [on, show c + (c' - c) = c' by omega]; exact a3) ((hashAt i0 p0 h0).trans (congrArg (lotH P w) hk0))
          · rw [z] at a3
            have s0 := slot_live R.tab.ris a3
            rw [hsl] at s0
            injection s0 with s0
            rw [← s0, hp] at h0
            exact hkk ((congrArg Prod.snd (Option.some.inj h0)).trans hk0)
      by_cases hl : t.led = true
      · refine wp_if_neg (by simp [hl]) ?_
        try refine wpAny_bind (wpAny_pure ?_)
        exact rest
      · refine wp_if_pos (by simp [hl]) (wpAny_bind (unseen_lot hx (fun y hy => ?_) (wp_if_neg (by decide) ?_)))
        · obtain ⟨e, he, ee⟩ := List.mem_map.mp hy
          have he1 : e ∈ es ∧ e.1 = lotH P w k := by simpa using he
          have he2 : e ∈ es.toList := by simpa using he1.1
          rw [R.rows] at he2
          obtain ⟨p2, hp2, e2⟩ := List.mem_map.mp he2
          exact ⟨p2.2, p2.1, by rw [← ee, ← e2], tup p2 hp2⟩
        · try refine wpAny_bind (wpAny_pure ?_)
          exact rest
    · rw [on, cK] at hpr
      have hpr' : t.probe (fun i => (es[i]?.map (·.1)).getD 0) (lotH P w k) (stand.getD (t.probeStart (lotH P w k))) = some (.empty (stp t.mask (lotH P w k) K).j none) := by
        rw [hst]
        exact hpr
      rw [hpr']; dsimp only
      refine wpAny_pure (hout fun hm => ?_)
      obtain ⟨p0, h0, hk0⟩ := List.mem_map.mp hm
      obtain ⟨i0, hi0, e0⟩ := List.getElem_of_mem h0
      have h00 : L[i0]? = some p0 := by rw [List.getElem?_eq_getElem hi0, e0]
      obtain ⟨c', a1, a2, a3⟩ := hre i0 p0 h00 hk0
      exact hno (c' - c) i0 (by omega) (by rw [on, show c + (c' - c) = c' by omega]; exact a3) ((hashAt i0 p0 h00).trans (congrArg (lotH P w) hk0))
end
end Kb
end TKm
section TKn
set_option Elab.async false
set_option autoImplicit false
set_option linter.all false
set_option maxRecDepth 100000
set_option maxHeartbeats 4000000
/-! Kn: a set of tuples of texts grows. -/
namespace Kb
open PySem PySem.Spec PyProof.Rows L2 PySem.W
theorem put_perm' {α : Type} (L : List α) (p : Nat) (x : α) : (L.take p ++ x :: L.drop p).Perm (x :: L) := by
  have h : (L.take p ++ x :: L.drop p).Perm (x :: (L.take p ++ L.drop p)) := List.perm_middle
  rwa [List.take_append_drop] at h
theorem range_at {α : Type} (L : List α) : (List.range L.length).filterMap (fun i => L[i]?) = L := by
  induction L with
  | nil => rfl
  | cons x r ih =>
    rw [List.length_cons, List.range_succ_eq_map, List.filterMap_cons, List.getElem?_cons_zero, List.filterMap_map]
    exact congrArg (List.cons x) ih
section
variable {P : Program} {w : World} {A : Around} {E : Value → Shared → Prop} {s : Shared} {a : Addr} {L : List (Addr × List Str)} {es : Array (Int × Value)} {ep : Nat} {t : SetTable}
theorem rows_order {order : Array Nat} (hr : es.toList = rowsL P w L) (hp : order.toList.Perm (List.range L.length)) :
    ∃ L2, (order.filterMap (es[·]?)).toList = rowsL P w L2 ∧ L2.Perm L ∧ (L2.map fun p => lotH P w p.2) = order.toList.map fun i => (es.map (·.1)).getD i 0 := by
  have ent : ∀ i : Nat, es[i]? = (L[i]?).map fun p => (lotH P w p.2, Value.ref p.1) := fun i => by
    rw [← Array.getElem?_toList, hr]
    exact List.getElem?_map
  refine ⟨order.toList.filterMap fun i => L[i]?, ?_, ?_, ?_⟩
  · rw [Array.toList_filterMap]
    unfold rowsL
    rw [List.map_filterMap]
    exact congrArg (fun f => List.filterMap f order.toList) (funext ent)
  · have h := hp.filterMap fun i => L[i]?
    rwa [range_at] at h
  · have key : ∀ l : List Nat, (∀ i ∈ l, i < L.length) → (l.filterMap fun i => L[i]?).map (fun p => lotH P w p.2) = l.map fun i => (es.map (·.1)).getD i 0 := by
      intro l
      induction l with
      | nil => intro _; rfl
      | cons i l ih =>
        intro hl
        have hi := hl i List.mem_cons_self
        rw [List.filterMap_cons_some (List.getElem?_eq_getElem hi), List.map_cons, List.map_cons, ih fun j hj => hl j (List.mem_cons_of_mem _ hj)]
        have e : (es.map (·.1))[i]? = some (lotH P w (L[i]).2) := by rw [Array.getElem?_map, ent i, List.getElem?_eq_getElem hi]; rfl
        rw [Array.getD_eq_getD_getElem?, e]
        rfl
    exact key _ fun i hi => List.mem_range.mp (hp.mem_iff.mp hi)
theorem lot_relay {o : Obj} (ho : s.heap.get? a = some o) (hex : o.ExactSet) (hd : o.data = .set es ep t) (hrows : es.toList = rowsL P w L) (hsz : t.place.size = es.size) (hdm : t.dummies = #[]) (hfl : es.size ≤ t.mask) (nd : (L.map (·.2)).Nodup)
    (ld : w.params.followText "set-order" = true ∨ t.led = true) (few : L.length < 64) {wanted M : Nat} (hw : SetTable.sizeAbove wanted - 1 = M) (hM : MaskOk M) (hw2 : SetTable.sizeAbove wanted ≤ 128) (hn : L.length * 5 < M * 3) {Q : Unit → Shared → Prop}
    (hQ : ∀ h' L' es' ep' t', Heap.SameBut a s.heap h' → LotT P w h' a L' es' ep' t' → L'.Perm L → Q () { s with heap := h' }) : wpAny (model P w) A (setRelay a wanted) Q E s := by
  have hsl := rows_len hrows
  have hfits : t.fits es.size = true := by
    unfold SetTable.fits SetTable.fill
    rw [hdm, Bool.and_eq_true, beq_iff_eq, decide_eq_true_eq]
    exact ⟨hsz, by show t.place.size + 0 ≤ t.mask; omega⟩
  obtain ⟨t', order, e, hp, T, em, el, _, _⟩ := relaid_ok t (hs := es.map (·.1)) (wanted := wanted) hw hM (by rw [Array.size_map, hsl]; omega)
  rw [Array.size_map, hsl] at hp
  obtain ⟨L2, r1, r2, r3⟩ := rows_order hrows hp
  rw [← r3] at T
  have hs2 : (order.filterMap (es[·]?)).size = es.size := by rw [rows_len r1, r2.length_eq, hsl]
  rw [setRelay_eq]
  refine wpAny_bind (wpAny_setState_of ho hd hfits ?_); dsimp only
  refine wp_if_neg (by rw [sizeLine_eq]; omega) ?_
  try refine wpAny_bind (wpAny_pure ?_)
  rw [e]; dsimp only
  refine wpAny_bind (wp_if_neg (by rw [hs2]; simp) ?_)
  try refine wpAny_bind (wpAny_pure ?_)
  refine wpAny_pure ?_; dsimp only
  refine wpAny_storeSet_of ho hd ?_ (by rw [hs2, hsl, sizeLine_eq]; omega)
  refine hQ _ L2 _ (ep + 1) t' (Heap.SameBut.update ..) ⟨⟨_, store_at ho hd, ⟨hex.1, hex.2.1, hex.2.2⟩, rfl⟩, r1, T, (r2.map (·.2)).nodup_iff.mpr nd, by rw [el]; exact ld, by rw [r2.length_eq, em]; exact hn, by rw [r2.length_eq]; exact few⟩ r2
/-- one more -/
theorem lot_add (R : LotT P w s.heap a L es ep t) (tup : ∀ p ∈ L, IsLot P w s.heap p.2 p.1) {x : Addr} {k : List Str} (hx : IsLot P w s.heap k x) (hu : A.units < cLine) (hfew : L.length + 1 < 64) {Q : Bool → Shared → Prop}
    (hQ : ∀ b h' L' es' ep' t', Heap.SameBut a s.heap h' → LotT P w h' a L' es' ep' t' → (k ∈ L.map (·.2) → L' = L) → (k ∉ L.map (·.2) → L'.Perm ((x, k) :: L)) → Q b { s with heap := h' }) : wpAny (model P w) A (setAddHashed a (.ref x) (lotH P w k)) Q E s := by
  obtain ⟨o, ho, hex, hd⟩ := R.ob
  have hsl := rows_len R.rows
  have hroom := R.room
  obtain ⟨K, hKf, hK, hKb⟩ := R.tab.first (by rw [List.length_map]; omega) (lotH P w k)
  have hbig : K < 100000 := by
    have : 10 * SetTable.turns t.mask ≤ 1420 := by
      unfold SetTable.turns
      rcases R.tab.mok with e | e | e <;> omega
    omega
  unfold setAddHashed; refine wpAny_holding ?_
  rw [show (100000 : Nat) = 99999 + 1 from rfl, setAddHashedIn_succ]
  refine wpAny_bind (wpAny_setState_of ho hd R.fits ?_); dsimp only
  refine wp_if_neg (by simp [byScan, Value.scannable]) ?_
  try refine wpAny_bind (wpAny_pure ?_)
  unfold setSearch
  refine wpAny_bind (lot_search R tup hx hu hKf hK hKb (fun hm => ?_) (fun hm => ?_) 100000 0 none rfl (Nat.zero_le _) (by omega) fun i p hp hk => ?_)
  · dsimp only
    exact wpAny_pure (hQ false s.heap L es ep t (Heap.SameBut.refl a s.heap) R (fun _ => rfl) fun z => absurd hm z)
  · dsimp only
    refine wpAny_bind (wpAny_setState_of ho hd R.fits ?_); dsimp only
    obtain ⟨q1, q2, q3, q4, q5, q6, q7, q8, q9⟩ := R.tab.put hK hKb
    generalize hpt : t.put (stp t.mask (lotH P w k) K).j = pt at q1 q3 q4 q5 q6 q7 q8 q9 ⊢
    obtain ⟨t1, p⟩ := pt
    dsimp only at q1 q3 q4 q5 q6 q7 q8 q9 ⊢
    subst q1
    have hin : (SetTable.insertAt es (SetTable.below t.place (stp t.mask (lotH P w k) K).j) (lotH P w k, Value.ref x)).toList = rowsL P w (L.take (SetTable.below t.place (stp t.mask (lotH P w k) K).j) ++ (x, k) :: L.drop (SetTable.below t.place (stp t.mask (lotH P w k) K).j)) := by
      rw [SetTable.toList_insertAt, R.rows]
      unfold rowsL
      rw [List.map_append, List.map_cons, List.map_take, List.map_drop]
    generalize hpp : SetTable.below t.place (stp t.mask (lotH P w k) K).j = p at q2 q3 hin ⊢
    have pm := put_perm' L p (x, k)
    have hlen : (L.take p ++ (x, k) :: L.drop p).length = L.length + 1 := pm.length_eq
    have hhs : (L.take p ++ (x, k) :: L.drop p).map (fun p => lotH P w p.2) = (L.map fun p => lotH P w p.2).take p ++ lotH P w k :: (L.map fun p => lotH P w p.2).drop p := by
      rw [List.map_append, List.map_cons, List.map_take, List.map_drop]
    rw [← hhs] at q3
    have nd1 : ((L.take p ++ (x, k) :: L.drop p).map (·.2)).Nodup := by
      refine (pm.map (·.2)).nodup_iff.mpr ?_
      rw [List.map_cons]
      exact List.nodup_cons.mpr ⟨hm, R.nd⟩
    have hes := (rows_len hin).trans hlen
    generalize SetTable.insertAt es p (lotH P w k, Value.ref x) = es1 at hin hes ⊢
    generalize L.take p ++ (x, k) :: L.drop p = L1 at pm hlen q3 nd1 hin
    have go : ∀ t2 : SetTable, t2.place = t1.place → t2.dummies = t1.dummies → t2.mask = t1.mask → t2.led = t1.led → TabOk t2 (L1.map fun p => lotH P w p.2) → t2.tooFull = t1.tooFull →
        wpAny (model P w) A (do
          storeSet a es1 t2
          if (!false && t2.tooFull) = true then setRelay a (SetTable.grown (es.size + 1))
          return true) Q E s := fun t2 e1 e2 e3 e4 T2 e5 => by
      refine wpAny_bind (wpAny_storeSet_of ho hd ?_ (by rw [hes, sizeLine_eq]; omega))
      have sb : Heap.SameBut a s.heap (s.heap.update a (Obj.putSet es1 t2)) := Heap.SameBut.update ..
      have ho1 := store_at (es' := es1) (t' := t2) ho hd
      generalize s.heap.update a (Obj.putSet es1 t2) = h1 at sb ho1 ⊢
      have ld1 : w.params.followText "set-order" = true ∨ t2.led = true := by rw [e4, q5]; exact R.led
      by_cases hf : t1.tooFull = true
      · first
          | (refine wpAny_bind ?_; refine wp_if_pos (by simp [e5, hf]) ?_)
          | (refine wp_if_pos (by simp [e5, hf]) ?_; refine wpAny_bind ?_)
        have hfull : (L.length + 1) * 5 ≥ t1.mask * 3 := by
          have h := hf
          unfold SetTable.tooFull at h
          rwa [decide_eq_true_eq, q9, List.length_map] at h
        have hsz1 : t2.place.size = es1.size := by rw [T2.sz, List.length_map, hlen, hes]
        rw [hsl]
        have cs : (t.mask = 7 ∧ L.length = 4) ∨ (t.mask = 31 ∧ L.length = 18) := by
          rcases R.tab.mok with e | e | e
          · left; rw [q4, e] at hfull; rw [e] at hroom; exact ⟨e, by omega⟩
          · right; rw [q4, e] at hfull; rw [e] at hroom; exact ⟨e, by omega⟩
          · exfalso; rw [q4, e] at hfull; omega
        have lay : ∀ M, SetTable.sizeAbove (SetTable.grown (L.length + 1)) - 1 = M → MaskOk M → SetTable.sizeAbove (SetTable.grown (L.length + 1)) ≤ 128 → (L.length + 1) * 5 < M * 3 →
            wpAny (model P w) A (setRelay a (SetTable.grown (L.length + 1))) (fun _ s' => wpAny (model P w) A (pure true) Q E s') E { s with heap := h1 } := fun M a1 a2 a3 a4 =>
          lot_relay (s := { s with heap := h1 }) ho1 ⟨hex.1, hex.2.1, hex.2.2⟩ rfl hin hsz1 T2.dm (by rw [hes, e3, q4]; rcases cs with ⟨e, e2⟩ | ⟨e, e2⟩ <;> omega) nd1 ld1 (by rw [hlen]; exact hfew) a1 a2 a3 (by rw [hlen]; exact a4)
            fun h2 L2 es2 ep2 t3 sb2 R2 pm2 => wpAny_pure (hQ true h2 L2 es2 ep2 t3 (sb.trans sb2) R2 (fun z => absurd z hm) fun _ => pm2.trans pm)
        rcases cs with ⟨_, e⟩ | ⟨_, e⟩
        · exact lay 31 (by rw [e, size_20]) (.inr (.inl rfl)) (by rw [e, size_20]; decide) (by omega)
        · exact lay 127 (by rw [e, size_76]) (.inr (.inr rfl)) (by rw [e, size_76]; decide) (by omega)
      · first
          | refine wp_if_neg (by simp [e5, hf]) ?_
          | (refine wpAny_bind ?_; refine wp_if_neg (by simp [e5, hf]) ?_; refine wpAny_pure ?_)
        refine wpAny_pure (hQ true h1 L1 es1 (ep + 1) t2 sb ⟨⟨_, ho1, ⟨hex.1, hex.2.1, hex.2.2⟩, rfl⟩, hin, T2, nd1, ld1, ?_, by rw [hlen]; exact hfew⟩ (fun z => absurd z hm) fun _ => pm)
        have h := hf
        unfold SetTable.tooFull at h
        rw [decide_eq_true_eq, q9, List.length_map] at h
        rw [hlen, e3]
        omega
    by_cases hpl : t1.plain = true
    · first
        | (refine wpAny_bind ?_; refine wp_if_pos hpl ?_; refine hashBy_lot hx fun c => ?_)
        | refine wp_if_pos hpl (wpAny_bind (hashBy_lot hx fun c => ?_))
      cases c with
      | true =>
        simp only [if_true]
        exact go t1 rfl rfl rfl rfl q3 rfl
      | false =>
        simp only [Bool.false_eq_true, if_false]
        exact go { t1 with plain := false } rfl rfl rfl rfl ⟨q3.ris, q3.dm, q3.sz, q3.mok, q3.bd, q3.reach⟩ rfl
    · first
        | (refine wpAny_bind ?_; refine wp_if_neg hpl ?_; refine wpAny_pure ?_)
        | refine wp_if_neg hpl (wpAny_bind (wpAny_pure ?_))
      simp only [if_true]
      exact go t1 rfl rfl rfl rfl q3 rfl
  · have hi : (L.map fun p => lotH P w p.2)[i]? = some (lotH P w k) := by rw [List.getElem?_map, hp, ← hk]; rfl
    have hil : i < t.place.toList.length := by
      have h1 : i < L.length := (List.getElem?_eq_some_iff.mp hp).1
      have h2 := R.tab.sz
      rw [List.length_map] at h2
      rw [Array.length_toList]
      omega
    have hj := List.getElem?_eq_getElem hil
    obtain ⟨c, hc, e⟩ := R.tab.before hK hi hj
    exact ⟨c, Nat.zero_le _, hc, by rw [hj]; exact congrArg some e.symm⟩
end
end Kb
end TKn
section TKo
set_option Elab.async false
set_option autoImplicit false
set_option linter.all false
set_option maxRecDepth 100000
set_option maxHeartbeats 4000000
/-! Ko: sorted(xs), sorted(set(xs)), len(set(xs)) over the abstract environment. -/
namespace Kb
open PySem PySem.Spec PyProof.Rows L2 PySem.W

/-- set(xs) of lots grows -/
theorem grow_lot {P : Program} {w : World} {h0 : Heap} {S : Addr} {ks : List (Addr × List Str)} {items : Array Value} (hi : items.toList = ks.map fun p => Value.ref p.1) (hk : ∀ p ∈ ks, IsLot P w h0 p.2 p.1) (hz : ks.length < 64) (hS0 : h0.get? S = none) :
    Grow P w h0 S items.size (fun i h => ∃ L es ep t, LotT P w h S L es ep t ∧ (∀ p ∈ L, p ∈ ks.take i) ∧ (∀ p ∈ ks.take i, p.2 ∈ L.map (·.2)) ∧ L.length ≤ i) (fun i v => items[i]? = some v) cLine where
  fr := fun i h h' ⟨L, es, ep, t, h1, h2⟩ k => ⟨L, es, ep, t, h1.at fun o => k S o (.inr rfl), h2⟩
  zero := fun h e _ => ⟨[], #[], 0, _, ⟨⟨_, e, ⟨rfl, rfl, rfl⟩, rfl⟩, rfl, ⟨List.Pairwise.nil, rfl, rfl, .inl rfl, fun x hx => (by cases hx), fun i h j hi => (by simp at hi)⟩, List.nodup_nil, by
      show _ ∨ (!w.params.followText "set-order") = true
      cases w.params.followText "set-order"
      · exact .inr rfl
      · exact .inl rfl, by show 0 * 5 < 7 * 3; decide, by show 0 < 64; decide⟩, fun p h => (by cases h), fun p h => (by simp at h), Nat.le_refl _⟩
  step := fun A E s i v Q hu hin hP ⟨L, es, ep, t, hL, hm, ha, hl⟩ hkp q => by
    have q0 : items.toList[i]? = some v := by rw [Array.getElem?_toList]; exact hP
    rw [hi, List.getElem?_map] at q0
    cases hq : ks[i]? with
    | none =>
      rw [hq] at q0
      cases q0
    | some p =>
      rw [hq] at q0
      obtain rfl : Value.ref p.1 = v := Option.some.inj q0
      have stay : ∀ {h : Heap} {k : List Str} {b : Addr}, IsLot P w h0 k b → (∀ c o, h0.get? c = some o → h.get? c = some o) → IsLot P w h k b := fun x k => by
        obtain ⟨o, items, n, ho, r⟩ := x
        exact ⟨o, items, n, k _ o ho, r⟩
      have tk : ks.take (i + 1) = ks.take i ++ [p] := by
        rw [List.take_add_one, hq]
        rfl
      have hp : p ∈ ks := List.mem_of_getElem? hq
      have hil : i < ks.length := (List.getElem?_eq_some_iff.mp hq).1
      unfold setAdd
      refine wpAny_holding (wpAny_bind (wpAny_pyHash_tuple hu (stay (hk p hp) hkp) ?_))
      refine lot_add (s := { s with toks := s.toks + (p.2.length + 1) }) hL (fun r hr => stay (hk r (List.mem_of_mem_take (hm r hr))) hkp) (stay (hk p hp) hkp) hu (by omega) fun b h' L' es' ep' t' sb R2 c1 c2 =>
        q b h' _ sb (Nat.le_add_right _ _) ⟨L', es', ep', t', R2, ?_⟩
      rw [tk]
      by_cases c : p.2 ∈ L.map (·.2)
      · rw [c1 c]
        refine ⟨fun r hr => List.mem_append_left _ (hm r hr), fun r hr => ?_, by omega⟩
        rcases List.mem_append.mp hr with z | z
        · exact ha r z
        · rw [List.mem_singleton.mp z]
          exact c
      · have pm := c2 c
        refine ⟨fun r hr => ?_, fun r hr => ?_, by rw [pm.length_eq, List.length_cons]; omega⟩
        · rcases List.mem_cons.mp (pm.mem_iff.mp hr) with z | z
          · exact List.mem_append_right _ (List.mem_singleton.mpr z)
          · exact List.mem_append_left _ (hm r z)
        · refine ((pm.map (·.2)).mem_iff).mpr ?_
          rcases List.mem_append.mp hr with z | z
          · exact List.mem_cons_of_mem _ (ha r z)
          · rw [List.mem_singleton.mp z]
            exact List.mem_cons_self

/-! ### as calls -/
def TxO (P : Program) (w : World) (a : Addr) (L : List Str) : HO := .ext fun h => TxS P w h a L
structure LoS (P : Program) (w : World) (h : Heap) (a : Addr) (L : List (Addr × List Str)) : Prop where
  ex : ∃ (es : Array (Int × Value)) (ep : Nat) (t : SetTable), LotT P w h a L es ep t
def LoO (P : Program) (w : World) (a : Addr) (L : List (Addr × List Str)) : HO := .ext fun h => LoS P w h a L
theorem txO_new {P : Program} {w : World} {H : Hp} {h : Heap} {a : Addr} {L : List Str} (R : TxS P w h a L) : ObjOk P w H h a (TxO P w a L) := by
  obtain ⟨D, ho, r⟩ := id R.ex
  exact ⟨R, ⟨_, ho⟩, fun h1 h2 p k => TxS.at p k⟩
theorem loO_new {P : Program} {w : World} {H : Hp} {h : Heap} {a : Addr} {L : List (Addr × List Str)} (R : LoS P w h a L) : ObjOk P w H h a (LoO P w a L) := by
  obtain ⟨es, ep, t, T⟩ := id R.ex
  obtain ⟨o, ho, r⟩ := T.ob
  refine ⟨R, ⟨o, ho⟩, fun h1 h2 p k => ?_⟩
  obtain ⟨es', ep', t', T'⟩ := (show LoS P w h1 a L from p).ex
  exact ⟨es', ep', t', T'.at k⟩
section
variable {X : Cx}
theorem units_in1 (A : Around) : A.in1.in1.in1.units ≤ A.units + 4 := by
  show A.in1.in1.in1.units ≤ _
  simp [Around.in1]
theorem vals_strsAre : ∀ {xs : List Str} {us : List Value}, Vals (xs.map V.str) us → StrsAre us xs
  | [], _, .nil => .nil
  | x :: xs, _, .cons r t => by
    obtain ⟨tk, rfl⟩ := r
    exact .cons x tk (vals_strsAre t)
theorem isLot_of {pins : List (Addr × Obj)} {σ : L2.St} {H : Hp} {s : Shared} {b : Addr} {k : List Str} (I : Inv X pins σ H s) (h : SqT X.K H b (k.map V.str)) : IsLot X.prog X.w s.heap k b := by
  obtain ⟨its, r, ⟨o, ho, hc, n, hd⟩, _⟩ := I.tuple h
  have key : ∀ {k : List Str} {us : List Value}, Vals (k.map V.str) us → ItemsAre (PySem.strKind X.prog X.w) k us := by
    intro k
    induction k with
    | nil => intro us r; cases r; exact .nil
    | cons x k ih =>
      intro us r
      cases r with
      | cons r t =>
        obtain ⟨tk, rfl⟩ := r
        exact .cons (PySem.Froz.is_str x tk) (ih t)
  exact ⟨o, its.toArray, n, ho, hc, hd, by simpa using key r⟩
/-- set(xs) of texts -/
def rSetTx (K : PySem.W.Frag) (P : Program) (w : World) : List V → Hp → VK → Prop := fun vs H Q => ∃ (l : Addr) (xs : List Str), vs = [V.ref l] ∧ (SqL K H l (xs.map V.str) ∨ SqT K H l (xs.map V.str)) ∧ xs.length ≤ 4000 ∧
  ∀ a L, H a = none → L.Nodup → (∀ x, x ∈ L ↔ x ∈ xs) → L.length ≤ xs.length → Q (.ref a) (upd H a (TxO P w a L))
theorem cr_setTx (hc : X.calm = true) (hu : X.A.units + 64 < cLine) : CallR X (.type "set") (rSetTx X.K X.prog X.w) := by
  intro pins s σ H vs us Q I r h
  obtain ⟨l, xs, rfl, hl, hz, q⟩ := h
  rw [Vals.ref1 r]
  have hn : H s.heap.objs.size = none := I.hok.fresh (Nat.le_refl _)
  have hu2 : X.A.in1.in1.in1.units < cLine + cLine := by have := units_in1 X.A; omega
  have fin : ∀ (its : List Value), Vals (xs.map V.str) its → ∀ (h' : Heap) (tk : Nat), (∃ L, TxS X.prog X.w h' s.heap.objs.size L ∧ (∀ x, x ∈ L ↔ x ∈ xs.take its.toArray.size) ∧ L.length ≤ its.toArray.size) → (∀ b o, s.heap.get? b = some o → h'.get? b = some o) →
      EP X pins σ Q (.ref s.heap.objs.size) { s with heap := h', toks := tk } := fun its rv h' tk ⟨L, h1, h2, h3⟩ k => by
    have e : its.toArray.size = xs.length := by rw [List.size_toArray, ← rv.length, List.length_map]
    rw [e] at h2 h3
    exact ⟨.ref s.heap.objs.size, upd H s.heap.objs.size (TxO X.prog X.w s.heap.objs.size L), I.laid (t' := tk) k (Nat.le_refl _) (txO_new h1), rfl, q _ L hn h1.nd (fun x => by rw [h2, List.take_length]) h3⟩
  rcases hl with hl | hl
  · obtain ⟨its, rv, pl, _⟩ := I.list hl
    exact mkset_list (P := X.prog) (w := X.w) (I.ok.hd hc) pl.isList (grow_txt (by simpa using vals_strsAre rv) hz (none_of (Nat.le_refl _))) hu2 (fun h' tk hJ k => fin its rv h' tk hJ k)
  · obtain ⟨its, rv, pl, _⟩ := I.tuple hl
    exact mkset_tup (P := X.prog) (w := X.w) (I.ok.hd hc) (by obtain ⟨o, a1, a2, n, a3⟩ := pl; exact ⟨o, a1, a2, n, a3⟩) (grow_txt (by simpa using vals_strsAre rv) hz (none_of (Nat.le_refl _))) hu2 (fun h' tk hJ k => fin its rv h' tk hJ k)
/-- set(xs) of lots -/
def rSetLo (K : PySem.W.Frag) (P : Program) (w : World) : List V → Hp → VK → Prop := fun vs H Q => ∃ (l : Addr) (ks : List (Addr × List Str)), vs = [V.ref l] ∧ SqL K H l (ks.map fun p => V.ref p.1) ∧ (∀ p ∈ ks, SqT K H p.1 (p.2.map V.str)) ∧ ks.length < 64 ∧
  ∀ a L, H a = none → (∀ p ∈ L, p ∈ ks) → (∀ p ∈ ks, p.2 ∈ L.map (·.2)) → Q (.ref a) (upd H a (LoO P w a L))
theorem refs_of : ∀ {ks : List (Addr × List Str)} {us : List Value}, Vals (ks.map fun p => V.ref p.1) us → us = ks.map fun p => Value.ref p.1
  | [], _, .nil => rfl
  | p :: ks, _, .cons r t => by
    cases r
    rw [refs_of t]
    rfl
theorem cr_setLo (hc : X.calm = true) (hu : X.A.units + 64 < cLine) : CallR X (.type "set") (rSetLo X.K X.prog X.w) := by
  intro pins s σ H vs us Q I r h
  obtain ⟨l, ks, rfl, hl, hk, hz, q⟩ := h
  rw [Vals.ref1 r]
  have hn : H s.heap.objs.size = none := I.hok.fresh (Nat.le_refl _)
  obtain ⟨its, rv, pl, _⟩ := I.list hl
  have e : its.toArray.size = ks.length := by rw [List.size_toArray, ← rv.length, List.length_map]
  refine mkset_list (P := X.prog) (w := X.w) (I.ok.hd hc) pl.isList (grow_lot (ks := ks) (by simpa using refs_of rv) (fun p hp => isLot_of I (hk p hp)) hz (none_of (Nat.le_refl _))) (by have := units_in1 X.A; omega) fun h' tk ⟨L, es, ep, t, T, h1, h2, h3⟩ k => ?_
  rw [e, List.take_length] at h1 h2
  exact ⟨.ref s.heap.objs.size, upd H s.heap.objs.size (LoO X.prog X.w s.heap.objs.size L), I.laid (t' := tk) k (Nat.le_refl _) (loO_new ⟨es, ep, t, T⟩), rfl, q _ L hn h1 h2⟩
end
end Kb
end TKo
section TPa
set_option Elab.async false
set_option autoImplicit false
set_option linter.all false
set_option maxRecDepth 100000
set_option maxHeartbeats 4000000
/-! Pa: orders of data, plain Lean: sorted lists, sorted sets. -/
namespace Kb
open PySem PySem.Spec PyProof.Rows L2 PySem.W

/-- a lot or a row of hands -/
def eL (xs : List Str) : PyData := .tuple (xs.map .str)
/-- x < y; x <= y -/
def dLe (x y : PyData) : Bool := dataLe false id x y
theorem dLe_eq (x y : PyData) : dLe x y = !dataLt y x := rfl
theorem dLe_trans (a b c : PyData) (h : dLe a b = true) (k : dLe b c = true) : dLe a c = true := (sortLe_total (listOrd itemOrd) false fun b => keyToks b).trans a b c h k
theorem dLe_total (a b : PyData) : (dLe a b || dLe b a) = true := by
  rw [dLe_eq, dLe_eq]
  cases h : dataLt b a with
  | false => rfl
  | true =>
    cases k : dataLt a b with
    | false => rfl
    | true =>
      have := lex_trans (O := itemOrd) _ _ _ h k
      rw [lex_irrefl] at this
      cases this
theorem dLe_anti {a b : PyData} (h : dLe a b = true) (k : dLe b a = true) : keyToks a = keyToks b := by
  rw [dLe_eq, Bool.not_eq_true'] at h k
  exact (lex_total (O := itemOrd) _ _ h k).symm
theorem toks_str {x y : Str} (h : keyToks (.str x) = keyToks (.str y)) : x = y := by
  simp only [keyToks] at h
  exact str_of_cps (Sum.inr.inj (List.cons.inj h).1)
theorem toksAll_strs : ∀ {xs ys : List Str}, keyToksAll (xs.map .str) = keyToksAll (ys.map .str) → xs = ys
  | [], [], _ => rfl
  | [], y :: ys, h => by simp [keyToksAll] at h
  | x :: xs, [], h => by simp [keyToksAll] at h
  | x :: xs, y :: ys, h => by
    simp only [List.map_cons, keyToksAll, keyToks, List.cons_append, List.nil_append, List.cons.injEq, Sum.inr.injEq, true_and] at h
    rw [str_of_cps h.1, toksAll_strs h.2]
theorem toks_lot {xs ys : List Str} (h : keyToks (eL xs) = keyToks (eL ys)) : xs = ys := by
  unfold eL at h
  simp only [keyToks] at h
  exact toksAll_strs h
theorem toks_pair {n m : Int} {xs ys : List Str} (h : keyToks (.tuple [.int n, eL xs]) = keyToks (.tuple [.int m, eL ys])) : n = m ∧ xs = ys := by
  unfold eL at h
  simp only [keyToks, keyToksAll, List.cons_append, List.nil_append, List.cons.injEq, Sum.inl.injEq, true_and] at h
  exact ⟨h.1, toksAll_strs (List.append_cancel_right h.2)⟩
theorem dLt_of {a b : PyData} (h : dLe a b = true) (k : keyToks a ≠ keyToks b) : dataLt a b = true := by
  cases e : dataLt a b with
  | true => rfl
  | false => exact absurd (dLe_anti h (by rw [dLe_eq, e]; rfl)) k
/-- (n, lot) by its number first -/
theorem dLe_pair {n m : Int} {xs ys : List Str} (h : dLe (.tuple [.int n, eL xs]) (.tuple [.int m, eL ys]) = true) : n ≤ m := by
  refine Int.not_lt.mp fun z => ?_
  have e : dataLt (.tuple [.int m, eL ys]) (.tuple [.int n, eL xs]) = true := by
    unfold eL dataLt
    simp only [keyToks, keyToksAll, List.cons_append, List.nil_append]
    rw [lex_self (O := itemOrd), lex_diff (O := itemOrd) (fun q => by injection q with q; omega)]
    show decide (m < n) = true
    exact decide_eq_true z
  rw [dLe_eq, e] at h
  cases h

/-! sorting -/
section
variable {α : Type} (enc : α → PyData)
def sortB (l : List α) : List α := l.mergeSort fun a b => dLe (enc a) (enc b)
theorem sortB_perm (l : List α) : (sortB enc l).Perm l := List.mergeSort_perm _ _
theorem sortB_le (l : List α) : (sortB enc l).Pairwise fun a b => dLe (enc a) (enc b) = true := List.pairwise_mergeSort (le := fun a b => dLe (enc a) (enc b)) (fun a b c => dLe_trans (enc a) (enc b) (enc c)) (fun a b => dLe_total (enc a) (enc b)) l
theorem sortB_map (l : List α) : (l.map enc).mergeSort (dataLe false id) = (sortB enc l).map enc := (List.map_mergeSort (r := fun a b => dLe (enc a) (enc b)) (s := dataLe false id) (f := enc) (l := l) fun a _ b _ => rfl).symm
theorem mem_sortB {l : List α} {x : α} : x ∈ sortB enc l ↔ x ∈ l := (sortB_perm enc l).mem_iff
theorem len_sortB (l : List α) : (sortB enc l).length = l.length := (sortB_perm enc l).length_eq
variable {enc}
variable (inj : ∀ a b, keyToks (enc a) = keyToks (enc b) → a = b)
include inj
theorem sortB_eq {l l' : List α} (h : l.Perm l') : sortB enc l = sortB enc l' :=
  List.Perm.eq_of_pairwise (fun a b _ _ h k => inj a b (dLe_anti h k)) (sortB_le enc l) (sortB_le enc l') ((sortB_perm enc l).trans (h.trans (sortB_perm enc l').symm))
theorem sortB_id {l : List α} (h : l.Pairwise fun a b => dLe (enc a) (enc b) = true) : sortB enc l = l :=
  List.Perm.eq_of_pairwise (fun a b _ _ h k => inj a b (dLe_anti h k)) (sortB_le enc l) h (sortB_perm enc l)
/-- no thing twice: strictly -/
theorem sortB_lt {l : List α} (h : l.Nodup) : (sortB enc l).Pairwise fun a b => dataLt (enc a) (enc b) = true := by
  have nd : (sortB enc l).Nodup := (sortB_perm enc l).nodup_iff.mpr h
  exact ((sortB_le enc l).and nd).imp fun ⟨h1, h2⟩ => dLt_of h1 fun q => h2 (inj _ _ q)
end
section
variable {α : Type} [DecidableEq α]
/-- each once -/
def dd : List α → List α
  | [] => []
  | x :: r => if x ∈ dd r then dd r else x :: dd r
theorem mem_dd {y : α} : ∀ {l : List α}, y ∈ dd l ↔ y ∈ l
  | [] => Iff.rfl
  | x :: r => by
    rw [dd]
    split
    · rename_i h
      rw [mem_dd, List.mem_cons]
      exact ⟨.inr, fun z => z.elim (fun z => by rw [z]; exact mem_dd.mp h) id⟩
    · rw [List.mem_cons, List.mem_cons, mem_dd]
theorem nodup_dd : ∀ l : List α, (dd l).Nodup
  | [] => List.nodup_nil
  | x :: r => by
    rw [dd]
    split
    · exact nodup_dd r
    · rename_i h
      exact List.nodup_cons.mpr ⟨h, nodup_dd r⟩
theorem len_dd : ∀ l : List α, (dd l).length ≤ l.length
  | [] => Nat.le_refl _
  | x :: r => by
    rw [dd]
    have := len_dd r
    split
    · rw [List.length_cons]; omega
    · rw [List.length_cons, List.length_cons]; omega
theorem perm_of_mem {l l' : List α} (h : l.Nodup) (h' : l'.Nodup) (e : ∀ x, x ∈ l ↔ x ∈ l') : l.Perm l' := (List.perm_ext_iff_of_nodup h h').mpr e
/-- as many, none left out -/
theorem perm_of_sub : ∀ {l ys : List α}, l.Nodup → (∀ x ∈ l, x ∈ ys) → ys.length ≤ l.length → l.Perm ys
  | [], ys, _, _, h => by
    rw [List.eq_nil_of_length_eq_zero (Nat.le_zero.mp h)]
  | x :: l, ys, nd, hm, h => by
    have hx := hm x List.mem_cons_self
    obtain ⟨h1, h2⟩ := List.nodup_cons.mp nd
    have pe := List.perm_cons_erase hx
    refine List.Perm.trans ((perm_of_sub h2 (fun y hy => ?_) ?_).cons x) pe.symm
    · exact (List.mem_erase_of_ne (fun z => h1 (by rw [← z]; exact hy))).mpr (hm y (List.mem_cons_of_mem _ hy))
    · rw [List.length_erase_of_mem hx]
      rw [List.length_cons] at h
      omega
end
theorem perm_map_inv {α β : Type} {f : α → β} {m out : List β} (p : out.Perm m) : ∀ l : List α, m = l.map f → ∃ l' : List α, l'.Perm l ∧ out = l'.map f := by
  induction p with
  | nil =>
    intro l h
    cases l with
    | nil => exact ⟨[], .refl _, rfl⟩
    | cons _ _ => cases h
  | cons x p ih =>
    intro l h
    cases l with
    | nil => cases h
    | cons a l =>
      obtain ⟨h1, h2⟩ := List.cons.inj h
      obtain ⟨l', q1, q2⟩ := ih l h2
      exact ⟨a :: l', q1.cons a, by rw [List.map_cons, ← q2, h1]⟩
  | swap x y r =>
    intro l h
    match l, h with
    | a :: b :: l, h =>
      obtain ⟨h1, h2⟩ := List.cons.inj h
      obtain ⟨h2, h3⟩ := List.cons.inj h2
      exact ⟨b :: a :: l, .swap a b l, by rw [List.map_cons, List.map_cons, h1, h2, h3]⟩
  | trans p q ih1 ih2 =>
    intro l h
    obtain ⟨l1, a1, a2⟩ := ih2 l h
    obtain ⟨l2, b1, b2⟩ := ih1 l1 a2
    exact ⟨l2, b1.trans a1, b2⟩
instance : DecidableEq Str := inferInstance
/-- sorted(xs), tuple(sorted(set(xs))) -/
def srt (xs : List Str) : List Str := sortB .str xs
def lotOf (xs : List Str) : List Str := srt (dd xs)
def lsrt (ls : List (List Str)) : List (List Str) := sortB eL ls
def lotsOf (ls : List (List Str)) : List (List Str) := lsrt (dd ls)
theorem mem_lotOf {xs : List Str} {x : Str} : x ∈ lotOf xs ↔ x ∈ xs := (mem_sortB _).trans mem_dd
theorem mem_lotsOf {xs : List (List Str)} {x : List Str} : x ∈ lotsOf xs ↔ x ∈ xs := (mem_sortB _).trans mem_dd
theorem nodup_lotOf (xs : List Str) : (lotOf xs).Nodup := (sortB_perm _ _).nodup_iff.mpr (nodup_dd xs)
theorem nodup_lotsOf (xs : List (List Str)) : (lotsOf xs).Nodup := (sortB_perm _ _).nodup_iff.mpr (nodup_dd xs)
theorem len_lotOf (xs : List Str) : (lotOf xs).length ≤ xs.length := by
  unfold lotOf srt
  rw [len_sortB]
  exact len_dd xs
theorem len_lotsOf (xs : List (List Str)) : (lotsOf xs).length ≤ xs.length := by
  unfold lotsOf lsrt
  rw [len_sortB]
  exact len_dd xs
theorem lotOf_lt (xs : List Str) : (lotOf xs).Pairwise fun a b => dataLt (.str a) (.str b) = true := sortB_lt (fun _ _ => toks_str) (nodup_dd xs)
theorem lotsOf_lt (xs : List (List Str)) : (lotsOf xs).Pairwise fun a b => dataLt (eL a) (eL b) = true := sortB_lt (fun _ _ => toks_lot) (nodup_dd xs)
theorem srt_eq {l : List Str} {xs : List Str} (h : l.Nodup) (e : ∀ x, x ∈ l ↔ x ∈ xs) : srt l = lotOf xs := sortB_eq (fun _ _ => toks_str) (perm_of_mem h (nodup_dd xs) fun x => (e x).trans mem_dd.symm)
theorem lsrt_eq {l : List (List Str)} {xs : List (List Str)} (h : l.Nodup) (e : ∀ x, x ∈ l ↔ x ∈ xs) : lsrt l = lotsOf xs := sortB_eq (fun _ _ => toks_lot) (perm_of_mem h (nodup_dd xs) fun x => (e x).trans mem_dd.symm)
/-- a lot that is sorted is its own -/
theorem lotOf_id {xs : List Str} (h : xs.Pairwise fun a b => dataLt (.str a) (.str b) = true) : lotOf xs = xs := by
  have nd : xs.Nodup := h.imp fun {a b} h z => by
    rw [z] at h
    have := lex_irrefl (O := itemOrd) (keyToks (.str b))
    rw [show dataLt (.str b) (.str b) = lexLt itemOrd (keyToks (.str b)) (keyToks (.str b)) from rfl, this] at h
    cases h
  rw [← srt_eq nd fun x => Iff.rfl]
  refine sortB_id (fun _ _ => toks_str) (h.imp fun {a b} h => ?_)
  rw [dLe_eq, Bool.not_eq_true']
  cases k : dataLt (.str b) (.str a) with
  | false => rfl
  | true =>
    have := lex_trans (O := itemOrd) _ _ _ h k
    rw [lex_irrefl] at this
    cases this
end Kb
end TPa
section TKp
set_option Elab.async false
set_option autoImplicit false
set_option linter.all false
set_option maxRecDepth 100000
set_option maxHeartbeats 4000000
/-! Kp: sorted(xs), sorted(set(xs)), len(set(xs)) over the abstract environment. -/
namespace Kb
open PySem PySem.Spec PyProof.Rows L2 PySem.W
section
variable {X : Cx}
theorem laid_any {pins : List (Addr × Obj)} {σ : L2.St} {H : Hp} {s s2 : Shared} {p : Addr} {o : HO} (I : Inv X pins σ H s) (k : ∀ b u, s.heap.get? b = some u → s2.heap.get? b = some u) (g : s2.gens = s.gens) (os : s2.os = s.os)
    (hp : ∃ h1 : Heap, (∀ b u, s.heap.get? b = some u → h1.get? b = some u) ∧ h1.objs.size ≤ p) (new : ObjOk X.prog X.w (upd H p o) s2.heap p o) : H p = none ∧ Inv X pins σ (upd H p o) s2 := by
  obtain ⟨h1, k1, hz⟩ := hp
  have hn : H p = none := (I.hok.kept k1).fresh hz
  have hs : s.heap.get? p = none := by
    cases e : s.heap.get? p with
    | none => rfl
    | some u =>
      have := k1 p u e
      rw [none_of hz] at this
      cases this
  exact ⟨hn, I.call' (ch := []) os (Un.laidN k hs hn) (I.hok.laidN k hn new) (by rw [g]; exact I.bare) (fun _ z => nomatch z)⟩
theorem each_of {F : Hp} : ∀ {xs : List V} {ds : List PyData} {us : List Value}, RpL F xs ds → Vals xs us → EachIs (fun v d => ∃ x, RelV x v ∧ Rp F x d) us ds
  | _, _, _, .nil, .nil => .nil
  | _, _, _, .cons h t, .cons r rr => .cons ⟨_, r, h⟩ (each_of t rr)
theorem of_each {F : Hp} {us : List Value} {ds : List PyData} (h : EachIs (fun v d => ∃ x, RelV x v ∧ Rp F x d) us ds) : ∃ ys, Vals ys us ∧ RpL F ys ds := by
  induction h with
  | nil => exact ⟨[], .nil, .nil⟩
  | cons h1 _ ih =>
    obtain ⟨x, r, q⟩ := h1
    obtain ⟨ys, a, b⟩ := ih
    exact ⟨x :: ys, .cons r a, .cons q b⟩
/-- sorted(xs), a list or a tuple of data -/
def rSortD (K : PySem.W.Frag) : List V → Hp → VK → Prop := fun vs H Q => ∃ (a : Addr) (xs : List V) (F : Hp) (ds : List PyData), vs = [V.ref a] ∧ (SqL K H a xs ∨ SqT K H a xs) ∧ Same F H ∧ RpL F xs ds ∧ SortOk ds ∧ ds.length ≤ 100000 ∧ (∀ d ∈ ds, d.depth ≤ 60) ∧
  ∀ ys p, RpL F ys (ds.mergeSort (dataLe false id)) → H p = none → Q (.ref p) (upd H p (.lst ys))
theorem cr_sortD (hu : X.A.units + 64 < cLine) : CallR X (.builtin "sorted") (rSortD X.K) := by
  intro pins s σ H vs us Q I r h
  obtain ⟨a, xs, F, ds, rfl, hl, fh, rd, ok, hz, hd, q⟩ := h
  rw [Vals.ref1 r]
  have hlen := rd.len
  have main : ∀ its : List Value, Vals xs its → (∀ (E' : Value → Shared → Prop) (Q' : List Value → Shared → Prop), (∀ s' out, (out = its ∧ ∃ h', s' = { s with heap := h' } ∧ ∀ b o, s.heap.get? b = some o → h'.get? b = some o) → Q' out s') → wpAny (model X.prog X.w) X.A.in1 (collect (.ref a)) Q' E' s) →
      wpAny (model X.prog X.w) X.A (call (.builtin "sorted") [.ref a]) (EP X pins σ Q) X.xe s := fun its rv hc =>
    sorted_of (C := fun out s' => out = its ∧ ∃ h', s' = { s with heap := h' } ∧ ∀ b o, s.heap.get? b = some o → h'.get? b = some o) (R := fun v d => ∃ x, RelV x v ∧ Rp F x d) hc fun out s' hC => by
      obtain ⟨e1, h', e2, k⟩ := hC
      subst e1 e2
      have hol : out.length = ds.length := by rw [← rv.length, hlen]
      refine ⟨k, rfl, rfl, by rw [hol]; exact hz, ds, each_of rd rv, (each_of rd rv).mono fun v d h => ?_, ok, fun d hm => by have := hd d hm; omega, fun s2 p rs c k2 g2 o2 hp hg hrl er => ?_⟩
      · obtain ⟨x, r1, r2⟩ := h
        obtain ⟨as, q1⟩ := Dp.reads I d x v (Rp.dp d x (Rp.mono fh d x r2)) r1
        exact ⟨as, PyProof.Rows.Reads.keeps k q1⟩
      · obtain ⟨ys, v1, v2⟩ := of_each er
        have hyl : ys.length ≤ sizeLine := by rw [v1.length, hrl, hol]; exact small hz
        obtain ⟨n1, n2⟩ := laid_any (o := .lst ys) I k2 g2 o2 hp ⟨hyl, rs, c, v1, hg⟩
        exact ⟨.ref p, _, n2, rfl, q ys p v2 n1⟩
  rcases hl with hl | hl
  · obtain ⟨its, rv, pl, hz2⟩ := I.list hl
    obtain ⟨o, ho, hc, n, hdt⟩ := pl.isList
    exact main its rv fun E' Q' h => wpAny_collect_seq a (.inl rfl) ho hc hdt (fun h' k => by simpa using h { s with heap := h' } its ⟨rfl, h', rfl, k⟩) (by rw [List.size_toArray, ← rv.length]; exact hz2)
  · obtain ⟨its, rv, pl, hz2⟩ := I.tuple hl
    obtain ⟨o, ho, hc, n, hdt⟩ := pl
    exact main its rv fun E' Q' h => wpAny_collect_seq a (.inr rfl) ho hc hdt (fun h' k => by simpa using h { s with heap := h' } its ⟨rfl, h', rfl, k⟩) (by rw [List.size_toArray, ← rv.length]; exact hz2)
theorem each_strs : ∀ {us : List Value} {xs : List Str}, StrsAre us xs → EachIs (fun v d => ∃ y t, v = Value.str y t ∧ d = PyData.str y) us (xs.map .str)
  | _, _, .nil => .nil
  | _, _, .cons x t h => .cons ⟨x, t, rfl, rfl⟩ (each_strs h)
theorem strs_each : ∀ {us : List Value} {xs : List Str}, EachIs (fun v d => ∃ y t, v = Value.str y t ∧ d = PyData.str y) us (xs.map .str) → Vals (xs.map V.str) us
  | _, [], h => by cases h; exact .nil
  | _, x :: xs, h => by
    cases h with
    | cons h1 h2 =>
      obtain ⟨y, t, e1, e2⟩ := h1
      cases e2
      exact .cons ⟨t, e1⟩ (strs_each h2)
theorem sortOk_strs (xs : List Str) : SortOk (xs.map .str) := ⟨AllAlike.of fun _ _ => rfl, .inl (Sortable.others fun b => ⟨fun z => (by cases z), fun _ z => (by cases z)⟩)⟩
/-- sorted(set) of texts -/
def rSortTx (P : Program) (w : World) : List V → Hp → VK → Prop := fun vs H Q => ∃ (a : Addr) (L : List Str), vs = [V.ref a] ∧ H a = some (TxO P w a L) ∧ L.length ≤ 4000 ∧ ∀ p, H p = none → Q (.ref p) (upd H p (.lst ((srt L).map V.str)))
theorem cr_sortTx (hc : X.calm = true) (hu : X.A.units + 64 < cLine) : CallR X (.builtin "sorted") (rSortTx X.prog X.w) := by
  intro pins s σ H vs us Q I r h
  obtain ⟨a, L, rfl, ha, hz, q⟩ := h
  rw [Vals.ref1 r]
  have R : TxS X.prog X.w s.heap a L := (I.hok a _ ha).1
  obtain ⟨⟨es, ep, t⟩, ho, tx, hr, hl⟩ := R.ex
  have hsz : es.size = L.length := tx.sz
  refine sorted_of (C := fun out s' => (∀ b o, s.heap.get? b = some o → s'.heap.get? b = some o) ∧ s'.gens = s.gens ∧ s'.os = s.os ∧ out.Perm (es.toList.map (·.2))) (R := fun v d => ∃ y t, v = Value.str y t ∧ d = PyData.str y)
    (fun E' Q' h => collect_set (by have := I.ok.hd hc; simpa using this) ⟨_, ho, rfl, rfl⟩ tx.fit (by show es.size < scanBound; unfold scanBound; omega) hr hl fun s' out k _ g o pm => h s' out ⟨k, g, o, pm⟩) fun out s' hC => ?_
  obtain ⟨k, g, o, pm⟩ := hC
  -- the members, as they come
  have each : ∀ v ∈ out, ∃ y t, v = Value.str y t ∧ y ∈ L := fun v hv => by
    obtain ⟨e, he, rfl⟩ := List.mem_map.mp (pm.mem_iff.mp hv)
    obtain ⟨⟨y, h1, h2⟩, _⟩ := tx.el e he
    have hy := (tx.mem y).mpr ⟨e, he, h1⟩
    cases h3 : e.2 with
    | str z t =>
      rw [h3] at h1
      have h1' : Value.isStrOf y (.str z t) = true := h1
      simp [Value.isStrOf] at h1'
      exact ⟨z, t, rfl, by rw [h1']; exact hy⟩
    | _ =>
      rw [h3] at h1
      exact absurd h1 (by simp [PySem.strKind, Value.isStrOf])
  have toStrs : ∀ us : List Value, (∀ v ∈ us, ∃ y t, v = Value.str y t ∧ y ∈ L) → ∃ ys, StrsAre us ys := by
    intro us
    induction us with
    | nil => exact fun _ => ⟨[], .nil⟩
    | cons v us ih =>
      intro h
      obtain ⟨y, t, rfl, _⟩ := h v List.mem_cons_self
      obtain ⟨ys, h2⟩ := ih fun u hu => h u (List.mem_cons_of_mem _ hu)
      exact ⟨y :: ys, .cons y t h2⟩
  obtain ⟨ys, hys⟩ := toStrs out each
  have hol : out.length = L.length := by rw [pm.length_eq, List.length_map, Array.length_toList, hsz]
  have hyl : ys.length = L.length := by rw [← StrsAre.len_eq hys, hol]
  have inY : ∀ {us : List Value} {ys : List Str}, StrsAre us ys → ∀ y t, Value.str y t ∈ us → y ∈ ys := by
    intro us ys h
    induction h with
    | nil => intro y t hm; cases hm
    | cons z u h ih =>
      intro y t hm
      rcases List.mem_cons.mp hm with e | hm
      · cases e
        exact List.mem_cons_self
      · exact List.mem_cons_of_mem _ (ih y t hm)
  have pL : L.Perm ys := perm_of_sub R.nd (fun x hx => by
    obtain ⟨e, he, h1⟩ := (tx.mem x).mp hx
    have hm : e.2 ∈ out := pm.mem_iff.mpr (List.mem_map.mpr ⟨e, he, rfl⟩)
    obtain ⟨y, t, h2, _⟩ := each _ hm
    rw [h2] at hm h1
    have h1' : Value.isStrOf x (.str y t) = true := h1
    simp [Value.isStrOf] at h1'
    rw [← h1']
    exact inY hys y t hm) (Nat.le_of_eq hyl)
  refine ⟨k, g, o, by rw [hol]; omega, ys.map .str, each_strs hys, (each_strs hys).mono fun v d h => ?_, sortOk_strs ys, fun d hd => ?_, fun s2 p rs c k2 g2 o2 hp hg hrl er => ?_⟩
  · obtain ⟨y, t, e1, e2⟩ := h
    subst e1 e2
    exact ⟨[], .str y t⟩
  · obtain ⟨y, _, rfl⟩ := List.mem_map.mp hd
    show X.A.units + 2 + 0 < cLine
    omega
  · rw [sortB_map] at er
    have es' : sortB PyData.str ys = srt L := sortB_eq (fun _ _ => toks_str) pL.symm
    rw [es'] at er
    have rv := strs_each er
    have hz2 : ((srt L).map V.str).length ≤ sizeLine := by rw [rv.length, hrl, hol]; exact small (by omega)
    obtain ⟨n1, n2⟩ := laid_any (o := .lst ((srt L).map V.str)) I k2 g2 o2 hp ⟨hz2, rs, c, rv, hg⟩
    exact ⟨.ref p, _, n2, rfl, q p n1⟩
end
end Kb
end TKp
section TKq
set_option Elab.async false
set_option autoImplicit false
set_option linter.all false
set_option maxRecDepth 100000
set_option maxHeartbeats 4000000
/-! Kq: sorted, set, len as expressions. -/
namespace Kb
open PySem PySem.Spec PyProof.Rows L2 PySem.W
theorem sq_lot {K : PySem.W.Frag} {F H : Hp} {a : Addr} {xs : List Str} (fh : Same F H) (h : Rp F (.ref a) (eL xs)) : SqT K H a (xs.map V.str) := by
  cases (show Rp F (.ref a) (.tuple (xs.map .str)) from h) with
  | tup h1 ht h2 =>
    have e := RpL.strs h2
    subst e
    exact ht.sq (fh _ _ h1)
section
variable {X : Cx}
/-- sorted(set) of lots -/
def rSortLo (P : Program) (w : World) : List V → Hp → VK → Prop := fun vs H Q => ∃ (a : Addr) (L : List (Addr × List Str)) (F : Hp), vs = [V.ref a] ∧ H a = some (LoO P w a L) ∧ Same F H ∧ (∀ p ∈ L, Rp F (.ref p.1) (eL p.2)) ∧
  ∀ p ys, (L.map (·.2)).Nodup → RpL F ys ((lsrt (L.map (·.2))).map eL) → H p = none → Q (.ref p) (upd H p (.lst ys))
theorem alike_strs : ∀ xs ys : List Str, alikeAll (xs.map .str) (ys.map .str) = true
  | [], _ => by cases ‹List Str› <;> rfl
  | _ :: _, [] => rfl
  | _ :: xs, _ :: ys => by
    show (alike (.str _) (.str _) && alikeAll (xs.map .str) (ys.map .str)) = true
    rw [alike_strs xs ys]
    rfl
theorem depth_strs : ∀ xs : List Str, PyData.depthAll (xs.map .str) = 0
  | [] => rfl
  | x :: xs => by
    show max (PyData.depth (.str x)) (PyData.depthAll (xs.map .str)) = 0
    rw [depth_strs xs]
    rfl
theorem sortOk_lots (ls : List (List Str)) : SortOk (ls.map eL) := ⟨AllAlike.of fun a b => alike_strs a b, .inr fun d hd => by
  obtain ⟨xs, _, rfl⟩ := List.mem_map.mp hd
  exact ⟨_, rfl⟩⟩
theorem depth_lot (xs : List Str) : (eL xs).depth = 1 := by
  show PyData.depthAll (xs.map .str) + 1 = 1
  rw [depth_strs]
theorem cr_sortLo (hc : X.calm = true) (hu : X.A.units + 64 < cLine) : CallR X (.builtin "sorted") (rSortLo X.prog X.w) := by
  intro pins s σ H vs us Q I r h
  obtain ⟨a, L, F, rfl, ha, fh, ht, q⟩ := h
  rw [Vals.ref1 r]
  have R : LoS X.prog X.w s.heap a L := (I.hok a _ ha).1
  obtain ⟨es, ep, t, T⟩ := R.ex
  obtain ⟨o, ho, hex, hd⟩ := T.ob
  have hsz := rows_len T.rows
  have hfew := T.few
  refine sorted_of (C := fun out s' => (∀ b o, s.heap.get? b = some o → s'.heap.get? b = some o) ∧ s'.gens = s.gens ∧ s'.os = s.os ∧ out.Perm (es.toList.map (·.2))) (R := fun v d => ∃ x, RelV x v ∧ Rp F x d)
    (fun E' Q' h => collect_set (by have := I.ok.hd hc; simpa using this) ⟨_, ho, hex.1, hd⟩ T.fits (by show es.size < scanBound; unfold scanBound; omega) T.tab.ris T.led fun s' out k _ g o pm => h s' out ⟨k, g, o, pm⟩) fun out s' hC => ?_
  obtain ⟨k, g, o, pm⟩ := hC
  have hes : es.toList.map (·.2) = L.map fun q => Value.ref q.1 := by
    rw [T.rows]
    unfold rowsL
    rw [List.map_map]
    rfl
  obtain ⟨L', pL, rfl⟩ := perm_map_inv pm L hes
  have each : ∀ l : List (Addr × List Str), (∀ p ∈ l, p ∈ L) → EachIs (fun v d => ∃ x, RelV x v ∧ Rp F x d) (l.map fun q => Value.ref q.1) ((l.map (·.2)).map eL) := by
    intro l
    induction l with
    | nil => exact fun _ => .nil
    | cons p l ih => exact fun h => .cons ⟨.ref p.1, rfl, ht p (h p List.mem_cons_self)⟩ (ih fun r hr => h r (List.mem_cons_of_mem _ hr))
  have eL' := each L' fun p hp => pL.mem_iff.mp hp
  have hl' : L'.length = L.length := pL.length_eq
  refine ⟨k, g, o, by rw [List.length_map, hl']; omega, _, eL', eL'.mono fun v d h => ?_, sortOk_lots _, fun d hd => ?_, fun s2 p rs c k2 g2 o2 hp hg hrl er => ?_⟩
  · obtain ⟨x, r1, r2⟩ := h
    obtain ⟨as, q1⟩ := Dp.reads I d x v (Rp.dp d x (Rp.mono fh d x r2)) r1
    exact ⟨as, PyProof.Rows.Reads.keeps k q1⟩
  · obtain ⟨y, _, rfl⟩ := List.mem_map.mp hd
    rw [depth_lot]
    omega
  · rw [sortB_map] at er
    have e2 : sortB eL (L'.map (·.2)) = lsrt (L.map (·.2)) := sortB_eq (fun _ _ => toks_lot) (pL.map _)
    rw [e2] at er
    obtain ⟨ys, v1, v2⟩ := of_each er
    have hz2 : ys.length ≤ sizeLine := by rw [v1.length, hrl, List.length_map, hl']; exact small (by omega)
    obtain ⟨n1, n2⟩ := laid_any (o := .lst ys) I k2 g2 o2 hp ⟨hz2, rs, c, v1, hg⟩
    exact ⟨.ref p, _, n2, rfl, q p ys T.nd v2 n1⟩
/-- len(set) of texts -/
def rLenTx (P : Program) (w : World) : List V → Hp → VK → Prop := fun vs H Q => ∃ (a : Addr) (L : List Str), vs = [V.ref a] ∧ H a = some (TxO P w a L) ∧ L.length ≤ 4000 ∧ Q (.int (L.length : Int)) H
theorem cr_lenTx : CallR X (.builtin "len") (rLenTx X.prog X.w) := by
  intro pins s σ H vs us Q I r h
  obtain ⟨a, L, rfl, ha, hz, q⟩ := h
  rw [Vals.ref1 r]
  have R : TxS X.prog X.w s.heap a L := (I.hok a _ ha).1
  obtain ⟨⟨es, ep, t⟩, ho, tx, hr, hl⟩ := R.ex
  have hsz : es.size = L.length := tx.sz
  have hf : t.fits es.size = true := tx.fit
  exact call_len_set ho ⟨rfl, rfl, rfl⟩ rfl hf (by show (es.size : Int) < _; omega) ⟨.int (L.length : Int), H, I.tok _, ⟨_, by rw [hsz]⟩, q⟩
end
section
variable {X : Cx} {Z : Zn} {ρ : En} {e a b c : Expr} {es : List Expr} {pos p p2 q : Pos} {t : Ty} {m : Mt} {ds : List PyData}
variable (T : Bi X.mg)
include T
/-- sorted(xs) -/
theorem dsort (hu : X.A.units + 64 < cLine) (hq : Sq m ds) (ha : PE X a (tO Z ρ m.od)) (ok : SortOk ds) (hz : ds.length ≤ 100000) (hd : ∀ d ∈ ds, d.depth ≤ 60) (hg : Gl X "sorted" := by rfl) (hs : starEach [a] X.env = (false, eval a X.env) :: starEach [] X.env := by rfl) :
    PE X (.Call (.Name "sorted" p) [a] [] pos) (tN Z ρ (mL (ds.mergeSort (dataLe false id)))) :=
  (pe_callB (cr_sortD hu) hg T.sorted (by decide +kernel) (pa1 ha hs) (he := hs)).imp (cb_impN (X := X) fun F0 G F H σ vs Q s k1 q => by
    cases k1 with
    | cons h1 h2 =>
      cases h2
      obtain ⟨p, us, rfl, h3, h4⟩ := hq.at (K := X.K) h1
      exact ⟨p, us, F, ds, rfl, h3, s.fh, h4, ok, hz, hd, fun ys l r hl => q l _ F _ (Go.new s.fh s.zk hl) hl (s.fh.free hl) upd_same ⟨ys, rfl, r⟩⟩)
/-- sorted(set(xs)), texts -/
theorem dsset {xs : List Str} (hc : X.calm = true) (hu : X.A.units + 64 < cLine) (hq : Sq m (xs.map .str)) (ha : PE X a (tO Z ρ m.od)) (hz : xs.length ≤ 4000) (hg : Gl X "sorted" := by rfl) (hg2 : Gl X "set" := by rfl) (hs : starEach [a] X.env = (false, eval a X.env) :: starEach [] X.env := by rfl)
    (hs2 : starEach [.Call (.Name "set" p2) [a] [] q] X.env = (false, eval (.Call (.Name "set" p2) [a] [] q) X.env) :: starEach [] X.env := by rfl) : PE X (.Call (.Name "sorted" p) [.Call (.Name "set" p2) [a] [] q] [] pos) (tN Z ρ (mL ((lotOf xs).map .str))) :=
  (pe_callB (cr_sortTx hc hu) hg T.sorted (by decide +kernel) (pa_cons (pe_callTy (cr_setTx hc hu) hg2 T.set (by decide +kernel) (pa1 ha hs) (he := hs)) pa_nil hs2) (he := hs2)).imp fun σ H Q ⟨F0, G, F, s, k⟩ => ⟨F0, G, F, s, fun vs F1 H1 g1 ok => by
    cases ok with
    | cons h1 h2 =>
      cases h2
      obtain ⟨l, us, rfl, h3, h4⟩ := hq.at (K := X.K) h1
      rw [RpL.strs h4] at h3
      refine ⟨l, xs, rfl, h3, hz, fun c L n1 n2 n3 n4 => ⟨c, L, rfl, upd_same, Nat.le_trans n4 hz, fun l' nl => ?_⟩⟩
      have s1 := s.mv g1
      have g2 := Go.new (o := TxO X.prog X.w c L) s1.fh s1.zk n1
      have g3 := Go.new (o := .lst ((srt L).map V.str)) g2.fh g2.zk nl
      rw [srt_eq n2 n3] at g3 ⊢
      exact k l' _ F1 _ (g1.tr (g2.tr g3)) (g1.was (g2.was nl)) (g2.fh.free nl) upd_same ⟨_, rfl, RpL.of_strs _⟩⟩
/-- len(set(xs)), texts -/
theorem dlenset {xs : List Str} (hc : X.calm = true) (hu : X.A.units + 64 < cLine) (hq : Sq m (xs.map .str)) (ha : PE X a (tO Z ρ m.od)) (hz : xs.length ≤ 4000) (nd : xs.Nodup) (hg : Gl X "len" := by rfl) (hg2 : Gl X "set" := by rfl) (hs : starEach [a] X.env = (false, eval a X.env) :: starEach [] X.env := by rfl)
    (hs2 : starEach [.Call (.Name "set" p2) [a] [] q] X.env = (false, eval (.Call (.Name "set" p2) [a] [] q) X.env) :: starEach [] X.env := by rfl) : PE X (.Call (.Name "len" p) [.Call (.Name "set" p2) [a] [] q] [] pos) (tD Z ρ (.int (xs.length : Int))) :=
  (pe_callB cr_lenTx hg T.len PySem.boot_len (pa_cons (pe_callTy (cr_setTx hc hu) hg2 T.set (by decide +kernel) (pa1 ha hs) (he := hs)) pa_nil hs2) (he := hs2)).imp fun σ H Q ⟨F0, G, F, s, k⟩ => ⟨F0, G, F, s, fun vs F1 H1 g1 ok => by
    cases ok with
    | cons h1 h2 =>
      cases h2
      obtain ⟨l, us, rfl, h3, h4⟩ := hq.at (K := X.K) h1
      rw [RpL.strs h4] at h3
      refine ⟨l, xs, rfl, h3, hz, fun c L n1 n2 n3 n4 => ⟨c, L, rfl, upd_same, Nat.le_trans n4 hz, ?_⟩⟩
      have s1 := s.mv g1
      have g2 := Go.new (o := TxO X.prog X.w c L) s1.fh s1.zk n1
      rw [(perm_of_mem n2 nd n3).length_eq]
      exact k _ F1 _ (g1.tr g2) (.int _)⟩
/-- sorted(set(xs)), a list of lots -/
theorem dlset {ls : List (List Str)} (hc : X.calm = true) (hu : X.A.units + 64 < cLine) (ha : PE X a (tO Z ρ (mL (ls.map eL)).od)) (hz : ls.length < 64) (hg : Gl X "sorted" := by rfl) (hg2 : Gl X "set" := by rfl) (hs : starEach [a] X.env = (false, eval a X.env) :: starEach [] X.env := by rfl)
    (hs2 : starEach [.Call (.Name "set" p2) [a] [] q] X.env = (false, eval (.Call (.Name "set" p2) [a] [] q) X.env) :: starEach [] X.env := by rfl) : PE X (.Call (.Name "sorted" p) [.Call (.Name "set" p2) [a] [] q] [] pos) (tN Z ρ (mL ((lotsOf ls).map eL))) :=
  (pe_callB (cr_sortLo hc hu) hg T.sorted (by decide +kernel) (pa_cons (pe_callTy (cr_setLo hc hu) hg2 T.set (by decide +kernel) (pa1 ha hs) (he := hs)) pa_nil hs2) (he := hs2)).imp fun σ H Q ⟨F0, G, F, s, k⟩ => ⟨F0, G, F, s, fun vs F1 H1 g1 ok => by
    cases ok with
    | cons h1 h2 =>
      cases h2
      obtain ⟨l, us, rfl, h3, h4⟩ := mL_at h1
      have s1 := s.mv g1
      have ks : ∀ {us : List V} {ls : List (List Str)}, RpL F1 us (ls.map eL) → ∃ ks : List (Addr × List Str), us = ks.map (fun p => V.ref p.1) ∧ ls = ks.map (·.2) ∧ ∀ p ∈ ks, Rp F1 (.ref p.1) (eL p.2) := by
        intro us ls
        induction ls generalizing us with
        | nil => intro h; cases h; exact ⟨[], rfl, rfl, fun p hp => by cases hp⟩
        | cons x ls ih =>
          intro h
          cases h with
          | cons h1 h2 =>
            obtain ⟨ks, e1, e2, e3⟩ := ih h2
            have q1 := h1
            cases (show Rp F1 _ (.tuple (x.map .str)) from h1) with
            | @tup a o vs _ _ _ _ =>
              refine ⟨(a, x) :: ks, by rw [e1]; rfl, by rw [e2]; rfl, fun p hp => ?_⟩
              rcases List.mem_cons.mp hp with z | z
              · rw [z]
                exact q1
              · exact e3 p z
      obtain ⟨ks, e1, e2, e3⟩ := ks h4
      subst e1 e2
      refine ⟨l, ks, rfl, SqL.of h3, fun p hp => sq_lot s1.fh (e3 p hp), by rw [List.length_map] at hz; exact hz, fun c L n1 n2 n3 => ⟨c, L, F1, rfl, upd_same, s1.fh.trans (same_new n1), fun p hp => e3 p (n2 p hp), fun l' ys nd r nl => ?_⟩⟩
      have g2 := Go.new (o := LoO X.prog X.w c L) s1.fh s1.zk n1
      have g3 := Go.new (o := .lst ys) g2.fh g2.zk nl
      rw [lsrt_eq nd (fun x => ⟨fun hx => by
        obtain ⟨p, hp, rfl⟩ := List.mem_map.mp hx
        exact List.mem_map.mpr ⟨p, n2 p hp, rfl⟩, fun hx => by
        obtain ⟨p, hp, rfl⟩ := List.mem_map.mp hx
        exact n3 p hp⟩)] at r
      exact k l' _ F1 _ (g1.tr (g2.tr g3)) (g1.was (g2.was nl)) (g2.fh.free nl) upd_same ⟨_, rfl, r⟩⟩
end
end Kb
end TKq
section TKr
set_option Elab.async false
set_option autoImplicit false
set_option linter.all false
set_option maxRecDepth 100000
set_option maxHeartbeats 4000000
/-! Kr: dicts whose keys are tuples, nested ones too. -/
namespace Kb
open PySem PySem.Spec PyProof.Rows L2 PySem.W

/-- the dict's own part: keys with their objects, values -/
structure DyS (P : Program) (w : World) (h : Heap) (a : Addr) (xs : List (NestedKey × Addr × V)) : Prop where
  ex : ∃ ys : List (NestedKey × Addr × Value), Paired (fun x y => x.1 = y.1 ∧ x.2.1 = y.2.1 ∧ RelV x.2.2 y.2.2) xs ys ∧ ∃ o es ep, h.get? a = some o ∧ o.ExactDict ∧ o.data = .dict es ep ∧ es.toList = ys.map (entryOfKey (nestedKind P w))
  nd : (xs.map (·.1)).Nodup
  nm : (a == sysModules) = false
def DyO (P : Program) (w : World) (a : Addr) (xs : List (NestedKey × Addr × V)) : HO := .ext fun h => DyS P w h a xs
theorem dyO_new {P : Program} {w : World} {H : Hp} {h : Heap} {a : Addr} {xs : List (NestedKey × Addr × V)} (R : DyS P w h a xs) : ObjOk P w H h a (DyO P w a xs) := by
  obtain ⟨ys, pr, o, es, ep, ho, r⟩ := id R.ex
  refine ⟨R, ⟨o, ho⟩, fun h1 h2 p k => ?_⟩
  obtain ⟨ys', pr', o', es', ep', ho', r'⟩ := (show DyS P w h1 a xs from p).ex
  exact ⟨⟨ys', pr', o', es', ep', k o' ho', r'⟩, (show DyS P w h1 a xs from p).nd, (show DyS P w h1 a xs from p).nm⟩
/-- what stands at a tuple key in a heap where the dict does -/
theorem dyO_nc {P : Program} {w : World} {a : Addr} {xs : List (NestedKey × Addr × V)} (wit : ∃ h, DyS P w h a xs) (c : Addr) (q : Str) : DyO P w a xs ≠ LamX.CodeO c q := by
  intro z
  have key : ∀ h, DyS P w h a xs ↔ (∃ (oc : Obj) (vs : Array Value) (t : Tok), h.get? c = some oc ∧ oc.data = .fields vs ∧ vs[1]? = some (.str q t)) := by
    unfold DyO LamX.CodeO at z
    injection z with z
    intro h
    exact Iff.of_eq (congrFun z h)
  obtain ⟨h, R⟩ := wit
  obtain ⟨oc, vs, t, h1, h2, h3⟩ := (key h).mp R
  obtain ⟨ys, pr, o, es, ep, ho, hx, hd, r⟩ := id R.ex
  have ca : c ≠ a := by
    rintro rfl
    rw [ho] at h1
    cases h1
    rw [hd] at h2
    cases h2
  have g1 : (h.update c fun _ => o).get? a = some o := (Heap.get?_update_ne _ _ _ _ (Ne.symm ca)).trans ho
  have g2 : (h.update c fun _ => o).get? c = some o := Heap.get?_update_self _ h1 (by obtain ⟨h4, _⟩ := hx; cases o; first | rfl | (simp only at hd; subst hd; rfl))
  obtain ⟨oc', vs', t', k1, k2, _⟩ := (key _).mp ⟨⟨ys, pr, o, es, ep, g1, hx, hd, r⟩, R.nd, R.nm⟩
  rw [g2] at k1
  cases k1
  rw [hd] at k2
  cases k2
/-! ### over the heap of what nobody changes -/
inductive KtR (F : Hp) : List (NestedKey × Addr × V) → List (NestedKey × PyData) → Prop
  | nil : KtR F [] []
  | cons {k : NestedKey} {b : Addr} {v : V} {d : PyData} {r : List (NestedKey × Addr × V)} {s : List (NestedKey × PyData)} : Rp F (.ref b) k.data → k.depth ≤ 8 → Rp F v d → KtR F r s → KtR F ((k, b, v) :: r) ((k, d) :: s)
theorem KtR.mono {F F' : Hp} (e : Same F F') : ∀ {r : List (NestedKey × Addr × V)} {s : List (NestedKey × PyData)}, KtR F r s → KtR F' r s
  | _, _, .nil => .nil
  | _, _, .cons h1 h2 h3 t => .cons (Rp.mono e _ _ h1) h2 (Rp.mono e _ _ h3) (t.mono e)
theorem KtR.keys {F : Hp} : ∀ {r : List (NestedKey × Addr × V)} {s : List (NestedKey × PyData)}, KtR F r s → r.map (·.1) = s.map (·.1)
  | _, _, .nil => rfl
  | _, _, .cons _ _ _ t => by rw [List.map_cons, List.map_cons, t.keys]
theorem KtR.len {F : Hp} {r : List (NestedKey × Addr × V)} {s : List (NestedKey × PyData)} (h : KtR F r s) : r.length = s.length := by
  have := congrArg List.length h.keys
  rwa [List.length_map, List.length_map] at this
def lookN {β : Type} : List (NestedKey × β) → NestedKey → Option β
  | [], _ => none
  | (y, b) :: r, x => if y = x then some b else lookN r x
def putN {β : Type} : List (NestedKey × β) → NestedKey → β → List (NestedKey × β)
  | [], x, b => [(x, b)]
  | (y, c) :: r, x, b => if y = x then (y, b) :: r else (y, c) :: putN r x b
def mD (P : Program) (w : World) (kvs : List (NestedKey × PyData)) : Mt := ⟨fun p F o => ∃ xs, o = DyO P w p xs ∧ KtR F xs kvs ∧ ∃ h, DyS P w h p xs, fun e ⟨xs, h1, h2, h3⟩ => ⟨xs, h1, h2.mono e, h3⟩, fun ⟨xs, h1, _, h3⟩ c q => by rw [h1]; exact dyO_nc h3 c q⟩
def tyD (P : Program) (w : World) (kvs : List (NestedKey × PyData)) : Ty := ⟨fun F v => ∃ a xs, v = .ref a ∧ F a = some (DyO P w a xs) ∧ KtR F xs kvs ∧ ∃ h, DyS P w h a xs, fun e ⟨a, xs, h1, h2, h3, h4⟩ => ⟨a, xs, h1, e _ _ h2, h3.mono e, h4⟩⟩
/-! ### looking, putting -/
mutual
theorem nested_of {X : Cx} {pins : List (Addr × Obj)} {σ : L2.St} {H : Hp} {s : Shared} (I : Inv X pins σ H s) {F : Hp} (fh : Same F H) : ∀ (k : NestedKey) (x : V) (u : Value), Rp F x k.data → RelV x u → NestedIs s.heap k u
  | .none, x, u, h, r => by
    cases (show Rp F x .none from h)
    cases r
    exact .none
  | .num i, x, u, h, r => by
    cases (show Rp F x (.int i) from h)
    obtain ⟨t, rfl⟩ := r
    exact .int i t
  | .text y, x, u, h, r => by
    cases (show Rp F x (.str y) from h)
    obtain ⟨t, rfl⟩ := r
    exact .text y t
  | .tup ks, x, u, h, r => by
    cases (show Rp F x (.tuple (NestedKey.datas ks)) from h) with
    | @tup a _ vs _ h1 ht h2 =>
      obtain rfl : u = Value.ref a := r
      obtain ⟨its, rv, ⟨o, ho, hc, n, hd⟩, _⟩ := I.tuple (ht.sq (fh _ _ h1))
      exact .tup ho hc hd (by simpa using nested_all I fh ks vs its h2 rv)
theorem nested_all {X : Cx} {pins : List (Addr × Obj)} {σ : L2.St} {H : Hp} {s : Shared} (I : Inv X pins σ H s) {F : Hp} (fh : Same F H) : ∀ (ks : List NestedKey) (xs : List V) (us : List Value), RpL F xs (NestedKey.datas ks) → Vals xs us → NestedAll s.heap ks us
  | [], xs, us, h, r => by
    cases (show RpL F xs [] from h)
    cases r
    exact .nil
  | k :: ks, xs, us, h, r => by
    cases (show RpL F xs (k.data :: NestedKey.datas ks) from h) with
    | cons h1 h2 =>
      cases r with
      | cons r1 r2 => exact .cons (nested_of I fh k _ _ h1 r1) (nested_all I fh ks _ _ h2 r2)
end
abbrev PrD : List (NestedKey × Addr × V) → List (NestedKey × Addr × Value) → Prop := Paired fun x y => x.1 = y.1 ∧ x.2.1 = y.2.1 ∧ RelV x.2.2 y.2.2
theorem PrD.keys : ∀ {xs : List (NestedKey × Addr × V)} {ys : List (NestedKey × Addr × Value)}, PrD xs ys → xs.map (·.1) = ys.map (·.1)
  | _, _, .nil => rfl
  | _, _, .cons h t => by rw [List.map_cons, List.map_cons, h.1, PrD.keys t]
theorem DyS.full {X : Cx} {pins : List (Addr × Obj)} {σ : L2.St} {H : Hp} {s : Shared} (I : Inv X pins σ H s) {F : Hp} (fh : Same F H) {a : Addr} {xs : List (NestedKey × Addr × V)} {kvs : List (NestedKey × PyData)} (R : DyS X.prog X.w s.heap a xs) (kt : KtR F xs kvs) :
    ∃ ys, PrD xs ys ∧ s.heap.DictOfH (nestedKind X.prog X.w) a ys := by
  obtain ⟨ys, pr, o, es, ep, ho, hx, hd, he⟩ := R.ex
  have all : ∀ {xs : List (NestedKey × Addr × V)} {ys : List (NestedKey × Addr × Value)} {kvs : List (NestedKey × PyData)}, KtR F xs kvs → PrD xs ys → ∀ y ∈ ys, (nestedKind X.prog X.w).is s.heap y.1 y.2.1 := by
    intro xs ys kvs kt
    induction kt generalizing ys with
    | nil => intro p y hy; cases p; cases hy
    | cons h1 h2 h3 _ ih =>
      intro p y hy
      cases p with
      | cons q t =>
        rcases List.mem_cons.mp hy with e | hy
        · subst e
          rw [← q.1, ← q.2.1]
          exact ⟨nested_of I fh _ _ _ h1 rfl, h2⟩
        · exact ih t y hy
  exact ⟨ys, pr, o, es, ep, ho, hx, hd, he, all kt pr, by rw [← PrD.keys pr]; exact R.nd⟩
theorem at_look {F : Hp} {k : NestedKey} : ∀ {xs : List (NestedKey × Addr × V)} {ys : List (NestedKey × Addr × Value)} {kvs : List (NestedKey × PyData)}, KtR F xs kvs → PrD xs ys → (∀ d, lookN kvs k = some d → ∃ p v, atKey ys k = some p ∧ RelV v p.2 ∧ Rp F v d) ∧ (lookN kvs k = none → atKey ys k = none)
  | _, _, _, .nil, .nil => ⟨fun d h => (by rw [lookN] at h; cases h), fun _ => rfl⟩
  | _, _, _, .cons (k := k0) (v := v) (d := d0) h1 h2 h3 t, .cons (b := y) q r => by
    have ih := at_look (k := k) t r
    by_cases e : k0 = k
    · have ey : y.1 = k := q.1.symm.trans e
      refine ⟨fun d h => ?_, fun h => ?_⟩
      · rw [lookN, if_pos e] at h
        cases h
        exact ⟨y.2, v, by simp [atKey, ey], q.2.2, h3⟩
      · rw [lookN, if_pos e] at h
        cases h
    · have ey : ¬ y.1 = k := fun z => e (q.1.trans z)
      refine ⟨fun d h => ?_, fun h => ?_⟩
      · rw [lookN, if_neg e] at h
        obtain ⟨p, v', a1, a2⟩ := ih.1 d h
        exact ⟨p, v', by simpa [atKey, List.find?_cons, ey] using a1, a2⟩
      · rw [lookN, if_neg e] at h
        simpa [atKey, List.find?_cons, ey] using ih.2 h
theorem len_putN {β : Type} (x : NestedKey) (b : β) : ∀ s : List (NestedKey × β), (putN s x b).length ≤ s.length + 1
  | [] => Nat.le_refl _
  | (y, c) :: r => by
    rw [putN]
    split
    · simp
    · have := len_putN x b r
      simp only [List.length_cons]
      omega
theorem put_look {F : Hp} {k : NestedKey} {b : Addr} {v : V} {u : Value} {d : PyData} (h1 : Rp F (.ref b) k.data) (h2 : k.depth ≤ 8) (h3 : Rp F v d) (h4 : RelV v u) : ∀ {xs : List (NestedKey × Addr × V)} {ys : List (NestedKey × Addr × Value)} {kvs : List (NestedKey × PyData)},
    KtR F xs kvs → PrD xs ys → (xs.map (·.1)).Nodup → ∃ xs', PrD xs' (storedH ys k b u) ∧ KtR F xs' (putN kvs k d) ∧ (∀ x, x ∈ xs'.map (·.1) → x = k ∨ x ∈ xs.map (·.1)) ∧ (xs'.map (·.1)).Nodup
  | _, _, _, .nil, .nil, _ => ⟨[(k, b, v)], .cons ⟨rfl, rfl, h4⟩ .nil, .cons h1 h2 h3 .nil, fun x hx => .inl (by simpa using hx), by simp⟩
  | _, _, _, .cons (k := k0) (b := b0) (v := v0) (d := d0) (r := r0) g1 g2 g3 t, .cons (b := y) (l₂ := ys) q r, nd => by
    rw [List.map_cons, List.nodup_cons] at nd
    by_cases e : k0 = k
    · have ey : y.1 = k := q.1.symm.trans e
      have rest : ys.map (putAt k u) = ys := by
        have no : ∀ z ∈ ys, z.1 ≠ k := fun z hz zk => nd.1 (by
          show k0 ∈ _
          rw [PrD.keys r, e, ← zk]
          exact List.mem_map.mpr ⟨z, hz, rfl⟩)
        refine (List.map_congr_left fun z hz => ?_).trans (List.map_id _)
        unfold putAt
        rw [if_neg (no z hz)]
        rfl
      refine ⟨(k0, b0, v) :: r0, ?_, ?_, fun x hx => .inr hx, List.nodup_cons.mpr nd⟩
      · have : storedH (y :: ys) k b u = (y.1, y.2.1, u) :: ys := by
          rw [storedH_old (p := y.2) (by simp [atKey, ey]), List.map_cons, rest]
          unfold putAt
          rw [if_pos ey]
        rw [this]
        exact .cons ⟨q.1, q.2.1, h4⟩ r
      · rw [putN, if_pos e]
        exact .cons g1 g2 h3 t
    · have ey : ¬ y.1 = k := fun z => e (q.1.trans z)
      obtain ⟨xs', a1, a2, a3, a4⟩ := put_look h1 h2 h3 h4 t r nd.2
      refine ⟨(k0, b0, v0) :: xs', ?_, ?_, fun x hx => ?_, List.nodup_cons.mpr ⟨fun hm => ?_, a4⟩⟩
      · have : storedH (y :: ys) k b u = y :: storedH ys k b u := by
          have ea : atKey (y :: ys) k = atKey ys k := by simp [atKey, List.find?_cons, ey]
          cases hk : atKey ys k with
          | none => rw [storedH_new (ea.trans hk), storedH_new hk, List.cons_append]
          | some p =>
            rw [storedH_old (ea.trans hk), storedH_old hk, List.map_cons]
            congr 1
            unfold putAt
            rw [if_neg ey]
        rw [this]
        exact .cons q a1
      · rw [putN, if_neg e]
        exact .cons g1 g2 g3 a2
      · rcases List.mem_cons.mp hx with z | z
        · exact .inr (by rw [z]; exact List.mem_cons_self)
        · rcases a3 x z with z | z
          · exact .inl z
          · exact .inr (List.mem_cons_of_mem _ z)
      · rcases a3 _ hm with z | z
        · exact e z
        · exact nd.1 z
end Kb
end TKr
section TKs
set_option Elab.async false
set_option autoImplicit false
set_option linter.all false
set_option maxRecDepth 100000
set_option maxHeartbeats 4000000
/-! Ks: dicts whose keys are tuples, as expressions and statements. -/
namespace Kb
open PySem PySem.Spec PyProof.Rows L2 PySem.W
def kLot (xs : List Str) : NestedKey := .tup (xs.map .text)
def kPair (xs : List Str) (h : Str) : NestedKey := .tup [kLot xs, .text h]
def kTwo (x y : Str) : NestedKey := .tup [.text x, .text y]
theorem datas_texts : ∀ xs : List Str, NestedKey.datas (xs.map .text) = xs.map .str
  | [] => rfl
  | x :: xs => by
    show NestedKey.data (.text x) :: NestedKey.datas (xs.map .text) = _
    rw [datas_texts xs]
    rfl
theorem data_lot (xs : List Str) : (kLot xs).data = eL xs := by
  show PyData.tuple (NestedKey.datas (xs.map .text)) = _
  rw [datas_texts]
  rfl
theorem data_pair (xs : List Str) (h : Str) : (kPair xs h).data = .tuple [eL xs, .str h] := by
  show PyData.tuple [(kLot xs).data, .str h] = _
  rw [data_lot]
theorem kLot_inj {xs ys : List Str} (h : kLot xs = kLot ys) : xs = ys := by
  have := congrArg NestedKey.data h
  rw [data_lot, data_lot] at this
  exact toks_lot (congrArg keyToks this)
theorem kPair_inj {xs ys : List Str} {a b : Str} (h : kPair xs a = kPair ys b) : xs = ys ∧ a = b := by
  unfold kPair at h
  injection h with h
  injection h with h1 h2
  injection h2 with h2 _
  injection h2 with h2
  exact ⟨kLot_inj h1, h2⟩
theorem kTwo_inj {x y a b : Str} (h : kTwo x y = kTwo a b) : x = a ∧ y = b := by
  unfold kTwo at h
  injection h with h
  injection h with h1 h2
  injection h1 with h1
  injection h2 with h2 _
  injection h2 with h2
  exact ⟨h1, h2⟩
theorem depth_texts : ∀ xs : List Str, NestedKey.depthAll (xs.map .text) = 0
  | [] => rfl
  | x :: xs => by
    show max (NestedKey.depth (.text x)) (NestedKey.depthAll (xs.map .text)) = 0
    rw [depth_texts xs]
    rfl
theorem depth_kLot (xs : List Str) : (kLot xs).depth ≤ 8 := by
  show NestedKey.depthAll (xs.map .text) + 1 ≤ 8
  rw [depth_texts]
  decide
theorem depth_kPair (xs : List Str) (h : Str) : (kPair xs h).depth ≤ 8 := by
  show max (NestedKey.depthAll (xs.map .text) + 1) (max 0 0) + 1 ≤ 8
  rw [depth_texts]
  decide
theorem depth_kTwo (x y : Str) : (kTwo x y).depth ≤ 8 := by
  show max 0 (max 0 0) + 1 ≤ 8
  decide

/-! ### readings -/
/-- the dict at a, the key y -/
def AtD (X : Cx) (H : Hp) (x y : V) (a : Addr) (xs : List (NestedKey × Addr × V)) (F : Hp) (kvs : List (NestedKey × PyData)) (k : NestedKey) : Prop :=
  ∃ b, x = .ref a ∧ y = .ref b ∧ H a = some (DyO X.prog X.w a xs) ∧ Same F H ∧ KtR F xs kvs ∧ Rp F (.ref b) k.data ∧ k.depth ≤ 8
def tDyGet (X : Cx) (td ty : TE) : TE := fun σ H Q => td σ H fun x H1 => ty σ H1 fun y H2 => ∃ a xs F kvs k d, AtD X H2 x y a xs F kvs k ∧ lookN kvs k = some d ∧ ∀ v, Rp F v d → Q v H2
def tDyIn (X : Cx) (f : Bool → Bool) (ty td : TE) : TE := fun σ H Q => ty σ H fun y H1 => td σ H1 fun x H2 => ∃ a xs F kvs k, AtD X H2 x y a xs F kvs k ∧ Q (.bl (f (lookN kvs k).isSome)) H2
def sDyPut (X : Cx) (td ty tv : TE) : TS := fun D σ H => tv σ H fun v H1 => td σ H1 fun x H2 => ty σ H2 fun y H3 => ∃ a xs F kvs k d, AtD X H3 x y a xs F kvs k ∧ Rp F v d ∧ kvs.length < 100000 ∧
  ∀ xs', KtR F xs' (putN kvs k d) → (∃ h, DyS X.prog X.w h a xs') → D.nx σ (upd H3 a (DyO X.prog X.w a xs'))
def tDyNew (X : Cx) : TE := fun _ H Q => ∀ p, H p = none → (∃ h, DyS X.prog X.w h p []) → Q (.ref p) (upd H p (DyO X.prog X.w p []))
section
variable {X : Cx} {o i value : Expr} {pos pos' : Pos} {td ty tv : TE}
theorem dy_full {pins : List (Addr × Obj)} {σ : L2.St} {H : Hp} {s : Shared} {x y : V} {a : Addr} {xs : List (NestedKey × Addr × V)} {F : Hp} {kvs : List (NestedKey × PyData)} {k : NestedKey} (I : Inv X pins σ H s) (h : AtD X H x y a xs F kvs k) :
    DyS X.prog X.w s.heap a xs ∧ ∃ b ys, x = .ref a ∧ y = .ref b ∧ PrD xs ys ∧ KtR F xs kvs ∧ s.heap.DictOfH (nestedKind X.prog X.w) a ys ∧ (nestedKind X.prog X.w).is s.heap k b := by
  obtain ⟨b, e1, e2, h3, fh, kt, h4, h5⟩ := h
  have R : DyS X.prog X.w s.heap a xs := (I.hok a _ h3).1
  obtain ⟨ys, pr, full⟩ := R.full I fh kt
  exact ⟨R, b, ys, e1, e2, pr, kt, full, nested_of I fh k _ _ h4 rfl, h5⟩
theorem room_in1 (hu : X.A.units + 64 < cLine) : (nestedKind X.prog X.w).room X.A.in1 := by
  show X.A.in1.units + 8 < cLine
  have : X.A.in1.units ≤ X.A.units + 1 := by simp [Around.in1]
  omega
theorem pe_dyget (hu : X.A.units + 64 < cLine) (ho : PE X o td) (hi : PE X i ty) (hs : NoSl i) : PE X (.Subscript o i pos) (tDyGet X td ty) := by
  refine ⟨fun pins s σ H Q I h => ?_⟩
  refine subD_of PySem.F.slot_dict_getitem.lookup hs (thn (ho.run pins s σ H _ I h) fun u s1 ⟨x, H1, I1, rx, q1⟩ => thn (hi.run pins s1 σ H1 _ I1 q1) fun iv s2 ⟨y, H2, I2, ry, q2⟩ => ?_)
  obtain ⟨a, xs, F, kvs, k, d, hat, hl, q⟩ := q2
  obtain ⟨R, b, ys, rfl, rfl, pr, kt, full, hk⟩ := dy_full I2 hat
  obtain rfl : u = Value.ref a := rx
  obtain rfl : iv = Value.ref b := ry
  obtain ⟨p, v, h1, h2, h3⟩ := (at_look kt pr).1 d hl
  exact ⟨full.typeIs, wpAny_getItem_heap (room_in1 hu) hk full h1 ⟨v, H2, I2.tok _, h2, q v h3⟩⟩
theorem pc_dyin (hu : X.A.units + 64 < cLine) (hi : PE X i ty) (ho : PE X o td) : PC X .In i o (tDyIn X (fun b => b) ty td) := by
  refine ⟨fun pins s σ H Q I h => ?_⟩
  refine thn (hi.run pins s σ H _ I h) fun iv s1 ⟨y, H1, I1, ry, q1⟩ => thn (ho.run pins s1 σ H1 _ I1 q1) fun u s2 ⟨x, H2, I2, rx, q2⟩ => ?_
  obtain ⟨a, xs, F, kvs, k, hat, q⟩ := q2
  obtain ⟨R, b, ys, rfl, rfl, pr, kt, full, hk⟩ := dy_full I2 hat
  obtain rfl : u = Value.ref a := rx
  obtain rfl : iv = Value.ref b := ry
  refine wpAny_in_heap (room_in1 hu) hk R.nm full ⟨.bl _, H2, I2.tok _, rfl, ?_⟩
  have z := at_look (k := k) kt pr
  cases e : lookN kvs k with
  | none =>
    rw [e] at q
    rw [z.2 e]
    exact q
  | some d =>
    obtain ⟨p, v, h1, _⟩ := z.1 d e
    rw [e] at q
    rw [h1]
    exact q
theorem ps_dyput (hu : X.A.units + 64 < cLine) (ho : PE X o td) (hi : PE X i ty) (hv : PE X value tv) (hs : swapsWith value (some (.Subscript o i pos')) pos.line X.env = pure false) : PS X (.Assign [.Subscript o i pos'] value pos) (sDyPut X td ty tv) := by
  refine ⟨fun pins s σ H D I h => ?_⟩
  refine wpAny_Assign_Subscript (thn (hv.run pins s σ H _ I h) fun r s1 ⟨v, H1, I1, rv, q1⟩ => thn (ho.run pins s1 σ H1 _ I1 q1) fun u s2 ⟨x, H2, I2, rx, q2⟩ => thn (hi.run pins s2 σ H2 _ I2 q2) fun iv s3 ⟨y, H3, I3, ry, q3⟩ => ?_) hs
  obtain ⟨a, xs, F, kvs, k, d, hat, hd, hz, q⟩ := q3
  obtain ⟨R, b, ys, rfl, rfl, pr, kt, full, hk⟩ := dy_full I3 hat
  obtain ⟨b0, _, eb, hHa, fh, _, hkd, hk8⟩ := id hat
  cases eb
  obtain rfl : u = Value.ref a := rx
  obtain rfl : iv = Value.ref b := ry
  have hyl : ys.length = kvs.length := by
    have e1 := congrArg List.length (PrD.keys pr)
    have e2 := kt.len
    rw [List.length_map, List.length_map] at e1
    omega
  refine wpAny_setItem_heap (room_in1 hu) hk full (fun h' hm sb => ?_) (by rw [hyl]; exact small (by omega))
  obtain ⟨xs', a1, a2, a3, a4⟩ := put_look hkd hk8 hd rv kt pr R.nd
  obtain ⟨o, es, ep, ho', hx', hd', he', _, _⟩ := id hm
  have R' : DyS X.prog X.w h' a xs' := ⟨⟨_, a1, o, es, ep, ho', hx', hd', he'⟩, a4, R.nm⟩
  refine ⟨σ, upd H3 a (DyO X.prog X.w a xs'), I3.write (by rw [hHa]; trivial) (.inl rfl) (fun c o hc e => (sb.2 c hc).trans e) ⟨o, ho'⟩ (dyO_new R'), q xs' a2 ⟨h', R'⟩⟩
theorem pe_dynew : PE X (.Dict [] [] pos) (tDyNew X) := ⟨fun pins s σ H Q I h => by
  have R : DyS X.prog X.w (s.heap.push { cls := .type "dict", data := .dict #[] }) s.heap.objs.size [] := ⟨⟨[], .nil, _, #[], 0, Heap.get?_push_size _ rfl, ⟨rfl, rfl, rfl⟩, rfl, rfl⟩, List.nodup_nil, beq_eq_false_iff_ne.mpr (Ne.symm (Nat.ne_of_lt I.big))⟩
  exact wpAny_Dict_empty ⟨.ref s.heap.objs.size, _, I.laid (a := s.heap.objs.size) (o := DyO X.prog X.w s.heap.objs.size []) (t' := s.toks) (fun _ _ q => Heap.get?_push_of_some _ q) (Nat.le_refl _) (dyO_new R), rfl, h _ (I.hok.fresh (Nat.le_refl _)) ⟨_, R⟩⟩⟩
/-- len(d) -/
def rDyLen (P : Program) (w : World) : List V → Hp → VK → Prop := fun vs H Q => ∃ a xs F kvs, vs = [V.ref a] ∧ H a = some (DyO P w a xs) ∧ Same F H ∧ KtR F xs kvs ∧ kvs.length < 100000 ∧ Q (.int (kvs.length : Int)) H
theorem cr_dyLen : CallR X (.builtin "len") (rDyLen X.prog X.w) := by
  intro pins s σ H vs us Q I r h
  obtain ⟨a, xs, F, kvs, rfl, ha, fh, kt, hz, q⟩ := h
  rw [Vals.ref1 r]
  have R : DyS X.prog X.w s.heap a xs := (I.hok a _ ha).1
  obtain ⟨ys, pr, full⟩ := R.full I fh kt
  have hyl : ys.length = kvs.length := by
    have e1 := congrArg List.length (PrD.keys pr)
    have e2 := kt.len
    rw [List.length_map, List.length_map] at e1
    omega
  exact call_len_dictH R.nm full (by omega) ⟨.int (kvs.length : Int), H, (I.tok _).tok _, ⟨_, by rw [hyl]⟩, q⟩
/-- list(d) -/
theorem src_raw {P : Program} {w : World} {d : Addr} {es : Array DictEntry} {ep : Nat} (lo : (d == sysModules) = false) : KdlSrc P w "dict" d d es.size (fun i v => ∃ hi : i < es.size, v = es[i].key) (fun h => h.DictRaw d es ep) where
  type := fun _ m => m.typeIs
  there := fun _ ⟨o, ho, _⟩ => ⟨Heap.lt_size ho, Heap.lt_size ho⟩
  keep := fun _ _ m k => m.at fun o e => k d (.inl rfl) o e
  notList := by decide
  notTuple := by decide
  hint := fun _ _ _ _ m q => kdl_hint_dict m.typeIs q
  iter := fun _ _ hh m => ⟨_, _, (fun _ _ q => wpAny_pyIter_dict_raw lo m q), Walks.rawKeys hh _ d (Nat.ne_of_lt (by obtain ⟨o, ho, _⟩ := m; exact Heap.lt_size ho)) es ep, ⟨⟨_, Heap.get?_push_size _ rfl, rfl, rfl⟩, m.at fun _ e => Heap.get?_push_of_some _ e⟩⟩
def rDyList (P : Program) (w : World) : List V → Hp → VK → Prop := fun vs H Q => ∃ a xs F kvs, vs = [V.ref a] ∧ H a = some (DyO P w a xs) ∧ Same F H ∧ KtR F xs kvs ∧ kvs.length < 100000 ∧ ∀ p ys, H p = none → RpL F ys (kvs.map fun e => e.1.data) → Q (.ref p) (upd H p (.lst ys))
theorem cr_dyList (hc : X.calm = true) : CallR X (.type "list") (rDyList X.prog X.w) := by
  intro pins s σ H vs us Q I r h
  obtain ⟨a, xs, F, kvs, rfl, ha, fh, kt, hz, q⟩ := h
  rw [Vals.ref1 r]
  have R : DyS X.prog X.w s.heap a xs := (I.hok a _ ha).1
  obtain ⟨ys, pr, o, es, ep, ho, hx, hd, he⟩ := R.ex
  have hyl : ys.length = xs.length := by
    have e1 := congrArg List.length (PrD.keys pr)
    rw [List.length_map, List.length_map] at e1
    exact e1.symm
  have hes : es.size = xs.length := by rw [← Array.length_toList, he, List.length_map, hyl]
  refine kdl_call (src_raw (es := es) (ep := ep) R.nm) (I.ok.hd hc) ⟨o, ho, hx, hd⟩ (by rw [hes, kt.len]; exact small (by omega)) fun h' tk acc c k hg hit => ?_
  have keys : ∀ {xs : List (NestedKey × Addr × V)} {ys : List (NestedKey × Addr × Value)}, PrD xs ys → (ys.map (entryOfKey (nestedKind X.prog X.w))).map (fun e => e.key) = xs.map fun e => Value.ref e.2.1 := by
    intro xs ys p
    induction p with
    | nil => rfl
    | cons q _ ih =>
      rw [List.map_cons, List.map_cons, List.map_cons, ih]
      show Value.ref _ :: _ = _
      rw [q.2.1]
  have hek : es.toList.map (fun e => e.key) = xs.map fun e => Value.ref e.2.1 := by rw [he]; exact keys pr
  have hacc : acc.toList = xs.map fun e => Value.ref e.2.1 := by
    rw [← hek]
    refine List.ext_getElem? fun i => ?_
    rw [Array.getElem?_toList, List.getElem?_map, Array.getElem?_toList]
    by_cases hi : i < es.size
    · have h2 : i < acc.size := by rw [hit.1]; exact hi
      obtain ⟨hi', e'⟩ := hit.2 i acc[i] (Array.getElem?_eq_getElem h2)
      rw [Array.getElem?_eq_getElem h2, Array.getElem?_eq_getElem hi, e']
      rfl
    · rw [Array.getElem?_eq_none (by rw [hit.1]; omega), Array.getElem?_eq_none (by omega)]
      rfl
  have hv : ∀ xs : List (NestedKey × Addr × V), Vals (xs.map fun e => V.ref e.2.1) (xs.map fun e => Value.ref e.2.1) := by
    intro xs
    induction xs with
    | nil => exact .nil
    | cons x xs ih => exact .cons rfl ih
  have hr : ∀ {xs : List (NestedKey × Addr × V)} {kvs : List (NestedKey × PyData)}, KtR F xs kvs → RpL F (xs.map fun e => V.ref e.2.1) (kvs.map fun e => e.1.data) := by
    intro xs kvs kt
    induction kt with
    | nil => exact .nil
    | cons h1 _ _ _ ih => exact .cons h1 ih
  have hlen : (xs.map fun e => V.ref e.2.1).length ≤ sizeLine := by rw [List.length_map, kt.len]; exact small (by omega)
  exact ⟨.ref s.heap.objs.size, upd H s.heap.objs.size (.lst (xs.map fun e => V.ref e.2.1)), I.laid (t' := tk) k (Nat.le_refl _) ⟨hlen, acc.toList, c, by rw [hacc]; exact hv xs, by rw [hg]⟩, rfl, q _ _ (I.hok.fresh (Nat.le_refl _)) (hr kt)⟩
end
end Kb
end TKs
section TKt
set_option Elab.async false
set_option autoImplicit false
set_option linter.all false
set_option maxRecDepth 100000
set_option maxHeartbeats 4000000
/-! Kt: tuple-keyed dicts over the abstract environment. -/
namespace Kb
open PySem PySem.Spec PyProof.Rows L2 PySem.W
section
variable {X : Cx} {Z : Zn} {F0 G : Hp} {ρ ρ1 ρ2 : En} {e a b c tg : Expr} {es : List Expr} {pos p : Pos} {t : Ty} {m : Mt} {d : PyData} {ds : List PyData} {Φ Ψ : Po} {rest : List Stmt} {kvs : List (NestedKey × PyData)} {k : NestedKey}
theorem vN (h : PE X e (tO Z ρ (tyD X.prog X.w kvs).od)) : PE X e (tO Z ρ (mD X.prog X.w kvs).od) := od.imp (fun F H v fh zo h => by
  obtain ⟨q, xs, h1, h2, h3, h4⟩ := (show (tyD X.prog X.w kvs).ok F v from h)
  exact ⟨q, _, h1, fh _ _ h2, ⟨xs, rfl, h3, h4⟩, fun z => by rw [zo _ z] at h2; cases h2⟩) h
theorem frzN {P : Program} {w : World} (kvs : List (NestedKey × PyData)) : ∀ F p o, F p = none → (mD P w kvs).ok p F o → (tyD P w kvs).ok (upd F p o) (.ref p) := fun F p o n ⟨xs, h1, h2, h3⟩ => by
  subst h1
  exact ⟨p, xs, rfl, upd_same, h2.mono (same_new n), h3⟩
theorem nN (h : PE X e (tN Z ρ (mD X.prog X.w kvs))) : PE X e (tO Z ρ (tyD X.prog X.w kvs).od) := h.imp fun σ H Q ⟨F0, G, F, s, k⟩ => ⟨F0, G, F, s, fun p o F' H' g n1 n2 n3 ok => by
  obtain ⟨xs, h1, h2, h3⟩ := ok
  subst h1
  exact k _ _ H' (g.keep n1 n3 n2) ⟨p, xs, rfl, upd_same, h2.mono (same_new n2), h3⟩⟩
theorem dvbN (i : Nat) {x : Str} (hN : X.N[i]? = some x := by rfl) (h : ρ[i]? = some (some (.mu (mD X.prog X.w kvs))) := by rfl) (hv : Vis X.env.scope x := by first | exact Or.inl rfl | exact Or.inr (Or.inl rfl) | exact Or.inr (Or.inr rfl))
    (hd : (x == ("__debug__" : Str)) = false := by decide) (hcd : (x == ("__classdict__" : Str)) = false := by decide) : PE X (.Name x pos) (tO Z ρ (tyD X.prog X.w kvs).bo) :=
  (pe_var hN hv hd hcd).imp fun σ H Q ⟨F0, G, F, s, k⟩ => by
    obtain ⟨p, o, h1, h2, ⟨xs, h3, h4, h5⟩, _, _, h6⟩ := s.mu i _ h
    subst h3
    exact ⟨_, h1, k _ F H s.self ⟨p, xs, rfl, by rw [clr_at h6]; exact h2, h4.mono (clr_of s.fh s.zo), h5⟩⟩
theorem dnewN : PE X (.Dict [] [] pos) (tN Z ρ (mD X.prog X.w [])) := pe_dynew.imp fun σ H Q ⟨F0, G, F, s, k⟩ => fun p hp wit => k p _ F _ (Go.new s.fh s.zk hp) hp (s.fh.free hp) upd_same ⟨[], rfl, .nil, wit⟩
theorem mD_at {F H : Hp} {v : V} (h : ((mD X.prog X.w kvs).od (Z := Z)).ok F H v) : ∃ p xs, v = .ref p ∧ H p = some (DyO X.prog X.w p xs) ∧ KtR F xs kvs ∧ ¬ Z.out p := by
  obtain ⟨p, o, h1, h2, ⟨xs, h3, h4, _⟩, h5⟩ := h
  subst h3
  exact ⟨p, xs, h1, h2, h4, h5⟩
theorem key_ref {F : Hp} {v : V} {ks : List NestedKey} (h : Rp F v (NestedKey.data (.tup ks))) : ∃ b, v = .ref b := by
  cases (show Rp F v (.tuple (NestedKey.datas ks)) from h) with
  | tup _ _ _ => exact ⟨_, rfl⟩
def isTup : NestedKey → Prop
  | .tup _ => True
  | _ => False
theorem key_ref' {F : Hp} {v : V} (hk : isTup k) (h : Rp F v k.data) : ∃ b, v = .ref b := by
  cases k with
  | tup ks => exact key_ref h
  | _ => exact hk.elim
/-- d[k] -/
theorem dgetN (hu : X.A.units + 64 < cLine) (ha : PE X a (tO Z ρ (mD X.prog X.w kvs).od)) (hb : PE X b (tD Z ρ k.data)) (hk : isTup k) (h8 : k.depth ≤ 8) (hl : lookN kvs k = some d) (hs : NoSl b := by exact fun _ _ => rfl) : PE X (.Subscript a b pos) (tD Z ρ d) :=
  (pe_dyget hu ha hb hs).imp fun σ H Q h => tO.use h fun F0 G F H1 v s k1 q => ⟨F0, G, F, s, fun u F2 H2 g2 k2 => by
    obtain ⟨p, xs, rfl, h3, h4, h5⟩ := mD_at (((mD X.prog X.w kvs).od (Z := Z)).mv g2 k1)
    obtain ⟨b, rfl⟩ := key_ref' hk k2
    exact ⟨p, xs, F2, kvs, k, d, ⟨b, rfl, rfl, h3, g2.fh, h4, k2, h8⟩, hl, fun v r => q v F2 H2 g2 r⟩⟩
/-- k in d -/
theorem pinN (hu : X.A.units + 64 < cLine) (ha : PE X a (tD Z ρ k.data)) (hb : PE X b (tO Z ρ (mD X.prog X.w kvs).od)) (hk : isTup k) (h8 : k.depth ≤ 8) (hm : behindInMarks .In b = false := by rfl) : PT X (.Compare a [.In] [b] pos) (tQ Z ρ (lookN kvs k).isSome) :=
  (pt_cmp (pc_dyin hu ha hb) hm).imp fun σ H Q ⟨F0, G, F, s, q⟩ => ⟨F0, G, F, s, fun u F1 H1 g1 k1 => ⟨F0, G, F1, s.mv g1, fun v F2 H2 g2 k2 => by
    obtain ⟨p, xs, rfl, h3, h4, h5⟩ := mD_at k2
    obtain ⟨b, rfl⟩ := key_ref' hk k1
    exact ⟨p, xs, F2, kvs, k, ⟨b, rfl, rfl, h3, g2.fh, h4, Rp.mono g2.f _ _ k1, h8⟩, _, rfl, q _ F2 H2 (g1.tr g2) rfl⟩⟩⟩
/-- d[k] = e, d this frame's own -/
theorem sputN (i : Nat) {y : Str} {px pos' : Pos} (hu : X.A.units + 64 < cLine) (he : PE X e (tD Z ρ d)) (hb : PE X b (tD Z ρ k.data)) (hk : isTup k) (h8 : k.depth ≤ 8) (hz : kvs.length < 100000) (h2 : PSs X rest (tS Z F0 G (ρ.set i (some (.mu (mD X.prog X.w (putN kvs k d))))) Φ)) (hi : ρ[i]? = some (some (.mu (mD X.prog X.w kvs))) := by rfl) (hN : X.N[i]? = some y := by rfl)
    (hv : Vis X.env.scope y := by first | exact Or.inl rfl | exact Or.inr (Or.inl rfl) | exact Or.inr (Or.inr rfl)) (hd : (y == ("__debug__" : Str)) = false := by decide) (hcd : (y == ("__classdict__" : Str)) = false := by decide)
    (hs : swapsWith e (some (.Subscript (.Name y px) b pos')) pos.line X.env = pure false := by rfl) : PSs X (.Assign [.Subscript (.Name y px) b pos'] e pos :: rest) (tS Z F0 G ρ Φ) :=
  sone (ps_dyput hu (pe_var hN hv hd hcd) hb he hs) h2 fun D σ H ⟨F, s, k1, k2⟩ => by
    obtain ⟨q, o, h3, h4, ⟨xs, h5, h6, h10⟩, h7, h8', h9⟩ := s.mu i _ hi
    subst h5
    refine ⟨F0, G, F, s, fun v F1 H1 g1 ok => ⟨.ref q, h3, F0, G, F1, s.mv g1, fun u F2 H2 g2 ok2 => ?_⟩⟩
    have g := g1.tr g2
    obtain ⟨b, rfl⟩ := key_ref' hk ok2
    refine ⟨q, xs, F2, kvs, k, d, ⟨b, rfl, rfl, g.h q _ h9 h4, g2.fh, h6.mono g.f, ok2, h8⟩, Rp.mono g2.f _ _ ok, hz, fun xs' kt wit => ?_⟩
    exact k1 _ _ F2 _ rfl g.f (((s.mv g1).mv g2).chg hi h3 ⟨xs', rfl, kt, wit⟩)
variable (T : Bi X.mg)
include T
theorem dlenN (ha : PE X a (tO Z ρ (mD X.prog X.w kvs).od)) (hz : kvs.length < 100000) (hg : Gl X "len" := by rfl) (hs : starEach [a] X.env = (false, eval a X.env) :: starEach [] X.env := by rfl) : PE X (.Call (.Name "len" p) [a] [] pos) (tD Z ρ (.int (kvs.length : Int))) :=
  (pe_callB cr_dyLen hg T.len PySem.boot_len (pa1 ha hs) (he := hs)).imp (cb_imp (X := X) fun F0 G F H σ vs Q s k1 q => by
    cases k1 with
    | cons h1 h2 =>
      cases h2
      obtain ⟨p, xs, rfl, h3, h4, h5⟩ := mD_at h1
      exact ⟨p, xs, F, kvs, rfl, h3, s.fh, h4, hz, q _ F H s.self (.int _)⟩)
theorem dlistN (hc : X.calm = true) (ha : PE X a (tO Z ρ (mD X.prog X.w kvs).od)) (hz : kvs.length < 100000) (hg : Gl X "list" := by rfl) (hs : starEach [a] X.env = (false, eval a X.env) :: starEach [] X.env := by rfl) : PE X (.Call (.Name "list" p) [a] [] pos) (tN Z ρ (mL (kvs.map fun e => e.1.data))) :=
  (pe_callTy (cr_dyList hc) hg T.list (by decide +kernel) (pa1 ha hs) (he := hs)).imp (cb_impN (X := X) fun F0 G F H σ vs Q s k1 q => by
    cases k1 with
    | cons h1 h2 =>
      cases h2
      obtain ⟨p, xs, rfl, h3, h4, h5⟩ := mD_at h1
      exact ⟨p, xs, F, kvs, rfl, h3, s.fh, h4, hz, fun l ys hl r => q l _ F _ (Go.new s.fh s.zk hl) hl (s.fh.free hl) upd_same ⟨ys, rfl, r⟩⟩)
end
end Kb
end TKt
section TKu
set_option Elab.async false
set_option autoImplicit false
set_option linter.all false
set_option maxRecDepth 100000
set_option maxHeartbeats 4000000
/-! Ku: enumerate and zip over lists and tuples. -/
namespace Kb
open PySem PySem.Spec PyProof.Rows L2

/-! ### a list (true) or a tuple -/
def itH (b : Bool) (h : Heap) (it a : Addr) (i : Nat) : Prop := match b with
  | true => h.IsListIter it a i
  | false => h.IsTupleIter it a i
def isH (b : Bool) (h : Heap) (a : Addr) (us : Array Value) : Prop := match b with
  | true => h.IsList a us
  | false => h.IsTuple a us
def sqH (b : Bool) (K : PySem.W.Frag) (H : Hp) (a : Addr) (xs : List V) : Prop := match b with
  | true => SqL K H a xs
  | false => SqT K H a xs
def itO (b : Bool) (a : Addr) : Obj := match b with
  | true => { cls := .type "list_iterator", data := .fields #[.ref a, .int 0 0] }
  | false => { cls := .type "tuple_iterator", data := .fields #[.ref a, .int 0 0] }
theorem itH.obj {b : Bool} {h : Heap} {it a : Addr} {i : Nat} (x : itH b h it a i) : ∃ o, h.get? it = some o ∧ ∀ v, o.data ≠ .cell v := by
  cases b <;> exact let ⟨o, ho, _, hd⟩ := x; ⟨o, ho, fun v z => by rw [hd] at z; cases z⟩
theorem itH.at {b : Bool} {h h' : Heap} {it a : Addr} {i : Nat} (x : itH b h it a i) (k : ∀ o, h.get? it = some o → h'.get? it = some o) : itH b h' it a i := by
  cases b <;> exact let ⟨o, ho, r⟩ := x; ⟨o, k o ho, r⟩
theorem itH.zero {b : Bool} {h : Heap} {it a : Addr} (e : h.get? it = some (itO b a)) : itH b h it a 0 := by
  cases b <;> exact ⟨_, e, rfl, rfl⟩
theorem isH.lt {b : Bool} {h : Heap} {a : Addr} {us : Array Value} (x : isH b h a us) : a < h.objs.size := by
  cases b <;> exact let ⟨o, ho, _⟩ := x; Heap.lt_size ho
theorem sqH.get {X : Cx} {pins : List (Addr × Obj)} {σ : L2.St} {H : Hp} {s : Shared} {b : Bool} {a : Addr} {xs : List V} (I : Inv X pins σ H s) (h : sqH b X.K H a xs) : ∃ its : List Value, Vals xs its ∧ isH b s.heap a its.toArray := by
  cases b with
  | true =>
    obtain ⟨its, r, p, _⟩ := I.list h
    exact ⟨its, r, p.isList⟩
  | false =>
    obtain ⟨its, r, ⟨o, h1, h2, n, h3⟩, _⟩ := I.tuple h
    exact ⟨its, r, o, h1, h2, n, h3⟩
theorem sqH.one {X : Cx} {pins : List (Addr × Obj)} {σ : L2.St} {H : Hp} {s : Shared} {b : Bool} {a : Addr} {xs ys : List V} (I : Inv X pins σ H s) (h : sqH b X.K H a xs) (h' : sqH b X.K H a ys) : xs = ys := by
  cases b with
  | true => exact I.list_inj h h'
  | false => exact I.tuple_inj h h'
theorem drawsH {P : Program} {w : World} {A : Around} (hh : A.handled = none) (b : Bool) (it a : Addr) (hne : a ≠ it) (us : Array Value) : Draws P w A it [it, a] us.size (fun i v => us[i]? = some v) (fun i h => itH b h it a i ∧ isH b h a us) := by
  cases b with
  | true => exact Draws.list hh it a hne us
  | false => exact Draws.tuple hh it a hne us
theorem beginsH (b : Bool) (a : Addr) (us : Array Value) : Begins (.ref a) (itO b a) (fun h => isH b h a us) := by
  cases b with
  | true => exact begins_list a us
  | false => exact begins_tuple a us

/-! ### enumerate -/
theorem enum_new {v : Value} {o : Obj} {H : Heap → Prop} (B : Begins v o H) :
    Meets (Builtin.«enumerate.__new__» ⟨[.type "enumerate", v], []⟩) (fun _ R s => H s.heap ∧
      R (.ok (.ret (.ref (s.heap.push o).objs.size))) { s with heap := (s.heap.push o).push { cls := .type "enumerate", data := .fields #[.none, .bool false, .ref s.heap.objs.size, rawInt 0, .none, .none] } }) :=
  .of_wp fun prog w A R s h => by
    obtain ⟨hp, g, d, tk, os⟩ := s; obtain ⟨h1, h⟩ := h
    have hsub := sub_enumerate
    have q1 : ∀ {A' : Around} {E : Value → Shared → Prop} {Q : Value → Shared → Prop}, Q (.ref hp.objs.size) ⟨hp.push o, g, d, tk, os⟩ → wpAny (model prog w) A' (pyIter v) Q E ⟨hp, g, d, tk, os⟩ := fun q => B.iter prog w _ _ ⟨hp, g, d, tk, os⟩ _ h1 q
    wp_walk using q1
    refine wpAny_stack_any fun st => wpAny_pure ?_
    split
    · rename_i c _ _ _ _ _
      cases (c == Value.type "enumerate") <;> (wp_walk using q1; exact ⟨_, rfl, h⟩)
    · wp_walk using q1; exact ⟨_, rfl, h⟩
section
variable {prog : Program} {w : World} {A : Around} {E : Value → Shared → Prop} {s : Shared}
theorem enum_call {v : Value} {o : Obj} {H : Heap → Prop} {Q : Value → Shared → Prop} (B : Begins v o H) (h1 : H s.heap) (h : ∀ h', IsEnum h' (s.heap.objs.size + 1) s.heap.objs.size 0 .none → h'.get? s.heap.objs.size = some o →
      (∀ b o, s.heap.get? b = some o → h'.get? b = some o) → Q (.ref (s.heap.objs.size + 1)) { s with heap := h' }) : wpAny (model prog w) A (call (.type "enumerate") [v]) Q E s := by
  refine callType_new F.called_enumerate (by decide) (F.typeCall_enumerate_1 _) (F.newCall_enumerate_1 _) (fun obj => F.args_object_init_2 obj _) F.entry_enumerate_new (enum_new B) ⟨h1, ?_⟩
  have hz : (s.heap.push o).objs.size = s.heap.objs.size + 1 := Heap.size_push ..
  show _ ∧ _; rw [hz]
  have he : IsEnum ((s.heap.push o).push { cls := .type "enumerate", data := .fields #[.none, .bool false, .ref s.heap.objs.size, rawInt 0, .none, .none] }) (s.heap.objs.size + 1) s.heap.objs.size 0 .none := by
    have q := Heap.get?_push_size (s.heap.push o) (o := { cls := .type "enumerate", data := .fields #[.none, .bool false, .ref s.heap.objs.size, rawInt 0, .none, .none] }) rfl
    rwa [hz] at q
  exact ⟨⟨_, he, rfl⟩, h _ he (Heap.get?_push_of_some _ (Heap.get?_push_size _ B.free)) fun b o x => Heap.get?_push_of_some _ (Heap.get?_push_of_some _ x)⟩
end
def ItE (b : Bool) (K : PySem.W.Frag) (a : Addr) : It :=
  ⟨fun i H => ∃ (xs : List V) (x : V), sqH b K H a xs ∧ xs[i]? = some x, fun i H v H' => ∃ T x, v = .ref T ∧ H T = none ∧ H' = upd H T (.tup [.int (i : Nat), x]) ∧ ∀ xs, sqH b K H a xs → xs[i]? = some x, fun i H => ∃ xs : List V, sqH b K H a xs ∧ xs.length = i⟩
theorem turnE {P : Program} {w : World} {K : PySem.W.Frag} {elts : List Expr} {kk : Nat} {tpos : Pos} (b : Bool) (a e it : Addr) (hae : a ≠ e) (hai : a ≠ it) :
    Turn P w K (.Tuple elts kk tpos) (ItE b K a) [e, it] e (fun i h => (∃ old, IsEnum h e it ((i : Nat) : Int) old) ∧ itH b h it a i ∧ e ≠ it) where
  mem := by simp
  obj := fun i h st c hc => by
    obtain ⟨⟨old, he⟩, hi, _⟩ := st
    rcases (show c = e ∨ c = it by simpa using hc) with z | z
    · rw [z]; exact ⟨_, he, fun v q => nomatch q⟩
    · rw [z]; exact hi.obj
  keep := fun i h h' st k => let ⟨⟨old, he⟩, hi, hne⟩ := st; ⟨⟨old, k e (by simp) _ he⟩, hi.at fun o q => k it (by simp) o q, hne⟩
  item := by
    intro X hP hw hK hc i pins s σ H E I hf st hg
    subst hP hw hK
    obtain ⟨⟨old, he⟩, hit, hne⟩ := st
    obtain ⟨xs, x, hq, hx⟩ := hg
    obtain ⟨its, rv, p⟩ := hq.get I
    obtain ⟨u, hu, ru⟩ := rv.get hx
    have hel : e < s.heap.objs.size := Heap.lt_size he
    have hil : it < s.heap.objs.size := by obtain ⟨_, q, _⟩ := hit.obj; exact Heap.lt_size q
    have hil' : i < its.toArray.size := by rw [List.size_toArray]; exact (List.getElem?_eq_some_iff.mp hu).1
    refine wpAny_pyNext_enum_itemD (drawsH (by have := I.ok.hd hc; simpa using this) b it a hai its.toArray) he ⟨hit, p⟩ hil' hne (by simp only [List.mem_cons, List.not_mem_nil, or_false, not_or]; exact ⟨hne, Ne.symm hae⟩) fun y h' tk hy ho hst hT hsz hk => ?_
    have ey : y = u := by
      have hy' : its[i]? = some y := by simpa using hy
      rw [hu] at hy'
      exact (Option.some.inj hy').symm
    subst ey
    refine ⟨_, rfl, wpAny_letOwnedTupleGo_enum (s := { s with heap := h', toks := tk + 1 }) ho fun h2 he' sb => ?_⟩
    have hT2 : h2.get? s.heap.objs.size = some { cls := .type "tuple", data := .seq #[.int i tk, y] } := (sb.2 _ (Nat.ne_of_gt hel)).trans hT
    have I1 : Inv X pins σ (upd H s.heap.objs.size (.tup [.int (i : Nat), x])) { s with heap := h2, toks := tk + 1 } :=
      I.turnedNew (ch := [e, it]) (fun b ob hb q => (sb.2 b (fun z => hb (by simp [z]))).trans (hk b ob (fun z => hb (by simp [z])) (fun z => hb (by simp [z])) q)) hf (Nat.le_refl _) ⟨by show 2 ≤ sizeLine; decide, [.int i tk, y], .cons ⟨_, rfl⟩ (.cons ru .nil), ⟨_, hT2, rfl, _, rfl⟩⟩
    refine ⟨.ref s.heap.objs.size, _, I1, rfl, ⟨_, x, rfl, I.hok.fresh (Nat.le_refl _), rfl, fun ys hy => by rw [hy.one I hq]; exact hx⟩, ⟨⟨y, ?_⟩, hst.1.at fun o q => (sb.2 it (Ne.symm hne)).trans q, hne⟩, fun c hcm => ?_⟩
    · rw [show ((i + 1 : Nat) : Int) = (i : Int) + 1 by omega]; exact he'
    · have hlt : c < s.heap.objs.size := by
        rcases (show c = e ∨ c = it by simpa using hcm) with z | z
        · rw [z]; exact hel
        · rw [z]; exact hil
      rw [upd_ne (Nat.ne_of_lt hlt)]
      exact (hf c hcm).1
  done := by
    intro X hP hw hK hc i pins s σ H E I hf st hg
    subst hP hw hK
    obtain ⟨⟨old, he⟩, hit, hne⟩ := st
    obtain ⟨xs, hq, hx⟩ := hg
    obtain ⟨its, rv, p⟩ := hq.get I
    obtain ⟨f0, f1, f2, f3, f4, f5⟩ := hf it (by simp)
    have hi : i = its.toArray.size := by rw [List.size_toArray, ← rv.length]; exact hx.symm
    exact wpAny_pyNext_enum_endD (drawsH (by have := I.ok.hd hc; simpa using this) b it a hai its.toArray) he (by rw [← hi]; exact ⟨hit, p⟩) fun h' eb => ⟨rfl, I.turned (t' := s.toks) (fun c o hc q => eb c o hc q) f0 f1 f3 f4 f5⟩
  self := fun A i s Q E st h => let ⟨⟨_, he⟩, _⟩ := st; wpAny_pyIter_enum he h
end Kb
end TKu
section TKv
set_option Elab.async false
set_option autoImplicit false
set_option linter.all false
set_option maxRecDepth 100000
set_option maxHeartbeats 4000000
/-! Kv: zip over lists and tuples; enumerate and zip over the abstract environment. -/
namespace Kb
open PySem PySem.Spec PyProof.Rows L2
theorem units3 (A : Around) : True := trivial
def ItZ (b c : Bool) (K : PySem.W.Frag) (a a2 : Addr) : It :=
  ⟨fun i H => ∃ (xs ys : List V) (x y : V), sqH b K H a xs ∧ sqH c K H a2 ys ∧ xs[i]? = some x ∧ ys[i]? = some y,
    fun i H v H' => ∃ T x y, v = .ref T ∧ H T = none ∧ H' = upd H T (.tup [x, y]) ∧ (∀ xs, sqH b K H a xs → xs[i]? = some x) ∧ ∀ ys, sqH c K H a2 ys → ys[i]? = some y,
    fun i H => ∃ xs ys : List V, sqH b K H a xs ∧ sqH c K H a2 ys ∧ xs.length = i ∧ ys.length = i⟩
theorem turnZ {P : Program} {w : World} {K : PySem.W.Frag} {elts : List Expr} {kk : Nat} {tpos : Pos} (b c : Bool) {a a2 z TI TO i1 i2 : Addr} (S : ZipSep2 z TI TO i1 i2 [i1, a] [i2, a2]) (h1a : a ≠ i1) (h2a : a2 ≠ i2) (h12 : i1 ≠ i2) :
    Turn P w K (.Tuple elts kk tpos) (ItZ b c K a a2) [z, TI, TO, i1, i2] z (fun i h => IsZip h z TI TO .none ∧ IsTupOf2 h TI (.ref i1) (.ref i2) ∧ (∃ x y, IsTupOf2 h TO x y) ∧ itH b h i1 a i ∧ itH c h i2 a2 i) where
  mem := by simp
  obj := fun i h st d hd => by
    obtain ⟨hz, hTI, ⟨x, y, hTO⟩, s1, s2⟩ := st
    rcases (show d = z ∨ d = TI ∨ d = TO ∨ d = i1 ∨ d = i2 by simpa using hd) with q | q | q | q | q
    · rw [q]; exact ⟨_, hz, fun v q => nomatch q⟩
    · rw [q]; exact ⟨_, hTI, fun v q => nomatch q⟩
    · rw [q]; exact ⟨_, hTO, fun v q => nomatch q⟩
    · rw [q]; exact s1.obj
    · rw [q]; exact s2.obj
  keep := fun i h h' st k => by
    obtain ⟨hz, hTI, ⟨x, y, hTO⟩, s1, s2⟩ := st
    exact ⟨k z (by simp) _ hz, k TI (by simp) _ hTI, ⟨x, y, k TO (by simp) _ hTO⟩, s1.at fun o q => k i1 (by simp) o q, s2.at fun o q => k i2 (by simp) o q⟩
  item := by
    intro X hP hw hK hc i pins s σ H E I hf st hg
    subst hP hw hK
    obtain ⟨hz, hTI, ⟨x0, y0, hTO⟩, s1, s2⟩ := st
    obtain ⟨xs, ys, x, y, hqx, hqy, hx, hy⟩ := hg
    obtain ⟨its, rv, p⟩ := hqx.get I
    obtain ⟨its2, rv2, p2⟩ := hqy.get I
    obtain ⟨u, hu, ru⟩ := rv.get hx
    obtain ⟨u2, hu2, ru2⟩ := rv2.get hy
    have hzl : z < s.heap.objs.size := Heap.lt_size hz
    have hA : X.A.in1.handled = none := by have := I.ok.hd hc; simpa using this
    refine wpAny_pyNext_zipD2_item S (drawsH hA b i1 a h1a its.toArray) (drawsH hA c i2 a2 h2a its2.toArray) hz hTI hTO ⟨s1, p⟩ ⟨s2, p2⟩ (by rw [List.size_toArray]; exact (List.getElem?_eq_some_iff.mp hu).1) (by rw [List.size_toArray]; exact (List.getElem?_eq_some_iff.mp hu2).1)
      fun w1 w2 h' tk e1 e2 z' TO' t1 t2 hT hsz hk => ?_
    have ey : w1 = u := by
      have e1' : its[i]? = some w1 := by simpa using e1
      rw [hu] at e1'
      exact (Option.some.inj e1').symm
    have ey2 : w2 = u2 := by
      have e2' : its2[i]? = some w2 := by simpa using e2
      rw [hu2] at e2'
      exact (Option.some.inj e2').symm
    subst ey ey2
    refine ⟨_, rfl, wpAny_letOwnedTupleGo_zip (s := { s with heap := h', toks := tk }) z' fun h2 z2 sb => ?_⟩
    have hT2 : h2.get? s.heap.objs.size = some { cls := .type "tuple", data := .seq #[w1, w2] } := (sb.2 _ (Nat.ne_of_gt hzl)).trans hT
    have I1 : Inv X pins σ (upd H s.heap.objs.size (.tup [x, y])) { s with heap := h2, toks := tk } :=
      I.turnedNew (t' := tk) (ch := [z, TI, TO, i1, i2]) (fun d o hb q => (sb.2 d (fun q' => hb (by simp [q']))).trans (hk d o (fun q' => hb (by simp [q'])) (fun q' => hb (by simp [q'])) (fun q' => hb (by simp [q'])) (fun q' => hb (by simp [q'])) q)) hf (Nat.le_refl _)
        ⟨by show 2 ≤ sizeLine; decide, [w1, w2], .cons ru (.cons ru2 .nil), ⟨_, hT2, rfl, _, rfl⟩⟩
    refine ⟨.ref s.heap.objs.size, _, I1, rfl, ⟨_, x, y, rfl, I.hok.fresh (Nat.le_refl _), rfl, fun l hl => by rw [hl.one I hqx]; exact hx, fun l hl => by rw [hl.one I hqy]; exact hy⟩, ⟨z2, ?_, ⟨w1, w2, ?_⟩, ?_, ?_⟩, fun d hcm => ?_⟩
    · exact (sb.2 _ S.TIz).trans (hk _ _ S.TIz S.TITO S.TIi1 S.TIi2 hTI)
    · exact (sb.2 _ S.TOz).trans TO'
    · exact t1.1.at fun o q => (sb.2 _ (Ne.symm S.zi1)).trans q
    · exact t2.1.at fun o q => (sb.2 _ (Ne.symm S.zi2)).trans q
    · have hlt : d < s.heap.objs.size := by
        rcases (show d = z ∨ d = TI ∨ d = TO ∨ d = i1 ∨ d = i2 by simpa using hcm) with q | q | q | q | q
        · rw [q]; exact hzl
        · rw [q]; exact Heap.lt_size hTI
        · rw [q]; exact Heap.lt_size hTO
        · rw [q]; obtain ⟨_, e1, _⟩ := s1.obj; exact Heap.lt_size e1
        · rw [q]; obtain ⟨_, e2, _⟩ := s2.obj; exact Heap.lt_size e2
      rw [upd_ne (Nat.ne_of_lt hlt)]
      exact (hf d hcm).1
  done := by
    intro X hP hw hK hc i pins s σ H E I hf st hg
    subst hP hw hK
    obtain ⟨hz, hTI, ⟨x0, y0, hTO⟩, s1, s2⟩ := st
    obtain ⟨xs, ys, hqx, hqy, e1, e2⟩ := hg
    obtain ⟨its, rv, p⟩ := hqx.get I
    obtain ⟨its2, rv2, p2⟩ := hqy.get I
    have l1 : i = its.toArray.size := by rw [List.size_toArray, ← rv.length]; exact e1.symm
    have l2 : i = its2.toArray.size := by rw [List.size_toArray, ← rv2.length]; exact e2.symm
    have hA : X.A.in1.handled = none := by have := I.ok.hd hc; simpa using this
    exact wpAny_pyNext_zipD2_end (i := i) S (drawsH hA b i1 a h1a its.toArray) (drawsH hA c i2 a2 h2a its2.toArray) hz hTI hTO ⟨s1, p⟩ ⟨s2, p2⟩ (Nat.le_of_eq l1) (Nat.le_of_eq l2) (.inl l1) fun h' tk hk => ⟨rfl, I.turnedL (t' := tk) (ch := [z, TI, TO, i1, i2]) (fun d o hb q =>
      hk d o (fun q' => hb (by simp [q'])) (fun q' => hb (by simp [q'])) (fun q' => hb (by simp [q'])) (fun q' => hb (by simp [q'])) q) hf⟩
  self := fun A i s Q E st h => wpAny_pyIter_zip st.1 h
/-! ### as iterables -/
def iEnumH (b : Bool) (K : PySem.W.Frag) (ta : TA) : TI := fun σ H R => ta σ H fun vs H1 => ∃ a xs, vs = [.ref a] ∧ sqH b K H1 a xs ∧ R (ItE b K a) H1
def iZipH (b c : Bool) (K : PySem.W.Frag) (ta : TA) : TI := fun σ H R => ta σ H fun vs H1 => ∃ a a2 xs ys, vs = [.ref a, .ref a2] ∧ sqH b K H1 a xs ∧ sqH c K H1 a2 ys ∧ R (ItZ b c K a a2) H1
section
variable {X : Cx} {e e2 : Expr} {ta : TA} {p pos tpos : Pos} {elts : List Expr} {kk : Nat}
theorem pi_enumH (b : Bool) (hg : Gl X "enumerate") (hm : X.mg "enumerate" = none) (ha : PA X [e] ta) (hs : starEach [e] X.env = [(false, eval e X.env)] := by rfl) : PI X (.Tuple elts kk tpos) (.Call (.Name "enumerate" p) [e] [] pos) (iEnumH b X.K ta) := by
  refine ⟨fun pins s σ H R I h => ?_⟩
  refine Call_ (ld_blt I hg hm boot_enumerate (PyProof.Rows.callWith_type1 (thn (ha.run pos pins s σ H _ I h) fun us s1 ⟨vs, H1, I1, r1, a, xs, ex, hq, q⟩ => ?_) hs rfl))
  subst ex
  rw [Vals.ref1 r1]
  obtain ⟨its, rv, p'⟩ := hq.get I1
  have hal := p'.lt
  refine enum_call (beginsH b a its.toArray) p' fun h' he hit hk => wpAny_pyIter_enum he ?_
  have I2 : Inv X pins σ H1 { s1 with heap := h' } := I1.kept (t' := s1.toks) hk
  refine ⟨s1.heap.objs.size + 1, [s1.heap.objs.size + 1, s1.heap.objs.size], _, _, H1, rfl, I2, turnE b a (s1.heap.objs.size + 1) s1.heap.objs.size (Nat.ne_of_lt (Nat.lt_succ_of_lt hal)) (Nat.ne_of_lt hal), ⟨⟨.none, he⟩, itH.zero hit, Nat.succ_ne_self _⟩, fun d hd => ?_, q⟩
  have hle : s1.heap.objs.size ≤ d := by
    rcases (show d = s1.heap.objs.size + 1 ∨ d = s1.heap.objs.size by simpa using hd) with z | z
    · rw [z]; exact Nat.le_add_right _ _
    · rw [z]; exact Nat.le_refl _
  exact I1.fpOk hle (I1.hok.fresh hle)
theorem pi_zipH (b c : Bool) (hg : Gl X "zip") (hm : X.mg "zip" = none) (ha : PA X [e, e2] ta) (hs : starEach [e, e2] X.env = (false, eval e X.env) :: starEach [e2] X.env := by rfl) (hpl : (backTo pos (starEach [e2] X.env)).any (·.1) = false := by rfl) :
    PI X (.Tuple elts kk tpos) (.Call (.Name "zip" p) [e, e2] [] pos) (iZipH b c X.K ta) := by
  refine ⟨fun pins s σ H R I h => ?_⟩
  refine Call_ (ld_blt I hg hm PyProof.Rows.boot_zip (PyProof.Rows.callWith_type1 (thn (ha.run pos pins s σ H _ I h) fun us s1 ⟨vs, H1, I1, r1, a, a2, xs, ys, ex, hq, hq2, q⟩ => ?_) hs hpl))
  subst ex
  have eu : us = [Value.ref a, Value.ref a2] := by
    cases r1 with
    | cons r rr =>
      cases rr with
      | cons r' rr =>
        cases rr
        cases r
        cases r'
        rfl
  rw [eu]
  obtain ⟨its, rv, p1⟩ := hq.get I1
  obtain ⟨its2, rv2, p2⟩ := hq2.get I1
  have la := p1.lt
  have lb := p2.lt
  refine zip_begins2 (beginsH b a its.toArray) (beginsH c a2 its2.toArray) p1 p2 fun h' hz hTI hTO h1 h2 hsz hk => wpAny_pyIter_zip hz ?_
  have I2 : Inv X pins σ H1 { s1 with heap := h' } := I1.kept (t' := s1.toks) hk
  refine ⟨s1.heap.objs.size + 4, [s1.heap.objs.size + 4, s1.heap.objs.size + 2, s1.heap.objs.size + 3, s1.heap.objs.size, s1.heap.objs.size + 1], _, _, H1, rfl, I2,
    turnZ b c (zip_sep2 (fp1 := [a]) (fp2 := [a2]) (fun d hd => by rw [List.mem_singleton.mp hd]; exact la) (fun d hd => by rw [List.mem_singleton.mp hd]; exact lb)) (Nat.ne_of_lt la) (Nat.ne_of_lt (Nat.lt_succ_of_lt lb)) (Nat.ne_of_lt (Nat.lt_succ_self _)),
    ⟨hz, hTI, ⟨_, _, hTO⟩, itH.zero h1, itH.zero h2⟩, fun d hcm => ?_, q⟩
  have hle : s1.heap.objs.size ≤ d := by
    rcases (show d = s1.heap.objs.size + 4 ∨ d = s1.heap.objs.size + 2 ∨ d = s1.heap.objs.size + 3 ∨ d = s1.heap.objs.size ∨ d = s1.heap.objs.size + 1 by simpa using hcm) with z | z | z | z | z
    · rw [z]; exact Nat.le_add_right _ _
    · rw [z]; exact Nat.le_add_right _ _
    · rw [z]; exact Nat.le_add_right _ _
    · rw [z]; exact Nat.le_refl _
    · rw [z]; exact Nat.le_add_right _ _
  exact I1.fpOk hle (I1.hok.fresh hle)
end
/-! ### over the abstract environment -/
def sqD (b : Bool) (ds : List PyData) : PyData := match b with
  | true => .list ds
  | false => .tuple ds
theorem sqD_at {F : Hp} {b : Bool} {v : V} {ds : List PyData} (h : Rp F v (sqD b ds)) : ∃ a vs, v = .ref a ∧ RpL F vs ds ∧ (∀ {K : PySem.W.Frag} {H : Hp}, Same F H → sqH b K H a vs) := by
  cases b with
  | true =>
    cases (show Rp F v (.list ds) from h) with
    | lst h1 h2 => exact ⟨_, _, rfl, h2, fun e => SqL.of (e _ _ h1)⟩
  | false =>
    cases (show Rp F v (.tuple ds) from h) with
    | tup h1 ht h2 => exact ⟨_, _, rfl, h2, fun e => ht.sq (e _ _ h1)⟩
section
variable {X : Cx} {Z : Zn} {ρ : En} {a b : Expr} {p pos tpos : Pos} {elts : List Expr} {kk : Nat} {ds ds' : List PyData}
theorem itEH (T : Bi X.mg) (k : Bool) (ha : PE X a (tD Z ρ (sqD k ds))) (hg : Gl X "enumerate" := by rfl) (hs : starEach [a] X.env = [(false, eval a X.env)] := by rfl) : PI X (.Tuple elts kk tpos) (.Call (.Name "enumerate" p) [a] [] pos) (tI Z ρ ((enD ds).map Dt)) :=
  (pi_enumH k hg T.enumerate (pa1 ha (hs.trans rfl)) hs).imp fun σ H Q ⟨F0, G, F, s, q⟩ => ⟨F0, G, F, s, fun vs F1 H1 g1 k1 => by
    cases k1 with
    | cons h1 h2 =>
      cases h2
      obtain ⟨c, us, rfl, hr, hq⟩ := sqD_at h1
      refine ⟨c, us, rfl, hq g1.fh, q _ F1 H1 g1 fun F H e1 e2 zk zo => ?_⟩
      have hQ : sqH k X.K H c us := hq (e1.trans e2)
      refine ⟨fun i hi => ?_, ⟨us, hQ, by rw [List.length_map, enD_len, hr.len]⟩, fun i t x H' ht y => ?_⟩
      · rw [List.length_map, enD_len, ← hr.len] at hi
        exact ⟨us, us[i], hQ, by simp [hi]⟩
      · obtain ⟨T, z, q1, q2, q3, q4⟩ := y
        obtain ⟨d, h5, h6⟩ := hr.get (q4 us hQ)
        rw [List.getElem?_map, enD_at h5] at ht
        cases ht
        subst q1
        exact Wk.pair e2 zk q2 q3 (.int _) (Rp.mono e1 _ _ h6)⟩
def zipD (ds ds' : List PyData) : List PyData := (ds.zip ds').map fun p => .tuple [p.1, p.2]
theorem itZH (T : Bi X.mg) (k l : Bool) (ha : PE X a (tD Z ρ (sqD k ds))) (hb : PE X b (tD Z ρ (sqD l ds'))) (hl : ds.length = ds'.length) (hg : Gl X "zip" := by rfl) (hs : starEach [a, b] X.env = (false, eval a X.env) :: starEach [b] X.env := by rfl) (hs2 : starEach [b] X.env = (false, eval b X.env) :: starEach [] X.env := by rfl)
    (hpl : (backTo pos (starEach [b] X.env)).any (·.1) = false := by rfl) : PI X (.Tuple elts kk tpos) (.Call (.Name "zip" p) [a, b] [] pos) (tI Z ρ ((zipD ds ds').map Dt)) :=
  (pi_zipH k l hg T.zip (pac ha (pa1 hb hs2) hs) hs hpl).imp fun σ H Q ⟨F0, G, F, s, q⟩ => ⟨F0, G, F, s, fun vs F1 H1 g1 k1 => by
    cases k1 with
    | cons h1 h2 =>
      cases h2 with
      | cons h2 h3 =>
        cases h3
        obtain ⟨c, us, rfl, hr, hq⟩ := sqD_at h1
        obtain ⟨c2, us2, rfl, hr2, hq2⟩ := sqD_at h2
        refine ⟨c, c2, us, us2, rfl, hq g1.fh, hq2 g1.fh, q _ F1 H1 g1 fun F H e1 e2 zk zo => ?_⟩
        have hQ : sqH k X.K H c us := hq (e1.trans e2)
        have hQ2 : sqH l X.K H c2 us2 := hq2 (e1.trans e2)
        have lz : ((zipD ds ds').map Dt).length = us.length := by
          unfold zipD
          rw [List.length_map, List.length_map, List.length_zip, hl, Nat.min_self, ← hl, hr.len]
        refine ⟨fun i hi => ?_, ⟨us, us2, hQ, hQ2, lz.symm, by rw [lz, hr.len, hr2.len, hl]⟩, fun i t x H' ht y => ?_⟩
        · rw [lz] at hi
          have hi2 : i < us2.length := by rw [hr2.len, ← hl, ← hr.len]; exact hi
          exact ⟨us, us2, us[i], us2[i], hQ, hQ2, by simp [hi], by simp [hi2]⟩
        · obtain ⟨T, z, z2, q1, q2, q3, q4, q5⟩ := y
          obtain ⟨d, h5, h6⟩ := hr.get (q4 us hQ)
          obtain ⟨d2, h7, h8⟩ := hr2.get (q5 us2 hQ2)
          have ez : (zipD ds ds')[i]? = some (.tuple [d, d2]) := by
            unfold zipD
            rw [List.getElem?_map, List.getElem?_zip_eq_some (z := (d, d2)) |>.mpr ⟨h5, h7⟩]
            rfl
          rw [List.getElem?_map, ez] at ht
          cases ht
          subst q1
          exact Wk.pair e2 zk q2 q3 (Rp.mono e1 _ _ h6) (Rp.mono e1 _ _ h8)⟩
end
end Kb
end TKv
section TKw
set_option Elab.async false
set_option autoImplicit false
set_option linter.all false
set_option maxRecDepth 100000
set_option maxHeartbeats 4000000
/-! Kw: sorted(lots, key=lambda lot: (len(lot), lot)). -/
namespace Kb
open PySem PySem.Spec PyProof.Rows L2 PySem.W

def kOf (xs : List Str) : PyData := .tuple [.int (xs.length : Int), eL xs]
/-- lots by their size first -/
def ksrt (ls : List (List Str)) : List (List Str) := ls.mergeSort fun a b => dLe (kOf a) (kOf b)
def lamA (q : Pos) : Arguments := { posonlyargs := [], args := [{ arg := "lot", annotation := none, pos := q }], vararg := none, kwonlyargs := [], kw_defaults := [], kwarg := none, defaults := [] }
def lamB (p1 p2 p3 p4 p5 : Pos) : Expr := .Tuple [.Call (.Name "len" p1) [.Name "lot" p2] [] p3, .Name "lot" p4] 0 p5
def lamSc : Scope := { kind := .function, names := [("lot", .local), ("len", .globalImplicit)], isGenerator := false, isCoroutine := false, more := [] }
section
variable {X : Cx} {pins : List (Addr × Obj)} {σ : L2.St} {H : Hp} {s : Shared}
/-- the lambda is made: nothing but the table changes -/
theorem lam_new {c P : Addr} {q : Str} {params : Arguments} {body : Expr} {scope : Scope} {pos : Pos} {E : Value → Shared → Prop} {Q : Value → Shared → Prop} (I : Inv X pins σ H s) (TB : LamX.TabB X.base X.mg c P) (hcode : X.env.code = .ref c) (hq : q = X.env.qual ++ "<lambda>")
    (hT : LamX.TabS H P q) (hdef : defaultsOf params X.env = ([], [])) (hfree : ∀ y ∈ scope.names, y.2 = .free → ∃ c, X.env.cells.lookup y.1 = some c)
    (h : ∀ (f c' : Addr) (pm ctv : Value) (H1 : Hp) (s' : Shared), Inv X pins σ H1 s' → (∀ b o, b ≠ P → H b = some o → H1 b = some o) → LamX.TabS H1 P q →
      s'.heap.get? f = some (kla_obj "<lambda>" q params body scope (cloFrom X.env.cells scope.names []) pm c' ctv) → H1 c' = some (LamX.CodeO c' q) → Q (.ref f) s') : wpAny (model X.prog X.w) X.A (eval (.Lambda params body scope pos) X.env) Q E s := by
  subst hq
  obtain ⟨ps, hP, ht, ha⟩ := hT
  refine kla_eval hdef ?_
  have bP : s.heap.BuiltinsAt X.mg P := TB.bm.keeps I.bk
  have hP' : s.heap.get? P = some { cls := .none, data := .fields ps } := I.hok P _ hP
  cases hc : codeAmong pos ps.toList with
  | none =>
    refine kla_makeFunction (mg := X.mg) (c := c) (P := P) (ps := ps) (closure_ok hfree) I.ok.glob (I.mod.glob.keeps I.bk) hcode (TB.code.keeps I.bk) hP' ht hc TB.gP bP fun c' ctv h' tk hx hge hlt hrec htb => ?_
    obtain ⟨c2, oc, vs, t, e2, hoc, hd, hv⟩ := hrec
    cases e2
    have nC : H c' = none := I.hok.fresh hge
    have I1 := LamX.inv_table (t' := tk) (more := #[rawInt pos.line, rawInt pos.col, .ref c']) (h' := h'.push (kla_obj "<lambda>" (X.env.qual ++ "<lambda>") params body scope (cloFrom X.env.cells scope.names []) ((X.mg "__name__").getD .none) c' ctv)) I hP
      (fun b o hb e => Heap.get?_push_of_some _ (hx b o hb e)) (Heap.get?_push_of_some _ htb) hge ⟨oc, vs, t, Heap.get?_push_of_some _ hoc, hd, hv⟩
    have nP : P ≠ c' := ne_of_none hP nC
    have old : ∀ b o, b ≠ P → H b = some o → upd (upd H P (.tbl (ps ++ #[rawInt pos.line, rawInt pos.col, .ref c']))) c' (LamX.CodeO c' (X.env.qual ++ "<lambda>")) b = some o := fun b o hb e => by rw [upd_ne (ne_of_none e nC), upd_ne hb]; exact e
    have eL : (ps ++ #[rawInt pos.line, rawInt pos.col, .ref c']).toList = ps.toList ++ [rawInt pos.line, rawInt pos.col, .ref c'] := by simp
    refine h h'.objs.size c' ((X.mg "__name__").getD .none) ctv _ _ I1 old ⟨_, by rw [upd_ne nP, upd_same], by rw [eL]; exact PySem.TriplesOk_snoc _ _ _ _ ht, fun p' cv hcv => ?_⟩ (Heap.get?_push_size _ rfl) upd_same
    rw [eL] at hcv
    rcases LamX.among_app _ ht hcv with z | z
    · obtain ⟨c0, e1, e2⟩ := ha p' cv z
      exact ⟨c0, e1, old _ _ (fun y => by rw [y, hP] at e2; exact LamX.codeO_ne ps (Option.some.inj e2).symm) e2⟩
    · exact ⟨c', z, upd_same⟩
  | some cv =>
    obtain ⟨c', e, hco⟩ := ha pos cv hc
    subst e
    refine kla_makeFunctionHit (mg := X.mg) (c := c) (P := P) (ps := ps) (closure_ok hfree) I.ok.glob (I.mod.glob.keeps I.bk) hcode (TB.code.keeps I.bk) hP' ht hc bP fun ctv h' tk hx hsz => ?_
    exact h h'.objs.size c' ((X.mg "__name__").getD .none) ctv H _ (I.kept fun b o e => Heap.get?_push_of_some _ (hx b o e)) (fun _ _ _ e => e) ⟨ps, hP, ht, ha⟩ (Heap.get?_push_size _ rfl) hco
theorem reads_strs {h : Heap} : ∀ {us : List Value} {xs : List Str}, Vals (xs.map V.str) us → ReadsAll h us (xs.map .str) []
  | [], [], .nil => .nil
  | _, x :: xs, .cons r t => by
    obtain ⟨k, rfl⟩ := r
    exact .cons (as := []) (bs := []) (.str x k) (reads_strs t)
/-- the lambda called with a lot -/
theorem lam_turn {f c' : Addr} {q : Str} {pm ctv : Value} {qp p1 p2 p3 p4 p5 : Pos} {F : Hp} {h : Heap} {tk : Nat} {v : Value} {xs : List Str} {k : Nat} (I : Inv X pins σ H s) (T : Bi X.mg) (hr : Room (k + 1) X.A) (hh : X.A.handled = none)
    (hf : s.heap.get? f = some (kla_obj "<lambda>" q (lamA qp) (lamB p1 p2 p3 p4 p5) lamSc [] pm c' ctv)) (hc : H c' = some (LamX.CodeO c' q)) (fh : Same F H) (hv : ∃ x, RelV x v ∧ Rp F x (eL xs)) (kp : ∀ b o, s.heap.get? b = some o → h.get? b = some o) (hxs : xs.length ≤ 100000) :
    wpAny (model X.prog X.w) X.A.in1.in1 (call (.ref f) [v]) (KeyPure (kOf xs) { s with heap := h, toks := tk }) (fun _ _ => False) { s with heap := h, toks := tk } := by
  obtain ⟨x, rx, hx⟩ := hv
  have I1 : Inv X pins σ H { s with heap := h, toks := tk } := I.kept kp
  have e0 : Env0 X.prog X.w X.K X.mg X.base X.A.in1.in1 X.stack { s with heap := h, toks := tk } H := I1.env0.in1.in1
  have lim : h.NoLimit := I1.nolimit
  obtain ⟨⟨oc, vs, t, hoc, hdc, hvc⟩, _, _⟩ := I1.hok c' _ hc
  cases (show Rp F x (.tuple (xs.map .str)) from hx) with
  | @tup a _ ws _ hFa hto hws =>
    obtain rfl : v = Value.ref a := rx
    have ews := RpL.strs hws
    subst ews
    obtain ⟨its, rv, pt, _⟩ := I1.tuple (hto.sq (fh _ _ hFa))
    refine wpAny_call (kla_callFunE (by have := hr.depth; exact this) (kp _ _ hf) rfl rfl rfl rfl ⟨c', oc, vs, t, rfl, hoc, hdc, hvc⟩ ?_)
    rw [show bindArgs (kla_fn "<lambda>" q (lamA qp) (lamB p1 p2 p3 p4 p5) lamSc [] pm (.ref c') ctv) ⟨[Value.ref a], []⟩ = (pure [(("lot" : Str), Value.ref a)] : Sem (List (Str × Value))) from rfl]
    refine wpAny_pure (wpAny_newFunctionEnv (fun y hy => by
      simp only [lamSc, List.mem_cons, List.not_mem_nil, or_false] at hy
      rcases hy with e | e <;> (rw [e]; decide)) (fun y hy => by
      simp only [List.mem_cons, List.not_mem_nil, or_false] at hy
      rw [hy]
      rfl) (fun h₁ hns hsb => ⟨lim.fresh _ hsb, ?_⟩))
    have kp1 : ∀ b o, h.get? b = some o → h₁.get? b = some o := fun b o e => hsb.extBut b o (Nat.ne_of_lt (Heap.lt_size e)) (Heap.get?_push_of_some _ e)
    let NFo : NdefX.NF := ⟨"<lambda>", q, lamA qp, [], lamSc, [], c'⟩
    have S : NdefX.NScope ["lot"] ["lot"] [] NFo.scope := NdefX.nscope_by (sc := lamSc) (by decide +kernel)
    have J : Inv (NdefX.ncx CX0 X.prog X.w X.K X.mg X.base ["lot"] NFo f X.A.in1.in1 X.stack { s with heap := h, toks := tk } H E0) [] (NdefX.startF ["lot"] [V.ref a] []) H { s with heap := h₁, toks := tk + 1 } :=
      NdefX.inv_startN (us := [Value.ref a]) S hh e0 rfl (.cons rfl .nil) ⟨rfl, fun y c z => (by cases z), fun x y c z => (by cases z), fun i y z => (by simp at z)⟩ hns kp1
    have hvis : Vis lamSc ("lot" : Str) := .inl rfl
    obtain ⟨m, hn, hl⟩ := J.loc
    obtain ⟨u, ru, lu⟩ := hl 0 "lot" (V.ref a) rfl rfl hvis
    obtain rfl : u = Value.ref a := ru
    have hm : m "lot" = some (Value.ref a) := by
      rcases lu with ⟨_, e⟩ | ⟨hk, _⟩
      · exact e
      · rcases hk with hk | hk <;> cases hk
    have pt1 : IsTup h₁ a its.toArray := by
      obtain ⟨o, g1, g2⟩ := pt
      exact ⟨o, kp1 _ _ g1, g2⟩
    have hlen : its.toArray.size = xs.length := by rw [List.size_toArray, ← rv.length, List.length_map]
    show codeAny _ _ (.expr (lamB p1 p2 p3 p4 p5) (envX q lamSc h.objs.size f (.ref c') [])) _ _
    refine kla_codeExpr ?_
    refine wpAny_Tuple_spliced ?_
    have hg : Gl (NdefX.ncx CX0 X.prog X.w X.K X.mg X.base ["lot"] NFo f X.A.in1.in1 X.stack { s with heap := h, toks := tk } H E0) "len" := by rfl
    refine Calls.spliced_cons (wpAny_Call_Name_kw (ld_blt J hg T.len PySem.boot_len (PyProof.Rows.callWith_builtin1 ?_ rfl rfl)))
    have lotv : ∀ (E : Value → Shared → Prop) (Q : Value → Shared → Prop) (p : Pos) (tk' : Nat), Q (.ref a) { s with heap := h₁, toks := tk' } → wpAny (model X.prog X.w) (X.A.in1.in1.deeper (envX q lamSc h.objs.size f (.ref c') [])) (eval (.Name "lot" p) (envX q lamSc h.objs.size f (.ref c') [])) Q E { s with heap := h₁, toks := tk' } :=
      fun E Q p tk' hQ => wpAny_Name (wpAny_loadName_local (m := m) rfl rfl hn hm hQ) (by decide)
    refine Calls.spliced_cons (lotv _ _ _ _ (Calls.spliced_nil ?_))
    refine len_tuple pt1 (by rw [hlen]; omega) (Calls.spliced_cons (lotv _ _ _ _ (Calls.spliced_nil ⟨by show 2 ≤ sizeLine; decide, ?_⟩)))
    refine ⟨_, tk + 1 + 1 + 1, rfl, fun b o e => Heap.get?_push_of_some _ (kp1 b o e), ?_⟩
    obtain ⟨oa, g1, g2, n, g3⟩ := pt1
    rw [hlen]
    refine .tuple (as := []) (Heap.get?_push_size _ rfl) rfl rfl ?_
    exact .cons (as := []) (bs := []) (.int _ _) (.cons (as := []) (bs := []) (.tuple (Heap.get?_push_of_some _ g1) g2 g3 (by simpa using reads_strs rv)) .nil)
theorem each_lots {F : Hp} : ∀ {xs : List V} {ls : List (List Str)} {us : List Value}, RpL F xs (ls.map eL) → Vals xs us → EachIs (fun v x => ∃ y, RelV y v ∧ Rp F y (eL x)) us ls
  | _, [], _, h, r => by
    cases h
    cases r
    exact .nil
  | _, l :: ls, _, h, r => by
    cases h with
    | cons h1 h2 =>
      cases r with
      | cons r1 r2 => exact .cons ⟨_, r1, h1⟩ (each_lots h2 r2)
theorem lots_each {F : Hp} {us : List Value} {ls : List (List Str)} (h : EachIs (fun v x => ∃ y, RelV y v ∧ Rp F y (eL x)) us ls) : ∃ ys, Vals ys us ∧ RpL F ys (ls.map eL) := by
  induction h with
  | nil => exact ⟨[], .nil, .nil⟩
  | cons h1 _ ih =>
    obtain ⟨x, r, q⟩ := h1
    obtain ⟨ys, a, b⟩ := ih
    exact ⟨x :: ys, .cons r a, .cons q b⟩
theorem alike_kOf (a b : List Str) : alike (kOf a) (kOf b) = true := by
  unfold kOf
  simp only [alike, alikeAll, Bool.true_and, Bool.and_true]
  exact alike_strs a b
theorem depth_kOf (a : List Str) : (kOf a).depth = 2 := by
  show max 0 (max (eL a).depth 0) + 1 = 2
  rw [depth_lot]
  decide
end
section
variable {X : Cx} {Z : Zn} {ρ : En} {a : Expr} {pos p qp p1 p2 p3 p4 p5 lpos kpos : Pos} {ls : List (List Str)} {c : Addr} {k : Nat}
/-- sorted(lots, key=lambda lot: (len(lot), lot)) -/
theorem dsortk (T : Bi X.mg) (hc : X.calm = true) (hr : Room (k + 1) X.A) (TB : LamX.TabB X.base X.mg c Z.tb) (hcode : X.env.code = .ref c) (hqn : Z.qn = X.env.qual ++ "<lambda>") (ha : PE X a (tO Z ρ (mL (ls.map eL)).od)) (hz : ls.length ≤ 100000) (hz2 : ∀ x ∈ ls, x.length ≤ 100000)
    (hg : Gl X "sorted" := by rfl) (hs : starEach [a] X.env = (false, eval a X.env) :: starEach [] X.env := by rfl)
    (he : backTo pos (starEach [a] X.env) = (false, eval a X.env) :: backTo pos (starEach [] X.env) := by rfl) (hpl : (backTo pos (starEach [a] X.env)).any (·.1) = false := by rfl) :
    PE X (.Call (.Name "sorted" p) [a] [⟨some "key", .Lambda (lamA qp) (lamB p1 p2 p3 p4 p5) lamSc lpos, kpos⟩] pos) (tN Z ρ (mL ((ksrt ls).map eL))) := by
  refine ⟨fun pins s σ H Q I h => ?_⟩
  obtain ⟨F0, G, F, st, q⟩ := h
  have hu : X.A.units + 64 < cLine := hr.units
  refine wpAny_Call_Name_kw (ld_blt (u := .builtin "sorted") I hg T.sorted (by decide +kernel) ?_)
  refine PyProof.Rows.callWith_kw (thn ((pa1 ha hs).run pos pins s σ H (fun vs H1 => ∃ F1, Go Z F H F1 H1 ∧ OkL F1 H1 vs [(mL (ls.map eL)).od]) I ⟨F0, G, F, st, fun vs F1 H1 g ok => ⟨F1, g, ok⟩⟩) fun us s1 ⟨vs, H1, I1, r1, F1, g1, ok⟩ => ?_) he hpl rfl rfl
  cases ok with
  | cons o1 o2 =>
    cases o2
    obtain ⟨l, xs, rfl, hl, rl⟩ := mL_at o1
    rw [Vals.ref1 r1]
    have s1' := st.mv g1
    show wpAny _ _ (evalAll [do let v ← eval (.Lambda (lamA qp) (lamB p1 p2 p3 p4 p5) lamSc lpos) X.env; standAt pos; pure v]) _ _ s1
    refine wpAny_evalAll_cons (wpAny_bind (lam_new I1 TB hcode hqn s1'.zk.tab rfl (fun y hy e => ?_) fun f c' pm ctv H2 s2 I2 old TS hf hcc => wpAny_bind (wpAny_standAt (wpAny_pure (wpAny_evalAll_nil ?_)))))
    · simp only [lamSc, List.mem_cons, List.not_mem_nil, or_false] at hy
      rcases hy with z | z <;> (rw [z] at e; cases e)
    · obtain ⟨tps, htp, _⟩ := s1'.zk.tab
      have lP : l ≠ Z.tb := fun z => by
        rw [z, htp] at hl
        cases hl
      have g2 : Go Z F1 H1 F1 H2 := by
        refine ⟨Same.refl _, fun b o e => ?_, fun b o n e => old b o (fun z => n (.inl z)) e, fun _ h _ => h, ⟨TS, fun pr e => ?_⟩⟩
        · exact old b o (fun z => by rw [z, s1'.zo Z.tb (.inl rfl)] at e; cases e) (s1'.fh b o e)
        · obtain ⟨cs, bb, d1, d2, d3⟩ := s1'.zk.deal pr e
          exact ⟨cs, bb, old _ _ (fun z => by rw [z, htp] at d1; cases d1) d1, old _ _ (fun z => by rw [z, htp] at d2; cases d2) d2, d3⟩
      have s2' := s1'.mv g2
      obtain ⟨its, rv, pl, hz3⟩ := I2.list (SqL.of (old _ _ lP hl))
      refine sorted_key_data (k := kOf) (b := false) (R := fun v x => ∃ y, RelV y v ∧ Rp F1 y (eL x)) (vs := its) (bs := ls) pl.isList (each_lots rl rv) (AllAlike.of alike_kOf) (Sortable.tuples fun b => ⟨_, _, rfl⟩) (small hz) (fun x _ => by rw [depth_kOf]; omega)
        (PyProof.Rows.ksk_s1 _ _) (fun _ => PyProof.Rows.ksk_l1 _ _) (fun x => PyProof.Rows.ksk_t1 f x) (fun v x hR hx h tk kp => lam_turn I2 T hr (I2.ok.hd hc) hf hcc s2'.fh hR kp (hz2 x hx)) fun out cc h' tk kp _ hD hol eo => ?_
      obtain ⟨ys, v1, v2⟩ := lots_each eo
      have hp : s2.heap.objs.size ≤ s2.heap.objs.size + 1 := Nat.le_succ _
      have hn : H2 (s2.heap.objs.size + 1) = none := I2.hok.fresh hp
      have hyl : ys.length ≤ sizeLine := by rw [v1.length, hol]; exact small hz
      refine ⟨.ref (s2.heap.objs.size + 1), upd H2 (s2.heap.objs.size + 1) (.lst ys), I2.laid (t' := tk) kp hp ⟨hyl, out, cc, v1, hD⟩, rfl, ?_⟩
      have g3 := Go.new (o := .lst ys) s2'.fh s2'.zk hn
      exact q _ _ F1 _ (g1.tr (g2.tr g3)) (g1.was (g2.was hn)) (s2'.fh.free hn) upd_same ⟨ys, rfl, v2⟩
end
end Kb
end TKw
section TKx
set_option Elab.async false
set_option autoImplicit false
set_option linter.all false
set_option maxRecDepth 100000
set_option maxHeartbeats 4000000
/-! Kx: comprehensions of two clauses. -/
namespace Kb
open PySem PySem.Spec PyProof.Rows L2

def noMu : En → Bool
  | [] => true
  | some (.mu _) :: _ => false
  | _ :: r => noMu r
theorem noMu_at : ∀ {ρ : En} {i : Nat} {m : Mt}, noMu ρ = true → ρ[i]? ≠ some (some (.mu m))
  | [], i, m, _, e => by simp at e
  | some (.mu _) :: _, _, _, h, _ => by cases h
  | some (.im _) :: r, 0, m, _, e => by simp at e
  | some .dl :: r, 0, m, _, e => by simp at e
  | none :: r, 0, m, _, e => by simp at e
  | some (.im _) :: r, i + 1, m, h, e => noMu_at (ρ := r) (i := i) h (by simpa using e)
  | some .dl :: r, i + 1, m, h, e => noMu_at (ρ := r) (i := i) h (by simpa using e)
  | none :: r, i + 1, m, h, e => noMu_at (ρ := r) (i := i) h (by simpa using e)
theorem noMu_wipe {ρ : En} (h : noMu ρ = true) : ∀ (vs : List Nat) {i : Nat} {m : Mt}, (wipeA ρ vs)[i]? ≠ some (some (.mu m))
  | [], _, _ => noMu_at h
  | v :: vs, i, m => fun e => by
    rcases gt_set (show ((wipeA ρ vs).set v none)[i]? = _ from e) with ⟨_, z⟩ | ⟨_, z⟩
    · cases z
    · exact noMu_wipe h vs z
theorem CSt.re {Z : Zn} {F0 G Fs Hs F H : Hp} {σ : L2.St} {ρ : En} {D : Addr} {i j : Nat} {A : List PyData → Prop} (c : CSt Z F0 G Fs Hs σ ρ D i A F H) (k : ∀ acc, A acc → acc.length ≤ j) : CSt Z F0 G Fs Hs σ ρ D j A F H := by
  obtain ⟨acc, vs, a1, a2, a3, a4⟩ := c.acc
  exact ⟨c.st, c.go, c.h0, c.fd, c.gd, c.xd, c.sd, acc, vs, a1, a2, a3, k acc a3⟩
/-- a comprehension's parts -/
def Lc2 (X : Cx) (Z : Zn) (ρ : En) (elt tg iter tg1 iter1 : Expr) (ifs1 : List Expr) (scope : Scope) (own : List (Str × Nat)) (vs1 : List Nat) (A : List PyData → Prop) : Prop :=
  ∃ (wi wi1 : TI) (g g1 : TG) (tt tt1 : TT) (te : TE), X.calm = true ∧ X.N.Nodup ∧ PI X tg iter wi ∧ BlkOk X.N X.env.scope scope own ∧ (∀ i ∈ vs1, i ∈ own.map (·.2)) ∧
    (∀ (s : Shared) (H : Hp) (C : Addr) (cl : List (Str × Addr)) (fp : List Addr), PG (X.blk s H scope (compEnvC scope cl C X.env) fp) tg g) ∧
    (∀ (s : Shared) (H : Hp) (C : Addr) (cl : List (Str × Addr)) (fp : List Addr), PTs (X.blk s H scope (compEnvC scope cl C X.env) fp) [] tt) ∧
    (∀ (s : Shared) (H : Hp) (C : Addr) (cl : List (Str × Addr)) (fp : List Addr), PI (X.blk s H scope (compEnvC scope cl C X.env) fp) tg1 iter1 wi1) ∧
    (∀ (s : Shared) (H : Hp) (C : Addr) (cl : List (Str × Addr)) (fp : List Addr), PG (X.blk s H scope (compEnvC scope cl C X.env) fp) tg1 g1) ∧
    (∀ (s : Shared) (H : Hp) (C : Addr) (cl : List (Str × Addr)) (fp : List Addr), PTs (X.blk s H scope (compEnvC scope cl C X.env) fp) ifs1 tt1) ∧
    (∀ (s : Shared) (H : Hp) (C : Addr) (cl : List (Str × Addr)) (fp : List Addr), PE (X.blk s H scope (compEnvC scope cl C X.env) fp) elt te) ∧
    (∀ x, foldedSetIterable iter X.env x = pure x) ∧ (∀ env x, foldedSetIterable iter1 env x = pure x) ∧ ∀ σ H Q, tNe Z ρ A σ H Q → tLc2 wi g tt wi1 g1 tt1 te (own.map (·.2)) vs1 σ H Q
section
variable {X : Cx} {Z : Zn} {ρ ρ1 ρ2 : En} {e a b c tg tg1 : Expr} {es : List Expr} {pos p : Pos} {t : Ty} {m : Mt} {o : Option (List Nat)} {d : PyData} {ds : List PyData}
/-- [elt for tg in iter for tg1 in iter1 if ..] -/
theorem dlc2 {α β : Type} {elt iter iter1 : Expr} {ifs1 : List Expr} {scope : Scope} {own : List (Str × Nat)} {vs1 : List Nat} {xs : List α} {enc : α → Ty} {ρ' : α → En} {ys : α → List β} {enc1 : α → β → Ty} {ρ'' : α → β → En} {f : α → β → Bool} {g : α → β → PyData} (hc : X.calm = true) (hN : X.N.Nodup)
    (hi : PI X tg iter (tI Z ρ (xs.map enc))) (ok : BlkOk X.N X.env.scope scope own) (hv : ∀ i ∈ vs1, i ∈ own.map (·.2)) (hmu : ∀ x, x ∈ xs → noMu (ρ' x) = true)
    (hg : ∀ (s : Shared) (H : Hp) (C : Addr) (cl : List (Str × Addr)) (fp : List Addr) (x : α), x ∈ xs → PG (X.blk s H scope (compEnvC scope cl C X.env) fp) tg (tGt (some (own.map (·.2))) Z (wipeA ρ (own.map (·.2))) (enc x) (ρ' x)))
    (hi1 : ∀ (s : Shared) (H : Hp) (C : Addr) (cl : List (Str × Addr)) (fp : List Addr) (x : α), x ∈ xs → PI (X.blk s H scope (compEnvC scope cl C X.env) fp) tg1 iter1 (tI Z (ρ' x) ((ys x).map (enc1 x))))
    (hg1 : ∀ (s : Shared) (H : Hp) (C : Addr) (cl : List (Str × Addr)) (fp : List Addr) (x : α) (y : β), x ∈ xs → y ∈ ys x → PG (X.blk s H scope (compEnvC scope cl C X.env) fp) tg1 (tGt (some vs1) Z (wipeA (ρ' x) vs1) (enc1 x y) (ρ'' x y)))
    (ht : ∀ (s : Shared) (H : Hp) (C : Addr) (cl : List (Str × Addr)) (fp : List Addr) (x : α) (y : β), x ∈ xs → y ∈ ys x → PTs (X.blk s H scope (compEnvC scope cl C X.env) fp) ifs1 (tQ Z (ρ'' x y) (f x y)))
    (he : ∀ (s : Shared) (H : Hp) (C : Addr) (cl : List (Str × Addr)) (fp : List Addr) (x : α) (y : β), x ∈ xs → y ∈ ys x → f x y = true → PE (X.blk s H scope (compEnvC scope cl C X.env) fp) elt (tD Z (ρ'' x y) (g x y)))
    (hn : (xs.flatMap fun x => ((ys x).filter (f x)).map (g x)).length ≤ 100000) (hf : ∀ x, foldedSetIterable iter X.env x = pure x := by intro _; rfl) (hf1 : ∀ env x, foldedSetIterable iter1 env x = pure x := by intro _ _; rfl) :
    Lc2 X Z ρ elt tg iter tg1 iter1 ifs1 scope own vs1 (· = xs.flatMap fun x => ((ys x).filter (f x)).map (g x)) := by
  refine ⟨tI Z ρ (xs.map enc), fun σ H R => ∃ x, x ∈ xs ∧ tI Z (ρ' x) ((ys x).map (enc1 x)) σ H R, fun v σ H Q => ∃ x, x ∈ xs ∧ tGt (some (own.map (·.2))) Z (wipeA ρ (own.map (·.2))) (enc x) (ρ' x) v σ H Q,
    fun v σ H Q => ∃ x y, x ∈ xs ∧ y ∈ ys x ∧ tGt (some vs1) Z (wipeA (ρ' x) vs1) (enc1 x y) (ρ'' x y) v σ H Q, fun σ H Q => Q true H, fun σ H Q => ∃ x y, x ∈ xs ∧ y ∈ ys x ∧ tQ Z (ρ'' x y) (f x y) σ H Q, fun σ H Q => ∃ x y, x ∈ xs ∧ y ∈ ys x ∧ f x y = true ∧ tD Z (ρ'' x y) (g x y) σ H Q,
    hc, hN, hi, ok, hv, fun s H C cl fp => ⟨?_⟩, fun s H C cl fp => pts_nil, fun s H C cl fp => ⟨?_⟩, fun s H C cl fp => ⟨?_⟩, fun s H C cl fp => ⟨?_⟩, fun s H C cl fp => ⟨?_⟩, hf, hf1, ?_⟩
  · rintro pins s1 σ H v u Q Iv r ⟨x, h1, h2⟩
    exact (hg s _ C cl fp x h1).run pins s1 σ H v u Q Iv r h2
  · rintro pins s1 σ H Q Iv ⟨x, h1, h2⟩
    exact (hi1 s _ C cl fp x h1).run pins s1 σ H Q Iv h2
  · rintro pins s1 σ H v u Q Iv r ⟨x, y, h1, h2, h3⟩
    exact (hg1 s _ C cl fp x y h1 h2).run pins s1 σ H v u Q Iv r h3
  · rintro pins s1 σ H Q Iv ⟨x, y, h1, h2, h3⟩
    exact (ht s _ C cl fp x y h1 h2).run pins s1 σ H Q Iv h3
  · rintro pins s1 σ H Q Iv ⟨x, y, h1, h2, h3, h4⟩
    exact (he s _ C cl fp x y h1 h2 h3).run pins s1 σ H Q Iv h4
  · rintro σ H Q ⟨F0, G, F, s, k⟩
    refine ⟨F0, G, F, s, fun J F1 H1 g1 wk D hD => ?_⟩
    have s1 := (s.mv g1).wipe (own.map (·.2))
    have pre : ∀ i, i ≤ xs.length → ((xs.take i).flatMap fun x => ((ys x).filter (f x)).map (g x)).length ≤ 100000 := fun i _ => by
      refine Nat.le_trans ?_ hn
      rw [← List.take_append_drop i xs, List.flatMap_append, List.take_append_drop i xs, List.length_append]
      exact Nat.le_add_right _ _
    refine ⟨fun i m H' => m = xs.length - i ∧ i ≤ xs.length ∧ ∃ F', CSt Z F0 G F1 H1 (L2.wipe σ (own.map (·.2))) (wipeA ρ (own.map (·.2))) D 100000 (· = (xs.take i).flatMap fun x => ((ys x).filter (f x)).map (g x)) F' H', ⟨xs.length, rfl, Nat.zero_le _, F1, (CSt.start (A := fun acc => acc = []) s1 hD rfl).re fun acc (e : acc = []) => by rw [e]; exact Nat.zero_le _⟩, ?_⟩
    rintro i m H2 ⟨rfl, hil, F2, c2⟩
    obtain ⟨w1, w2, w3⟩ := wk F2 H2 c2.go.f c2.st.fh c2.st.zk c2.st.zo
    rw [List.length_map] at w1 w2
    by_cases hlt : i < xs.length
    · have hxi : xs[i]? = some xs[i] := List.getElem?_eq_getElem hlt
      have hxm : xs[i] ∈ xs := List.getElem_mem hlt
      have tk : (xs.take (i + 1)).flatMap (fun x => ((ys x).filter (f x)).map (g x)) = ((xs.take i).flatMap fun x => ((ys x).filter (f x)).map (g x)) ++ ((ys xs[i]).filter (f xs[i])).map (g xs[i]) := by
        rw [List.take_add_one, hxi, List.flatMap_append]
        simp
      have pi1 := pre (i + 1) hlt
      rw [tk] at pi1
      generalize xs[i] = x at hxi hxm tk pi1
      generalize hP : ((xs.take i).flatMap fun x => ((ys x).filter (f x)).map (g x)) = P at c2 tk pi1
      refine .inr ⟨w1 i hlt, fun H' => ∃ F', CSt Z F0 G F1 H1 (L2.wipe σ (own.map (·.2))) (wipeA ρ (own.map (·.2))) D 100000 (· = P ++ ((ys x).filter (f x)).map (g x)) F' H', fun H' h => ⟨xs.length - (i + 1), by omega, rfl, hlt, by rw [tk]; exact h⟩, fun v H3 y => ?_⟩
      obtain ⟨F3, g3, ok3⟩ := w3 i (enc x) v H3 (by rw [List.getElem?_map, hxi]; rfl) y
      have c3 := c2.at g3
      refine ⟨x, hxm, F0, G, F3, c3.st, ok3, fun σ4 s4 e4 => ⟨Eq.trans e4 (wipe_wipe σ _), ?_⟩⟩
      refine iteT ⟨x, hxm, F0, G, F3, s4, fun J1 F5 H5 g5 wk1 => ?_⟩
      have c5 := c3.at g5
      have s5 := (s4.mv g5).wipe vs1
      refine ⟨fun j m H' => m = (ys x).length - j ∧ j ≤ (ys x).length ∧ ∃ F', Same F5 F' ∧ CSt Z F0 G F1 H1 (L2.wipe σ (own.map (·.2))) (wipeA ρ (own.map (·.2))) D 100000 (· = P ++ (((ys x).take j).filter (f x)).map (g x)) F' H' ∧ St Z F0 G F' H' (L2.wipe σ4 vs1) (wipeA (ρ' x) vs1),
        ⟨(ys x).length, rfl, Nat.zero_le _, F5, Same.refl _, by simpa using c5, s5⟩, ?_⟩
      rintro j m H6 ⟨rfl, hjl, F6, sf6, c6, s6⟩
      obtain ⟨v1, v2, v3⟩ := wk1 F6 H6 sf6 c6.st.fh c6.st.zk c6.st.zo
      rw [List.length_map] at v1 v2
      by_cases hlj : j < (ys x).length
      · have hyj : (ys x)[j]? = some (ys x)[j] := List.getElem?_eq_getElem hlj
        have hym : (ys x)[j] ∈ ys x := List.getElem_mem hlj
        have tj : (ys x).take (j + 1) = (ys x).take j ++ [(ys x)[j]] := by
          rw [List.take_add_one, hyj]
          rfl
        have lenP : ∀ n, (P ++ (((ys x).take n).filter (f x)).map (g x)).length ≤ 100000 := fun n => by
          refine Nat.le_trans ?_ pi1
          rw [List.length_append, List.length_append, List.length_map, List.length_map]
          exact Nat.add_le_add_left (((List.take_sublist n (ys x)).filter (f x)).length_le) _
        generalize (ys x)[j] = y at hyj hym tj
        refine .inr ⟨v1 j hlj, fun H' => ∃ F', Same F5 F' ∧ CSt Z F0 G F1 H1 (L2.wipe σ (own.map (·.2))) (wipeA ρ (own.map (·.2))) D 100000 (· = P ++ (((ys x).take (j + 1)).filter (f x)).map (g x)) F' H' ∧ St Z F0 G F' H' (L2.wipe σ4 vs1) (wipeA (ρ' x) vs1),
          fun H' h => ⟨(ys x).length - (j + 1), by omega, rfl, hlj, h⟩, fun u H7 yy => ?_⟩
        obtain ⟨F7, g7, ok7⟩ := v3 j (enc1 x y) u H7 (by rw [List.getElem?_map, hyj]; rfl) yy
        have c7 := c6.at g7
        refine ⟨x, y, hxm, hym, F0, G, F7, s6.mv g7, ok7, fun σ8 s8 e8 => ⟨Eq.trans e8 (wipe_wipe σ4 _), x, y, hxm, hym, F0, G, F7, s8, fun bb F9 H9 g9 hb => ?_⟩⟩
        have c9 := c7.at g9
        have s9 := (s6.mv g7).mv g9
        cases bb with
        | false =>
          refine iteF ⟨F9, (sf6.trans g7.f).trans g9.f, ?_, s9⟩
          rw [tj, List.filter_append, List.filter_cons, if_neg (by rw [← hb]; decide)]
          simpa using c9
        | true =>
          refine iteT ⟨x, y, hxm, hym, hb.symm, F0, G, F9, s8.mv g9, fun w F10 H10 g10 r10 => ?_⟩
          have c10 := c9.at g10
          have s10 := s9.mv g10
          have tj2 : P ++ (((ys x).take (j + 1)).filter (f x)).map (g x) = (P ++ (((ys x).take j).filter (f x)).map (g x)) ++ [g x y] := by
            rw [tj, List.filter_append, List.filter_cons, if_pos hb.symm, List.map_append, List.append_assoc]
            rfl
          have lj := lenP (j + 1)
          rw [tj2, List.length_append, List.length_singleton] at lj
          obtain ⟨acc, vs, a1, a2, a3, a4⟩ := c10.acc
          have c10' := c10.re (j := (P ++ (((ys x).take j).filter (f x)).map (g x)).length) fun acc e => by rw [e]; exact Nat.le_refl _
          obtain ⟨vs2, b1, b2, b3⟩ := c10'.more (A' := (· = P ++ (((ys x).take (j + 1)).filter (f x)).map (g x))) r10 (fun acc e => by rw [e, tj2]) (by omega)
          refine ⟨vs2, b1, b2, F10, ((sf6.trans g7.f).trans g9.f).trans g10.f, b3.re fun acc e => by rw [e]; exact lenP (j + 1), ?_⟩
          exact s10.own c10.fd c10.gd c10.xd (fun i m hi => absurd hi (noMu_wipe (hmu x hxm) vs1)) b1 (fun c q z => by cases z)
      · have ej : j = (ys x).length := by omega
        subst ej
        refine .inl ⟨v2, F6, ?_⟩
        rw [List.take_length] at c6
        exact c6
    · have ei : i = xs.length := by omega
      subst ei
      rw [List.take_length] at c2
      obtain ⟨acc, vs, a1, a2, a3, a4⟩ := c2.acc
      exact .inl ⟨w2, k acc a3 D vs F2 H2 (g1.tr c2.go) (g1.was c2.h0) c2.fd a1 a2⟩
theorem lc2D {elt iter iter1 : Expr} {ifs1 : List Expr} {scope : Scope} {own : List (Str × Nat)} {vs1 : List Nat} (h : Lc2 X Z ρ elt tg iter tg1 iter1 ifs1 scope own vs1 (· = ds)) : PE X (.ListComp elt [⟨tg, iter, [], 0⟩, ⟨tg1, iter1, ifs1, 0⟩] scope pos) (tN Z ρ (mL ds)) := by
  obtain ⟨wi, wi1, g, g1, tt, tt1, te, a1, a2, a3, a4, a5, a6, a7, a8, a9, a10, a11, a12, a13, a14⟩ := h
  exact ne1 ((pe_lc2 a1 a2 a3 a4 a5 a6 a7 a8 a9 a10 a11 a12 a13).imp a14)
end
section
variable {X : Cx} {Z : Zn} {F0 G : Hp} {ρ : En} {tg tg1 : Expr} {pos : Pos} {ds : List PyData} {Φ : Po} {rest : List Stmt}
/-- x = [.. for .. for ..] -/
theorem ssetLc2 (i : Nat) {x : Str} {pos' spos : Pos} {elt iter iter1 : Expr} {ifs1 : List Expr} {scope : Scope} {own : List (Str × Nat)} {vs1 : List Nat} (h : Lc2 X Z ρ elt tg iter tg1 iter1 ifs1 scope own vs1 (· = ds)) (h2 : PSs X rest (tS Z F0 G (ρ.set i (some (.im (Dt (.list ds))))) Φ))
    (hi : X.N[i]? = some x := by rfl) (hx : X.env.scope.names.lookup x = some .local := by rfl) (hsw : swapsWith (.ListComp elt [⟨tg, iter, [], 0⟩, ⟨tg1, iter1, ifs1, 0⟩] scope pos) (some (.Name x pos')) spos.line X.env = pure true := by exact sw_true rfl rfl rfl (by decide +kernel)) (hl : Nat.blt i ρ.length = true := by rfl) :
    PSs X (.Assign [.Name x pos'] (.ListComp elt [⟨tg, iter, [], 0⟩, ⟨tg1, iter1, ifs1, 0⟩] scope pos) spos :: rest) (tS Z F0 G ρ Φ) := by
  obtain ⟨wi, wi1, g, g1, tt, tt1, te, a1, a2, a3, a4, a5, a6, a7, a8, a9, a10, a11, a12, a13, a14⟩ := h
  refine sone (ps_setLc2 a1 a2 hi hx hsw a3 a4 a5 a6 a7 a8 a9 a10 a11 a12 a13) h2 fun D σ H ⟨F, s, k1, k2⟩ => a14 σ H _ ⟨F0, G, F, s, fun acc ha p vs F1 H1 g1 n1 n2 n3 r => ?_⟩
  rw [ha] at r
  exact k1 _ _ _ H1 rfl (g1.keep n1 n3 n2).f ((s.mv (g1.keep n1 n3 n2)).setI (bl hl) (Rp.lst upd_same (RpL.mono (same_new n2) _ _ r)))
end
end Kb
end TKx
section TKy
set_option Elab.async false
set_option autoImplicit false
set_option linter.all false
set_option maxRecDepth 100000
set_option maxHeartbeats 4000000
/-! Ky: dict comprehensions, whatever the kind of dict. -/
namespace Kb
open PySem PySem.Spec PyProof.Rows L2

/-- how a kind of dict begins, and is stored into -/
structure Sto (X : Cx) where
  emp : Addr → HO
  known : Addr → Prop
  put : Addr → V → V → Hp → (Hp → Prop) → Prop
  laid : ∀ {pins : List (Addr × Obj)} {σ : L2.St} {H : Hp} {s : Shared}, Inv X pins σ H s → known s.heap.objs.size ∧ Inv X pins σ (upd H s.heap.objs.size (emp s.heap.objs.size)) { s with heap := s.heap.push { cls := .type "dict", data := .dict #[] } }
  run : ∀ {s0 : Shared} {H0 : Hp} {scope : Scope} {ce : Env} {fp : List Addr} {pins : List (Addr × Obj)} {σ : L2.St} {H : Hp} {s : Shared} {D : Addr} {y z : V} {u r : Value} {Nx : Hp → Prop} {E : Value → Shared → Prop},
    Inv (X.blk s0 H0 scope ce fp) pins σ H s → RelV y u → RelV z r → put D y z H Nx → wpAny (model X.prog X.w) X.A (dictSet D u r) (fun _ s' => ∃ H', Inv (X.blk s0 H0 scope ce fp) pins σ H' s' ∧ Nx H') E s
def tDg {X : Cx} (S : Sto X) (wi : TI) (g : TG) (tt : TT) (tk tv : TE) (vs : List Nat) : TE := fun σ H Q => wi σ H fun J H1 => ∀ D, H1 D = none → S.known D → ∃ W : Nat → Nat → Hp → Prop, (∃ m, W 0 m (upd H1 D (S.emp D))) ∧ ∀ i m H, W i m H →
  (J.stop i H ∧ Q (.ref D) H) ∨ (J.go i H ∧ ∃ Nx : Hp → Prop, (∀ H', Nx H' → ∃ m', m' < m ∧ W (i + 1) m' H') ∧ ∀ x H', J.yld i H x H' → g x (L2.wipe σ vs) H' fun σ2 H2 => L2.wipe σ2 vs = L2.wipe σ vs ∧ tt σ2 H2 fun b H3 =>
    if b = true then tk σ2 H3 fun y H4 => tv σ2 H4 fun z H5 => S.put D y z H5 Nx else Nx H3)
/-- a dict comprehension's parts -/
structure DcP (X : Cx) (S : Sto X) (kx vx tg iter : Expr) (ifs : List Expr) (scope : Scope) (own : List (Str × Nat)) (wi : TI) (g : TG) (tt : TT) (tk tv : TE) : Prop where
  hc : X.calm = true
  hN : X.N.Nodup
  hi : PI X tg iter wi
  ok : BlkOk X.N X.env.scope scope own
  hg : ∀ (s : Shared) (H : Hp) (C : Addr) (cl : List (Str × Addr)) (fp : List Addr), PG (X.blk s H scope (compEnvC scope cl C X.env) fp) tg g
  ht : ∀ (s : Shared) (H : Hp) (C : Addr) (cl : List (Str × Addr)) (fp : List Addr), PTs (X.blk s H scope (compEnvC scope cl C X.env) fp) ifs tt
  hk : ∀ (s : Shared) (H : Hp) (C : Addr) (cl : List (Str × Addr)) (fp : List Addr), PE (X.blk s H scope (compEnvC scope cl C X.env) fp) kx tk
  he : ∀ (s : Shared) (H : Hp) (C : Addr) (cl : List (Str × Addr)) (fp : List Addr), PE (X.blk s H scope (compEnvC scope cl C X.env) fp) vx tv
  hs : ∀ x, foldedSetIterable iter X.env x = pure x
theorem sto_core {X : Cx} {S : Sto X} {pins : List (Addr × Obj)} {s : Shared} {σ : L2.St} {H : Hp} {Q : VK} {kx vx tg iter : Expr} {ifs : List Expr} {scope : Scope} {own : List (Str × Nat)} {pos pos' : Pos} {wi : TI} {g : TG} {tt : TT} {tk tv : TE} {use : Option (Value → Sem Unit)} {Qf : Value → Shared → Prop}
    (P : DcP X S kx vx tg iter ifs scope own wi g tt tk tv) (I : Inv X pins σ H s) (h : tDg S wi g tt tk tv (own.map (·.2)) σ H Q)
    (fin : ∀ D C s' m H', Inv X pins σ H' s' → Q (.ref D) H' → s'.heap.Ns C m → FpOk X pins H' C → compPost (model X.prog X.w) X.A X.xe use Qf (.ref D) C (.ok .next) s') :
    wpAny (model X.prog X.w) X.A (comprehension (.DictComp kx vx [⟨tg, iter, ifs, 0⟩] scope pos) scope X.env pos' newDict false (eval iter X.env) use) Qf X.xe s := by
  have free : ∀ y ∈ scope.names, y.2 = .free → ∃ c, X.env.cells.lookup y.1 = some c := fun y hy e =>
    (P.ok.free y hy e).elim (fun k => I.ok.has _ (.inl k)) fun k => I.ok.has _ (.inr k)
  refine wpAny_comprehension_free (use := use) rfl P.hs (closure_ok free) P.ok.kind (fun y hy e => by rw [P.ok.uniq y hy, e]) (thn (P.hi.run pins s σ H _ I h) fun xv s1 hx => thn hx ?_)
  rintro itv t ⟨it, fp, tn, J, H2, rfl, I2, T, st2, f2, q⟩
  refine wpAny_newObj_type (newEnv_comp ?_)
  have lt2 : ∀ b ∈ fp, b < t.heap.objs.size := fun b hb => by
    obtain ⟨o, e, _⟩ := T.obj _ _ st2 b hb
    exact Heap.lt_size e
  have hDn : H2 t.heap.objs.size = none := I2.hok.fresh (Nat.le_refl _)
  obtain ⟨hkn, I3⟩ := S.laid I2
  obtain ⟨W, ⟨m0, w0⟩, turn⟩ := q _ hDn hkn
  generalize hD : t.heap.objs.size = D at *
  generalize ht3 : ({ t with heap := t.heap.push { cls := .type "dict", data := .dict #[] } } : Shared) = t3 at I3
  have grow : ∀ b o, t.heap.get? b = some o → t3.heap.get? b = some o := fun b o e => by
    rw [← ht3]
    exact Heap.get?_push_of_some _ e
  have sz3 : t3.heap.objs.size = D + 1 := by
    rw [← ht3, ← hD]
    exact Heap.size_push _ _
  generalize hH3 : upd H2 D (S.emp D) = H3 at I3 w0
  have f3 : ∀ b ∈ fp, FpOk X pins H3 b ∧ b < t3.heap.objs.size := fun b hb => by
    have hlt := lt2 b hb
    refine ⟨⟨?_, (f2 b hb).2⟩, by rw [sz3]; exact Nat.lt_succ_of_lt hlt⟩
    rw [← hH3, upd_ne (Nat.ne_of_lt hlt)]
    exact (f2 b hb).1
  have st3 : tn 0 t3.heap := T.keep _ _ _ st2 fun b _ o e => grow b o e
  have I4 := block_start I3 P.ok P.hN f3
  have pg := P.hg t3 H3 t3.heap.objs.size (cellsFrom (t3.heap.objs.size + 1) scope.names (cloFrom X.env.cells scope.names [])) fp
  have pt := P.ht t3 H3 t3.heap.objs.size (cellsFrom (t3.heap.objs.size + 1) scope.names (cloFrom X.env.cells scope.names [])) fp
  have pk := P.hk t3 H3 t3.heap.objs.size (cellsFrom (t3.heap.objs.size + 1) scope.names (cloFrom X.env.cells scope.names [])) fp
  have pe := P.he t3 H3 t3.heap.objs.size (cellsFrom (t3.heap.objs.size + 1) scope.names (cloFrom X.env.cells scope.names [])) fp
  have goal : codeAny (model X.prog X.w) X.A (.compStart (.DictComp kx vx [⟨tg, iter, ifs, 0⟩] scope pos) 0 (.ref it) (.ref D) (compEnvC scope (cellsFrom (t3.heap.objs.size + 1) scope.names (cloFrom X.env.cells scope.names [])) t3.heap.objs.size X.env)) (compPost (model X.prog X.w) X.A X.xe use Qf (.ref D) t3.heap.objs.size)
      { t3 with heap := pushCells (t3.heap.push { cls := .type "dict", data := .dict #[] }) scope.names } := by
    generalize hce : compEnvC scope (cellsFrom (t3.heap.objs.size + 1) scope.names (cloFrom X.env.cells scope.names [])) t3.heap.objs.size X.env = ce at I4 pg pt pk pe ⊢
    have cL : ce.locals = t3.heap.objs.size := by subst hce; rfl
    have g4 : ∀ b o, t3.heap.get? b = some o → ({ t3 with heap := pushCells (t3.heap.push { cls := .type "dict", data := .dict #[] }) scope.names } : Shared).heap.get? b = some o := fun b o e => pushCells_keeps _ _ _ _ (Heap.get?_push_of_some _ e)
    generalize ({ t3 with heap := pushCells (t3.heap.push { cls := .type "dict", data := .dict #[] }) scope.names } : Shared) = t4 at I4 g4 ⊢
    have st4 : tn 0 t4.heap := T.keep _ _ _ st3 fun b _ o e => g4 b o e
    have n4 : ∀ b ∈ fp, H3 b = none := fun b hb => (f3 b hb).1.1
    have stat : ∀ {σ' : L2.St} {H' : Hp} {s' : Shared}, Inv (X.blk t3 H3 scope ce fp) [] σ' H' s' → (∀ b ∈ fp, H' b = none) → ∀ b ∈ fp, FpOk (X.blk t3 H3 scope ce fp) [] H' b := fun {σ' H' s'} I' hn b hb =>
      ⟨hn b hb, (I'.ok.exf b hb).1, I'.ok.exfs b hb, .inl hb, fun x c e => (I'.ok.exf b hb).2 x c e, fun p hp => absurd (show p ∈ ([] : List (Addr × Obj)) ++ [] from hp) (by simp)⟩
    have loop : codeAny (model X.prog X.w) X.A (.compLoop (.DictComp kx vx [⟨tg, iter, ifs, 0⟩] scope pos) 0 (.ref it) (.ref D) ce) (compPost (model X.prog X.w) X.A X.xe use Qf (.ref D) t3.heap.objs.size) t4 := by
      refine compLoop_anyD (fun n s' => ∃ i H', Inv (X.blk t3 H3 scope ce fp) [] (L2.wipe σ (own.map (·.2))) H' s' ∧ tn i s'.heap ∧ (∀ b ∈ fp, H' b = none) ∧ W i n H') (fun n s5 ⟨i, H5, I5, st5, n5, w5⟩ => ?_) m0 ⟨0, H3, I4, st4, n4, w0⟩
      rcases turn i n H5 w5 with ⟨stop, qq⟩ | ⟨go, Nx, hNx, step⟩
      · refine thnF (T.done (X.blk t3 H3 scope ce fp) rfl rfl rfl P.hc i [] s5 _ H5 (fun _ _ => False) I5 (stat I5 n5) st5 stop) fun r s6 ⟨hr, I6⟩ => ?_
        subst hr
        have I7 : Inv X pins σ H5 s6 := I3.call' (ch := fp) I6.os I6.base I6.hok I6.bare fun b hb => ⟨(f3 b hb).1.2.2.2.1, (f3 b hb).1.2.1, (f3 b hb).1.2.2.2.2.1, (f3 b hb).1.2.2.2.2.2⟩
        have nC : H5 ce.locals = none := I6.free
        obtain ⟨m, hn, _⟩ := I6.loc
        have hn : s6.heap.Ns ce.locals m := hn
        rw [cL] at hn nC
        exact fin D _ s6 m H5 I7 qq hn (I3.fpOk (Nat.le_refl _) nC)
      · refine thnF (T.item (X.blk t3 H3 scope ce fp) rfl rfl rfl P.hc i [] s5 _ H5 (fun _ _ => False) I5 (stat I5 n5) st5 go) fun r s6 ⟨u, hr, h6⟩ => ?_
        subst hr
        refine thnF h6 fun _ s7 ⟨x, H7, I7, r7, y7, st7, n7⟩ => ?_
        refine thnF (pg.run _ s7 _ H7 x u _ (I7.pinned (stat I7 n7) (T.obj _ _ st7)) r7 (step x H7 y7)) fun _ s8 ⟨σ8, H8, I8, hw8, q8⟩ => thnF (pt.run _ s8 σ8 H8 _ I8 q8) fun b s9 ⟨H9, I9, q9⟩ => ?_
        have turned : ∀ {s' : Shared} {H' : Hp}, Inv (X.blk t3 H3 scope ce fp) ([] ++ pinsAt fp s7.heap) σ8 H' s' → Nx H' → ∃ m, m < n ∧ ∃ i H', Inv (X.blk t3 H3 scope ce fp) [] (L2.wipe σ (own.map (·.2))) H' s' ∧ tn i s'.heap ∧ (∀ b ∈ fp, H' b = none) ∧ W i m H' := fun {s' H'} I' nx => by
          obtain ⟨m', hm, w'⟩ := hNx H' nx
          have pin' : ∀ b ∈ fp, ∀ o, s7.heap.get? b = some o → s'.heap.get? b = some o ∧ H' b = none := fun b hb o e => by
            have z := I'.pin (b, o) (List.mem_append_right _ (List.mem_append_right _ (mem_pinsAt hb e)))
            exact ⟨z.1, z.2.1⟩
          refine ⟨m', hm, i + 1, H', (I'.unpinned (pins := [])).weak (by rw [← hw8, wipe_length]) (fun j v e => ?_), T.keep _ _ _ st7 fun b hb o e => (pin' b hb o e).1, fun b hb => ?_, w'⟩
          · rw [← hw8] at e
            exact (wipe_some e).1
          · obtain ⟨o, e, _⟩ := T.obj _ _ st7 b hb
            exact (pin' b hb o e).2
        cases b with
        | true =>
          simp only [if_true] at q9 ⊢
          refine thnF (pk.run _ s9 σ8 H9 _ I9 q9) fun z s10 ⟨yk, H10, I10, r10, q10⟩ => thnF (pe.run _ s10 σ8 H10 _ I10 q10) fun z2 s11 ⟨yv, H11, I11, r11, qp⟩ => ?_
          exact thnF (S.run (E := fun _ _ => False) I11 r10 r11 qp) fun _ s12 ⟨H12, I12, nx⟩ => turned I12 nx
        | false =>
          simp only [Bool.false_eq_true, if_false] at q9 ⊢
          exact turned I9 q9
    exact codeAny_compStart_dict loop (T.self X.A 0 _ _ _ st4 loop)
  exact goal
section
variable {X : Cx} {S : Sto X} {kx vx tg iter : Expr} {ifs : List Expr} {scope : Scope} {own : List (Str × Nat)} {pos : Pos} {wi : TI} {g : TG} {tt : TT} {tk tv : TE}
theorem pe_sto (P : DcP X S kx vx tg iter ifs scope own wi g tt tk tv) : PE X (.DictComp kx vx [⟨tg, iter, ifs, 0⟩] scope pos) (tDg S wi g tt tk tv (own.map (·.2))) := ⟨fun pins s σ H Q I h => by
  rw [arm_eval_DictComp]
  refine sto_core P I h fun D C s' m H' I' q hn f => ⟨m, hn, fun h'' sb => ?_⟩
  obtain ⟨f0, f1, f2, f3, f4, f5⟩ := f
  exact ⟨.ref D, H', I'.turned (t' := s'.toks) (fun b o hb e => (sb.2 b hb).trans e) f0 f1 f3 f4 f5, rfl, q⟩⟩
theorem ps_sto {i : Nat} {y : Str} {py spos : Pos} (P : DcP X S kx vx tg iter ifs scope own wi g tt tk tv) (hy : X.N[i]? = some y) (hyl : X.env.scope.names.lookup y = some .local)
    (hsw : swapsWith (.DictComp kx vx [⟨tg, iter, ifs, 0⟩] scope pos) (some (.Name y py)) spos.line X.env = pure true) :
    PS X (.Assign [.Name y py] (.DictComp kx vx [⟨tg, iter, ifs, 0⟩] scope pos) spos) (tAsg (tDg S wi g tt tk tv (own.map (·.2))) (gName i)) := ⟨fun pins s σ H D I h => by
  rw [exec_Assign_Name_used _ _ _ _ hsw]
  refine wpAny_bind (wpAny_standAt (wpAny_bind ?_))
  show wpAny _ X.A (do let _ ← comprehension (.DictComp kx vx [⟨tg, iter, ifs, 0⟩] scope pos) scope X.env (firstIterPos [⟨tg, iter, ifs, 0⟩] pos) newDict false (eval iter X.env) (some (assign (.Name y py) X.env))) _ _ s
  have h : tDg S wi g tt tk tv (own.map (·.2)) σ H (fun x H1 => gName i x σ H1 D.nx) := h
  refine wpAny_bind (thn (sto_core (Qf := fun _ s' => SP X pins D .next s') P I h fun L C s' m H' I' q hn f => ?_) fun _ s' hq => wpAny_pure (wpAny_pure hq))
  show wpAny _ _ (assign (.Name y py) X.env (.ref L)) _ _ _
  refine wpAny_assign_Name (store_ok2 (v := V.ref L) I' P.hN hy (.inl hyl) rfl (fun s2 I2 ⟨a, sb, ha⟩ => ?_) (.inr hyl))
  obtain ⟨f0, f1, f2, f3, f4, f5⟩ := f
  have haC : C ≠ a := by
    rcases ha with z | z
    · rw [z]
      exact f1
    · exact fun e => f4 y a z e.symm
  exact ⟨m, hn.sameBut sb haC, fun h3 sb3 => ⟨_, H', I2.turned (t' := s2.toks) (fun b o hb e => (sb3.2 b hb).trans e) f0 f1 f3 f4 f5, q⟩⟩⟩
end
/-- texts as keys -/
def stoK (X : Cx) : Sto X where
  emp := fun _ => .dK []
  known := fun _ => True
  put := fun D y z H Nx => ∃ kvs k, y = kV k ∧ H D = some (.dK kvs) ∧ kvs.length < sizeLine ∧ Nx (upd H D (.dK (putK kvs k z)))
  laid := fun {pins σ H s} I => ⟨trivial, I.laid (t' := s.toks) (fun b o e => Heap.get?_push_of_some _ e) (Nat.le_refl _) (dk_empty s.heap I.big)⟩
  run := fun {s0 H0 scope ce fp pins σ H s D y z u r Nx E} I ry rz h => by
    obtain ⟨kvs, k, rfl, h1, h2, h3⟩ := h
    exact d_dictSet (X := X.blk s0 H0 scope ce fp) I h1 h2 ry rz fun s' I' => ⟨_, I', h3⟩
end Kb
end TKy
section TKz
set_option Elab.async false
set_option autoImplicit false
set_option linter.all false
set_option maxRecDepth 100000
set_option maxHeartbeats 4000000
/-! Kz: dict comprehensions over the abstract environment. -/
namespace Kb
open PySem PySem.Spec PyProof.Rows L2 PySem.W

/-- tuples as keys -/
def stoN (X : Cx) (hu : X.A.units + 64 < cLine) : Sto X where
  emp := fun a => DyO X.prog X.w a []
  known := fun a => ∃ h, DyS X.prog X.w h a []
  put := fun D y z H Nx => ∃ xs F kvs k d, AtD X H (.ref D) y D xs F kvs k ∧ Rp F z d ∧ kvs.length < 100000 ∧ ∀ xs', KtR F xs' (putN kvs k d) → (∃ h, DyS X.prog X.w h D xs') → Nx (upd H D (DyO X.prog X.w D xs'))
  laid := fun {pins σ H s} I => by
    have R : DyS X.prog X.w (s.heap.push { cls := .type "dict", data := .dict #[] }) s.heap.objs.size [] := ⟨⟨[], .nil, _, #[], 0, Heap.get?_push_size _ rfl, ⟨rfl, rfl, rfl⟩, rfl, rfl⟩, List.nodup_nil, beq_eq_false_iff_ne.mpr (Ne.symm (Nat.ne_of_lt I.big))⟩
    exact ⟨⟨_, R⟩, I.laid (t' := s.toks) (fun b o e => Heap.get?_push_of_some _ e) (Nat.le_refl _) (dyO_new R)⟩
  run := fun {s0 H0 scope ce fp pins σ H s D y z u r Nx E} I3 ry rz h => by
    obtain ⟨xs, F, kvs, k, d, hat, hd, hz, q⟩ := h
    have hat' : AtD (X.blk s0 H0 scope ce fp) H (.ref D) y D xs F kvs k := hat
    obtain ⟨R, b, ys, _, rfl, pr, kt, full, hk⟩ := dy_full I3 hat'
    obtain ⟨b0, _, eb, hHa, fh, _, hkd, hk8⟩ := id hat
    cases eb
    obtain rfl : u = Value.ref b := ry
    have hyl : ys.length = kvs.length := by
      have e1 := congrArg List.length (PrD.keys pr)
      have e2 := kt.len
      rw [List.length_map, List.length_map] at e1
      omega
    refine wpAny_dictSet_heap (knd := nestedKind X.prog X.w) (show X.A.units + 8 < cLine by omega) hk full (fun h' hm sb => ?_) (by rw [hyl]; exact small (by omega))
    obtain ⟨xs', a1, a2, a3, a4⟩ := put_look hkd hk8 hd rz kt pr R.nd
    obtain ⟨o, es, ep, ho', hx', hd', he', _, _⟩ := id hm
    have R' : DyS X.prog X.w h' D xs' := ⟨⟨_, a1, o, es, ep, ho', hx', hd', he'⟩, a4, R.nm⟩
    exact ⟨upd H D (DyO X.prog X.w D xs'), I3.write (by rw [hHa]; trivial) (.inl rfl) (fun c o hc e => (sb.2 c hc).trans e) ⟨o, ho'⟩ (dyO_new R'), q xs' a2 ⟨h', R'⟩⟩

/-- the dict comes: its state at a turn -/
structure CDt (Z : Zn) (F0 G Fs Hs : Hp) (σ : L2.St) (ρ : En) (D : Addr) (m : Mt) (F H : Hp) : Prop where
  st : St Z F0 G F H σ ρ
  go : Go Z Fs Hs F H
  h0 : Hs D = none
  fd : F D = none
  gd : G D = none
  xd : ¬ Z.out D
  sd : ∀ (i : Nat) (m : Mt), ρ[i]? = some (some (.mu m)) → σ[i]? ≠ some (some (.ref D))
  ob : ∃ o, H D = some o ∧ m.ok D F o
section
variable {Z : Zn} {F0 G Fs Hs F H F' H' : Hp} {σ : L2.St} {ρ : En} {D : Addr} {m m' : Mt}
theorem CDt.start {o : HO} (s : St Z F0 G F H σ ρ) (hD : H D = none) (h : m.ok D F o) : CDt Z F0 G F H σ ρ D m F (upd H D o) := by
  have xd : ¬ Z.out D := fun z => s.zk.there z hD
  refine ⟨s.mv (Go.new s.fh s.zk hD), Go.new s.fh s.zk hD, hD, s.fh.free hD, ?_, xd, fun i m hi e => ?_, o, upd_same, h⟩
  · cases e : G D with
    | none => rfl
    | some u =>
      rw [s.go.h D u xd e] at hD
      cases hD
  · obtain ⟨p, o, h1, h2, _⟩ := s.mu i m hi
    rw [e] at h1
    cases h1
    rw [hD] at h2
    cases h2
theorem CDt.at (c : CDt Z F0 G Fs Hs σ ρ D m F H) (g : Go Z F H F' H') : CDt Z F0 G Fs Hs σ ρ D m F' H' := by
  obtain ⟨o, a1, a2⟩ := c.ob
  exact ⟨c.st.mv g, c.go.tr g, c.h0, g.nw D c.fd (by rw [a1]; intro z; cases z), c.gd, c.xd, c.sd, o, g.h D _ c.xd a1, m.mono g.f a2⟩
theorem CDt.more {o' : HO} (c : CDt Z F0 G Fs Hs σ ρ D m F H) (h : m'.ok D F o') : CDt Z F0 G Fs Hs σ ρ D m' F (upd H D o') := by
  obtain ⟨o, a1, a2⟩ := c.ob
  have s' : St Z F0 G F (upd H D o') σ ρ := c.st.own c.fd c.gd c.xd c.sd a1 (m.nc a2)
  exact ⟨s', c.go.own c.h0 c.fd s'.zk, c.h0, c.fd, c.gd, c.xd, c.sd, o', upd_same, h⟩
theorem CDt.like (c : CDt Z F0 G Fs Hs σ ρ D m F H) (h : ∀ o, m.ok D F o → m'.ok D F o) : CDt Z F0 G Fs Hs σ ρ D m' F H := by
  obtain ⟨o, a1, a2⟩ := c.ob
  exact ⟨c.st, c.go, c.h0, c.fd, c.gd, c.xd, c.sd, o, a1, h o a2⟩
end
/-- a dict comprehension that gives an m -/
def DcD (X : Cx) (Z : Zn) (ρ : En) (kx vx tg iter : Expr) (ifs : List Expr) (scope : Scope) (own : List (Str × Nat)) (m : Mt) : Prop :=
  ∃ (S : Sto X) (wi : TI) (g : TG) (tt : TT) (tk tv : TE), DcP X S kx vx tg iter ifs scope own wi g tt tk tv ∧ ∀ σ H Q, tN Z ρ m σ H Q → tDg S wi g tt tk tv (own.map (·.2)) σ H Q
section
variable {X : Cx} {Z : Zn} {F0 G : Hp} {ρ ρ1 ρ2 : En} {e a b c tg : Expr} {es : List Expr} {pos p : Pos} {t : Ty} {m : Mt} {d : PyData} {ds : List PyData} {Φ Ψ : Po} {rest : List Stmt}
theorem ddc (S : Sto X) {α : Type} {kx vx iter : Expr} {ifs : List Expr} {scope : Scope} {own : List (Str × Nat)} {xs : List α} {enc : α → Ty} {ρ' : α → En} {f : α → Bool} {tk tv : α → Ty} (mm : List α → Mt) (hc : X.calm = true) (hN : X.N.Nodup)
    (hi : PI X tg iter (tI Z ρ (xs.map enc))) (ok : BlkOk X.N X.env.scope scope own)
    (hg : ∀ (s : Shared) (H : Hp) (C : Addr) (cl : List (Str × Addr)) (fp : List Addr) (x : α), x ∈ xs → PG (X.blk s H scope (compEnvC scope cl C X.env) fp) tg (tGt (some (own.map (·.2))) Z (wipeA ρ (own.map (·.2))) (enc x) (ρ' x)))
    (ht : ∀ (s : Shared) (H : Hp) (C : Addr) (cl : List (Str × Addr)) (fp : List Addr) (x : α), x ∈ xs → PTs (X.blk s H scope (compEnvC scope cl C X.env) fp) ifs (tQ Z (ρ' x) (f x)))
    (hk : ∀ (s : Shared) (H : Hp) (C : Addr) (cl : List (Str × Addr)) (fp : List Addr) (x : α), x ∈ xs → f x = true → PE (X.blk s H scope (compEnvC scope cl C X.env) fp) kx (tO Z (ρ' x) (tk x).od))
    (he : ∀ (s : Shared) (H : Hp) (C : Addr) (cl : List (Str × Addr)) (fp : List Addr) (x : α), x ∈ xs → f x = true → PE (X.blk s H scope (compEnvC scope cl C X.env) fp) vx (tO Z (ρ' x) (tv x).od))
    (h0 : ∀ D F, S.known D → (mm []).ok D F (S.emp D))
    (hp : ∀ (pre post : List α) (x : α) (D : Addr) (y z : V) (F H : Hp) (o : HO) (Nx : Hp → Prop), xs.filter f = pre ++ x :: post → H D = some o → (mm pre).ok D F o → Same F H → (tk x).ok F y → (tv x).ok F z → (∀ o', (mm (pre ++ [x])).ok D F o' → Nx (upd H D o')) → S.put D y z H Nx)
    (hf : ∀ x, foldedSetIterable iter X.env x = pure x := by intro _; rfl) : DcD X Z ρ kx vx tg iter ifs scope own (mm (xs.filter f)) := by
  refine ⟨S, tI Z ρ (xs.map enc), fun v σ H Q => ∃ x, x ∈ xs ∧ tGt (some (own.map (·.2))) Z (wipeA ρ (own.map (·.2))) (enc x) (ρ' x) v σ H Q, fun σ H Q => ∃ x, x ∈ xs ∧ tQ Z (ρ' x) (f x) σ H Q,
    fun σ H Q => ∃ x, x ∈ xs ∧ f x = true ∧ tO Z (ρ' x) (tk x).od σ H Q, fun σ H Q => ∃ x, x ∈ xs ∧ f x = true ∧ tO Z (ρ' x) (tv x).od σ H Q,
    ⟨hc, hN, hi, ok, fun s H C cl fp => ⟨?_⟩, fun s H C cl fp => ⟨?_⟩, fun s H C cl fp => ⟨?_⟩, fun s H C cl fp => ⟨?_⟩, hf⟩, ?_⟩
  · rintro pins s1 σ H v u Q Iv r ⟨x, h1, h2⟩
    exact (hg s _ C cl fp x h1).run pins s1 σ H v u Q Iv r h2
  · rintro pins s1 σ H Q Iv ⟨x, h1, h2⟩
    exact (ht s _ C cl fp x h1).run pins s1 σ H Q Iv h2
  · rintro pins s1 σ H Q Iv ⟨x, h1, h2, h3⟩
    exact (hk s _ C cl fp x h1 h2).run pins s1 σ H Q Iv h3
  · rintro pins s1 σ H Q Iv ⟨x, h1, h2, h3⟩
    exact (he s _ C cl fp x h1 h2).run pins s1 σ H Q Iv h3
  · rintro σ H Q ⟨F0, G, F, s, k⟩
    refine ⟨F0, G, F, s, fun J F1 H1 g1 wk D hD hkn => ?_⟩
    have s1 := (s.mv g1).wipe (own.map (·.2))
    refine ⟨fun i m H' => m = xs.length - i ∧ i ≤ xs.length ∧ ∃ F', CDt Z F0 G F1 H1 (L2.wipe σ (own.map (·.2))) (wipeA ρ (own.map (·.2))) D (mm ((xs.take i).filter f)) F' H', ⟨xs.length, rfl, Nat.zero_le _, F1, CDt.start s1 hD (h0 D F1 hkn)⟩, ?_⟩
    rintro i m H2 ⟨rfl, hil, F2, c2⟩
    obtain ⟨w1, w2, w3⟩ := wk F2 H2 c2.go.f c2.st.fh c2.st.zk c2.st.zo
    rw [List.length_map] at w1 w2
    by_cases hlt : i < xs.length
    · have hxi : xs[i]? = some xs[i] := List.getElem?_eq_getElem hlt
      have hxm : xs[i] ∈ xs := List.getElem_mem hlt
      have tk1 : xs.take (i + 1) = xs.take i ++ [xs[i]] := by
        rw [List.take_add_one, hxi]
        rfl
      have dr : xs = xs.take i ++ xs[i] :: xs.drop (i + 1) := by
        have := List.drop_eq_getElem_cons hlt
        rw [← this, List.take_append_drop]
      generalize xs[i] = x at hxi hxm tk1 dr
      refine .inr ⟨w1 i hlt, fun H' => ∃ F', CDt Z F0 G F1 H1 (L2.wipe σ (own.map (·.2))) (wipeA ρ (own.map (·.2))) D (mm ((xs.take (i + 1)).filter f)) F' H', fun H' h => ⟨xs.length - (i + 1), by omega, rfl, hlt, h⟩, fun v H3 y => ?_⟩
      obtain ⟨F3, g3, ok3⟩ := w3 i (enc x) v H3 (by rw [List.getElem?_map, hxi]; rfl) y
      have c3 := c2.at g3
      refine ⟨x, hxm, F0, G, F3, c3.st, ok3, fun σ4 s4 e4 => ⟨Eq.trans e4 (wipe_wipe σ _), x, hxm, F0, G, F3, s4, fun bb F5 H5 g5 hb => ?_⟩⟩
      have c5 := c3.at g5
      cases bb with
      | false =>
        refine iteF ⟨F5, ?_⟩
        rw [tk1, List.filter_append, List.filter_cons, if_neg (by rw [← hb]; decide)]
        simpa using c5
      | true =>
        refine iteT ⟨x, hxm, hb.symm, F0, G, F5, s4.mv g5, fun y6 F6 H6 g6 ok6 => ⟨x, hxm, hb.symm, F0, G, F6, (s4.mv g5).mv g6, fun z7 F7 H7 g7 ok7 => ?_⟩⟩
        have c7 := (c5.at g6).at g7
        obtain ⟨o, a1, a2⟩ := c7.ob
        refine hp ((xs.take i).filter f) ((xs.drop (i + 1)).filter f) x D y6 z7 F7 H7 o _ ?_ a1 a2 c7.st.fh ((tk x).mono g7.f ok6) ok7 fun o' h' => ⟨F7, ?_⟩
        · conv => lhs; rw [dr]
          rw [List.filter_append, List.filter_cons, if_pos hb.symm]
        · rw [tk1, List.filter_append, List.filter_cons, if_pos hb.symm]
          exact c7.more h'
    · have ei : i = xs.length := by omega
      subst ei
      rw [List.take_length] at c2
      obtain ⟨o, a1, a2⟩ := c2.ob
      exact .inl ⟨w2, k D o F2 H2 (g1.tr c2.go) (g1.was c2.h0) c2.fd a1 a2⟩
theorem dcD {kx vx iter : Expr} {ifs : List Expr} {scope : Scope} {own : List (Str × Nat)} (h : DcD X Z ρ kx vx tg iter ifs scope own m) : PE X (.DictComp kx vx [⟨tg, iter, ifs, 0⟩] scope pos) (tN Z ρ m) := by
  obtain ⟨S, wi, g, tt, tk, tv, P, k⟩ := h
  exact (pe_sto P).imp k
/-- x = {.. for ..}, x a local that no block captures -/
theorem ssetDc (i : Nat) {x : Str} {pos' spos : Pos} {kx vx iter : Expr} {ifs : List Expr} {scope : Scope} {own : List (Str × Nat)} (h : DcD X Z ρ kx vx tg iter ifs scope own m) (fz : ∀ F p o, F p = none → m.ok p F o → t.ok (upd F p o) (.ref p)) (h2 : PSs X rest (tS Z F0 G (ρ.set i (some (.im t))) Φ))
    (hi : X.N[i]? = some x := by rfl) (hx : X.env.scope.names.lookup x = some .local := by rfl) (hsw : swapsWith (.DictComp kx vx [⟨tg, iter, ifs, 0⟩] scope pos) (some (.Name x pos')) spos.line X.env = pure true) (hl : Nat.blt i ρ.length = true := by rfl) :
    PSs X (.Assign [.Name x pos'] (.DictComp kx vx [⟨tg, iter, ifs, 0⟩] scope pos) spos :: rest) (tS Z F0 G ρ Φ) := by
  obtain ⟨S, wi, g, tt, tk, tv, P, k⟩ := h
  exact sone (ps_sto P hi hx hsw) h2 fun D σ H ⟨F, s, k1, k2⟩ => k σ H _ ⟨F0, G, F, s, fun p o F1 H1 g1 n1 n2 n3 ok =>
    k1 _ _ _ H1 rfl (g1.keep n1 n3 n2).f ((s.mv (g1.keep n1 n3 n2)).setI (bl hl) (fz F1 p o n2 ok))⟩
end
end Kb
end TKz
section TLa
set_option Elab.async false
set_option autoImplicit false
set_option linter.all false
set_option maxRecDepth 100000
set_option maxHeartbeats 4000000
/-! La: dict comprehensions with texts, with tuples as keys. -/
namespace Kb
open PySem PySem.Spec PyProof.Rows L2 PySem.W
theorem lookS_none {β : Type} {x : Str} : ∀ {s : List (Str × β)}, x ∉ s.map (·.1) → lookS s x = none
  | [], _ => rfl
  | (y, b) :: r, h => by
    rw [List.map_cons, List.mem_cons] at h
    rw [lookS, if_neg (fun e => h (.inl e.symm))]
    exact lookS_none fun z => h (.inr z)
theorem lookS_mem {β : Type} {x : Str} {b : β} : ∀ {s : List (Str × β)}, (s.map (·.1)).Nodup → (x, b) ∈ s → lookS s x = some b
  | [], _, h => by cases h
  | (y, c) :: r, nd, h => by
    rw [List.map_cons, List.nodup_cons] at nd
    rcases List.mem_cons.mp h with e | h
    · cases e
      rw [lookS, if_pos rfl]
    · rw [lookS, if_neg (fun e => nd.1 (by rw [e]; exact List.mem_map.mpr ⟨_, h, rfl⟩))]
      exact lookS_mem nd.2 h
theorem lookS_isSome {β : Type} {x : Str} {s : List (Str × β)} : (lookS s x).isSome = decide (x ∈ s.map (·.1)) := by
  induction s with
  | nil => rfl
  | cons p r ih =>
    obtain ⟨y, b⟩ := p
    rw [lookS]
    by_cases e : y = x
    · rw [if_pos e]
      simp [e]
    · rw [if_neg e, ih]
      have : x ≠ y := fun z => e z.symm
      simp [this]
theorem lookN_put {β : Type} (k k' : NestedKey) (b : β) : ∀ s : List (NestedKey × β), lookN (putN s k b) k' = if k = k' then some b else lookN s k'
  | [] => rfl
  | (y, c) :: r => by
    rw [putN]
    by_cases e : y = k
    · rw [if_pos e, lookN, lookN]
      subst e
      by_cases e2 : y = k'
      · rw [if_pos e2, if_pos e2]
      · rw [if_neg e2, if_neg e2, if_neg e2]
    · rw [if_neg e, lookN, lookN, lookN_put k k' b r]
      by_cases e2 : y = k'
      · rw [if_pos e2, if_neg (fun z => e (e2.trans z.symm)), if_pos e2]
      · rw [if_neg e2, if_neg e2]
/-- the dict that a row of puts gives -/
def putsN {α β : Type} (ky : α → NestedKey) (vl : α → β) (s : List (NestedKey × β)) (xs : List α) : List (NestedKey × β) := xs.foldl (fun s x => putN s (ky x) (vl x)) s
theorem putsN_snoc {α β : Type} (ky : α → NestedKey) (vl : α → β) (s : List (NestedKey × β)) (xs : List α) (x : α) : putsN ky vl s (xs ++ [x]) = putN (putsN ky vl s xs) (ky x) (vl x) := by
  unfold putsN
  rw [List.foldl_append]
  rfl
theorem putsN_len {α β : Type} (ky : α → NestedKey) (vl : α → β) : ∀ (xs : List α) (s : List (NestedKey × β)), (putsN ky vl s xs).length ≤ s.length + xs.length
  | [], s => Nat.le_refl _
  | x :: xs, s => by
    have h1 := putsN_len ky vl xs (putN s (ky x) (vl x))
    have h2 := len_putN (ky x) (vl x) s
    show (putsN ky vl (putN s (ky x) (vl x)) xs).length ≤ _
    rw [List.length_cons]
    omega
theorem putsN_isSome {α β : Type} (ky : α → NestedKey) (vl : α → β) (k : NestedKey) : ∀ (xs : List α) (s : List (NestedKey × β)), (lookN (putsN ky vl s xs) k).isSome = (decide (k ∈ xs.map ky) || (lookN s k).isSome)
  | [], s => by
    show (lookN s k).isSome = _
    simp
  | x :: xs, s => by
    show (lookN (putsN ky vl (putN s (ky x) (vl x)) xs) k).isSome = _
    rw [putsN_isSome ky vl k xs, lookN_put]
    by_cases e : ky x = k
    · simp [e]
    · rw [if_neg e]
      have : k ≠ ky x := fun z => e z.symm
      simp [this]
theorem putN_ne {β : Type} (k : NestedKey) (b : β) : ∀ s : List (NestedKey × β), 0 < (putN s k b).length
  | [] => Nat.one_pos
  | (y, c) :: r => by
    rw [putN]
    split <;> simp
theorem putsN_pos {α β : Type} (ky : α → NestedKey) (vl : α → β) (xs : List α) : decide (0 < (putsN ky vl [] xs).length) = decide (xs ≠ []) := by
  rcases List.eq_nil_or_concat xs with e | ⟨ys, y, e⟩
  · subst e
    rfl
  · subst e
    rw [List.concat_eq_append, putsN_snoc]
    simp [putN_ne]
section
variable {X : Cx} {Z : Zn} {F0 G : Hp} {ρ ρ1 ρ2 : En} {e a b c tg : Expr} {es : List Expr} {pos p : Pos} {t : Ty} {m : Mt} {d : PyData} {ds : List PyData} {Φ Ψ : Po} {rest : List Stmt}
variable {α : Type} {kx vx iter : Expr} {ifs : List Expr} {scope : Scope} {own : List (Str × Nat)} {xs : List α} {enc : α → Ty} {ρ' : α → En} {f : α → Bool}
/-- texts, no two alike -/
theorem ddcK {ky : α → Str} {tv : α → Ty} (hc : X.calm = true) (hN : X.N.Nodup)
    (hi : PI X tg iter (tI Z ρ (xs.map enc))) (ok : BlkOk X.N X.env.scope scope own)
    (hg : ∀ (s : Shared) (H : Hp) (C : Addr) (cl : List (Str × Addr)) (fp : List Addr) (x : α), x ∈ xs → PG (X.blk s H scope (compEnvC scope cl C X.env) fp) tg (tGt (some (own.map (·.2))) Z (wipeA ρ (own.map (·.2))) (enc x) (ρ' x)))
    (ht : ∀ (s : Shared) (H : Hp) (C : Addr) (cl : List (Str × Addr)) (fp : List Addr) (x : α), x ∈ xs → PTs (X.blk s H scope (compEnvC scope cl C X.env) fp) ifs (tQ Z (ρ' x) (f x)))
    (hk : ∀ (s : Shared) (H : Hp) (C : Addr) (cl : List (Str × Addr)) (fp : List Addr) (x : α), x ∈ xs → f x = true → PE (X.blk s H scope (compEnvC scope cl C X.env) fp) kx (tD Z (ρ' x) (.str (ky x))))
    (he : ∀ (s : Shared) (H : Hp) (C : Addr) (cl : List (Str × Addr)) (fp : List Addr) (x : α), x ∈ xs → f x = true → PE (X.blk s H scope (compEnvC scope cl C X.env) fp) vx (tO Z (ρ' x) (tv x).od))
    (nd : ((xs.filter f).map ky).Nodup) (hn : xs.length ≤ 100000) (hf : ∀ x, foldedSetIterable iter X.env x = pure x := by intro _; rfl) : DcD X Z ρ kx vx tg iter ifs scope own (mK ((xs.filter f).map fun x => (ky x, tv x))) := by
  refine ddc (stoK X) (fun l => mK (l.map fun x => (ky x, tv x))) (tk := fun x => Dt (.str (ky x))) (tv := tv) hc hN hi ok hg ht hk he (fun D F _ => ⟨[], rfl, .nil⟩) (fun pre post x D y z F H o Nx hx ho hm fh hy hz k => ?_) hf
  obtain ⟨r, rfl, kv⟩ := hm
  have hl : (pre.map fun x => (ky x, tv x)).length < 100000 := by
    have h1 := congrArg List.length hx
    have h2 := List.length_filter_le f xs
    rw [List.length_append, List.length_cons] at h1
    rw [List.length_map]
    omega
  have nw : lookS (pre.map fun x => (ky x, tv x)) (ky x) = none := lookS_none fun hm => by
    rw [hx, List.map_append, List.map_cons, List.nodup_append] at nd
    rw [List.map_map] at hm
    exact nd.2.2 _ hm _ List.mem_cons_self rfl
  refine ⟨r, Sum.inr (ky x), Rp.inj_str hy, ho, smallS (by rw [kv.len]; exact hl), k _ ⟨_, congrArg HO.dK (putK_new z (kv.look.2 nw)), ?_⟩⟩
  rw [List.map_append]
  exact kv.snoc hz
/-- tuples -/
theorem ddcN (hu : X.A.units + 64 < cLine) {ky : α → NestedKey} {vl : α → PyData} (hc : X.calm = true) (hN : X.N.Nodup)
    (hi : PI X tg iter (tI Z ρ (xs.map enc))) (ok : BlkOk X.N X.env.scope scope own)
    (hg : ∀ (s : Shared) (H : Hp) (C : Addr) (cl : List (Str × Addr)) (fp : List Addr) (x : α), x ∈ xs → PG (X.blk s H scope (compEnvC scope cl C X.env) fp) tg (tGt (some (own.map (·.2))) Z (wipeA ρ (own.map (·.2))) (enc x) (ρ' x)))
    (ht : ∀ (s : Shared) (H : Hp) (C : Addr) (cl : List (Str × Addr)) (fp : List Addr) (x : α), x ∈ xs → PTs (X.blk s H scope (compEnvC scope cl C X.env) fp) ifs (tQ Z (ρ' x) (f x)))
    (hk : ∀ (s : Shared) (H : Hp) (C : Addr) (cl : List (Str × Addr)) (fp : List Addr) (x : α), x ∈ xs → f x = true → PE (X.blk s H scope (compEnvC scope cl C X.env) fp) kx (tD Z (ρ' x) (ky x).data))
    (he : ∀ (s : Shared) (H : Hp) (C : Addr) (cl : List (Str × Addr)) (fp : List Addr) (x : α), x ∈ xs → f x = true → PE (X.blk s H scope (compEnvC scope cl C X.env) fp) vx (tD Z (ρ' x) (vl x)))
    (kt : ∀ x, x ∈ xs → isTup (ky x) ∧ (ky x).depth ≤ 8) (hn : xs.length ≤ 100000) (hf : ∀ x, foldedSetIterable iter X.env x = pure x := by intro _; rfl) : DcD X Z ρ kx vx tg iter ifs scope own (mD X.prog X.w (putsN ky vl [] (xs.filter f))) := by
  refine ddc (stoN X hu) (fun l => mD X.prog X.w (putsN ky vl [] l)) (tk := fun x => Dt (ky x).data) (tv := fun x => Dt (vl x)) hc hN hi ok hg ht hk he (fun D F h => ⟨[], rfl, .nil, h⟩) (fun pre post x D y z F H o Nx hx ho hm fh hy hz k => ?_) hf
  obtain ⟨r, rfl, kv, wit⟩ := hm
  have hxm : x ∈ xs := (List.mem_filter.mp (by rw [hx]; exact List.mem_append_right _ List.mem_cons_self)).1
  have hl : (putsN ky vl [] pre).length < 100000 := by
    have h1 := congrArg List.length hx
    have h2 := List.length_filter_le f xs
    have h3 := putsN_len ky vl pre []
    rw [List.length_append, List.length_cons] at h1
    rw [List.length_nil] at h3
    omega
  obtain ⟨bb, rfl⟩ := key_ref' (kt x hxm).1 hy
  refine ⟨r, F, _, ky x, vl x, ⟨bb, rfl, rfl, ho, fh, kv, hy, (kt x hxm).2⟩, hz, hl, fun xs' h1 h2 => k _ ⟨xs', rfl, ?_, h2⟩⟩
  rw [putsN_snoc]
  exact h1
end
/-- the target of a comprehension may take it over -/
theorem sw_dict {kx vx : Expr} {gs : List Comprehension} {scope : Scope} {pos py : Pos} {y : Str} {l : Nat} {env : Env} (hk : env.scope.kind = .function) (hy : env.scope.names.lookup y = some .local) (hl : (py.line == pos.line) = true)
    (ha : (scope.names.any fun (n, k) => n == y && (k == .local || k == .cell)) = false) : swapsWith (.DictComp kx vx gs scope pos) (some (.Name y py)) l env = pure true := by
  have ky : env.kindOf y = some .local := hy
  have hb : env.blockKind = .function := by unfold Env.blockKind; rw [hk]; rfl
  unfold swapsWith
  simp only [hb, ky, ha, Expr.pos, hl]
  rfl
end Kb
end TLa
section TLb
set_option Elab.async false
set_option autoImplicit false
set_option linter.all false
set_option maxRecDepth 100000
set_option maxHeartbeats 4000000
/-! Lb: < of data, a text gone through, a sign in a text, min of texts, join, index. -/
namespace Kb
open PySem PySem.Spec PyProof.Rows L2 PySem.W
def rLtD (X : Cx) : R2 := fun x y H Q => ∃ (F : Hp) (d e : PyData), Same F H ∧ Rp F x d ∧ Rp F y e ∧ alike d e = true ∧ d ≠ .none ∧ d.depth ≤ 60 ∧ Q (.bl (dataLt d e)) H
theorem op_ltD {X : Cx} (hu : X.A.units + 64 < cLine) : OpR X (compareOp .Lt) (rLtD X) := by
  intro pins s σ H x y v u Q I rx ry h
  obtain ⟨F, d, e, fh, h1, h2, ha, hn, hd, q⟩ := h
  obtain ⟨as, r1⟩ := Dp.reads I d x v (Rp.dp d x (Rp.mono fh d x h1)) rx
  obtain ⟨bs, r2⟩ := Dp.reads I e y u (Rp.dp e y (Rp.mono fh e y h2)) ry
  exact lt_data r1 r2 ha hn (by omega) ⟨.bl _, H, I, rfl, q⟩
/-- min(xs) of texts -/
def rMinS (K : PySem.W.Frag) : List V → Hp → VK → Prop := fun vs H Q => ∃ (a : Addr) (F : Hp) (us : List V) (x : Str) (xs : List Str), vs = [.ref a] ∧ H a = some (.lst us) ∧ Same F H ∧ RpL F us ((x :: xs).map .str) ∧ ∀ y, Q (.str y) H
theorem cr_minS {X : Cx} (hc : X.calm = true) (hu : X.A.units + 64 < cLine) : CallR X (.builtin "min") (rMinS X.K) := by
  intro pins s σ H vs us Q I r h
  obtain ⟨a, F, ws, x, xs, rfl, ha, fh, rp, q⟩ := h
  rw [Vals.ref1 r]
  obtain ⟨its, rv, pl, hz⟩ := I.list (SqL.of ha)
  obtain ⟨o, ho, hcl, n, hdt⟩ := pl.isList
  have hw := rp.strs
  have rd : ReadsAll s.heap its ((x :: xs).map .str) [] := reads_strs (by rw [← hw]; exact rv)
  have dep : PyData.depthAll ((x :: xs).map .str) = 0 := by
    generalize x :: xs = l
    induction l with
    | nil => rfl
    | cons y l ih =>
      show max (PyData.depth (.str y)) (PyData.depthAll (l.map .str)) = 0
      rw [ih]
      rfl
  refine min_list_data (I.ok.hd hc) pl.isList (x := .str x) (xs := xs.map .str) rd ⟨fun a ha b hb => ?_, fun a ha => ?_⟩ (by have e : PyData.depthAll (.str x :: xs.map .str) = 0 := dep; rw [e]; omega) fun i v h' tk bs hv hr k => ?_
  · obtain ⟨y, _, rfl⟩ := List.mem_map.mp (show a ∈ (x :: xs).map PyData.str from ha)
    obtain ⟨z, _, rfl⟩ := List.mem_map.mp (show b ∈ (x :: xs).map PyData.str from hb)
    rfl
  · obtain ⟨y, _, rfl⟩ := List.mem_map.mp (show a ∈ (x :: xs).map PyData.str from ha)
    exact fun z => by cases z
  · have hv' : its[i]? = some v := by simpa using hv
    obtain ⟨t, hst⟩ : ∃ y t, v = .str y t := by
      obtain ⟨h3, h4⟩ := List.getElem?_eq_some_iff.mp hv'
      have hl : i < ws.length := by rw [rv.length]; exact h3
      obtain ⟨wi, hws⟩ : ∃ wi, ws[i]? = some wi := ⟨_, List.getElem?_eq_getElem hl⟩
      obtain ⟨u, hu1, hu2⟩ := rv.get hws
      rw [hv'] at hu1
      cases hu1
      rw [hw] at hws
      rw [List.getElem?_map] at hws
      cases e : (x :: xs)[i]? with
      | none =>
        rw [e] at hws
        cases hws
      | some y =>
        rw [e] at hws
        have e2 : V.str y = wi := Option.some.inj hws
        rw [← e2] at hu2
        obtain ⟨t, e3⟩ := hu2
        exact ⟨y, t, e3⟩
    obtain ⟨tk', rfl⟩ := hst
    exact ⟨.str t, H, I.kept k, ⟨tk', rfl⟩, q t⟩
/-- a tuple that the program made: its object is known -/
def tyF (ds : List PyData) : Ty := ⟨fun F v => ∃ (a : Addr) (ob : Obj) (xs : List V), v = .ref a ∧ F a = some (.frz ob (.tup xs)) ∧ ob.dict = none ∧ RpL F xs ds, fun e ⟨a, ob, xs, h1, h2, h3, h4⟩ => ⟨a, ob, xs, h1, e _ _ h2, h3, RpL.mono e _ _ h4⟩⟩
/-- tuple(xs), xs a list: the new tuple's object -/
def rTupF (K : PySem.W.Frag) : List V → Hp → VK → Prop := fun vs H Q => ∃ (p : Addr) (ys : List V), vs = [.ref p] ∧ SqL K H p ys ∧ ∀ l ob, H l = none → ob.dict = none → Q (.ref l) (upd H l (.frz ob (.tup ys)))
theorem cr_tupF {X : Cx} : CallR X (.type "tuple") (rTupF X.K) := by
  intro pins s σ H vs us Q I r h
  obtain ⟨p, ys, rfl, hq, q⟩ := h
  rw [Vals.ref1 r]
  obtain ⟨its, rv, pl, hz⟩ := I.list hq
  refine call_tuple_list pl.isList (fun h' kp => ?_) (by rw [List.size_toArray, ← rv.length]; exact hz)
  have I1 : Inv X pins σ H { s with heap := h' } := I.kept (t' := s.toks) kp
  refine ⟨.ref h'.objs.size, upd H h'.objs.size (.frz { cls := .type "tuple", data := .seq its.toArray } (.tup ys)), I1.laid (t' := s.toks) (fun b o e => Heap.get?_push_of_some _ e) (Nat.le_refl _) ⟨Heap.get?_push_size _ rfl, hz, its, rv, IsTup.new _ _⟩, rfl, q _ _ (I1.hok.fresh (Nat.le_refl _)) rfl⟩
section
variable {X : Cx} {Z : Zn} {F0 G : Hp} {ρ ρ1 ρ2 : En} {e a b c tg : Expr} {es : List Expr} {pos p : Pos} {t : Ty} {m : Mt} {d d1 d2 : PyData} {ds : List PyData} {Φ Ψ : Po} {rest : List Stmt} {i : Int}
theorem dltD (hu : X.A.units + 64 < cLine) (ha : PE X a (tD Z ρ d1)) (hb : PE X b (tD Z ρ d2)) (hl : alike d1 d2 = true) (hn : d1 ≠ .none) (hd : d1.depth ≤ 60) : PE X (.Compare a [.Lt] [b] pos) (tD Z ρ (.bool (dataLt d1 d2))) :=
  dcmp (op_ltD hu) (fun F0 G F H σ x y Q s h1 h2 q => ⟨F, d1, d2, s.fh, h1, h2, hl, hn, hd, q⟩) ha hb (nomark _)
theorem pltD (hu : X.A.units + 64 < cLine) (ha : PE X a (tD Z ρ d1)) (hb : PE X b (tD Z ρ d2)) (hl : alike d1 d2 = true) (hn : d1 ≠ .none) (hd : d1.depth ≤ 60) : PT X (.Compare a [.Lt] [b] pos) (tQ Z ρ (dataLt d1 d2)) :=
  pcmp (op_ltD hu) (fun F0 G F H σ x y Q s h1 h2 q => ⟨F, d1, d2, s.fh, h1, h2, hl, hn, hd, q⟩) ha hb (nomark _)
/-- a sign in a text -/
theorem dsg {c : Nat} {z : Str} (ha : PE X a (tD Z ρ (.str ⟨#[c]⟩))) (hb : PE X b (tD Z ρ (.str z))) (hm : behindInMarks .In b = false := by rfl) : PE X (.Compare a [.In] [b] pos) (tD Z ρ (.bool (decide (c ∈ z.cps.toList)))) :=
  dcmp op_in_sign (fun F0 G F H σ x y Q s h1 h2 q => ⟨c, z, Rp.inj_str h1, Rp.inj_str h2, q⟩) ha hb hm
/-- for x in a text -/
theorem itS {x : Str} (ha : PE X a (tD Z ρ (.str x))) : PI X tg a (tI Z ρ (x.cps.toList.map fun c => Dt (.str ⟨#[c]⟩))) :=
  (pi_str ha).imp fun σ H R ⟨F0, G, F, s, k⟩ => ⟨F0, G, F, s, fun v F1 H1 g1 ok => ⟨x, Rp.inj_str ok, k _ F1 H1 g1 fun F H e1 e2 zk zo => by
    refine ⟨fun i hi => ?_, ?_, fun i t v H' ht y => ?_⟩
    · rw [List.length_map, Array.length_toList] at hi
      exact hi
    · rw [List.length_map, Array.length_toList]
      exact Nat.le_refl _
    · obtain ⟨rfl, c, hc, rfl⟩ := y
      rw [List.getElem?_map, Array.getElem?_toList, hc] at ht
      cases ht
      exact ⟨F, Go.rfl e2 zk, .str _⟩⟩⟩
/-- min(xs), texts -/
theorem dminS (T : Bi X.mg) {x : Str} {xs : List Str} (hc : X.calm = true) (hu : X.A.units + 64 < cLine) (ha : PE X a (tO Z ρ (mL ((x :: xs).map .str)).od)) (hg : Gl X "min" := by rfl) (hs : starEach [a] X.env = (false, eval a X.env) :: starEach [] X.env := by rfl) :
    PE X (.Call (.Name "min" p) [a] [] pos) (tO Z ρ (Ty.ex (fun _ => True) fun y => Dt (.str y)).od) :=
  (pe_callB (cr_minS hc hu) hg T.min (by decide +kernel) (pa1 ha hs) (he := hs)).imp (cb_imp (X := X) fun F0 G F H σ vs Q s k1 q => by
    cases k1 with
    | cons h1 h2 =>
      cases h2
      obtain ⟨p, us, rfl, h3, h4⟩ := mL_at h1
      exact ⟨p, F, us, x, xs, rfl, h3, s.fh, h4, fun y => q _ F H s.self ⟨y, trivial, .str y⟩⟩)
/-- sep.join(xs) -/
theorem djoin {sep : Str} {ys : List Str} {apos cpos : Pos} (ha : PE X a (tD Z ρ (.str sep))) (hb : PE X b (tO Z ρ (mL (ys.map .str)).od)) (hz : (ys.map (·.length)).sum + ys.length * sep.length ≤ 16777216) (hs : starEach [b] X.env = [(false, eval b X.env)] := by rfl)
    (hbase : attributeBase a "join" X.env (eval a X.env) = eval a X.env := by rfl) (hline : (apos.endLine == cpos.line) = true := by rfl) : PE X (.Call (.Attribute a "join" apos) [b] [] cpos) (tD Z ρ (.str (Txt.join sep ys))) :=
  (pe_join ha hb hs hbase hline).imp fun σ H Q ⟨F0, G, F, s, k⟩ => ⟨F0, G, F, s, fun v F1 H1 g1 ok => by
    rw [Rp.inj_str ok]
    refine ⟨⟨_, rfl⟩, F0, G, F1, s.mv g1, fun u F2 H2 g2 ok2 => ?_⟩
    obtain ⟨p, us, rfl, h3, h4⟩ := mL_at ok2
    have e := h4.strs
    subst e
    exact ⟨sep, p, ys, rfl, rfl, .inl (SqL.of h3), hz, k _ F2 H2 (g1.tr g2) (.str _)⟩⟩
/-- the tuple itself -/
theorem vF (h : PE X e (tO Z ρ (tyF ds).od)) : PE X e (tD Z ρ (.tuple ds)) := od.imp (fun F H v fh zo ok => by
  obtain ⟨a, ob, xs, rfl, h2, h3, h4⟩ := ok
  exact .tup h2 (.f ob) h4) h
theorem dtupF (T : Bi X.mg) (ha : PE X a (tO Z ρ (mL ds).od)) (hg : Gl X "tuple" := by rfl) (hs : starEach [a] X.env = (false, eval a X.env) :: starEach [] X.env := by rfl) : PE X (.Call (.Name "tuple" p) [a] [] pos) (tO Z ρ (tyF ds).od) :=
  (pe_callTy cr_tupF hg T.tuple (by decide +kernel) (pa1 ha hs) (he := hs)).imp (cb_imp (X := X) fun F0 G F H σ vs Q s k1 q => by
    cases k1 with
    | cons h1 h2 =>
      cases h2
      obtain ⟨p, us, rfl, h3, h4⟩ := mL_at h1
      refine ⟨p, us, rfl, SqL.of h3, fun l ob hl hd => ?_⟩
      exact q _ _ _ (Go.put s.fh s.zk hl) ⟨l, ob, us, rfl, upd_same, hd, RpL.mono (same_new (s.fh.free hl)) _ _ h4⟩)
/-- where a text stands first -/
theorem first_at {xs : List Str} {x : Str} (h : x ∈ xs) : xs[xs.idxOf x]? = some x ∧ ∀ m, m < xs.idxOf x → xs[m]? ≠ some x := by
  have hl : xs.idxOf x < xs.length := List.idxOf_lt_length_iff.mpr h
  refine ⟨by rw [List.getElem?_eq_getElem hl, List.getElem_idxOf hl], fun m hm e => ?_⟩
  have h1 : m < xs.length := by omega
  rw [List.getElem?_eq_getElem h1] at e
  have := List.not_of_lt_findIdx (p := (· == x)) (xs := xs) hm
  simp at this
  exact this (Option.some.inj e)
/-- x.index(y), x a tuple that the program made -/
theorem dixOfF {xs : List Str} {x : Str} {apos cpos : Pos} (ha : PE X a (tO Z ρ (tyF (xs.map .str)).od)) (hb : PE X b (tD Z ρ (.str x))) (hx : x ∈ xs) (hbase : attributeBase a "index" X.env (eval a X.env) = eval a X.env := by rfl)
    (hfew : ((backTo cpos (starEach [b] X.env)).all (fun x => !x.1) && (backToKw cpos (keywordEach [] X.env)).all (fun x => x.1.isSome) && decide ([b].length + ([] : List Keyword).length + (if ([] : List Keyword).isEmpty then 0 else 1) < 30)) = true := by rfl)
    (hline : (apos.endLine == cpos.line) = true := by rfl) (hs : starEach [b] X.env = (false, eval b X.env) :: starEach [] X.env := by rfl) (hplain : (backTo cpos (starEach [] X.env)).any (·.1) = false := by rfl) :
    PE X (.Call (.Attribute a "index" apos) [b] [] cpos) (tD Z ρ (.int (xs.idxOf x : Nat))) := by
  refine ⟨fun pins s σ H Q I h => ?_⟩
  obtain ⟨F0, G, F, st, k⟩ := h
  refine wpAny_Call_method_late hbase hfew hline rfl (thn (ha.run pins s σ H (fun v H1 => ∃ F1, Go Z F H F1 H1 ∧ (tyF (xs.map .str)).ok F1 v) I ⟨F0, G, F, st, fun v F1 H1 g1 ok => ⟨F1, g1, ok⟩⟩) fun v s1 ⟨y, H1, I1, r1, F1, g1, ok⟩ => ?_)
  obtain ⟨p, ob, us, rfl, h3, h4, h5⟩ := ok
  obtain rfl : v = Value.ref p := r1
  have e := h5.strs
  subst e
  obtain ⟨ho, _, its, _, ⟨o, ho2, hc, n, hd⟩⟩ := (show ObjOk X.prog X.w H1 s1.heap p (.frz ob (.tup (xs.map V.str))) from I1.hok p _ (g1.fh _ _ h3))
  rw [ho] at ho2
  cases ho2
  refine ⟨"tuple", "tuple.index", PySem.F.plainAttrs_tuple, PySem.F.slot_tuple_index, PySem.F.type_tuple_index, ⟨ob, ho, hc⟩, fun a ea => (by cases ea; exact ⟨ob, ho, h4⟩), ?_⟩
  have hA := (pa1 hb hs).run cpos pins s1 σ H1 (fun ws H2 => ∃ F2, Go Z F1 H1 F2 H2 ∧ ws = [.str x]) I1 ⟨F0, G, F1, st.mv g1, fun ws F2 H2 g2 ok2 => by
    cases ok2 with
    | @cons w _ _ _ r1 r2 =>
      cases r2
      rw [Rp.inj_str r1]
      exact ⟨F2, g2, rfl⟩⟩
  rw [hs] at hA ⊢
  refine Calls.callWith_builtin (by show (false || (backTo cpos (starEach [] X.env)).any (·.1)) = false; rw [hplain] <;> rfl) (Calls.evalArgs_plain ?_)
  refine thn hA fun us s2 ⟨vs, H2, I2, r2, F2, g2, e2⟩ => ?_
  obtain ⟨f1, f2⟩ := first_at hx
  subst e2
  exact mt_tup_index pins s2 σ H2 (.ref p) [.str x] _ us Q I2 rfl r2 ⟨p, xs, x, _, rfl, rfl, .inl (.inr ⟨ob, g2.fh _ _ (g2.f _ _ h3)⟩), f1, f2, k _ F2 H2 (g1.tr g2) (.int _)⟩
/-- xs.index(x), a list of texts -/
theorem dixOfL {xs : List Str} {x : Str} {apos cpos : Pos} (ha : PE X a (tO Z ρ (mL (xs.map .str)).od)) (hb : PE X b (tD Z ρ (.str x))) (hx : x ∈ xs) (hbase : attributeBase a "index" X.env (eval a X.env) = eval a X.env := by rfl)
    (hfew : ((backTo cpos (starEach [b] X.env)).all (fun x => !x.1) && (backToKw cpos (keywordEach [] X.env)).all (fun x => x.1.isSome) && decide ([b].length + ([] : List Keyword).length + (if ([] : List Keyword).isEmpty then 0 else 1) < 30)) = true := by rfl)
    (hline : (apos.endLine == cpos.line) = true := by rfl) (hs : starEach [b] X.env = (false, eval b X.env) :: starEach [] X.env := by rfl) (hplain : (backTo cpos (starEach [] X.env)).any (·.1) = false := by rfl) :
    PE X (.Call (.Attribute a "index" apos) [b] [] cpos) (tD Z ρ (.int (xs.idxOf x : Nat))) :=
  (pe_bm PySem.F.plainAttrs_list PySem.F.slot_list_index PySem.F.type_list_index mt_index ha (pa1 hb hs) hbase hfew hline hs hplain).imp fun σ H Q h => tO.use h fun F0 G F H1 v s ok k => by
    obtain ⟨p, o, rfl, h3, ⟨us, rfl, h4⟩, h5⟩ := ok
    have e := h4.strs
    subst e
    refine ⟨.inl ⟨rfl, _, SqL.of h3⟩, F0, G, F, s, fun ws F2 H2 g2 ok2 => ?_⟩
    cases ok2 with
    | @cons w _ _ _ r1 r2 =>
      cases r2
      rw [Rp.inj_str r1]
      obtain ⟨f1, f2⟩ := first_at hx
      refine ⟨p, _, _, xs.idxOf x, V.str x, rfl, rfl, SqL.of (g2.h _ _ h5 h3), rfl, ?_, by rw [List.getElem?_map, f1]; rfl, ?_, fun m z hm hz => ?_, k _ F2 H2 g2 (.int _)⟩
      · exact List.all_eq_true.mpr fun v hv => by
          obtain ⟨y, _, rfl⟩ := List.mem_map.mp hv
          rfl
      · simp [eqV]
      · rw [List.getElem?_map] at hz
        cases e : xs[m]? with
        | none =>
          rw [e] at hz
          cases hz
        | some y =>
          rw [e] at hz
          cases hz
          have : y ≠ x := fun z => f2 m hm (by rw [e, z])
          simpa [eqV] using this
end
end Kb
end TLb
section TLc
set_option Elab.async false
set_option autoImplicit false
set_option linter.all false
set_option maxRecDepth 100000
set_option maxHeartbeats 4000000
/-! Lc: all and any of a comprehension; the last of an and. -/
namespace Kb
open PySem PySem.Spec PyProof.Rows L2
theorem atI_nat {α : Type} {xs : List α} {i : Nat} {d : α} (h : xs[i]? = some d) : atI xs (i : Int) = some d := by
  have hl := (List.getElem?_eq_some_iff.mp h).1
  unfold atI ixN
  rw [if_pos (by omega)]
  have e : ((i : Int).toNat) = i := by omega
  simp only [e]
  rw [if_pos (by omega)]
  exact h
theorem ppt {X : Cx} {e : Expr} {t : TT} (h : PW X e t) : PT X e t := h.pt
theorem _root_.L2.Room.u64 {k : Nat} {A : Around} (r : Room k A) : A.units + 64 < cLine := by
  have := r.un
  omega
theorem _root_.L2.Room.u65 {k : Nat} {A : Around} (r : Room k A) : A.units + 65 < cLine := by
  have := r.un
  omega
theorem _root_.L2.Room.u1 {k : Nat} {A : Around} (r : Room k A) : A.units + 1 < cLine := by
  have := r.un
  omega
theorem filt {α : Type} : ∀ xs : List α, xs.filter (fun _ => true) = xs
  | [] => rfl
  | x :: xs => congrArg (x :: ·) (filt xs)
theorem allT {α : Type} (xs : List α) : xs.all (fun _ => true) = true := List.all_eq_true.mpr fun _ _ => rfl
section
variable {X : Cx} {Z : Zn} {F0 G : Hp} {ρ ρ1 ρ2 : En} {e a b c tg : Expr} {es : List Expr} {pos p q : Pos} {t : Ty} {m : Mt} {d d1 d2 : PyData} {ds : List PyData} {Φ Ψ : Po} {rest : List Stmt} {i : Int}
theorem dand1 {k : Bool} (h : PE X a (tD Z ρ (.bool k))) : PE X (.BoolOp .And [a] pos) (tD Z ρ (.bool k)) := pe_one h
theorem dor1 {k : Bool} (h : PE X a (tD Z ρ (.bool k))) : PE X (.BoolOp .Or [a] pos) (tD Z ρ (.bool k)) := pe_one h
variable {α : Type} {elt iter : Expr} {ifs : List Expr} {scope : Scope} {own : List (Str × Nat)} {xs : List α} {f g : α → Bool}
theorem dallC (T : Bi X.mg) (hc : X.calm = true) (h : LcOk X Z ρ elt tg iter ifs scope own (· = (xs.filter f).map fun x => .bool (g x))) (hg : Gl X "all" := by rfl)
    (hs : starEach [.ListComp elt [⟨tg, iter, ifs, 0⟩] scope q] X.env = (false, eval (.ListComp elt [⟨tg, iter, ifs, 0⟩] scope q) X.env) :: starEach [] X.env := by rfl) : PE X (.Call (.Name "all" p) [.ListComp elt [⟨tg, iter, ifs, 0⟩] scope q] [] pos) (tD Z ρ (.bool ((xs.filter f).all g))) := by
  have h2 : LcOk X Z ρ elt tg iter ifs scope own (· = ((xs.filter f).map g).map .bool) := h.imp fun acc e => by rw [e, List.map_map]; rfl
  have := dall T hc (nV (lcD h2)) hg hs (p := p) (pos := pos)
  rw [List.all_map] at this
  exact this
theorem danyC (T : Bi X.mg) (hc : X.calm = true) (h : LcOk X Z ρ elt tg iter ifs scope own (· = (xs.filter f).map fun x => .bool (g x))) (hg : Gl X "any" := by rfl)
    (hs : starEach [.ListComp elt [⟨tg, iter, ifs, 0⟩] scope q] X.env = (false, eval (.ListComp elt [⟨tg, iter, ifs, 0⟩] scope q) X.env) :: starEach [] X.env := by rfl) : PE X (.Call (.Name "any" p) [.ListComp elt [⟨tg, iter, ifs, 0⟩] scope q] [] pos) (tD Z ρ (.bool ((xs.filter f).any g))) := by
  have h2 : LcOk X Z ρ elt tg iter ifs scope own (· = ((xs.filter f).map g).map .bool) := h.imp fun acc e => by rw [e, List.map_map]; rfl
  have := dany T hc (nV (lcD h2)) hg hs (p := p) (pos := pos)
  rw [List.any_map] at this
  exact this
theorem itRn (T : Bi X.mg) {n : Int} {k : Nat} (ha : PE X a (tD Z ρ (.int n))) (h0 : -1 ≤ n ∧ n ≤ 100000) (hk : n.toNat = k) (hg : Gl X "range" := by rfl) (hs : starEach [a] X.env = [(false, eval a X.env)] := by rfl) : PI X tg (.Call (.Name "range" p) [a] [] pos) (tI Z ρ ((List.range k).map fun (i : Nat) => Dt (.int (i : Int)))) := by
  subst hk
  exact itR T ha h0 hg hs
variable {x : Str} {n : Nat} {ins : α → List Ty} {pre : α → Prop} {out : α → Ty}
/-- a def called: what comes told by t -/
theorem dcl {j : Nat} (hr : Room n X.A) (C : Can X x j (spD Z.no ins pre out)) (a : α) (hp : pre a) (ha : PA X (e :: es) (tOs Z ρ ((ins a).map Ty.od))) (ho : out a = t := by rfl) (hg : Gl X x := by rfl) (hj : j ≤ n := by decide) (hdb : (x == ("__debug__" : Str)) = false := by decide)
    (he : starEach (e :: es) X.env = (false, eval e X.env) :: starEach es X.env := by rfl) (hpl : (backTo pos (starEach es X.env)).any (·.1) = false := by rfl) : PE X (.Call (.Name x p) (e :: es) [] pos) (tO Z ρ t.od) := by
  subst ho
  exact dcall hr C a hp ha hg hj hdb he hpl
/-- .. with arguments looked at -/
theorem dclB {j : Nat} (hr : Room n X.A) (C : Can X x j (spD Z.no ins pre out)) (a : α) (hp : pre a) (hf : t.flat) (ha : PA X (e :: es) (tOs Z ρ ((ins a).map Ty.bo))) (ho : out a = t := by rfl) (hg : Gl X x := by rfl) (hj : j ≤ n := by decide) (hdb : (x == ("__debug__" : Str)) = false := by decide)
    (he : starEach (e :: es) X.env = (false, eval e X.env) :: starEach es X.env := by rfl) (hpl : (backTo pos (starEach es X.env)).any (·.1) = false := by rfl) : PE X (.Call (.Name x p) (e :: es) [] pos) (tO Z ρ t.od) := by
  subst ho
  exact dcallB hr C a hp hf ha hg hj hdb he hpl
end
end Kb
end TLc
section TLd
set_option Elab.async false
set_option autoImplicit false
set_option linter.all false
set_option maxRecDepth 100000
set_option maxHeartbeats 4000000
/-! Ld: for over a known row; |=; a dict looked up with numbers. -/
namespace Kb
open PySem PySem.Spec PyProof.Rows L2
section
variable {X : Cx} {Z : Zn} {F0 G : Hp} {ρ ρ1 ρ2 : En} {e a b c tg : Expr} {es : List Expr} {pos p q : Pos} {t : Ty} {m : Mt} {d d1 d2 : PyData} {ds : List PyData} {Φ Ψ : Po} {rest : List Stmt} {i : Int}
/-- for x in xs, I told by what has been; B: after a break -/
theorem sforB {α : Type} {xs : List α} {enc : α → Ty} {iter : Expr} {body : List Stmt} (I : List α → En → Prop) (B : En → Prop) (hp : PassesOwn (model X.prog X.w) X.A X.env X.xe) (hc : X.calm = true) (hi : PI X tg iter (tI Z ρ (xs.map enc))) (h0 : I [] ρ)
    (hb : ∀ pre x post ρ1, xs = pre ++ x :: post → I pre ρ1 → ∃ ρ2, PG X tg (tGt none Z ρ1 (enc x) ρ2) ∧ PSs X body (tS Z F0 G ρ2 ⟨I (pre ++ [x]), Φ.rt, B, I (pre ++ [x])⟩)) (h2 : ∀ ρ', I xs ρ' ∨ B ρ' → PSs X rest (tS Z F0 G ρ' Φ))
    (hs : ∀ x, foldedSetIterable iter X.env x = pure x := by intro _; rfl) : PSs X (.For tg iter body [] pos :: rest) (tS Z F0 G ρ Φ) := by
  refine sfor (fun i ρ' => I (xs.take i) ρ') B hp hc hi h0 (fun i t ρ1 ht h => ?_) (fun ρ' h => h2 ρ' ?_) hs
  · rw [List.getElem?_map] at ht
    cases e : xs[i]? with
    | none =>
      rw [e] at ht
      cases ht
    | some x =>
      rw [e] at ht
      cases ht
      obtain ⟨hl, e2⟩ := List.getElem?_eq_some_iff.mp e
      have dr : xs = xs.take i ++ x :: xs.drop (i + 1) := by
        have := List.drop_eq_getElem_cons hl
        rw [← e2, ← this, List.take_append_drop]
      have tk : xs.take (i + 1) = xs.take i ++ [x] := by
        rw [List.take_add_one, e]
        rfl
      obtain ⟨ρ2, k1, k2⟩ := hb _ x _ ρ1 dr h
      rw [← tk] at k2
      exact ⟨ρ2, k1, k2⟩
  · rw [List.length_map, List.take_length] at h
    exact h
/-- .. no break -/
theorem sforN {α : Type} {xs : List α} {enc : α → Ty} {iter : Expr} {body : List Stmt} (I : List α → En → Prop) (hp : PassesOwn (model X.prog X.w) X.A X.env X.xe) (hc : X.calm = true) (hi : PI X tg iter (tI Z ρ (xs.map enc))) (h0 : I [] ρ)
    (hb : ∀ pre x post ρ1, xs = pre ++ x :: post → I pre ρ1 → ∃ ρ2, PG X tg (tGt none Z ρ1 (enc x) ρ2) ∧ PSs X body (tS Z F0 G ρ2 ⟨I (pre ++ [x]), Φ.rt, fun _ => False, I (pre ++ [x])⟩)) (h2 : ∀ ρ', I xs ρ' → PSs X rest (tS Z F0 G ρ' Φ))
    (hs : ∀ x, foldedSetIterable iter X.env x = pure x := by intro _; rfl) : PSs X (.For tg iter body [] pos :: rest) (tS Z F0 G ρ Φ) :=
  sforB I (fun _ => False) hp hc hi h0 hb (fun ρ' h => h2 ρ' (h.elim id False.elim)) hs
theorem ip_or : PIp X .BitOr (ipI fun i j => Builtin.bitOr i j) := by
  intro pins s σ H x y v u Q I r1 r2 h
  obtain ⟨i, j, e1, e2, q⟩ := h
  subst e1
  subst e2
  exact iop_or pins s σ H _ _ v u Q I r1 r2 ⟨i, j, rfl, rfl, q⟩
/-- x |= e, naturals -/
theorem sor (i : Nat) {x : Str} {n k : Nat} {pos' : Pos} (hN : X.N.Nodup) (he : PE X e (tD Z ρ (.int (k : Int)))) (h2 : PSs X rest (tS Z F0 G (ρ.set i (some (.im (Dt (.int ((n ||| k : Nat) : Int)))))) Φ)) (hr : ρ[i]? = some (some (.im (Dt (.int (n : Int))))) := by rfl)
    (hi : X.N[i]? = some x := by rfl) (hx : Loc X.env.scope x := by first | exact Or.inl rfl | exact Or.inr rfl) (hl : Nat.blt i ρ.length = true := by rfl) (hf : X.fn x = true ∨ X.env.scope.names.lookup x = some .local := by first | exact .inl rfl | exact .inr rfl) :
    PSs X (.AugAssign (.Name x pos') .BitOr e pos :: rest) (tS Z F0 G ρ Φ) := by
  have e : Builtin.bitOr (n : Int) (k : Int) = ((n ||| k : Nat) : Int) := Bits.bitOr_pp (by omega) (by omega)
  rw [← e] at h2
  exact saug i hN ip_or he h2 hr hi hx hl hf
end
end Kb
end TLd
section TLe
set_option Elab.async false
set_option autoImplicit false
set_option linter.all false
set_option maxRecDepth 100000
set_option maxHeartbeats 4000000
/-! Le: zip, enumerate of known rows. -/
namespace Kb
open PySem PySem.Spec PyProof.Rows L2
theorem zipD_map {α β : Type} (f : α → PyData) (g : β → PyData) (xs : List α) (ys : List β) : zipD (xs.map f) (ys.map g) = (xs.zip ys).map fun p => .tuple [f p.1, g p.2] := by
  unfold zipD
  rw [List.zip_map, List.map_map]
  rfl
section
variable {X : Cx} {Z : Zn} {ρ : En} {a b : Expr} {p pos tpos : Pos} {elts : List Expr} {kk : Nat}
theorem itZs (T : Bi X.mg) (k l : Bool) {α β : Type} {xs : List α} {ys : List β} {f : α → PyData} {g : β → PyData} (ha : PE X a (tD Z ρ (sqD k (xs.map f)))) (hb : PE X b (tD Z ρ (sqD l (ys.map g)))) (hl : xs.length = ys.length) (hg : Gl X "zip" := by rfl) (hs : starEach [a, b] X.env = (false, eval a X.env) :: starEach [b] X.env := by rfl) (hs2 : starEach [b] X.env = (false, eval b X.env) :: starEach [] X.env := by rfl)
    (hpl : (backTo pos (starEach [b] X.env)).any (·.1) = false := by rfl) : PI X (.Tuple elts kk tpos) (.Call (.Name "zip" p) [a, b] [] pos) (tI Z ρ ((xs.zip ys).map fun p => Dt (.tuple [f p.1, g p.2]))) := by
  have h := itZH T (elts := elts) (kk := kk) (tpos := tpos) (p := p) (pos := pos) k l ha hb (by rw [List.length_map, List.length_map]; exact hl) hg hs hs2 hpl
  rw [zipD_map, List.map_map] at h
  exact h
theorem itEHs (T : Bi X.mg) (k : Bool) {α : Type} {xs : List α} {f : α → PyData} (ha : PE X a (tD Z ρ (sqD k (xs.map f)))) (hg : Gl X "enumerate" := by rfl) (hs : starEach [a] X.env = [(false, eval a X.env)] := by rfl) :
    PI X (.Tuple elts kk tpos) (.Call (.Name "enumerate" p) [a] [] pos) (tI Z ρ (xs.zipIdx.map fun p => Dt (.tuple [.int (p.2 : Int), f p.1]))) := by
  have h := itEH T (elts := elts) (kk := kk) (tpos := tpos) (p := p) (pos := pos) k ha hg hs
  rw [enD_map, List.map_map] at h
  exact h
theorem dlenK (T : Bi X.mg) (k : Bool) {ds : List PyData} (ha : PE X a (tD Z ρ (sqD k ds))) (hg : Gl X "len" := by rfl) (hs : starEach [a] X.env = (false, eval a X.env) :: starEach [] X.env := by rfl) : PE X (.Call (.Name "len" p) [a] [] pos) (tD Z ρ (.int (ds.length : Int))) := by
  cases k with
  | true => exact dlen T sqL (vL ha) hg hs
  | false => exact dlen T sqT (vT ha) hg hs
end
end Kb
end TLe
section TTx
set_option Elab.async false
set_option linter.all false
set_option maxRecDepth 100000
set_option maxHeartbeats 4000000
/-! Tx: each def's statement, slots, scope. Written by gentx.py. -/
namespace Kb
open PySem PySem.Spec PyProof.Rows L2
/-- the statements of the top -/
def tp (i : Nat) : Stmt := PySem.Challenge.pw_boundorvoid_k43_whole_kept_lots_and_smal.main.body.getD i (.Pass ⟨0, 0, 0, 0⟩)

/-- is_text -/
abbrev s10 : Stmt := tp 10
abbrev n10 : List Str := ["value"]
theorem c10 : FnScope n10 ["value"] (defScope s10) := ⟨rfl, rfl, rfl, by decide +kernel, rfl, by decide +kernel, by decide +kernel⟩
/-- is_sequence -/
abbrev s11 : Stmt := tp 11
abbrev n11 : List Str := ["value"]
theorem c11 : FnScope n11 ["value"] (defScope s11) := ⟨rfl, rfl, rfl, by decide +kernel, rfl, by decide +kernel, by decide +kernel⟩
/-- is_name -/
abbrev s12 : Stmt := tp 12
abbrev n12 : List Str := ["value", "sign"]
theorem c12 : FnScope n12 ["value"] (defScope s12) := ⟨rfl, rfl, rfl, by decide +kernel, rfl, by decide +kernel, by decide +kernel⟩
/-- is_lot -/
abbrev s13 : Stmt := tp 13
abbrev n13 : List Str := ["value", "name", "at"]
theorem c13 : FnScope n13 ["value"] (defScope s13) := ⟨rfl, rfl, rfl, by decide +kernel, rfl, by decide +kernel, by decide +kernel⟩
/-- lot_of -/
abbrev s14 : Stmt := tp 14
abbrev n14 : List Str := ["things"]
theorem c14 : FnScope n14 ["things"] (defScope s14) := ⟨rfl, rfl, rfl, by decide +kernel, rfl, by decide +kernel, by decide +kernel⟩
/-- lot_union -/
abbrev s15 : Stmt := tp 15
abbrev n15 : List Str := ["one", "other"]
theorem c15 : FnScope n15 ["one", "other"] (defScope s15) := ⟨rfl, rfl, rfl, by decide +kernel, rfl, by decide +kernel, by decide +kernel⟩
/-- lot_meet -/
abbrev s16 : Stmt := tp 16
abbrev n16 : List Str := ["one", "other", "thing"]
theorem c16 : FnScope n16 ["one", "other"] (defScope s16) := ⟨rfl, rfl, rfl, by decide +kernel, rfl, by decide +kernel, by decide +kernel⟩
/-- lot_less -/
abbrev s17 : Stmt := tp 17
abbrev n17 : List Str := ["one", "other", "thing"]
theorem c17 : FnScope n17 ["one", "other"] (defScope s17) := ⟨rfl, rfl, rfl, by decide +kernel, rfl, by decide +kernel, by decide +kernel⟩
/-- lot_within -/
abbrev s18 : Stmt := tp 18
abbrev n18 : List Str := ["one", "other", "thing"]
theorem c18 : FnScope n18 ["one", "other"] (defScope s18) := ⟨rfl, rfl, rfl, by decide +kernel, rfl, by decide +kernel, by decide +kernel⟩
/-- are_hands -/
abbrev s24 : Stmt := tp 24
abbrev n24 : List Str := ["value", "name"]
theorem c24 : FnScope n24 ["value"] (defScope s24) := ⟨rfl, rfl, rfl, by decide +kernel, rfl, by decide +kernel, by decide +kernel⟩
/-- is_told_note -/
abbrev s25 : Stmt := tp 25
abbrev n25 : List Str := ["value", "hands", "earlier", "name"]
theorem c25 : FnScope n25 ["value", "hands", "earlier"] (defScope s25) := ⟨rfl, rfl, rfl, by decide +kernel, rfl, by decide +kernel, by decide +kernel⟩
/-- are_ready -/
abbrev s26 : Stmt := tp 26
abbrev n26 : List Str := ["value", "hands", "notes", "owners", "name", "hand", "waits"]
theorem c26 : FnScope n26 ["value", "hands", "notes"] (defScope s26) := ⟨rfl, rfl, rfl, by decide +kernel, rfl, by decide +kernel, by decide +kernel⟩
/-- bits_under -/
abbrev s27 : Stmt := tp 27
abbrev n27 : List Str := ["notes", "places", "lasts", "found", "at", "name", "hand", "waits", "under", "other"]
theorem c27 : FnScope n27 ["notes"] (defScope s27) := ⟨rfl, rfl, rfl, by decide +kernel, rfl, by decide +kernel, by decide +kernel⟩
/-- bits_of_lot -/
abbrev s28 : Stmt := tp 28
abbrev n28 : List Str := ["names", "notes", "found", "name", "hand", "waits", "under"]
theorem c28 : FnScope n28 ["names", "notes"] (defScope s28) := ⟨rfl, rfl, rfl, by decide +kernel, rfl, by decide +kernel, by decide +kernel⟩
/-- is_paper -/
abbrev s29 : Stmt := tp 29
abbrev n29 : List Str := ["value", "hands", "notes", "names", "name", "hand", "waits", "bits", "inside", "at"]
theorem c29 : FnScope n29 ["value", "hands", "notes"] (defScope s29) := ⟨rfl, rfl, rfl, by decide +kernel, rfl, by decide +kernel, by decide +kernel⟩
/-- __init__ -/
abbrev s30_0 : Stmt := inClass (tp 30) 0
abbrev n30_0 : List Str := ["self", "hands", "notes", "ready", "paper", "names", "at", "note", "name", "hand", "waits", "one"]
theorem c30_0 : FnScope n30_0 ["self", "hands", "notes", "ready", "paper"] (defScope s30_0) := ⟨rfl, rfl, rfl, by decide +kernel, rfl, by decide +kernel, by decide +kernel⟩
/-- need_hand -/
abbrev s31 : Stmt := tp 31
abbrev n31 : List Str := ["pact", "hand"]
theorem c31 : FnScope n31 ["pact", "hand"] (defScope s31) := ⟨rfl, rfl, rfl, by decide +kernel, rfl, by decide +kernel, by decide +kernel⟩
/-- need_note -/
abbrev s32 : Stmt := tp 32
abbrev n32 : List Str := ["pact", "note"]
theorem c32 : FnScope n32 ["pact", "note"] (defScope s32) := ⟨rfl, rfl, rfl, by decide +kernel, rfl, by decide +kernel, by decide +kernel⟩
/-- names_of_bits -/
abbrev s33 : Stmt := tp 33
abbrev n33 : List Str := ["pact", "bits", "at", "name"]
theorem c33 : FnScope n33 ["pact", "bits"] (defScope s33) := ⟨rfl, rfl, rfl, by decide +kernel, rfl, by decide +kernel, by decide +kernel⟩
/-- hand_of -/
abbrev s34 : Stmt := tp 34
abbrev n34 : List Str := ["pact", "note"]
theorem c34 : FnScope n34 ["pact", "note"] (defScope s34) := ⟨rfl, rfl, rfl, by decide +kernel, rfl, by decide +kernel, by decide +kernel⟩
/-- notes_of -/
abbrev s35 : Stmt := tp 35
abbrev n35 : List Str := ["pact", "hand"]
theorem c35 : FnScope n35 ["pact", "hand"] (defScope s35) := ⟨rfl, rfl, rfl, by decide +kernel, rfl, by decide +kernel, by decide +kernel⟩
/-- is_under -/
abbrev s36 : Stmt := tp 36
abbrev n36 : List Str := ["pact", "one", "other"]
theorem c36 : FnScope n36 ["pact", "one", "other"] (defScope s36) := ⟨rfl, rfl, rfl, by decide +kernel, rfl, by decide +kernel, by decide +kernel⟩
/-- under_of -/
abbrev s37 : Stmt := tp 37
abbrev n37 : List Str := ["pact", "note"]
theorem c37 : FnScope n37 ["pact", "note"] (defScope s37) := ⟨rfl, rfl, rfl, by decide +kernel, rfl, by decide +kernel, by decide +kernel⟩
/-- whole_paper -/
abbrev s38 : Stmt := tp 38
abbrev n38 : List Str := ["pact"]
theorem c38 : FnScope n38 ["pact"] (defScope s38) := ⟨rfl, rfl, rfl, by decide +kernel, rfl, by decide +kernel, by decide +kernel⟩
/-- key_note -/
abbrev s39 : Stmt := tp 39
abbrev n39 : List Str := ["pact", "hand", "note"]
theorem c39 : FnScope n39 ["pact", "hand"] (defScope s39) := ⟨rfl, rfl, rfl, by decide +kernel, rfl, by decide +kernel, by decide +kernel⟩
/-- ready_note -/
abbrev s40 : Stmt := tp 40
abbrev n40 : List Str := ["pact", "hand"]
theorem c40 : FnScope n40 ["pact", "hand"] (defScope s40) := ⟨rfl, rfl, rfl, by decide +kernel, rfl, by decide +kernel, by decide +kernel⟩
/-- level_of -/
abbrev s42 : Stmt := tp 42
abbrev n42 : List Str := ["pact", "note"]
theorem c42 : FnScope n42 ["pact", "note"] (defScope s42) := ⟨rfl, rfl, rfl, by decide +kernel, rfl, by decide +kernel, by decide +kernel⟩
/-- top_of -/
abbrev s43 : Stmt := tp 43
abbrev n43 : List Str := ["pact", "hand"]
theorem c43 : FnScope n43 ["pact", "hand"] (defScope s43) := ⟨rfl, rfl, rfl, by decide +kernel, rfl, by decide +kernel, by decide +kernel⟩
/-- next_level -/
abbrev s44 : Stmt := tp 44
abbrev n44 : List Str := ["pact", "hand", "note", "own"]
theorem c44 : FnScope n44 ["pact", "hand", "note"] (defScope s44) := ⟨rfl, rfl, rfl, by decide +kernel, rfl, by decide +kernel, by decide +kernel⟩
/-- next_note -/
abbrev s45 : Stmt := tp 45
abbrev n45 : List Str := ["pact", "hand", "note", "level", "row"]
theorem c45 : FnScope n45 ["pact", "hand", "note"] (defScope s45) := ⟨rfl, rfl, rfl, by decide +kernel, rfl, by decide +kernel, by decide +kernel⟩
/-- row_fault -/
abbrev s47 : Stmt := tp 47
abbrev n47 : List Str := ["pact", "value", "at", "hand"]
theorem c47 : FnScope n47 ["pact", "value"] (defScope s47) := ⟨rfl, rfl, rfl, by decide +kernel, rfl, by decide +kernel, by decide +kernel⟩
/-- need_row -/
abbrev s48 : Stmt := tp 48
abbrev n48 : List Str := ["pact", "value", "fault"]
theorem c48 : FnScope n48 ["pact", "value"] (defScope s48) := ⟨rfl, rfl, rfl, by decide +kernel, rfl, by decide +kernel, by decide +kernel⟩
/-- climb_from -/
abbrev s49 : Stmt := tp 49
abbrev n49 : List Str := ["pact", "note", "row", "found", "here", "hand"]
theorem c49 : FnScope n49 ["pact", "note", "row"] (defScope s49) := ⟨rfl, rfl, rfl, by decide +kernel, rfl, by decide +kernel, by decide +kernel⟩
/-- climb -/
abbrev s50 : Stmt := tp 50
abbrev n50 : List Str := ["pact", "hand", "row"]
theorem c50 : FnScope n50 ["pact", "hand", "row"] (defScope s50) := ⟨rfl, rfl, rfl, by decide +kernel, rfl, by decide +kernel, by decide +kernel⟩
/-- row_holds -/
abbrev s51 : Stmt := tp 51
abbrev n51 : List Str := ["pact", "hand", "row", "notes"]
theorem c51 : FnScope n51 ["pact", "hand", "row"] (defScope s51) := ⟨rfl, rfl, rfl, by decide +kernel, rfl, by decide +kernel, by decide +kernel⟩
/-- place_within -/
abbrev s53 : Stmt := tp 53
abbrev n53 : List Str := ["lots", "at", "lot", "other"]
theorem c53 : FnScope n53 ["lots"] (defScope s53) := ⟨rfl, rfl, rfl, by decide +kernel, rfl, by decide +kernel, by decide +kernel⟩
/-- family_fault -/
abbrev s54 : Stmt := tp 54
abbrev n54 : List Str := ["pact", "value", "at", "lot"]
theorem c54 : FnScope n54 ["pact", "value"] (defScope s54) := ⟨rfl, rfl, rfl, by decide +kernel, rfl, by decide +kernel, by decide +kernel⟩
/-- need_family -/
abbrev s55 : Stmt := tp 55
abbrev n55 : List Str := ["pact", "value", "fault"]
theorem c55 : FnScope n55 ["pact", "value"] (defScope s55) := ⟨rfl, rfl, rfl, by decide +kernel, rfl, by decide +kernel, by decide +kernel⟩
/-- in_family -/
abbrev s56 : Stmt := tp 56
abbrev n56 : List Str := ["family", "lot", "other"]
theorem c56 : FnScope n56 ["family", "lot"] (defScope s56) := ⟨rfl, rfl, rfl, by decide +kernel, rfl, by decide +kernel, by decide +kernel⟩
/-- lot_parts -/
abbrev s57 : Stmt := tp 57
abbrev n57 : List Str := ["lot", "found", "name", "part"]
theorem c57 : FnScope n57 ["lot"] (defScope s57) := ⟨rfl, rfl, rfl, by decide +kernel, rfl, by decide +kernel, by decide +kernel⟩
/-- lots_in_order -/
abbrev s58 : Stmt := tp 58
abbrev n58 : List Str := ["lots"]
theorem c58 : FnScope n58 ["lots"] (defScope s58) := ⟨rfl, rfl, rfl, by decide +kernel, rfl, by decide +kernel, by decide +kernel⟩
/-- all_lots -/
abbrev s59 : Stmt := tp 59
abbrev n59 : List Str := ["family", "found", "lot", "part"]
theorem c59 : FnScope n59 ["family"] (defScope s59) := ⟨rfl, rfl, rfl, by decide +kernel, rfl, by decide +kernel, by decide +kernel⟩
/-- family_of -/
abbrev s60 : Stmt := tp 60
abbrev n60 : List Str := ["lots", "told", "found", "lot", "other"]
theorem c60 : FnScope n60 ["lots"] (defScope s60) := ⟨rfl, rfl, rfl, by decide +kernel, rfl, by decide +kernel, by decide +kernel⟩
/-- __init__ -/
abbrev s62_0 : Stmt := inClass (tp 62) 0
abbrev n62_0 : List Str := ["self", "table"]
theorem c62_0 : FnScope n62_0 ["self", "table"] (defScope s62_0) := ⟨rfl, rfl, rfl, by decide +kernel, rfl, by decide +kernel, by decide +kernel⟩
/-- __init__ -/
abbrev s63_0 : Stmt := inClass (tp 63) 0
abbrev n63_0 : List Str := ["self", "hand", "row"]
theorem c63_0 : FnScope n63_0 ["self", "hand", "row"] (defScope s63_0) := ⟨rfl, rfl, rfl, by decide +kernel, rfl, by decide +kernel, by decide +kernel⟩
/-- lot_orders -/
abbrev s64 : Stmt := tp 64
abbrev n64 : List Str := ["lot", "found", "turn", "row", "hand"]
theorem c64 : FnScope n64 ["lot"] (defScope s64) := ⟨rfl, rfl, rfl, by decide +kernel, rfl, by decide +kernel, by decide +kernel⟩
/-- court_rows -/
abbrev s65 : Stmt := tp 65
abbrev n65 : List Str := ["pact", "family", "found", "lot", "lasts", "hand", "row"]
theorem c65 : FnScope n65 ["pact", "family"] (defScope s65) := ⟨rfl, rfl, rfl, by decide +kernel, rfl, by decide +kernel, by decide +kernel⟩
/-- level_after -/
abbrev s66 : Stmt := tp 66
abbrev n66 : List Str := ["pact", "hand", "other", "level", "row"]
theorem c66 : FnScope n66 ["pact", "hand", "other", "level"] (defScope s66) := ⟨rfl, rfl, rfl, by decide +kernel, rfl, by decide +kernel, by decide +kernel⟩
/-- level_behind -/
abbrev s67 : Stmt := tp 67
abbrev n67 : List Str := ["pact", "levels", "lot", "hand", "rest", "note", "other"]
theorem c67 : FnScope n67 ["pact", "levels", "lot", "hand"] (defScope s67) := ⟨rfl, rfl, rfl, by decide +kernel, rfl, by decide +kernel, by decide +kernel⟩
/-- highest_levels -/
abbrev s68 : Stmt := tp 68
abbrev n68 : List Str := ["pact", "lot", "levels", "part", "hand"]
theorem c68 : FnScope n68 ["pact", "lot"] (defScope s68) := ⟨rfl, rfl, rfl, by decide +kernel, rfl, by decide +kernel, by decide +kernel⟩
/-- court_table -/
abbrev s69 : Stmt := tp 69
abbrev n69 : List Str := ["pact", "family", "everybody", "levels", "found", "lot", "hand", "whole"]
theorem c69 : FnScope n69 ["pact", "family"] (defScope s69) := ⟨rfl, rfl, rfl, by decide +kernel, rfl, by decide +kernel, by decide +kernel⟩
/-- key_level -/
abbrev s70 : Stmt := tp 70
abbrev n70 : List Str := ["pact", "hand"]
theorem c70 : FnScope n70 ["pact", "hand"] (defScope s70) := ⟨rfl, rfl, rfl, by decide +kernel, rfl, by decide +kernel, by decide +kernel⟩
/-- court -/
abbrev s71 : Stmt := tp 71
abbrev n71 : List Str := ["pact", "family", "table", "high", "lot", "hand", "level", "row", "failing"]
theorem c71 : FnScope n71 ["pact", "family"] (defScope s71) := ⟨rfl, rfl, rfl, by decide +kernel, rfl, by decide +kernel, by decide +kernel⟩
/-- need_lot_hands -/
abbrev s73 : Stmt := tp 73
abbrev n73 : List Str := ["pact", "lot", "hand"]
theorem c73 : FnScope n73 ["pact", "lot"] (defScope s73) := ⟨rfl, rfl, rfl, by decide +kernel, rfl, by decide +kernel, by decide +kernel⟩
/-- torn_in -/
abbrev s75 : Stmt := tp 75
abbrev n75 : List Str := ["pact", "family", "lot", "rows", "part", "row", "last", "hand"]
theorem c75 : FnScope n75 ["pact", "family", "lot"] (defScope s75) := ⟨rfl, rfl, rfl, by decide +kernel, rfl, by decide +kernel, by decide +kernel⟩
/-- cut_pact -/
abbrev s76 : Stmt := tp 76
abbrev n76 : List Str := ["pact", "lot", "names", "name", "hand", "waits", "notes", "other", "hands", "paper"]
theorem c76 : FnScope n76 ["pact", "lot"] (defScope s76) := ⟨rfl, rfl, rfl, by decide +kernel, rfl, by decide +kernel, by decide +kernel⟩
/-- cut_family -/
abbrev s77 : Stmt := tp 77
abbrev n77 : List Str := ["lot", "family", "other"]
theorem c77 : FnScope n77 ["lot", "family"] (defScope s77) := ⟨rfl, rfl, rfl, by decide +kernel, rfl, by decide +kernel, by decide +kernel⟩
/-- _law_deal -/
abbrev s79 : Stmt := tp 79
abbrev n79 : List Str := ["_law_script", "_law_base", "_law_cells", "_law_cell", "_law_blend"]
theorem c79 : FnScope n79 ["_law_script", "_law_base"] (defScope s79) := ⟨rfl, rfl, rfl, by decide +kernel, rfl, by decide +kernel, by decide +kernel⟩
/-- _law_any -/
abbrev s80 : Stmt := tp 80
abbrev n80 : List Str := ["_law_deal_here", "_law_bound", "_law_rest"]
theorem c80 : FnScope n80 ["_law_deal_here", "_law_bound"] (defScope s80) := ⟨rfl, rfl, rfl, by decide +kernel, rfl, by decide +kernel, by decide +kernel⟩
/-- _law_of -/
abbrev s81 : Stmt := tp 81
abbrev n81 : List Str := ["_law_deal_here", "_law_some"]
theorem c81 : FnScope n81 ["_law_deal_here", "_law_some"] (defScope s81) := ⟨rfl, rfl, rfl, by decide +kernel, rfl, by decide +kernel, by decide +kernel⟩
/-- _law_mixed -/
abbrev s82 : Stmt := tp 82
abbrev n82 : List Str := ["_law_deal_here", "_law_some", "_law_left", "_law_found"]
theorem c82 : FnScope n82 ["_law_deal_here", "_law_some"] (defScope s82) := ⟨rfl, rfl, rfl, by decide +kernel, rfl, by decide +kernel, by decide +kernel⟩
/-- _law_names -/
abbrev s83 : Stmt := tp 83
abbrev n83 : List Str := ["_law_deal_here", "_law_many", "_law_letters", "_law_length", "_law_place", "_law_first", "_law_step", "_law_word", "_law_found", "_law_turn", "_law_other", "_law_at", "_law_signs"]
theorem c83 : FnScope n83 ["_law_deal_here", "_law_many"] (defScope s83) := ⟨rfl, rfl, rfl, by decide +kernel, rfl, by decide +kernel, by decide +kernel⟩
/-- _law_notes -/
abbrev s84 : Stmt := tp 84
abbrev n84 : List Str := ["_law_deal_here", "_law_hands", "_law_names_here", "_law_many", "_law_kind", "_law_owners", "_law_notes_here", "_law_turn", "_law_fair", "_law_hand", "_law_at", "_law_name", "_law_waits", "_law_one"]
theorem c84 : FnScope n84 ["_law_deal_here", "_law_hands", "_law_names_here"] (defScope s84) := ⟨rfl, rfl, rfl, by decide +kernel, rfl, by decide +kernel, by decide +kernel⟩
/-- _law_web -/
abbrev s85 : Stmt := tp 85
abbrev n85 : List Str := ["_law_hands", "_law_notes_here", "_law_ready", "_law_paper", "_law_rows_here", "_law_below", "_law_keys", "_law_nexts", "_law_whole", "_law_hand", "_law_note", "_law_at", "_law_name", "_law_waits", "_law_under", "_law_own", "_law_other", "_law_one", "_law_above"]
theorem c85 : FnScope n85 ["_law_hands", "_law_notes_here", "_law_ready", "_law_paper"] (defScope s85) := ⟨rfl, rfl, rfl, by decide +kernel, rfl, by decide +kernel, by decide +kernel⟩
/-- _law_world -/
abbrev s86 : Stmt := tp 86
abbrev n86 : List Str := ["_law_deal_here", "_law_many", "_law_extra", "_law_hands", "_law_names_here", "_law_notes_here", "_law_plain", "_law_ready", "_law_told", "_law_hand", "_law_row", "_law_note"]
theorem c86 : FnScope n86 ["_law_deal_here", "_law_many", "_law_extra"] (defScope s86) := ⟨rfl, rfl, rfl, by decide +kernel, rfl, by decide +kernel, by decide +kernel⟩
/-- _law_pact -/
abbrev s87 : Stmt := tp 87
abbrev n87 : List Str := ["_law_world_here"]
theorem c87 : FnScope n87 ["_law_world_here"] (defScope s87) := ⟨rfl, rfl, rfl, by decide +kernel, rfl, by decide +kernel, by decide +kernel⟩
/-- _law_start -/
abbrev s88 : Stmt := tp 88
abbrev n88 : List Str := ["_law_world_here", "_law_hand"]
theorem c88 : FnScope n88 ["_law_world_here", "_law_hand"] (defScope s88) := ⟨rfl, rfl, rfl, by decide +kernel, rfl, by decide +kernel, by decide +kernel⟩
/-- _law_climb -/
abbrev s89 : Stmt := tp 89
abbrev n89 : List Str := ["_law_world_here", "_law_note", "_law_row", "_law_found", "_law_hand"]
theorem c89 : FnScope n89 ["_law_world_here", "_law_note", "_law_row"] (defScope s89) := ⟨rfl, rfl, rfl, by decide +kernel, rfl, by decide +kernel, by decide +kernel⟩
/-- _law_holds -/
abbrev s90 : Stmt := tp 90
abbrev n90 : List Str := ["_law_world_here", "_law_hand", "_law_row", "_law_notes_here"]
theorem c90 : FnScope n90 ["_law_world_here", "_law_hand", "_law_row"] (defScope s90) := ⟨rfl, rfl, rfl, by decide +kernel, rfl, by decide +kernel, by decide +kernel⟩
/-- _law_rows -/
abbrev s91 : Stmt := tp 91
abbrev n91 : List Str := ["_law_hands", "_law_layer", "_law_found", "_law_turn"]
theorem c91 : FnScope n91 ["_law_hands"] (defScope s91) := ⟨rfl, rfl, rfl, by decide +kernel, rfl, by decide +kernel, by decide +kernel⟩
/-- _law_longer -/
abbrev s92 : Stmt := tp 92
abbrev n92 : List Str := ["_law_layer", "_law_hands", "_law_found", "_law_row", "_law_hand"]
theorem c92 : FnScope n92 ["_law_layer", "_law_hands"] (defScope s92) := ⟨rfl, rfl, rfl, by decide +kernel, rfl, by decide +kernel, by decide +kernel⟩
/-- _law_parts -/
abbrev s93 : Stmt := tp 93
abbrev n93 : List Str := ["_law_lot", "_law_found", "_law_name", "_law_part", "_law_size_here"]
theorem c93 : FnScope n93 ["_law_lot"] (defScope s93) := ⟨rfl, rfl, rfl, by decide +kernel, rfl, by decide +kernel, by decide +kernel⟩
/-- _law_within -/
abbrev s94 : Stmt := tp 94
abbrev n94 : List Str := ["_law_one", "_law_other", "_law_name"]
theorem c94 : FnScope n94 ["_law_one", "_law_other"] (defScope s94) := ⟨rfl, rfl, rfl, by decide +kernel, rfl, by decide +kernel, by decide +kernel⟩
/-- _law_inside -/
abbrev s95 : Stmt := tp 95
abbrev n95 : List Str := ["_law_family_here", "_law_lot", "_law_other"]
theorem c95 : FnScope n95 ["_law_family_here", "_law_lot"] (defScope s95) := ⟨rfl, rfl, rfl, by decide +kernel, rfl, by decide +kernel, by decide +kernel⟩
/-- _law_greatest -/
abbrev s96 : Stmt := tp 96
abbrev n96 : List Str := ["_law_lots", "_law_found", "_law_size_here", "_law_lot"]
theorem c96 : FnScope n96 ["_law_lots"] (defScope s96) := ⟨rfl, rfl, rfl, by decide +kernel, rfl, by decide +kernel, by decide +kernel⟩
/-- _law_family -/
abbrev s97 : Stmt := tp 97
abbrev n97 : List Str := ["_law_deal_here", "_law_hands", "_law_parts_here", "_law_kind", "_law_size_here", "_law_part", "_law_turn"]
theorem c97 : FnScope n97 ["_law_deal_here", "_law_hands"] (defScope s97) := ⟨rfl, rfl, rfl, by decide +kernel, rfl, by decide +kernel, by decide +kernel⟩
/-- _law_size -/
abbrev s98 : Stmt := tp 98
abbrev n98 : List Str := ["_law_deal_here", "_law_many"]
theorem c98 : FnScope n98 ["_law_deal_here"] (defScope s98) := ⟨rfl, rfl, rfl, by decide +kernel, rfl, by decide +kernel, by decide +kernel⟩
/-- _law_torn -/
abbrev s99 : Stmt := tp 99
abbrev n99 : List Str := ["_law_world_here", "_law_family_here", "_law_lot", "_law_row", "_law_hand"]
theorem c99 : FnScope n99 ["_law_world_here", "_law_family_here", "_law_lot"] (defScope s99) := ⟨rfl, rfl, rfl, by decide +kernel, rfl, by decide +kernel, by decide +kernel⟩
/-- law -/
abbrev s100 : Stmt := tp 100
abbrev n100 : List Str := ["_law_script", "_law_deal_here", "_law_many", "_law_extra", "_law_world_here", "_law_pact_here", "_law_hands", "_law_family_here", "_law_some", "_law_most", "_law_kept", "_law_lot", "_law_due", "_law_told", "_law_parts_here", "_law_part", "_law_whole"]
theorem c100 : FnScope n100 ["_law_script"] (defScope s100) := ⟨rfl, rfl, rfl, by decide +kernel, rfl, by decide +kernel, by decide +kernel⟩
end Kb
end TTx
section TPb
set_option Elab.async false
set_option autoImplicit false
set_option linter.all false
set_option maxRecDepth 100000
/-! Pb: notes, the bits under each: plain. -/
namespace Kb
open PySem PySem.Spec PyProof.Rows
theorem snocInd {α : Type} {p : List α → Prop} (h0 : p []) (h1 : ∀ xs x, p xs → p (xs ++ [x])) (xs : List α) : p xs := by
  have key : ∀ ys : List α, p ys.reverse := fun ys => by
    induction ys with
    | nil => exact h0
    | cons y ys ih =>
      rw [List.reverse_cons]
      exact h1 _ _ ih
  have := key xs.reverse
  rwa [List.reverse_reverse] at this
structure Nt where
  nm : Str
  hd : Str
  ws : List Str
def eN (n : Nt) : PyData := .tuple [.str n.nm, .str n.hd, eL n.ws]
def names (ns : List Nt) : List Str := ns.map (·.nm)
/-- the turn of bits_under: how many ahead, their places, each hand's last, what is under each -/
structure BU where
  k : Nat
  pl : List (Str × Nat)
  la : List (Str × Nat)
  fo : List Nat
def BU.at (s : BU) (o : Str) : Nat := s.fo.getD ((lookS s.pl o).getD 0) 0
def BU.ws (s : BU) (ws : List Str) : Nat := ws.foldl (fun u o => u ||| s.at o) (2 ^ s.k)
def BU.un (s : BU) (n : Nt) : Nat := match lookS s.la n.hd with
  | some j => s.ws n.ws ||| s.fo.getD j 0
  | none => s.ws n.ws
def BU.step (s : BU) (n : Nt) : BU := ⟨s.k + 1, s.pl ++ [(n.nm, s.k)], putS s.la n.hd s.k, s.fo ++ [s.un n]⟩
def bu (ns : List Nt) : BU := ns.foldl BU.step ⟨0, [], [], []⟩
def unders (ns : List Nt) : List Nat := (bu ns).fo
theorem bu_snoc (ns : List Nt) (n : Nt) : bu (ns ++ [n]) = (bu ns).step n := by
  unfold bu
  rw [List.foldl_append]
  rfl
structure BUok (s : BU) (ns : List Nt) : Prop where
  k : s.k = ns.length
  pl : s.pl.map (·.1) = names ns
  fo : s.fo.length = s.k
  plt : ∀ p ∈ s.pl, p.2 < s.k
  lat : ∀ p ∈ s.la, p.2 < s.k
  lan : (s.la.map (·.1)).Nodup
  lal : s.la.length ≤ s.k
theorem mem_putS {β : Type} {x : Str} {b : β} {p : Str × β} : ∀ {s : List (Str × β)}, p ∈ putS s x b → p ∈ s ∨ p.2 = b
  | [], h => by
    rw [putS, List.mem_singleton] at h
    exact .inr (by rw [h])
  | (y, c) :: r, h => by
    rw [putS] at h
    split at h
    · rcases List.mem_cons.mp h with e | e
      · exact .inr (by rw [e])
      · exact .inl (List.mem_cons_of_mem _ e)
    · rcases List.mem_cons.mp h with e | e
      · exact .inl (by rw [e]; exact List.mem_cons_self)
      · rcases mem_putS e with z | z
        · exact .inl (List.mem_cons_of_mem _ z)
        · exact .inr z
theorem bu_ok (ns : List Nt) : BUok (bu ns) ns := by
  refine snocInd (p := fun ns => BUok (bu ns) ns) ?_ (fun ns n ih => ?_) ns
  · exact ⟨rfl, rfl, rfl, fun p h => (by cases h), fun p h => (by cases h), List.nodup_nil, Nat.le_refl _⟩
  · rw [bu_snoc]
    refine ⟨?_, ?_, ?_, fun p h => ?_, fun p h => ?_, nodup_putS _ _ _ ih.lan, ?_⟩
    · show (bu ns).k + 1 = _
      rw [ih.k, List.length_append]
      rfl
    · show ((bu ns).pl ++ _).map _ = _
      unfold names
      rw [List.map_append, List.map_append, ih.pl]
      rfl
    · show ((bu ns).fo ++ _).length = _
      rw [List.length_append, ih.fo]
      rfl
    · rcases List.mem_append.mp h with z | z
      · exact Nat.lt_succ_of_lt (ih.plt p z)
      · rw [List.mem_singleton.mp z]
        exact Nat.lt_succ_self _
    · rcases mem_putS h with z | z
      · exact Nat.lt_succ_of_lt (ih.lat p z)
      · rw [z]
        exact Nat.lt_succ_self _
    · have := len_putS n.hd (bu ns).k (bu ns).la
      have h2 := ih.lal
      show (putS _ _ _).length ≤ (bu ns).k + 1
      omega
theorem lookS_some {β : Type} {x : Str} : ∀ {s : List (Str × β)}, x ∈ s.map (·.1) → ∃ b, lookS s x = some b ∧ (x, b) ∈ s
  | [], h => by cases h
  | (y, b) :: r, h => by
    rw [lookS]
    by_cases e : y = x
    · subst e
      exact ⟨b, if_pos rfl, List.mem_cons_self⟩
    · rw [if_neg e]
      rcases List.mem_cons.mp h with z | z
      · exact absurd z.symm e
      · obtain ⟨b, h1, h2⟩ := lookS_some z
        exact ⟨b, h1, List.mem_cons_of_mem _ h2⟩
theorem lookS_in {β : Type} {x : Str} {b : β} : ∀ {s : List (Str × β)}, lookS s x = some b → (x, b) ∈ s
  | [], h => by cases h
  | (y, c) :: r, h => by
    rw [lookS] at h
    by_cases e : y = x
    · rw [if_pos e] at h
      cases h
      rw [e]
      exact List.mem_cons_self
    · rw [if_neg e] at h
      exact List.mem_cons_of_mem _ (lookS_in h)
theorem lookS_map {β γ : Type} (f : β → γ) (x : Str) : ∀ s : List (Str × β), lookS (s.map fun p => (p.1, f p.2)) x = (lookS s x).map f
  | [] => rfl
  | (y, b) :: r => by
    rw [List.map_cons, lookS, lookS]
    by_cases e : y = x
    · rw [if_pos e, if_pos e]
      rfl
    · rw [if_neg e, if_neg e, lookS_map f x r]
theorem putS_map {β γ : Type} (f : β → γ) (x : Str) (b : β) : ∀ s : List (Str × β), putS (s.map fun p => (p.1, f p.2)) x (f b) = (putS s x b).map fun p => (p.1, f p.2)
  | [] => rfl
  | (y, c) :: r => by
    rw [List.map_cons, putS, putS]
    by_cases e : y = x
    · rw [if_pos e, if_pos e]
      rfl
    · rw [if_neg e, if_neg e, putS_map f x b r]
      rfl
/-- the notes stand well: names that differ, no wait but for an earlier one -/
structure NsOk (ns : List Nt) : Prop where
  nd : (names ns).Nodup
  ws : ∀ pre n post, ns = pre ++ n :: post → ∀ o ∈ n.ws, o ∈ names pre
  len : ns.length ≤ 40
  wl : ∀ n ∈ ns, n.ws.length ≤ 100
theorem zipIdx_split {α : Type} {xs : List α} {pre post : List (α × Nat)} {x : α × Nat} (h : xs.zipIdx = pre ++ x :: post) : xs = pre.map (·.1) ++ x.1 :: post.map (·.1) ∧ x.2 = pre.length := by
  have h1 : xs.zipIdx.map (·.1) = xs := List.zipIdx_map_fst 0 xs
  refine ⟨by rw [← h1, h, List.map_append, List.map_cons], ?_⟩
  have h2 : xs.zipIdx[pre.length]? = some x := by rw [h]; simp
  rw [List.getElem?_zipIdx] at h2
  cases e : xs[pre.length]? with
  | none =>
    rw [e] at h2
    cases h2
  | some y =>
    rw [e] at h2
    have h3 : (y, 0 + pre.length) = x := Option.some.inj h2
    rw [← h3]
    simp
theorem names_app (a b : List Nt) : names (a ++ b) = names a ++ names b := List.map_append
/-- bits_of_lot -/
def bitsOf (xs : List Str) (ns : List Nt) : Nat := (ns.zip (unders ns)).foldl (fun f p => if p.1.nm ∈ xs then f ||| p.2 else f) 0
theorem unders_len (ns : List Nt) : (unders ns).length = ns.length := by
  have h := bu_ok ns
  unfold unders
  rw [h.fo, h.k]
/-- a pact -/
structure Pc where
  hands : List Str
  ns : List Nt
  ready : List Str
  paper : List Str
/-- a hand's own notes -/
def row (ns : List Nt) (h : Str) : List Str := (ns.filter fun n => decide (n.hd = h)).map (·.nm)
/-- a note's place -/
def pl (ns : List Nt) (x : Str) : Nat := (names ns).idxOf x
/-- whose it is -/
def hdOf (ns : List Nt) (x : Str) : Str := (ns.map (·.hd)).getD (pl ns x) ""
/-- one under other -/
def isU (ns : List Nt) (x y : Str) : Bool := ((unders ns).getD (pl ns y) 0).testBit (pl ns x)
def bitNames (ns : List Nt) (b : Nat) : List Str := ((names ns).zipIdx.filter fun q => b.testBit q.2).map (·.1)
def underOf (ns : List Nt) (x : Str) : List Str := lotOf (bitNames ns ((unders ns).getD (pl ns x) 0))
def keyRow (ns : List Nt) (pa : List Str) (h : Str) : List Str := (row ns h).filter fun x => (bitsOf pa ns).testBit (pl ns x)
def keyNote (ns : List Nt) (pa : List Str) (h : Str) : Str := (keyRow ns pa h).getLastD ""
def Pc.rdy (p : Pc) (h : Str) : Str := p.ready.getD (p.hands.idxOf h) ""
def nextLevel (ns : List Nt) (h x : Str) : Nat := ((row ns h).filter fun o => !isU ns x o).length
def nextNote (ns : List Nt) (h x : Str) : Option Str := (row ns h)[nextLevel ns h x]?
def eO : Option Str → PyData
  | some x => .str x
  | none => .none
def climbN (ns : List Nt) : Str → List Str → List Str
  | _, [] => []
  | x, h :: r => match nextNote ns h x with
    | some y => y :: climbN ns y r
    | none => []
theorem pl_lt {ns : List Nt} {x : Str} (h : x ∈ names ns) : pl ns x < ns.length := by
  have := List.idxOf_lt_length_iff.mpr h
  unfold names at this
  rw [List.length_map] at this
  exact this
theorem pl_at {ns : List Nt} {x : Str} (h : x ∈ names ns) : (names ns)[pl ns x]? = some x := by
  have hl : (names ns).idxOf x < (names ns).length := List.idxOf_lt_length_iff.mpr h
  show (names ns)[(names ns).idxOf x]? = _
  rw [List.getElem?_eq_getElem hl, List.getElem_idxOf hl]
theorem look_zip {x : Str} : ∀ {xs : List Str} {k : Nat}, x ∈ xs → lookS (xs.zipIdx k) x = some (k + xs.idxOf x)
  | [], _, h => by cases h
  | y :: ys, k, h => by
    rw [List.zipIdx_cons, lookS]
    by_cases e : y = x
    · subst e
      rw [if_pos rfl]
      simp
    · rw [if_neg e]
      have hm : x ∈ ys := by
        rcases List.mem_cons.mp h with z | z
        · exact absurd z.symm e
        · exact z
      have eb : (y == x) = false := beq_eq_false_iff_ne.mpr e
      rw [look_zip hm, List.idxOf_cons, eb]
      congr 1
      simp only [cond_false]
      omega
theorem mem_row {ns : List Nt} {h x : Str} : x ∈ row ns h ↔ ∃ n ∈ ns, n.hd = h ∧ n.nm = x := by
  unfold row
  simp only [List.mem_map, List.mem_filter, decide_eq_true_eq]
  constructor
  · rintro ⟨n, ⟨h1, h2⟩, h3⟩
    exact ⟨n, h1, h2, h3⟩
  · rintro ⟨n, h1, h2, h3⟩
    exact ⟨n, ⟨h1, h2⟩, h3⟩
theorem row_names {ns : List Nt} {h x : Str} (hx : x ∈ row ns h) : x ∈ names ns := by
  obtain ⟨n, h1, _, h3⟩ := mem_row.mp hx
  exact List.mem_map.mpr ⟨n, h1, h3⟩
theorem row_len (ns : List Nt) (h : Str) : (row ns h).length ≤ ns.length := by
  unfold row
  rw [List.length_map]
  exact List.length_filter_le _ _
theorem nodup_sub_len {α : Type} [DecidableEq α] : ∀ {xs ys : List α}, xs.Nodup → (∀ x ∈ xs, x ∈ ys) → xs.length ≤ ys.length
  | [], _, _, _ => Nat.zero_le _
  | x :: xs, ys, nd, h => by
    rw [List.nodup_cons] at nd
    have hx : x ∈ ys := h x List.mem_cons_self
    have ih := nodup_sub_len (xs := xs) (ys := ys.erase x) nd.2 fun y hy => (List.mem_erase_of_ne (fun e => nd.1 (by rw [← e]; exact hy))).mpr (h y (List.mem_cons_of_mem _ hy))
    have := List.length_erase_of_mem hx
    have := List.length_pos_of_mem hx
    rw [List.length_cons]
    omega
def rowHolds (p : Pc) (h : Str) (r : List Str) : Bool :=
  decide ((climbN p.ns (p.rdy h) r).length = r.length) && isU p.ns ((climbN p.ns (p.rdy h) r).getLastD "") (keyNote p.ns p.paper (r.getLastD ""))
theorem nextNote_names {ns : List Nt} {h x y : Str} (e : nextNote ns h x = some y) : y ∈ names ns := row_names (List.mem_of_getElem? e)
theorem climbN_names {ns : List Nt} {y : Str} : ∀ {r : List Str} {x : Str}, y ∈ climbN ns x r → y ∈ names ns
  | [], _, h => by cases h
  | g :: r, x, h => by
    rw [climbN] at h
    cases e : nextNote ns g x with
    | none =>
      rw [e] at h
      cases h
    | some z =>
      rw [e] at h
      rcases List.mem_cons.mp h with k | k
      · rw [k]
        exact nextNote_names e
      · exact climbN_names k
theorem climbN_len {ns : List Nt} : ∀ {r : List Str} {x : Str}, (climbN ns x r).length ≤ r.length
  | [], _ => Nat.le_refl _
  | g :: r, x => by
    rw [climbN]
    cases nextNote ns g x with
    | none => exact Nat.zero_le _
    | some z =>
      have := climbN_len (ns := ns) (r := r) (x := z)
      simp only [List.length_cons]
      omega
theorem getLastD_mem {α : Type} {d : α} : ∀ {xs : List α}, xs ≠ [] → xs.getLastD d ∈ xs := fun {xs} h => by
  rcases List.eq_nil_or_concat xs with z | ⟨ys, y, z⟩
  · exact absurd z h
  · rw [z, List.concat_eq_append]
    simp
theorem keyNote_names {ns : List Nt} {pa : List Str} {h : Str} (k : keyRow ns pa h ≠ []) : keyNote ns pa h ∈ names ns := row_names (List.mem_filter.mp (getLastD_mem (d := ("" : Str)) k)).1
end Kb
end TPb
section TWb
set_option Elab.async false
set_option autoImplicit false
set_option linter.all false
set_option maxRecDepth 100000
set_option maxHeartbeats 4000000
/-! Wb: the words. -/
namespace Kb
open PySem PySem.Spec PyProof.Rows L2 PySem.W
def letters : Str := "abcdefghijklmnopqrstuvwxyz"
/-- numbers and texts of the modules -/
structure Gv (mg : Str → Option Value) : Prop where
  bi : Bi mg
  letters : ∃ t, mg "LETTERS" = some (.str letters t)
  longest : ∃ t, mg "LONGEST" = some (.int 8 t)
  fh : ∃ t, mg "FEWEST_HANDS" = some (.int 2 t)
  mh : ∃ t, mg "MOST_HANDS" = some (.int 6 t)
  fn : ∃ t, mg "FEWEST_NOTES" = some (.int 2 t)
  mn : ∃ t, mg "MOST_NOTES" = some (.int 40 t)
/-- a name -/
def Nm (x : Str) : Prop := 1 ≤ x.length ∧ x.length ≤ 8 ∧ ∀ c ∈ x.cps.toList, c ∈ letters.cps.toList
def sLt (a b : Str) : Prop := dataLt (.str a) (.str b) = true
/-- a lot -/
def Lot (xs : List Str) : Prop := (∀ x ∈ xs, Nm x) ∧ xs.Pairwise sLt ∧ xs.length ≤ 100
abbrev q10 (Z : Zn) : Sp := spD Z (fun x : Str => [Dt (.str x)]) (fun _ => True) fun _ => Dt (.bool true)
abbrev q11 (Z : Zn) : Sp := spD Z (fun x : Bool × List PyData => [Dt (sqD x.1 x.2)]) (fun _ => True) fun _ => Dt (.bool true)
abbrev q12 (Z : Zn) : Sp := spD Z (fun x : Str => [Dt (.str x)]) Nm fun _ => Dt (.bool true)
abbrev q13 (Z : Zn) : Sp := spD Z (fun x : List Str => [Dt (eL x)]) Lot fun _ => Dt (.bool true)
section
variable {P : Program} {w : World} {K : PySem.W.Frag} {mg : Str → Option Value} {base : Heap} {tb : Addr} {qn : Str}
theorem ok10 (V : Gv mg) (D : Dn K mg "is_text" s10 ["value"]) : Okd P w K mg base "is_text" 1 (q10 ⟨tb, qn, none⟩) := by
  refine okD D c10 (fun _ => rfl) (by decide) fun f cdv A outer s H E a F0 G hr hp => ?_
  exact sret (disB V.bi (n := "str") (m := "str") (fun F H v fh h => ty_str h) (dv 0) rfl V.bi.str (by decide +kernel) (by decide +kernel)) rfl
theorem ok11 (V : Gv mg) (D : Dn K mg "is_sequence" s11 ["value"]) : Okd P w K mg base "is_sequence" 1 (q11 ⟨tb, qn, none⟩) := by
  refine okD D c11 (fun _ => rfl) (by decide) fun f cdv A outer s H E a F0 G hr hp => ?_
  obtain ⟨b, ds⟩ := a
  cases b with
  | true => exact sret (disLT V.bi (.inl rfl) (fun F H v fh h => ty_lst fh h) (dv 0)) rfl
  | false => exact sret (disLT V.bi (.inr rfl) (fun F H v fh h => ty_tup fh h) (dv 0)) rfl
theorem ok12 (V : Gv mg) (D : Dn K mg "is_name" s12 ["value"]) (C10 : Okd P w K mg base "is_text" 1 (q10 ⟨tb, qn, none⟩)) : Okd P w K mg base "is_name" 2 (q12 ⟨tb, qn, none⟩) := by
  refine okD D c12 (fun _ => rfl) (by decide) fun f cdv A outer s H E a F0 G hr hp => ?_
  obtain ⟨t1, h1⟩ := V.longest
  obtain ⟨t2, h2⟩ := V.letters
  obtain ⟨n1, n2, n3⟩ := hp
  refine sret (dis (dand (dcl hr C10 a trivial (pac (dv 0) pa0)) fun _ => dand (dleC dint (dlenS V.bi (dv 0) (by omega)) (dgi rfl h1 ⟨_, rfl⟩)) fun _ =>
    dand1 (dallC V.bi rfl (dlc (own := [("sign", 1)]) (f := fun _ => true) (g := fun c => .bool (decide (c ∈ letters.cps.toList))) rfl c12.nd (itS (dv 0)) (blkOk_by (N := n12) (sc := defScope s12) (by decide +kernel))
      (fun _ _ _ _ _ x _ => gn 1 c12.nd) (fun _ _ _ _ _ x _ => pt0) (fun _ _ _ _ _ x _ _ => dsg (dv 1) (dgs rfl h2 ⟨_, rfl⟩)) ?_))) ?_) rfl
  · rw [Array.length_toList]
    show a.length ≤ _
    omega
  · congr 1
    have e1 : (1 : Int) ≤ (a.length : Int) := by omega
    have e2 : (a.length : Int) ≤ 8 := by omega
    simp only [e1, e2, decide_true, Bool.true_and, List.all_eq_true, List.mem_filter, decide_eq_true_eq]
    exact fun x hx => n3 x hx.1
theorem lot_at {a : List Str} {i : Nat} (h : i < a.length) : atI (a.map PyData.str) (i : Int) = some (.str (a.getD i "")) := atI_nat (by
  rw [List.getElem?_map, List.getD_eq_getElem?_getD, List.getElem?_eq_getElem h]
  rfl)
theorem ok13 (V : Gv mg) (D : Dn K mg "is_lot" s13 ["value"]) (C12 : Okd P w K mg base "is_name" 2 (q12 ⟨tb, qn, none⟩)) : Okd P w K mg base "is_lot" 3 (q13 ⟨tb, qn, none⟩) := by
  refine okD D c13 (fun _ => rfl) (by decide) fun f cdv A outer s H E a F0 G hr hp => ?_
  obtain ⟨n1, n2, n3⟩ := hp
  refine sifF (ptis (ppt (pwor (k := false) (l := false) (ptis (ptnot (ptv (disB V.bi (n := "tuple") (m := "tuple") (r := true) (fun F H v fh h => ty_tup fh h) (dv 0) rfl V.bi.tuple (by decide +kernel) (by decide +kernel)))) rfl) fun _ => pwor1 (ptis (ptnot (ptv (dallC (f := fun _ => true) (g := fun _ => true) (xs := a) V.bi rfl
    (dlc (own := [("name", 1)]) rfl c13.nd (itTs (dv 0)) (blkOk_by (N := n13) (sc := defScope s13) (by decide +kernel)) (fun _ _ _ _ _ x _ => gn 1 c13.nd) (fun _ _ _ _ _ x _ => pt0) (fun _ _ _ _ _ x hx _ => dcl hr C12 x (n1 x hx) (pac (dv 1) pa0)) ?_)))) ?_))) rfl) (s0 rfl) ?_
  · omega
  · rw [filt, allT]
    rfl
  refine sret (dis (dallC (f := fun _ => true) (g := fun (i : Nat) => dataLt (.str (a.getD i "")) (.str (a.getD (i + 1) ""))) (xs := List.range (a.length - 1)) V.bi rfl
    (dlc (own := [("at", 2)]) (enc := fun (i : Nat) => Dt (.int (i : Int))) rfl c13.nd ?_ (blkOk_by (N := n13) (sc := defScope s13) (by decide +kernel)) (fun _ _ _ _ _ x _ => gn 2 c13.nd) (fun _ _ _ _ _ x _ => pt0)
      (fun _ _ _ _ _ x hx _ => dltD hr.u64 (dixT (vT (dv 0)) (dv 2) ?_) (dixT (vT (dv 0)) (dadd (dv 2) dint) ?_) rfl (fun z => by cases z) (Nat.zero_le 60)) ?_)) ?_) rfl
  · refine itRn V.bi (dsub (dlen V.bi sqT (vT (dv 0))) dint) ?_ ?_
    · rw [List.length_map]
      omega
    · rw [List.length_map]
      omega
  · exact lot_at (by have := List.mem_range.mp hx; omega)
  · exact lot_at (i := x + 1) (by have := List.mem_range.mp hx; omega)
  · rw [List.length_range]
    omega
  · rw [filt]
    congr 1
    refine List.all_eq_true.mpr fun i hi => ?_
    have hi := List.mem_range.mp hi
    have h1 : i < a.length := by omega
    have h2 : i + 1 < a.length := by omega
    have := List.pairwise_iff_getElem.mp n2 i (i + 1) h1 h2 (Nat.lt_succ_self i)
    rw [List.getD_eq_getElem?_getD, List.getD_eq_getElem?_getD, List.getElem?_eq_getElem h1, List.getElem?_eq_getElem h2]
    exact this
/-- lot_of: of texts, of lots -/
abbrev q14 (Z : Zn) : Sp := spD Z (fun x : (Bool × List Str) ⊕ List (List Str) => match x with
  | .inl (b, xs) => [Dt (sqD b (xs.map .str))]
  | .inr ls => [Dt (.list (ls.map eL))]) (fun x => match x with
  | .inl (_, xs) => xs.length ≤ 1000
  | .inr ls => ls.length < 64) fun x => match x with
  | .inl (_, xs) => Dt (eL (lotOf xs))
  | .inr ls => Dt (.tuple ((lotsOf ls).map eL))
theorem ok14 (V : Gv mg) (D : Dn K mg "lot_of" s14 ["things"]) : Okd P w K mg base "lot_of" 1 (q14 ⟨tb, qn, none⟩) := by
  refine okD D c14 (fun a => by rcases a with ⟨b, xs⟩ | ls <;> rfl) (by decide) fun f cdv A outer s H E a F0 G hr hp => ?_
  rcases a with ⟨b, xs⟩ | ls
  · have hp : xs.length ≤ 1000 := hp
    cases b with
    | true => exact sret (dtupL V.bi (nV (dsset V.bi rfl hr.u64 sqL (vL (dv 0)) (by omega)))) rfl
    | false => exact sret (dtupL V.bi (nV (dsset V.bi rfl hr.u64 sqT (vT (dv 0)) (by omega)))) rfl
  · have hp : ls.length < 64 := hp
    exact sret (dtupL V.bi (nV (dlset V.bi rfl hr.u64 (vL (dv 0)) hp))) rfl
abbrev q15 (Z : Zn) : Sp := spD Z (fun a : List Str × List Str => [Dt (eL a.1), Dt (eL a.2)]) (fun a => a.1.length ≤ 1000 ∧ a.2.length ≤ 1000) fun a => Dt (eL (lotOf (a.1 ++ a.2)))
theorem ok15 (V : Gv mg) (D : Dn K mg "lot_union" s15 ["one", "other"]) : Okd P w K mg base "lot_union" 1 (q15 ⟨tb, qn, none⟩) := by
  refine okD D c15 (fun _ => rfl) (by decide) fun f cdv A outer s H E a F0 G hr hp => ?_
  obtain ⟨n1, n2⟩ := hp
  have h : a.1.map PyData.str ++ a.2.map PyData.str = (a.1 ++ a.2).map .str := (List.map_append).symm
  refine sret (dtupL V.bi (nV (dsset V.bi (xs := a.1 ++ a.2) rfl hr.u64 sqT (vT (dis (dcatT (dv 0) (dv 1) ?_) (congrArg PyData.tuple h))) ?_))) rfl
  · rw [List.length_map, List.length_map]
    omega
  · rw [List.length_append]
    omega
abbrev q16 (Z : Zn) : Sp := spD Z (fun a : List Str × List Str => [Dt (eL a.1), Dt (eL a.2)]) (fun a => a.1.length ≤ 1000) fun a => Dt (eL (a.1.filter fun x => decide (x ∈ a.2)))
theorem ok16 (V : Gv mg) (D : Dn K mg "lot_meet" s16 ["one", "other"]) : Okd P w K mg base "lot_meet" 1 (q16 ⟨tb, qn, none⟩) := by
  refine okD D c16 (fun _ => rfl) (by decide) fun f cdv A outer s H E a F0 G hr hp => ?_
  refine sret (dtupL V.bi (nV (lcD (dlc (own := [("thing", 2)]) (f := fun x => decide (x ∈ a.2)) (g := fun x => .str x) rfl c16.nd (itTs (dv 0)) (blkOk_by (N := n16) (sc := defScope s16) (by decide +kernel)) (fun _ _ _ _ _ x _ => gn 2 c16.nd)
      (fun _ _ _ _ _ x _ => pt1 (pin sqT (dv 2) (vT (dv 1)))) (fun _ _ _ _ _ x _ _ => dv 2) ?_)))) rfl
  omega
abbrev q17 (Z : Zn) : Sp := spD Z (fun a : List Str × List Str => [Dt (eL a.1), Dt (eL a.2)]) (fun a => a.1.length ≤ 1000) fun a => Dt (eL (a.1.filter fun x => !decide (x ∈ a.2)))
theorem ok17 (V : Gv mg) (D : Dn K mg "lot_less" s17 ["one", "other"]) : Okd P w K mg base "lot_less" 1 (q17 ⟨tb, qn, none⟩) := by
  refine okD D c17 (fun _ => rfl) (by decide) fun f cdv A outer s H E a F0 G hr hp => ?_
  refine sret (dtupL V.bi (nV (lcD (dlc (own := [("thing", 2)]) (f := fun x => !decide (x ∈ a.2)) (g := fun x => .str x) rfl c17.nd (itTs (dv 0)) (blkOk_by (N := n17) (sc := defScope s17) (by decide +kernel)) (fun _ _ _ _ _ x _ => gn 2 c17.nd)
      (fun _ _ _ _ _ x _ => pt1 (pnin sqT (dv 2) (vT (dv 1)))) (fun _ _ _ _ _ x _ _ => dv 2) ?_)))) rfl
  omega
/-- one within other -/
def wiB (a b : List Str) : Bool := a.all fun x => decide (x ∈ b)
theorem wiB_iff {a b : List Str} : wiB a b = true ↔ ∀ x ∈ a, x ∈ b := by
  unfold wiB
  simp
abbrev q18 (Z : Zn) : Sp := spD Z (fun a : List Str × List Str => [Dt (eL a.1), Dt (eL a.2)]) (fun a => a.1.length ≤ 1000) fun a => Dt (.bool (wiB a.1 a.2))
theorem ok18 (V : Gv mg) (D : Dn K mg "lot_within" s18 ["one", "other"]) : Okd P w K mg base "lot_within" 1 (q18 ⟨tb, qn, none⟩) := by
  refine okD D c18 (fun _ => rfl) (by decide) fun f cdv A outer s H E a F0 G hr hp => ?_
  refine sret (dis (dallC (f := fun _ => true) (g := fun x => decide (x ∈ a.2)) (xs := a.1) V.bi rfl (dlc (own := [("thing", 2)]) rfl c18.nd (itTs (dv 0)) (blkOk_by (N := n18) (sc := defScope s18) (by decide +kernel)) (fun _ _ _ _ _ x _ => gn 2 c18.nd)
      (fun _ _ _ _ _ x _ => pt0) (fun _ _ _ _ _ x _ _ => din sqT (dv 2) (vT (dv 1))) ?_)) ?_) rfl
  · omega
  · rw [filt]
    rfl
end
end Kb
end TWb
section TWc
set_option Elab.async false
set_option autoImplicit false
set_option linter.all false
set_option maxRecDepth 100000
set_option maxHeartbeats 4000000
/-! Wc: hands, notes, bits. -/
namespace Kb
open PySem PySem.Spec PyProof.Rows L2 PySem.W
structure HdOk (hs : List Str) : Prop where
  lo : 2 ≤ hs.length
  hi : hs.length ≤ 6
  nm : ∀ x ∈ hs, Nm x
  nd : hs.Nodup
abbrev q24 (Z : Zn) : Sp := spD Z (fun x : List Str => [Dt (.list (x.map .str))]) HdOk fun _ => Dt (.bool true)
/-- a note told behind earlier ones -/
structure TdOk (hs : List Str) (n : Nt) (ea : List Str) : Prop where
  nm : Nm n.nm
  nw : n.nm ∉ ea
  hn : Nm n.hd
  hd : n.hd ∈ hs
  ws : Lot n.ws
  we : ∀ o ∈ n.ws, o ∈ ea
abbrev q25 (Z : Zn) : Sp := spD Z (fun x : List Str × Nt × List Str => [Dt (eN x.2.1), Dt (.list (x.1.map .str)), Dt (.list (x.2.2.map .str))]) (fun x => TdOk x.1 x.2.1 x.2.2) fun _ => Dt (.bool true)
section
variable {P : Program} {w : World} {K : PySem.W.Frag} {mg : Str → Option Value} {base : Heap} {tb : Addr} {qn : Str}
theorem ok24 (V : Gv mg) (D : Dn K mg "are_hands" s24 ["value"]) (C11 : Okd P w K mg base "is_sequence" 1 (q11 ⟨tb, qn, none⟩)) (C12 : Okd P w K mg base "is_name" 2 (q12 ⟨tb, qn, none⟩)) : Okd P w K mg base "are_hands" 3 (q24 ⟨tb, qn, none⟩) := by
  refine okD D c24 (fun _ => rfl) (by decide) fun f cdv A outer s H E a F0 G hr hp => ?_
  obtain ⟨t1, h1⟩ := V.fh
  obtain ⟨t2, h2⟩ := V.mh
  have e1 : (2 : Int) ≤ ((a.map PyData.str).length : Int) := by rw [List.length_map]; have := hp.lo; omega
  have e2 : ((a.map PyData.str).length : Int) ≤ 6 := by rw [List.length_map]; have := hp.hi; omega
  have l6 := hp.hi
  refine sifF (ptis (ppt (pwor (k := false) (l := false) (ptis (ptnot (ptv (dcl hr C11 (true, a.map .str) trivial (pac (dv 0) pa0)))) rfl) fun _ => pwor1 (ptis (ptnot (pleC (dgi rfl h1 ⟨_, rfl⟩) (dlen V.bi sqL (vL (dv 0))) (dgi rfl h2 ⟨_, rfl⟩))) ?_))) rfl) (s0 rfl) ?_
  · rw [decide_eq_true e1, decide_eq_true e2]
    rfl
  refine sret (dis (dand (dallC (f := fun _ => true) (g := fun _ => true) (xs := a) V.bi rfl (dlc (own := [("name", 1)]) rfl c24.nd (itLs (dv 0)) (blkOk_by (N := n24) (sc := defScope s24) (by decide +kernel)) (fun _ _ _ _ _ x _ => gn 1 c24.nd)
      (fun _ _ _ _ _ x _ => pt0) (fun _ _ _ _ _ x hx _ => dcl hr C12 x (hp.nm x hx) (pac (dv 1) pa0)) ?_)) fun _ => dand1 (deqI (dlenset V.bi rfl hr.u64 sqL (vL (dv 0)) ?_ hp.nd) (dlen V.bi sqL (vL (dv 0))))) ?_) rfl
  · omega
  · omega
  · rw [filt, allT, List.length_map]
    simp
theorem ok25 (V : Gv mg) (D : Dn K mg "is_told_note" s25 ["value", "hands", "earlier"]) (C12 : Okd P w K mg base "is_name" 2 (q12 ⟨tb, qn, none⟩)) (C13 : Okd P w K mg base "is_lot" 3 (q13 ⟨tb, qn, none⟩)) : Okd P w K mg base "is_told_note" 4 (q25 ⟨tb, qn, none⟩) := by
  refine okD D c25 (fun _ => rfl) (by decide) fun f cdv A outer s H E a F0 G hr hp => ?_
  obtain ⟨hs, n, ea⟩ := a
  have l1 : n.ws.length ≤ 100 := hp.ws.2.2
  refine sifF (ptis (ppt (pwor (k := false) (ptis (ptnot (ptv (disB V.bi (n := "tuple") (m := "tuple") (r := true) (fun F H v fh h => ty_tup fh h) (dv 0) rfl V.bi.tuple (by decide +kernel) (by decide +kernel)))) rfl) fun _ => pwor (k := false) (ptis (pneI (dlen V.bi sqT (vT (dv 0))) dint) rfl) fun _ =>
    pwor (k := false) (ptis (ptnot (ptv (dcl hr C12 n.nm hp.nm (pac (dixT (vT (dv 0)) dint rfl) pa0)))) rfl) fun _ => pwor1 (ptis (pin sqL (dixT (vT (dv 0)) dint rfl) (vL (dv 2))) (decide_eq_false hp.nw)))) rfl) (s0 rfl) ?_
  refine sifF (ptis (ppt (pwor (k := false) (ptis (ptnot (ptv (dcl hr C12 n.hd hp.hn (pac (dixT (vT (dv 0)) dint rfl) pa0)))) rfl) fun _ => pwor (k := false) (ptis (pnin sqL (dixT (vT (dv 0)) dint rfl) (vL (dv 1))) (congrArg not (decide_eq_true hp.hd))) fun _ =>
    pwor1 (ptis (ptnot (ptv (dcl hr C13 n.ws hp.ws (pac (dixT (vT (dv 0)) dint rfl) pa0)))) rfl))) rfl) (s0 rfl) ?_
  refine sret (dis (dallC (f := fun _ => true) (g := fun x => decide (x ∈ ea)) (xs := n.ws) V.bi rfl (dlc (own := [("name", 3)]) rfl c25.nd (itTs (dixT (vT (dv 0)) dint rfl)) (blkOk_by (N := n25) (sc := defScope s25) (by decide +kernel)) (fun _ _ _ _ _ x _ => gn 3 c25.nd)
      (fun _ _ _ _ _ x _ => pt0) (fun _ _ _ _ _ x hx _ => din sqL (dv 3) (vL (dv 2))) ?_)) ?_) rfl
  · omega
  · rw [filt]
    exact congrArg PyData.bool (List.all_eq_true.mpr fun o ho => decide_eq_true (hp.we o ho))
/-- places, as a dict's contents -/
def kvN (s : List (Str × Nat)) : List (Str × Ty) := s.map fun p => (p.1, Dt (.int (p.2 : Int)))
theorem kvN_keys (s : List (Str × Nat)) : (kvN s).map (·.1) = s.map (·.1) := by
  unfold kvN
  rw [List.map_map]
  rfl
theorem kvN_look (s : List (Str × Nat)) (x : Str) : lookS (kvN s) x = (lookS s x).map fun n : Nat => Dt (.int (n : Int)) := lookS_map (fun n : Nat => Dt (.int (n : Int))) x s
theorem kvN_put (s : List (Str × Nat)) (x : Str) (n : Nat) : putS (kvN s) x (Dt (.int (n : Int))) = kvN (putS s x n) := putS_map (fun n : Nat => Dt (.int (n : Int))) x n s
def iL (l : List Nat) : List PyData := l.map fun n : Nat => .int (n : Int)
theorem iL_len (l : List Nat) : (iL l).length = l.length := List.length_map _
theorem iL_at {l : List Nat} {j : Nat} (h : j < l.length) : atI (iL l) (j : Int) = some (.int ((l.getD j 0 : Nat) : Int)) := atI_nat (by
  unfold iL
  rw [List.getElem?_map, List.getD_eq_getElem?_getD, List.getElem?_eq_getElem h]
  rfl)
theorem NsOk.split {ns pre post : List Nt} {n : Nt} (h : NsOk ns) (e : ns = pre ++ n :: post) : n.nm ∉ names pre ∧ (∀ o ∈ n.ws, o ∈ names pre) ∧ pre.length < 40 ∧ n.ws.length ≤ 100 := by
  refine ⟨fun hm => ?_, h.ws _ _ _ e, ?_, h.wl n (by rw [e]; simp)⟩
  · have nd := h.nd
    rw [e, names_app] at nd
    exact (List.nodup_append.mp nd).2.2 _ hm _ (List.mem_cons_self) rfl
  · have := h.len
    rw [e, List.length_append, List.length_cons] at this
    omega
abbrev q27 (Z : Zn) : Sp := spD Z (fun ns : List Nt => [Dt (.list (ns.map eN))]) NsOk fun ns => Dt (.tuple (iL (unders ns)))
theorem ok27 (V : Gv mg) (D : Dn K mg "bits_under" s27 ["notes"]) : Okd P w K mg base "bits_under" 1 (q27 ⟨tb, qn, none⟩) := by
  refine okD D c27 (fun _ => rfl) (by decide) fun f cdv A outer s H E ns F0 G hr hp => ?_
  refine spar3 1 2 3 rfl c27.nd (kan dnewK (kan dnewK (kan (dlst (ds := []) pa0) ka0 (by simp)) (by simp [AK.held])) (by simp [AK.held])) ?_
  refine sforN (xs := ns.zipIdx) (fun pre ρ1 => ∃ x4 x5 x6 x7 x8 x9, ρ1 = [some (.im (Dt (.list (ns.map eN)))), some (.mu (mK (kvN (bu (pre.map (·.1))).pl))), some (.mu (mK (kvN (bu (pre.map (·.1))).la))), some (.mu (mL (iL (bu (pre.map (·.1))).fo))), x4, x5, x6, x7, x8, x9])
    PassesOwn.never rfl (itEs V.bi (dv 0)) ⟨_, _, _, _, _, _, rfl⟩ (fun pre x post ρ1 hx ⟨x4, x5, x6, x7, x8, x9, e⟩ => ?_) fun ρ1 ⟨x4, x5, x6, x7, x8, x9, e⟩ => ?_
  · subst e
    obtain ⟨n, k⟩ := x
    obtain ⟨h1, h2⟩ := zipIdx_split hx
    have h2 : k = (pre.map (·.1)).length := by rw [List.length_map]; exact h2
    rw [List.map_append] 
    generalize hpq : pre.map (·.1) = pr at h1 h2 ⊢
    clear hpq
    subst h2
    have bo := bu_ok pr
    obtain ⟨n1, n2, n3, n4⟩ := hp.split h1
    have esn : bu (pr ++ [n]) = (bu pr).step n := bu_snoc pr n
    generalize hst : bu pr = st at bo esn ⊢
    have hk : st.k = pr.length := bo.k
    refine ⟨_, gt rfl (gsc (gn 4 c27.nd) (gsc (gt rfl (gsc (gn 5 c27.nd) (gsc (gn 6 c27.nd) (gsc (gn 7 c27.nd) gs0)))) gs0)), ?_⟩
    refine sset (t := Dt (.int ((st.ws [] : Nat) : Int))) 8 c27.nd (dis (dshl dint (dv 4) ⟨by omega, by omega, by decide⟩) ?_) ?_
    · show PyData.int (1 * 2 ^ ((pr.length : Int).toNat)) = .int (((2 ^ st.k : Nat)) : Int)
      rw [hk]
      simp
    refine sforN (xs := n.ws) (fun pre ρ1 => ∃ x9, ρ1 = [some (.im (Dt (.list (ns.map eN)))), some (.mu (mK (kvN st.pl))), some (.mu (mK (kvN st.la))), some (.mu (mL (iL st.fo))), some (.im (Dt (.int (pr.length : Int)))), some (.im (Dt (.str n.nm))), some (.im (Dt (.str n.hd))), some (.im (Dt (eL n.ws))), some (.im (Dt (.int ((st.ws pre : Nat) : Int)))), x9])
      PassesOwn.never rfl (itTs (dv 7)) ⟨_, rfl⟩ (fun pre2 o post2 ρ2 ho ⟨y9, e⟩ => ?_) fun ρ2 ⟨y9, e⟩ => ?_
    · subst e
      have hom : o ∈ st.pl.map (·.1) := by
        rw [bo.pl]
        exact n2 o (by rw [ho]; simp)
      obtain ⟨j, hj1, hj2⟩ := lookS_some hom
      have hj3 : j < st.fo.length := by rw [bo.fo]; exact bo.plt _ hj2
      refine ⟨_, gn 9 c27.nd, ?_⟩
      refine sor 8 c27.nd (dixL (dvm 3) (dgetK hr.u1 (dvm 1) (dv 9) (by rw [kvN_look, hj1]; rfl)) (iL_at hj3)) (s0 ⟨some (.im (Dt (.str o))), ?_⟩)
      have e2 : st.ws (pre2 ++ [o]) = st.ws pre2 ||| st.fo.getD j 0 := by
        unfold BU.ws
        rw [List.foldl_append]
        show _ ||| st.at o = _
        unfold BU.at
        rw [hj1]
        rfl
      rw [e2]
      rfl
    · subst e
      refine sif (Ψ := ⟨fun ρ' => ρ' = [some (.im (Dt (.list (ns.map eN)))), some (.mu (mK (kvN st.pl))), some (.mu (mK (kvN st.la))), some (.mu (mL (iL st.fo))), some (.im (Dt (.int (pr.length : Int)))), some (.im (Dt (.str n.nm))), some (.im (Dt (.str n.hd))), some (.im (Dt (eL n.ws))), some (.im (Dt (.int ((st.un n : Nat) : Int)))), y9], _, _, _⟩)
        (pinK hr.u1 (dv 6) (dvm 2)) (fun hb => ?_) (fun hb => ?_) fun ρ' e => ?_
      · rw [kvN_look] at hb
        cases hl : lookS st.la n.hd with
        | none =>
          rw [hl] at hb
          cases hb
        | some j =>
          have hj3 : j < st.fo.length := by rw [bo.fo]; exact bo.lat _ (lookS_in hl)
          refine sor 8 c27.nd (dixL (dvm 3) (dgetK hr.u1 (dvm 2) (dv 6) (by rw [kvN_look, hl]; rfl)) (iL_at hj3)) (s0 ?_)
          have e2 : st.un n = st.ws n.ws ||| st.fo.getD j 0 := by
            unfold BU.un
            rw [hl]
          show _ = _
          rw [e2]
          rfl
      · rw [kvN_look] at hb
        cases hl : lookS st.la n.hd with
        | some j =>
          rw [hl] at hb
          cases hb
        | none =>
          have e2 : st.un n = st.ws n.ws := by
            unfold BU.un
            rw [hl]
          refine s0 ?_
          show _ = _
          rw [e2]
      · subst e
        refine sputK 1 hr.u1 (dv 4) (dv 5) (lookS_none (by rw [kvN_keys, bo.pl]; exact n1)) ?_ (sputA 2 hr.u1 (dv 4) (dv 6) ?_ ?_ (sapp 3 (dv 8) (s0 ?_) ?_))
        · have := congrArg List.length bo.pl
          unfold kvN names at *
          rw [List.length_map, List.length_map] at this
          rw [List.length_map]
          omega
        · have := bo.lal
          unfold kvN
          rw [List.length_map]
          omega
        · rw [kvN_keys]
          exact bo.lan
        · have e1 : kvN st.pl ++ [(n.nm, Dt (.int (pr.length : Int)))] = kvN (bu (pr ++ [n])).pl := by
            rw [esn, ← hk]
            unfold BU.step kvN
            rw [List.map_append]
            rfl
          have e2 : putS (kvN st.la) n.hd (Dt (.int (pr.length : Int))) = kvN (bu (pr ++ [n])).la := by
            rw [esn, ← hk, kvN_put]
            rfl
          have e3 : iL st.fo ++ [.int ((st.un n : Nat) : Int)] = iL (bu (pr ++ [n])).fo := by
            rw [esn]
            unfold BU.step iL
            rw [List.map_append]
            rfl
          show ∃ x4 x5 x6 x7 x8 x9, [some (.im (Dt (.list (ns.map eN)))), some (.mu (mK (kvN st.pl ++ [(n.nm, Dt (.int (pr.length : Int)))]))), some (.mu (mK (putS (kvN st.la) n.hd (Dt (.int (pr.length : Int)))))), some (.mu (mL (iL st.fo ++ [.int ((st.un n : Nat) : Int)]))), some (.im (Dt (.int (pr.length : Int)))), some (.im (Dt (.str n.nm))), some (.im (Dt (.str n.hd))), some (.im (Dt (eL n.ws))), some (.im (Dt (.int ((st.un n : Nat) : Int)))), y9] = [some (.im (Dt (.list (ns.map eN)))), some (.mu (mK (kvN (bu (pr ++ [n])).pl))), some (.mu (mK (kvN (bu (pr ++ [n])).la))), some (.mu (mL (iL (bu (pr ++ [n])).fo))), x4, x5, x6, x7, x8, x9]
          rw [e1, e2, e3]
          exact ⟨_, _, _, _, _, _, rfl⟩
        · rw [iL_len, bo.fo]
          omega
  · subst e
    rw [List.zipIdx_map_fst]
    exact sret (dtupL V.bi (dvm 3)) rfl
end
end Kb
end TWc
section TWd
set_option Elab.async false
set_option autoImplicit false
set_option linter.all false
set_option maxRecDepth 100000
set_option maxHeartbeats 4000000
/-! Wd: the paper's bits, ready notes. -/
namespace Kb
open PySem PySem.Spec PyProof.Rows L2 PySem.W
/-- (b >> i) % 2 == 1 -/
theorem bit_int (b i : Nat) : decide ((b : Int) / 2 ^ i % 2 = 1) = b.testBit i := by
  have e : (b : Int) / 2 ^ i % 2 = ((b / 2 ^ i % 2 : Nat) : Int) := by
    rw [Int.natCast_emod, Int.natCast_ediv, Int.natCast_pow]
    rfl
  rw [e, Nat.testBit_eq_decide_div_mod_eq]
  simp only [decide_eq_decide]
  omega
structure PaOk (hs : List Str) (ns : List Nt) (pa : List Str) : Prop where
  lot : Lot pa
  sub : ∀ p ∈ pa, p ∈ names ns
  all : ∀ h ∈ hs, ∃ j n, ns[j]? = some n ∧ n.hd = h ∧ (bitsOf pa ns).testBit j = true
structure RdOk (hs : List Str) (ns : List Nt) (rd : List Str) : Prop where
  len : rd.length = hs.length
  own : ∀ p ∈ rd.zip hs, Nm p.1 ∧ ∃ n ∈ ns, n.nm = p.1 ∧ n.hd = p.2
section
variable {P : Program} {w : World} {K : PySem.W.Frag} {mg : Str → Option Value} {base : Heap} {tb : Addr} {qn : Str}
abbrev q28 (Z : Zn) : Sp := spD Z (fun x : List Str × List Nt => [Dt (eL x.1), Dt (.list (x.2.map eN))]) (fun x => NsOk x.2) fun x => Dt (.int (bitsOf x.1 x.2 : Nat))
theorem ok28 (V : Gv mg) (D : Dn K mg "bits_of_lot" s28 ["names", "notes"]) (C27 : Okd P w K mg base "bits_under" 1 (q27 ⟨tb, qn, none⟩)) : Okd P w K mg base "bits_of_lot" 2 (q28 ⟨tb, qn, none⟩) := by
  refine okD D c28 (fun _ => rfl) (by decide) fun f cdv A outer s H E a F0 G hr hp => ?_
  obtain ⟨xs, ns⟩ := a
  have hp : NsOk ns := hp
  refine sset (t := Dt (.int ((0 : Nat) : Int))) 2 c28.nd dint ?_
  refine sforN (xs := ns.zip (unders ns)) (enc := fun p => Dt (.tuple [eN p.1, .int (p.2 : Nat)])) (fun pre ρ1 => ∃ x3 x4 x5 x6, ρ1 = [some (.im (Dt (eL xs))), some (.im (Dt (.list (ns.map eN)))), some (.im (Dt (.int ((pre.foldl (fun f p => if p.1.nm ∈ xs then f ||| p.2 else f) 0 : Nat) : Int)))), x3, x4, x5, x6])
    PassesOwn.never rfl (itZs V.bi true false (f := eN) (g := fun n : Nat => .int (n : Int)) (dv 1) (dcl hr C27 ns hp (pac (dv 1) pa0)) (unders_len ns).symm) ⟨_, _, _, _, rfl⟩ (fun pre x post ρ1 hx ⟨x3, x4, x5, x6, e⟩ => ?_) fun ρ1 ⟨x3, x4, x5, x6, e⟩ => ?_
  · subst e
    obtain ⟨n, u⟩ := x
    refine ⟨_, gt rfl (gsc (gt rfl (gsc (gn 3 c28.nd) (gsc (gn 4 c28.nd) (gsc (gn 5 c28.nd) gs0)))) (gsc (gn 6 c28.nd) gs0)), ?_⟩
    refine sif (Ψ := ⟨fun ρ' => ∃ x3 x4 x5 x6, ρ' = [some (.im (Dt (eL xs))), some (.im (Dt (.list (ns.map eN)))), some (.im (Dt (.int (((pre ++ [(n, u)]).foldl (fun f p => if p.1.nm ∈ xs then f ||| p.2 else f) 0 : Nat) : Int)))), x3, x4, x5, x6], _, _, _⟩)
      (pin sqT (dv 3) (vT (dv 0))) (fun hb => ?_) (fun hb => ?_) fun ρ' h => s0 h
    · have hm : n.nm ∈ xs := of_decide_eq_true hb.symm
      refine sor 2 c28.nd (dv 6) (s0 ?_)
      rw [List.foldl_append, List.foldl_cons, List.foldl_nil, if_pos hm]
      exact ⟨_, _, _, _, rfl⟩
    · have hm : n.nm ∉ xs := of_decide_eq_false hb.symm
      refine s0 ?_
      rw [List.foldl_append, List.foldl_cons, List.foldl_nil, if_neg hm]
      exact ⟨_, _, _, _, rfl⟩
  · subst e
    exact sret (dv 2) rfl
abbrev q29 (Z : Zn) : Sp := spD Z (fun x : List Str × List Str × List Nt => [Dt (eL x.1), Dt (.list (x.2.1.map .str)), Dt (.list (x.2.2.map eN))]) (fun x => NsOk x.2.2 ∧ x.2.1.length ≤ 6 ∧ PaOk x.2.1 x.2.2 x.1) fun x => Dt (.bool true)
theorem ok29 (V : Gv mg) (D : Dn K mg "is_paper" s29 ["value", "hands", "notes"]) (C13 : Okd P w K mg base "is_lot" 3 (q13 ⟨tb, qn, none⟩)) (C28 : Okd P w K mg base "bits_of_lot" 2 (q28 ⟨tb, qn, none⟩)) : Okd P w K mg base "is_paper" 4 (q29 ⟨tb, qn, none⟩) := by
  refine okD D c29 (fun _ => rfl) (by decide) fun f cdv A outer s H E a F0 G hr hp => ?_
  obtain ⟨pa, hs, ns⟩ := a
  obtain ⟨p1, p2, p3⟩ := hp
  have p1 : NsOk ns := p1
  have p2 : hs.length ≤ 6 := p2
  have p3 : PaOk hs ns pa := p3
  have l1 := p1.len
  have l2 : pa.length ≤ 100 := p3.lot.2.2
  have e1 : (ns.filter fun _ => true).map (fun n : Nt => PyData.str n.nm) = (names ns).map .str := by
    rw [filt]
    unfold names
    rw [List.map_map]
    rfl
  refine sset 3 c29.nd (dis (nL (lcD (dlc (own := [("name", 4), ("hand", 5), ("waits", 6)]) (f := fun _ => true) (g := fun n : Nt => .str n.nm) rfl c29.nd (itLs (dv 2)) (blkOk_by (N := n29) (sc := defScope s29) (by decide +kernel)) (fun _ _ _ _ _ x _ => gt rfl (gsc (gn 4 c29.nd) (gsc (gn 5 c29.nd) (gsc (gn 6 c29.nd) gs0))))
    (fun _ _ _ _ _ x _ => pt0) (fun _ _ _ _ _ x _ _ => dv 4) (show ns.length ≤ 100000 by omega)))) (congrArg PyData.list e1)) ?_
  refine sifF (ptis (ppt (pwor (k := false) (l := false) (ptis (ptnot (ptv (dcl hr C13 pa p3.lot (pac (dv 0) pa0)))) rfl) fun _ => pwor1 (ptis (ptnot (ptv (dallC (f := fun _ => true) (g := fun x => decide (x ∈ names ns)) (xs := pa) V.bi rfl
    (dlc (own := [("name", 4)]) rfl c29.nd (itTs (dv 0)) (blkOk_by (N := n29) (sc := defScope s29) (by decide +kernel)) (fun _ _ _ _ _ x _ => gn 4 c29.nd) (fun _ _ _ _ _ x _ => pt0) (fun _ _ _ _ _ x hx _ => din sqL (dv 4) (vL (dv 3))) (by omega))))) ?_))) rfl) (s0 rfl) ?_
  · rw [filt]
    exact congrArg not (List.all_eq_true.mpr fun o ho => decide_eq_true (p3.sub o ho))
  refine sset 7 c29.nd (dcl hr C28 (pa, ns) p1 (pac (dv 0) (pac (dv 2) pa0))) ?_
  have e2 : (ns.zipIdx.filter fun p => (bitsOf pa ns).testBit p.2).map (fun p : Nt × Nat => PyData.str p.1.hd) = ((ns.zipIdx.filter fun p => (bitsOf pa ns).testBit p.2).map fun p => p.1.hd).map .str := by
    rw [List.map_map]
    rfl
  refine sset 8 c29.nd (dis (nL (lcD (dlc (own := [("at", 9), ("name", 4), ("hand", 5), ("waits", 6)]) (f := fun p : Nt × Nat => (bitsOf pa ns).testBit p.2) (g := fun p : Nt × Nat => .str p.1.hd) rfl c29.nd (itEs V.bi (f := eN) (xs := ns) (dv 2)) (blkOk_by (N := n29) (sc := defScope s29) (by decide +kernel))
    (fun _ _ _ _ _ x _ => gt rfl (gsc (gn 9 c29.nd) (gsc (gt rfl (gsc (gn 4 c29.nd) (gsc (gn 5 c29.nd) (gsc (gn 6 c29.nd) gs0)))) gs0)))
    (fun _ _ _ _ _ x _ => pt1 (ptis (peqI (dmod (dshr (dv 7) (dv 9) (by omega)) dint (by decide)) dint) (bit_int (bitsOf pa ns) x.2))) (fun _ _ _ _ _ x _ _ => dv 5) (by rw [List.length_zipIdx]; omega)))) (congrArg PyData.list e2)) ?_
  refine sret (dis (dallC (f := fun _ => true) (g := fun x => decide (x ∈ (ns.zipIdx.filter fun p => (bitsOf pa ns).testBit p.2).map fun p => p.1.hd)) (xs := hs) V.bi rfl (dlc (own := [("hand", 5)]) rfl c29.nd (itLs (dv 1)) (blkOk_by (N := n29) (sc := defScope s29) (by decide +kernel)) (fun _ _ _ _ _ x _ => gn 5 c29.nd)
      (fun _ _ _ _ _ x _ => pt0) (fun _ _ _ _ _ x hx _ => din sqL (dv 5) (vL (dv 8))) (by omega))) ?_) rfl
  rw [filt]
  refine congrArg PyData.bool (List.all_eq_true.mpr fun h hh => decide_eq_true ?_)
  obtain ⟨j, n, h1, h2, h3⟩ := p3.all h hh
  refine List.mem_map.mpr ⟨(n, j), List.mem_filter.mpr ⟨?_, h3⟩, h2⟩
  exact List.mem_of_getElem? (i := j) (by rw [List.getElem?_zipIdx, h1]; simp)
abbrev q26 (Z : Zn) : Sp := spD Z (fun x : Bool × List Str × List Str × List Nt => [Dt (sqD x.1 (x.2.1.map .str)), Dt (.list (x.2.2.1.map .str)), Dt (.list (x.2.2.2.map eN))]) (fun x => NsOk x.2.2.2 ∧ x.2.2.1.length ≤ 6 ∧ RdOk x.2.2.1 x.2.2.2 x.2.1) fun x => Dt (.bool true)
theorem ok26 (V : Gv mg) (D : Dn K mg "are_ready" s26 ["value", "hands", "notes"]) (C11 : Okd P w K mg base "is_sequence" 1 (q11 ⟨tb, qn, none⟩)) (C12 : Okd P w K mg base "is_name" 2 (q12 ⟨tb, qn, none⟩)) : Okd P w K mg base "are_ready" 3 (q26 ⟨tb, qn, none⟩) := by
  refine okD D c26 (fun _ => rfl) (by decide) fun f cdv A outer s H E a F0 G hr hp => ?_
  obtain ⟨b, rd, hs, ns⟩ := a
  obtain ⟨p1, p2, p3⟩ := hp
  have p1 : NsOk ns := p1
  have p2 : hs.length ≤ 6 := p2
  have p3 : RdOk hs ns rd := p3
  have l1 := p1.len
  refine sifF (ptis (ppt (pwor (k := false) (l := false) (ptis (ptnot (ptv (dcl hr C11 (b, rd.map .str) trivial (pac (dv 0) pa0)))) rfl) fun _ => pwor1 (ptis (pneI (dlenK V.bi b (ds := rd.map .str) (dv 0)) (dlen V.bi sqL (vL (dv 1)))) ?_))) rfl) (s0 rfl) ?_
  · rw [List.length_map, List.length_map, p3.len]
    simp
  have nd : ((ns.filter fun _ => true).map fun n => n.nm).Nodup := by
    rw [filt]
    exact p1.nd
  refine sset (t := tyK ((ns.filter fun _ => true).map fun n => (n.nm, Dt (.str n.hd)))) 3 c26.nd (nK (dcD (ddcK (own := [("name", 4), ("hand", 5), ("waits", 6)]) (ky := fun n : Nt => n.nm) (tv := fun n : Nt => Dt (.str n.hd)) rfl c26.nd (itLs (dv 2)) (blkOk_by (N := n26) (sc := defScope s26) (by decide +kernel)) (fun _ _ _ _ _ x _ => gt rfl (gsc (gn 4 c26.nd) (gsc (gn 5 c26.nd) (gsc (gn 6 c26.nd) gs0))))
      (fun _ _ _ _ _ x _ => pt0) (fun _ _ _ _ _ x _ _ => dv 4) (fun _ _ _ _ _ x _ _ => dv 5) nd (show ns.length ≤ 100000 by omega)))) ?_
  refine sret (dis (dallC (f := fun _ => true) (g := fun _ => true) (xs := rd.zip hs) V.bi rfl (dlc (own := [("name", 4), ("hand", 5)]) rfl c26.nd (itZs V.bi b true (f := PyData.str) (g := PyData.str) (xs := rd) (ys := hs) (dv 0) (dv 1) p3.len) (blkOk_by (N := n26) (sc := defScope s26) (by decide +kernel)) (fun _ _ _ _ _ x _ => gt rfl (gsc (gn 4 c26.nd) (gsc (gn 5 c26.nd) gs0)))
      (fun _ _ _ _ _ x _ => pt0) (fun _ _ _ _ _ x hx _ => ?_) (by rw [List.length_zip]; omega))) ?_) rfl
  · obtain ⟨n1, n, n2, n3, n4⟩ := p3.own x hx
    refine dis (dand (dcl hr C12 x.1 n1 (pac (dv 4) pa0)) fun _ => dand1 (deqS (dget1K hr.u1 (vK (dv 3)) (dv 4) (lookS_mem (b := Dt (.str x.2)) ?_ ?_)) (dv 5))) ?_
    · rw [List.map_map]
      exact nd
    · refine List.mem_map.mpr ⟨n, List.mem_filter.mpr ⟨n2, rfl⟩, ?_⟩
      rw [n3, n4]
    · simp
  · rw [filt, allT]
end
end Kb
end TWd
section TWe
set_option Elab.async false
set_option autoImplicit false
set_option linter.all false
set_option maxRecDepth 100000
set_option maxHeartbeats 4000000
/-! We: a pact is made. -/
namespace Kb
open PySem PySem.Spec PyProof.Rows L2 PySem.W
structure PcOk (p : Pc) : Prop where
  hands : HdOk p.hands
  ns : NsOk p.ns
  two : 2 ≤ p.ns.length
  told : ∀ pre n post, p.ns = pre ++ n :: post → TdOk p.hands n (names pre)
  ready : RdOk p.hands p.ns p.ready
  paper : PaOk p.hands p.ns p.paper
/-- the attributes -/
def pcF (p : Pc) : List (Str × Ty) :=
  [("paper_bits", Dt (.int (bitsOf p.paper p.ns : Nat))), ("hand_rows", tyK (p.hands.map fun h => (h, tyF ((row p.ns h).map .str)))), ("note_unders", Dt (.tuple (iL (unders p.ns)))), ("note_places", tyK (kvN (names p.ns).zipIdx)),
    ("names", Dt (eL (names p.ns))), ("paper", Dt (eL p.paper)), ("ready", Dt (eL p.ready)), ("notes", Dt (.tuple (p.ns.map eN))), ("hands", tyF (p.hands.map .str))]
/-- the class -/
structure PKl (K : PySem.W.Frag) (C : Addr) : Prop where
  cl : Cls K C
  f1 : NoAttr K C "paper_bits"
  f2 : NoAttr K C "hand_rows"
  f3 : NoAttr K C "note_unders"
  f4 : NoAttr K C "note_places"
  f5 : NoAttr K C "names"
  f6 : NoAttr K C "paper"
  f7 : NoAttr K C "ready"
  f8 : NoAttr K C "notes"
  f9 : NoAttr K C "hands"
theorem teq {X : Cx} {Z : Zn} {ρ : En} {e : Expr} {t t' : Ty} (h : PE X e (tO Z ρ t.od)) (e' : t = t') : PE X e (tO Z ρ t'.od) := e' ▸ h
theorem dtupK {X : Cx} {Z : Zn} {ρ : En} {a : Expr} {p pos : Pos} (T : Bi X.mg) (k : Bool) {ds : List PyData} (ha : PE X a (tD Z ρ (sqD k ds))) (hg : Gl X "tuple" := by rfl) (hs : starEach [a] X.env = (false, eval a X.env) :: starEach [] X.env := by rfl) : PE X (.Call (.Name "tuple" p) [a] [] pos) (tD Z ρ (.tuple ds)) := by
  cases k with
  | true => exact dtupL T (vL ha) hg hs
  | false => exact dtupT T ha hg hs
section
variable {P : Program} {w : World} {K : PySem.W.Frag} {mg : Str → Option Value} {base : Heap} {tb : Addr} {qn : Str} {C : Addr}
abbrev q30 (C : Addr) (Z : Zn) : Sp := spI Z C (fun x : Bool × Pc => [Dt (.list (x.2.hands.map .str)), Dt (.list (x.2.ns.map eN)), Dt (sqD x.1 (x.2.ready.map .str)), Dt (eL x.2.paper)]) (fun x => PcOk x.2) fun x => pcF x.2
theorem ok30 (V : Gv mg) (k : PKl K C) (D : Dc K mg "Pact" "Pact.__init__" C s30_0 ["self", "hands", "notes", "ready", "paper"]) (C11 : Okd P w K mg base "is_sequence" 1 (q11 ⟨tb, qn, none⟩)) (C24 : Okd P w K mg base "are_hands" 3 (q24 ⟨tb, qn, none⟩)) (C25 : Okd P w K mg base "is_told_note" 4 (q25 ⟨tb, qn, none⟩))
    (C26 : Okd P w K mg base "are_ready" 3 (q26 ⟨tb, qn, none⟩)) (C27 : Okd P w K mg base "bits_under" 1 (q27 ⟨tb, qn, none⟩)) (C28 : Okd P w K mg base "bits_of_lot" 2 (q28 ⟨tb, qn, none⟩)) (C29 : Okd P w K mg base "is_paper" 4 (q29 ⟨tb, qn, none⟩)) : Okc P w K mg base "Pact" C 5 (q30 C ⟨tb, qn, none⟩) := by
  refine okInit D c30_0 (fun _ => rfl) (by decide) fun f cdv A outer s H E a F0 G sf hr hp => ?_
  obtain ⟨b, p⟩ := a
  have hp : PcOk p := hp
  obtain ⟨t3, h3⟩ := V.fn
  obtain ⟨t4, h4⟩ := V.mn
  have l1 := hp.ns.len
  have l2 := hp.two
  have l3 := hp.hands.hi
  have e1 : (2 : Int) ≤ ((p.ns.map eN).length : Int) := by rw [List.length_map]; omega
  have e2 : ((p.ns.map eN).length : Int) ≤ 40 := by rw [List.length_map]; omega
  refine sifF (ptis (ptnot (ptv (dcl hr C24 p.hands hp.hands (pac (dv 1) pa0)))) rfl) (s0 rfl) ?_
  refine sifF (ptis (ppt (pwor (k := false) (l := false) (ptis (ptnot (ptv (dcl hr C11 (true, p.ns.map eN) trivial (pac (dv 2) pa0)))) rfl) fun _ => pwor1 (ptis (ptnot (pleC (dgi rfl h3 ⟨_, rfl⟩) (dlen V.bi sqL (vL (dv 2))) (dgi rfl h4 ⟨_, rfl⟩))) ?_))) rfl) (s0 rfl) ?_
  · rw [decide_eq_true e1, decide_eq_true e2]
    rfl
  refine ssetN 5 c30_0.nd (dlst (ds := []) pa0) ?_
  refine sforN (xs := p.ns.zipIdx) (fun pre ρ1 => ∃ y0 y1 y2 y3 y4 y5, ρ1 = [some (.mu (mI C sf 0 [])), some (.im (Dt (.list (p.hands.map .str)))), some (.im (Dt (.list (p.ns.map eN)))), some (.im (Dt (sqD b (p.ready.map .str)))), some (.im (Dt (eL p.paper))), some (.mu (mL ((names (pre.map (·.1))).map .str))), y0, y1, y2, y3, y4, y5])
    PassesOwn.never rfl (itEs V.bi (f := eN) (xs := p.ns) (dv 2)) ⟨_, _, _, _, _, _, rfl⟩ (fun pre x post ρ1 hx ⟨y0, y1, y2, y3, y4, y5, e⟩ => ?_) fun ρ1 ⟨y0, y1, y2, y3, y4, y5, e⟩ => ?_
  · subst e
    obtain ⟨n, i⟩ := x
    obtain ⟨h1, h2⟩ := zipIdx_split hx
    have td := hp.told _ _ _ h1
    refine ⟨_, gt rfl (gsc (gn 6 c30_0.nd) (gsc (gn 7 c30_0.nd) gs0)), ?_⟩
    refine sifF (ptis (ptnot (ptv (dclB hr C25 (p.hands, n, names (pre.map (·.1))) td (flat_bl true) (pac (bo (dv 7)) (pac (bo (dv 1)) (pac (dvb 5) pa0)))))) rfl) (s0 rfl) ?_
    refine sapp 5 (d := .str n.nm) (dixT (vT (dv 7)) dint rfl) (s0 ?_) ?_
    · rw [List.map_append, names_app, List.map_append]
      exact ⟨_, _, _, _, _, _, rfl⟩
    · have := congrArg List.length h1
      rw [List.length_append, List.length_cons] at this
      unfold names
      rw [List.length_map, List.length_map]
      omega
  · subst e
    rw [List.zipIdx_map_fst]
    refine sfrz 5 rfl (frzL _) ?_
    refine sifF (ptis (ptnot (ptv (dcl hr C26 (b, p.ready, p.hands, p.ns) ⟨hp.ns, l3, hp.ready⟩ (pac (dv 3) (pac (dv 1) (pac (dv 2) pa0)))))) rfl) (s0 rfl) ?_
    refine sifF (ptis (ptnot (ptv (dcl hr C29 (p.paper, p.hands, p.ns) ⟨hp.ns, l3, hp.paper⟩ (pac (dv 4) (pac (dv 1) (pac (dv 2) pa0)))))) rfl) (s0 rfl) ?_
    refine sfld (n := 0) 0 k.cl k.f9 (dtupF V.bi (vL (dv 1))) (by decide) ?_
    refine sfld (n := 1) 0 k.cl k.f8 (dtupL V.bi (vL (dv 2))) (by decide) ?_
    refine sfld (n := 2) 0 k.cl k.f7 (dtupK V.bi b (dv 3)) (by decide) ?_
    refine sfld (n := 3) 0 k.cl k.f6 (dv 4) (by decide) ?_
    refine sfld (n := 4) 0 k.cl k.f5 (dtupL V.bi (vL (dv 5))) (by decide) ?_
    have nd1 : ((((names p.ns).zipIdx).filter fun _ => true).map fun q => q.1).Nodup := by
      rw [filt, List.zipIdx_map_fst]
      exact hp.ns.nd
    have ln : (names p.ns).length = p.ns.length := List.length_map _
    refine sfld (n := 5) (t := tyK (kvN (names p.ns).zipIdx)) 0 k.cl k.f4 (teq (nK (dcD (ddcK (own := [("at", 6), ("name", 8)]) (f := fun _ => true) (ky := fun q : Str × Nat => q.1) (tv := fun q : Str × Nat => Dt (.int (q.2 : Int))) rfl c30_0.nd (itEs V.bi (f := PyData.str) (xs := names p.ns) (dv 5)) (blkOk_by (N := n30_0) (sc := defScope s30_0) (by decide +kernel))
      (fun _ _ _ _ _ x _ => gt rfl (gsc (gn 6 c30_0.nd) (gsc (gn 8 c30_0.nd) gs0))) (fun _ _ _ _ _ x _ => pt0) (fun _ _ _ _ _ x _ _ => dv 8) (fun _ _ _ _ _ x _ _ => dv 6) nd1 (by rw [List.length_zipIdx]; omega)))) ?_) (by decide) ?_
    · rw [filt]
      rfl
    refine sfld (n := 6) 0 k.cl k.f3 (dcl hr C27 p.ns hp.ns (pac (dv 2) pa0)) (by decide) ?_
    have nd2 : (((p.hands).filter fun _ => true).map fun q => q).Nodup := by
      rw [filt, List.map_id']
      exact hp.hands.nd
    refine sfld (n := 7) (t := tyK (p.hands.map fun h => (h, tyF ((row p.ns h).map .str)))) 0 k.cl k.f2 (teq (nK (dcD (ddcK (own := [("one", 11)]) (f := fun _ => true) (ky := fun q : Str => q) (tv := fun h : Str => tyF ((row p.ns h).map .str)) rfl c30_0.nd (itLs (xs := p.hands) (f := PyData.str) (dv 1)) (blkOk_by (N := n30_0) (sc := defScope s30_0) (by decide +kernel))
      (fun _ _ _ _ _ x _ => gn 11 c30_0.nd) (fun _ _ _ _ _ x _ => pt0) (fun _ _ _ _ _ x _ _ => dv 11) (fun _ _ _ _ _ x _ _ => ?_) nd2 (by omega)))) ?_) (by decide) ?_
    · refine teq (dtupF V.bi (nV (lcD (dlc (own := [("name", 8), ("hand", 9), ("waits", 10)]) (f := fun n : Nt => decide (n.hd = x)) (g := fun n : Nt => .str n.nm) rfl c30_0.nd (itLs (xs := p.ns) (f := eN) (dv 2)) ?_ (fun _ _ _ _ _ y _ => gt rfl (gsc (gn 8 c30_0.nd) (gsc (gn 9 c30_0.nd) (gsc (gn 10 c30_0.nd) gs0))))
        (fun _ _ _ _ _ y _ => pt1 (peqS (dv 9) (dv 11))) (fun _ _ _ _ _ y _ _ => dv 8) (by omega))))) ?_
      · exact blkOk_by (by rfl)
      · unfold row
        rw [List.map_map]
        rfl
    · rw [filt]
    refine sfld (n := 8) 0 k.cl k.f1 (dcl hr C28 (p.paper, p.ns) hp.ns (pac (dv 4) (pac (dv 2) pa0))) (by decide) (s0 ?_)
    exact ⟨_, rfl⟩
end
end Kb
end TWe
section TWf
set_option Elab.async false
set_option autoImplicit false
set_option linter.all false
set_option maxRecDepth 100000
set_option maxHeartbeats 4000000
/-! Wf: a pact looked at. -/
namespace Kb
open PySem PySem.Spec PyProof.Rows L2 PySem.W
/-- an expression as a statement -/
theorem sexp {X : Cx} {Z : Zn} {F0 G : Hp} {ρ : En} {e : Expr} {pos : Pos} {w : Od Z} {Φ : Po} {rest : List Stmt} (h : PE X e (tO Z ρ w)) (h2 : PSs X rest (tS Z F0 G ρ Φ)) (hs : swapsWith e none pos.line X.env = pure false := by rfl) : PSs X (.Expr e pos :: rest) (tS Z F0 G ρ Φ) :=
  sone (ps_expr h hs) h2 fun D σ H ⟨F, s, k1, k2⟩ => ⟨F0, G, F, s, fun v F1 H1 g1 ok => k1 _ _ F1 H1 rfl g1.f (s.mv g1)⟩
/-- the pact's kind -/
abbrev tyP (C : Addr) (p : Pc) : Ty := tyI C (pcF p)
section
variable {X : Cx} {Z : Zn} {ρ : En} {a b : Expr} {pos pos2 : Pos} {C : Addr} {p : Pc}
theorem pHands (k : PKl X.K C) (ha : PE X a (tO Z ρ (tyP C p).od)) (hb : attributeBase a "hands" X.env (eval a X.env) = eval a X.env := by rfl) : PE X (.Attribute a "hands" pos) (tO Z ρ (tyF (p.hands.map .str)).od) := dfld k.cl k.f9 ha rfl hb
theorem pNotes (k : PKl X.K C) (ha : PE X a (tO Z ρ (tyP C p).od)) (hb : attributeBase a "notes" X.env (eval a X.env) = eval a X.env := by rfl) : PE X (.Attribute a "notes" pos) (tD Z ρ (.tuple (p.ns.map eN))) := dfld k.cl k.f8 ha rfl hb
theorem pReady (k : PKl X.K C) (ha : PE X a (tO Z ρ (tyP C p).od)) (hb : attributeBase a "ready" X.env (eval a X.env) = eval a X.env := by rfl) : PE X (.Attribute a "ready" pos) (tD Z ρ (eL p.ready)) := dfld k.cl k.f7 ha rfl hb
theorem pNames (k : PKl X.K C) (ha : PE X a (tO Z ρ (tyP C p).od)) (hb : attributeBase a "names" X.env (eval a X.env) = eval a X.env := by rfl) : PE X (.Attribute a "names" pos) (tD Z ρ (eL (names p.ns))) := dfld k.cl k.f5 ha rfl hb
theorem pPlaces (k : PKl X.K C) (ha : PE X a (tO Z ρ (tyP C p).od)) (hb : attributeBase a "note_places" X.env (eval a X.env) = eval a X.env := by rfl) : PE X (.Attribute a "note_places" pos) (tO Z ρ (tyK (kvN (names p.ns).zipIdx)).od) := dfld k.cl k.f4 ha rfl hb
theorem pUnders (k : PKl X.K C) (ha : PE X a (tO Z ρ (tyP C p).od)) (hb : attributeBase a "note_unders" X.env (eval a X.env) = eval a X.env := by rfl) : PE X (.Attribute a "note_unders" pos) (tD Z ρ (.tuple (iL (unders p.ns)))) := dfld k.cl k.f3 ha rfl hb
theorem pRows (k : PKl X.K C) (ha : PE X a (tO Z ρ (tyP C p).od)) (hb : attributeBase a "hand_rows" X.env (eval a X.env) = eval a X.env := by rfl) : PE X (.Attribute a "hand_rows" pos) (tO Z ρ (tyK (p.hands.map fun h => (h, tyF ((row p.ns h).map .str)))).od) := dfld k.cl k.f2 ha rfl hb
theorem pBits (k : PKl X.K C) (ha : PE X a (tO Z ρ (tyP C p).od)) (hb : attributeBase a "paper_bits" X.env (eval a X.env) = eval a X.env := by rfl) : PE X (.Attribute a "paper_bits" pos) (tD Z ρ (.int (bitsOf p.paper p.ns : Nat))) := dfld k.cl k.f1 ha rfl hb
/-- pact.note_places[x] -/
theorem pPlace (k : PKl X.K C) (hu : X.A.units + 1 < cLine) {x : Str} (hx : x ∈ names p.ns) (ha : PE X a (tO Z ρ (tyP C p).od)) (hb : PE X b (tD Z ρ (.str x))) (hs : NoSl b := by exact fun _ _ => rfl) (hba : attributeBase a "note_places" X.env (eval a X.env) = eval a X.env := by rfl) :
    PE X (.Subscript (.Attribute a "note_places" pos) b pos2) (tD Z ρ (.int (pl p.ns x : Nat))) := by
  refine dgetK hu (vK (pPlaces k ha hba)) hb ?_ hs
  rw [kvN_look, look_zip hx, Nat.zero_add]
  rfl
/-- pact.hand_rows[h] -/
theorem pRow (k : PKl X.K C) (hu : X.A.units + 1 < cLine) {h : Str} (nd : p.hands.Nodup) (hh : h ∈ p.hands) (ha : PE X a (tO Z ρ (tyP C p).od)) (hb : PE X b (tD Z ρ (.str h))) (hs : NoSl b := by exact fun _ _ => rfl) (hba : attributeBase a "hand_rows" X.env (eval a X.env) = eval a X.env := by rfl) :
    PE X (.Subscript (.Attribute a "hand_rows" pos) b pos2) (tO Z ρ (tyF ((row p.ns h).map .str)).od) := by
  refine dgetK hu (vK (pRows k ha hba)) hb (lookS_mem ?_ (List.mem_map.mpr ⟨h, hh, rfl⟩)) hs
  rw [List.map_map]
  show (p.hands.map fun x => x).Nodup
  rw [List.map_id']
  exact nd
end
section
variable {P : Program} {w : World} {K : PySem.W.Frag} {mg : Str → Option Value} {base : Heap} {tb : Addr} {qn : Str} {C : Addr}
abbrev q31 (C : Addr) (Z : Zn) : Sp := spD Z (fun x : Pc × Str => [tyP C x.1, Dt (.str x.2)]) (fun x => x.2 ∈ x.1.hands) fun _ => Dt .none
theorem ok31 (V : Gv mg) (k : PKl K C) (D : Dn K mg "need_hand" s31 ["pact", "hand"]) : Okd P w K mg base "need_hand" 1 (q31 C ⟨tb, qn, none⟩) := by
  refine okD D c31 (fun _ => rfl) (by decide) fun f cdv A outer s H E a F0 G hr hp => ?_
  obtain ⟨p, h⟩ := a
  have hp : h ∈ p.hands := hp
  refine sifF (ptis (pninK hr.u1 (dv 1) (vK (pRows k (dv 0)))) ?_) (s0 rfl) (s0 rfl)
  rw [lookS_isSome, List.map_map]
  have : h ∈ p.hands.map ((fun x : Str × Ty => x.1) ∘ fun h => (h, tyF ((row p.ns h).map .str))) := List.mem_map.mpr ⟨h, hp, rfl⟩
  rw [decide_eq_true this]
  rfl
abbrev q32 (C : Addr) (Z : Zn) : Sp := spD Z (fun x : Pc × Str => [tyP C x.1, Dt (.str x.2)]) (fun x => x.2 ∈ names x.1.ns) fun _ => Dt .none
theorem ok32 (V : Gv mg) (k : PKl K C) (D : Dn K mg "need_note" s32 ["pact", "note"]) : Okd P w K mg base "need_note" 1 (q32 C ⟨tb, qn, none⟩) := by
  refine okD D c32 (fun _ => rfl) (by decide) fun f cdv A outer s H E a F0 G hr hp => ?_
  obtain ⟨p, x⟩ := a
  have hp : x ∈ names p.ns := hp
  refine sifF (ptis (pninK hr.u1 (dv 1) (vK (pPlaces k (dv 0)))) ?_) (s0 rfl) (s0 rfl)
  rw [kvN_look, look_zip hp]
  rfl
abbrev q33 (C : Addr) (Z : Zn) : Sp := spD Z (fun x : Pc × Nat => [tyP C x.1, Dt (.int (x.2 : Nat))]) (fun x => x.1.ns.length ≤ 40) fun x => Dt (eL (lotOf (bitNames x.1.ns x.2)))
theorem ok33 (V : Gv mg) (k : PKl K C) (D : Dn K mg "names_of_bits" s33 ["pact", "bits"]) (C14 : Okd P w K mg base "lot_of" 1 (q14 ⟨tb, qn, none⟩)) : Okd P w K mg base "names_of_bits" 2 (q33 C ⟨tb, qn, none⟩) := by
  refine okD D c33 (fun _ => rfl) (by decide) fun f cdv A outer s H E a F0 G hr hp => ?_
  obtain ⟨p, b⟩ := a
  have hp : p.ns.length ≤ 40 := hp
  have ln : (names p.ns).length = p.ns.length := List.length_map _
  have e : ((names p.ns).zipIdx.filter fun q => b.testBit q.2).map (fun q : Str × Nat => PyData.str q.1) = (bitNames p.ns b).map .str := by
    unfold bitNames
    rw [List.map_map]
    rfl
  refine sret (dcl hr C14 (.inl (true, bitNames p.ns b)) ?_ (pac (dis (nL (lcD (dlc (own := [("at", 2), ("name", 3)]) (f := fun q : Str × Nat => b.testBit q.2) (g := fun q : Str × Nat => .str q.1) rfl c33.nd (itEHs V.bi false (f := PyData.str) (xs := names p.ns) (pNames k (dv 0))) (blkOk_by (N := n33) (sc := defScope s33) (by decide +kernel))
    (fun _ _ _ _ _ x _ => gt rfl (gsc (gn 2 c33.nd) (gsc (gn 3 c33.nd) gs0))) (fun _ _ _ _ _ x _ => pt1 (ptis (peqI (dmod (dshr (dv 1) (dv 2) (by omega)) dint (by decide)) dint) (bit_int b x.2))) (fun _ _ _ _ _ x _ _ => dv 3) ?_))) (congrArg PyData.list e)) pa0)) rfl
  · show (bitNames p.ns b).length ≤ 1000
    unfold bitNames
    rw [List.length_map]
    have := List.length_filter_le (fun q : Str × Nat => b.testBit q.2) (names p.ns).zipIdx
    rw [List.length_zipIdx] at this
    omega
  · rw [List.length_zipIdx]
    omega
abbrev q34 (C : Addr) (Z : Zn) : Sp := spD Z (fun x : Pc × Str => [tyP C x.1, Dt (.str x.2)]) (fun x => x.2 ∈ names x.1.ns) fun x => Dt (.str (hdOf x.1.ns x.2))
theorem ok34 (V : Gv mg) (k : PKl K C) (D : Dn K mg "hand_of" s34 ["pact", "note"]) (C32 : Okd P w K mg base "need_note" 1 (q32 C ⟨tb, qn, none⟩)) : Okd P w K mg base "hand_of" 2 (q34 C ⟨tb, qn, none⟩) := by
  refine okD D c34 (fun _ => rfl) (by decide) fun f cdv A outer s H E a F0 G hr hp => ?_
  obtain ⟨p, x⟩ := a
  have hp : x ∈ names p.ns := hp
  have hl := pl_lt hp
  refine sexp (dcl hr C32 (p, x) hp (pac (dv 0) (pac (dv 1) pa0))) ?_
  refine sret (t := Dt (.str (hdOf p.ns x))) (dixT (d := .str (hdOf p.ns x)) (vT (dixT (d := eN p.ns[pl p.ns x]) (vT (pNotes k (dv 0))) (pPlace k hr.u1 hp (dv 0) (dv 1)) (atI_nat ?_))) dint ?_) rfl
  · rw [List.getElem?_map, List.getElem?_eq_getElem hl]
    rfl
  · unfold hdOf
    rw [List.getD_eq_getElem?_getD, List.getElem?_map, List.getElem?_eq_getElem hl]
    rfl
abbrev q35 (C : Addr) (Z : Zn) : Sp := spD Z (fun x : Pc × Str => [tyP C x.1, Dt (.str x.2)]) (fun x => x.2 ∈ x.1.hands ∧ x.1.hands.Nodup) fun x => tyF ((row x.1.ns x.2).map .str)
theorem ok35 (V : Gv mg) (k : PKl K C) (D : Dn K mg "notes_of" s35 ["pact", "hand"]) (C31 : Okd P w K mg base "need_hand" 1 (q31 C ⟨tb, qn, none⟩)) : Okd P w K mg base "notes_of" 2 (q35 C ⟨tb, qn, none⟩) := by
  refine okD D c35 (fun _ => rfl) (by decide) fun f cdv A outer s H E a F0 G hr hp => ?_
  obtain ⟨p, h⟩ := a
  obtain ⟨h1, h2⟩ := hp
  refine sexp (dcl hr C31 (p, h) h1 (pac (dv 0) (pac (dv 1) pa0))) ?_
  exact sret (pRow k hr.u1 h2 h1 (dv 0) (dv 1)) rfl
abbrev q36 (C : Addr) (Z : Zn) : Sp := spD Z (fun x : Pc × Str × Str => [tyP C x.1, Dt (.str x.2.1), Dt (.str x.2.2)]) (fun x => x.2.1 ∈ names x.1.ns ∧ x.2.2 ∈ names x.1.ns) fun x => Dt (.bool (isU x.1.ns x.2.1 x.2.2))
theorem ok36 (V : Gv mg) (k : PKl K C) (D : Dn K mg "is_under" s36 ["pact", "one", "other"]) : Okd P w K mg base "is_under" 1 (q36 C ⟨tb, qn, none⟩) := by
  refine okD D c36 (fun _ => rfl) (by decide) fun f cdv A outer s H E a F0 G hr hp => ?_
  obtain ⟨p, x, y⟩ := a
  obtain ⟨h1, h2⟩ := hp
  have h1 : x ∈ names p.ns := h1
  have h2 : y ∈ names p.ns := h2
  refine sret (dis (deqI (dmod (dshr (dixT (vT (pUnders k (dv 0))) (pPlace k hr.u1 h2 (dv 0) (dv 2)) (iL_at ?_)) (pPlace k hr.u1 h1 (dv 0) (dv 1)) (by omega)) dint (by decide)) dint) (congrArg PyData.bool (bit_int _ _))) rfl
  rw [unders_len]
  exact pl_lt h2
abbrev q37 (C : Addr) (Z : Zn) : Sp := spD Z (fun x : Pc × Str => [tyP C x.1, Dt (.str x.2)]) (fun x => x.2 ∈ names x.1.ns ∧ x.1.ns.length ≤ 40) fun x => Dt (eL (underOf x.1.ns x.2))
theorem ok37 (V : Gv mg) (k : PKl K C) (D : Dn K mg "under_of" s37 ["pact", "note"]) (C32 : Okd P w K mg base "need_note" 1 (q32 C ⟨tb, qn, none⟩)) (C33 : Okd P w K mg base "names_of_bits" 2 (q33 C ⟨tb, qn, none⟩)) : Okd P w K mg base "under_of" 3 (q37 C ⟨tb, qn, none⟩) := by
  refine okD D c37 (fun _ => rfl) (by decide) fun f cdv A outer s H E a F0 G hr hp => ?_
  obtain ⟨p, x⟩ := a
  obtain ⟨h1, h2⟩ := hp
  have h1 : x ∈ names p.ns := h1
  have h2 : p.ns.length ≤ 40 := h2
  refine sexp (dcl hr C32 (p, x) h1 (pac (dv 0) (pac (dv 1) pa0))) ?_
  refine sret (dcl hr C33 (p, (unders p.ns).getD (pl p.ns x) 0) h2 (pac (dv 0) (pac (dixT (vT (pUnders k (dv 0))) (pPlace k hr.u1 h1 (dv 0) (dv 1)) (iL_at ?_)) pa0))) rfl
  rw [unders_len]
  exact pl_lt h1
abbrev q38 (C : Addr) (Z : Zn) : Sp := spD Z (fun x : Pc => [tyP C x]) (fun x => x.ns.length ≤ 40) fun x => Dt (eL (lotOf (bitNames x.ns (bitsOf x.paper x.ns))))
theorem ok38 (V : Gv mg) (k : PKl K C) (D : Dn K mg "whole_paper" s38 ["pact"]) (C33 : Okd P w K mg base "names_of_bits" 2 (q33 C ⟨tb, qn, none⟩)) : Okd P w K mg base "whole_paper" 3 (q38 C ⟨tb, qn, none⟩) := by
  refine okD D c38 (fun _ => rfl) (by decide) fun f cdv A outer s H E p F0 G hr hp => ?_
  exact sret (dcl hr C33 (p, bitsOf p.paper p.ns) hp (pac (dv 0) (pac (pBits k (dv 0)) pa0))) rfl
/-- the last -/
theorem atI_last {xs : List Str} (h : xs ≠ []) : atI (xs.map PyData.str) (-1) = some (.str (xs.getLastD "")) := by
  have hl : 0 < xs.length := List.length_pos_iff.mpr h
  unfold atI ixN
  rw [if_neg (by omega), List.length_map, if_pos (by omega)]
  have e : ((-1 : Int) + (xs.length : Int)).toNat = xs.length - 1 := by omega
  simp only [e, Option.bind_some]
  rw [List.getElem?_map, ← List.getLast?_eq_getElem?]
  obtain ⟨ys, y, rfl⟩ : ∃ ys y, xs = ys ++ [y] := by
    rcases List.eq_nil_or_concat xs with z | ⟨ys, y, z⟩
    · exact absurd z h
    · exact ⟨ys, y, by rw [z, List.concat_eq_append]⟩
  simp
abbrev q39 (C : Addr) (Z : Zn) : Sp := spD Z (fun x : Pc × Str => [tyP C x.1, Dt (.str x.2)]) (fun x => x.2 ∈ x.1.hands ∧ x.1.hands.Nodup ∧ x.1.ns.length ≤ 40 ∧ keyRow x.1.ns x.1.paper x.2 ≠ []) fun x => Dt (.str (keyNote x.1.ns x.1.paper x.2))
theorem ok39 (V : Gv mg) (k : PKl K C) (D : Dn K mg "key_note" s39 ["pact", "hand"]) (C31 : Okd P w K mg base "need_hand" 1 (q31 C ⟨tb, qn, none⟩)) : Okd P w K mg base "key_note" 2 (q39 C ⟨tb, qn, none⟩) := by
  refine okD D c39 (fun _ => rfl) (by decide) fun f cdv A outer s H E a F0 G hr hp => ?_
  obtain ⟨p, h⟩ := a
  obtain ⟨h1, h2, h3, h4⟩ := hp
  have h1 : h ∈ p.hands := h1
  have h2 : p.hands.Nodup := h2
  have h3 : p.ns.length ≤ 40 := h3
  have h4 : keyRow p.ns p.paper h ≠ [] := h4
  have hl := row_len p.ns h
  refine sexp (dcl hr C31 (p, h) h1 (pac (dv 0) (pac (dv 1) pa0))) ?_
  refine sret (t := Dt (.str (keyNote p.ns p.paper h))) (dixL (ds := (keyRow p.ns p.paper h).map .str) (nV (lcD (dlc (own := [("note", 2)]) (f := fun x : Str => (bitsOf p.paper p.ns).testBit (pl p.ns x)) (g := fun x : Str => .str x) rfl c39.nd (itTs (xs := row p.ns h) (f := PyData.str) (vF (pRow k hr.u1 h2 h1 (dv 0) (dv 1)))) (blkOk_by (N := n39) (sc := defScope s39) (by decide +kernel))
    (fun _ _ _ _ _ x _ => gn 2 c39.nd) (fun _ _ _ _ _ x hx => pt1 (ptis (peqI (dmod (dshr (pBits k (dv 0)) (pPlace k hr.u1 (row_names hx) (dv 0) (dv 2)) (by omega)) dint (by decide)) dint) (bit_int _ _))) (fun _ _ _ _ _ x _ _ => dv 2) (by omega)))) (dneg dint) (atI_last h4)) rfl
abbrev q40 (C : Addr) (Z : Zn) : Sp := spD Z (fun x : Pc × Str => [tyP C x.1, Dt (.str x.2)]) (fun x => x.2 ∈ x.1.hands ∧ x.1.ready.length = x.1.hands.length) fun x => Dt (.str (x.1.rdy x.2))
theorem ok40 (V : Gv mg) (k : PKl K C) (D : Dn K mg "ready_note" s40 ["pact", "hand"]) (C31 : Okd P w K mg base "need_hand" 1 (q31 C ⟨tb, qn, none⟩)) : Okd P w K mg base "ready_note" 2 (q40 C ⟨tb, qn, none⟩) := by
  refine okD D c40 (fun _ => rfl) (by decide) fun f cdv A outer s H E a F0 G hr hp => ?_
  obtain ⟨p, h⟩ := a
  obtain ⟨h1, h2⟩ := hp
  have h1 : h ∈ p.hands := h1
  have h2 : p.ready.length = p.hands.length := h2
  refine sexp (dcl hr C31 (p, h) h1 (pac (dv 0) (pac (dv 1) pa0))) ?_
  refine sret (dixT (vT (pReady k (dv 0))) (dixOfF (pHands k (dv 0)) (dv 1) h1) (lot_at ?_)) rfl
  rw [h2]
  exact List.idxOf_lt_length_iff.mpr h1
end
end Kb
end TWf
section TWg
set_option Elab.async false
set_option autoImplicit false
set_option linter.all false
set_option maxRecDepth 100000
set_option maxHeartbeats 4000000
/-! Wg: heights and climbs. -/
namespace Kb
open PySem PySem.Spec PyProof.Rows L2 PySem.W
/-- what every look at a pact asks -/
structure Pok (p : Pc) : Prop where
  nd : p.hands.Nodup
  hl : p.hands.length ≤ 6
  hn : ∀ h ∈ p.hands, Nm h
  ln : p.ns.length ≤ 40
  rl : p.ready.length = p.hands.length
  rn : ∀ h ∈ p.hands, p.rdy h ∈ names p.ns
  kr : ∀ h ∈ p.hands, keyRow p.ns p.paper h ≠ []
  own : ∀ x ∈ names p.ns, x ∈ row p.ns (hdOf p.ns x) ∧ hdOf p.ns x ∈ p.hands
/-- a row of hands -/
structure RowOk (hs : List Str) (r : List Str) : Prop where
  ne : r ≠ []
  sub : ∀ h ∈ r, h ∈ hs
  nd : r.Nodup
theorem RowOk.len {hs r : List Str} (h : RowOk hs r) : r.length ≤ hs.length := by
  exact nodup_sub_len h.nd h.sub
section
variable {P : Program} {w : World} {K : PySem.W.Frag} {mg : Str → Option Value} {base : Heap} {tb : Addr} {qn : Str} {C : Addr}
abbrev q42 (C : Addr) (Z : Zn) : Sp := spD Z (fun x : Pc × Str => [tyP C x.1, Dt (.str x.2)]) (fun x => Pok x.1 ∧ x.2 ∈ names x.1.ns) fun x => Dt (.int ((row x.1.ns (hdOf x.1.ns x.2)).idxOf x.2 : Nat))
theorem ok42 (V : Gv mg) (k : PKl K C) (D : Dn K mg "level_of" s42 ["pact", "note"]) (C34 : Okd P w K mg base "hand_of" 2 (q34 C ⟨tb, qn, none⟩)) : Okd P w K mg base "level_of" 3 (q42 C ⟨tb, qn, none⟩) := by
  refine okD D c42 (fun _ => rfl) (by decide) fun f cdv A outer s H E a F0 G hr hp => ?_
  obtain ⟨p, x⟩ := a
  obtain ⟨h1, h2⟩ := hp
  have h1 : Pok p := h1
  have h2 : x ∈ names p.ns := h2
  obtain ⟨o1, o2⟩ := h1.own x h2
  exact sret (dixOfF (pRow k hr.u1 h1.nd o2 (dv 0) (dcl hr C34 (p, x) h2 (pac (dv 0) (pac (dv 1) pa0)))) (dv 1) o1) rfl
abbrev q43 (C : Addr) (Z : Zn) : Sp := spD Z (fun x : Pc × Str => [tyP C x.1, Dt (.str x.2)]) (fun x => x.2 ∈ x.1.hands ∧ x.1.hands.Nodup) fun x => Dt (.int ((row x.1.ns x.2).length : Nat))
theorem ok43 (V : Gv mg) (k : PKl K C) (D : Dn K mg "top_of" s43 ["pact", "hand"]) (C35 : Okd P w K mg base "notes_of" 2 (q35 C ⟨tb, qn, none⟩)) : Okd P w K mg base "top_of" 3 (q43 C ⟨tb, qn, none⟩) := by
  refine okD D c43 (fun _ => rfl) (by decide) fun f cdv A outer s H E a F0 G hr hp => ?_
  obtain ⟨p, h⟩ := a
  refine sret (dis (dlen V.bi (ds := (row p.ns h).map .str) sqT (vT (vF (dcl hr C35 (p, h) hp (pac (dv 0) (pac (dv 1) pa0)))))) ?_) rfl
  rw [List.length_map]
abbrev q44 (C : Addr) (Z : Zn) : Sp := spD Z (fun x : Pc × Str × Str => [tyP C x.1, Dt (.str x.2.1), Dt (.str x.2.2)]) (fun x => Pok x.1 ∧ x.2.1 ∈ x.1.hands ∧ x.2.2 ∈ names x.1.ns) fun x => Dt (.int (nextLevel x.1.ns x.2.1 x.2.2 : Nat))
theorem ok44 (V : Gv mg) (k : PKl K C) (D : Dn K mg "next_level" s44 ["pact", "hand", "note"]) (C31 : Okd P w K mg base "need_hand" 1 (q31 C ⟨tb, qn, none⟩)) (C32 : Okd P w K mg base "need_note" 1 (q32 C ⟨tb, qn, none⟩)) (C36 : Okd P w K mg base "is_under" 1 (q36 C ⟨tb, qn, none⟩)) : Okd P w K mg base "next_level" 2 (q44 C ⟨tb, qn, none⟩) := by
  refine okD D c44 (fun _ => rfl) (by decide) fun f cdv A outer s H E a F0 G hr hp => ?_
  obtain ⟨p, h, x⟩ := a
  obtain ⟨h1, h2, h3⟩ := hp
  have h1 : Pok p := h1
  have h2 : h ∈ p.hands := h2
  have h3 : x ∈ names p.ns := h3
  have hl := row_len p.ns h
  have h4 := h1.ln
  refine sexp (dcl hr C31 (p, h) h2 (pac (dv 0) (pac (dv 1) pa0))) (sexp (dcl hr C32 (p, x) h3 (pac (dv 0) (pac (dv 2) pa0))) ?_)
  refine sret (dis (dlen V.bi (ds := ((row p.ns h).filter fun o => !isU p.ns x o).map .str) sqL (nV (lcD (dlc (own := [("own", 3)]) (f := fun o : Str => !isU p.ns x o) (g := fun x : Str => .str x) rfl c44.nd (itTs (xs := row p.ns h) (f := PyData.str) (vF (pRow k hr.u1 h1.nd h2 (dv 0) (dv 1)))) (blkOk_by (N := n44) (sc := defScope s44) (by decide +kernel))
    (fun _ _ _ _ _ o _ => gn 3 c44.nd) (fun _ _ _ _ _ o ho => pt1 (ptnot (ptv (dcl hr C36 (p, x, o) ⟨h3, row_names ho⟩ (pac (dv 0) (pac (dv 2) (pac (dv 3) pa0))))))) (fun _ _ _ _ _ x _ _ => dv 3) (by omega))))) ?_) rfl
  rw [List.length_map]
  rfl
abbrev q45 (C : Addr) (Z : Zn) : Sp := spD Z (fun x : Pc × Str × Str => [tyP C x.1, Dt (.str x.2.1), Dt (.str x.2.2)]) (fun x => Pok x.1 ∧ x.2.1 ∈ x.1.hands ∧ x.2.2 ∈ names x.1.ns) fun x => Dt (eO (nextNote x.1.ns x.2.1 x.2.2))
theorem ok45 (V : Gv mg) (k : PKl K C) (D : Dn K mg "next_note" s45 ["pact", "hand", "note"]) (C44 : Okd P w K mg base "next_level" 2 (q44 C ⟨tb, qn, none⟩)) : Okd P w K mg base "next_note" 3 (q45 C ⟨tb, qn, none⟩) := by
  refine okD D c45 (fun _ => rfl) (by decide) fun f cdv A outer s H E a F0 G hr hp => ?_
  obtain ⟨p, h, x⟩ := a
  obtain ⟨h1, h2, h3⟩ := hp
  have h1 : Pok p := h1
  have h2 : h ∈ p.hands := h2
  have h3 : x ∈ names p.ns := h3
  refine sset 3 c45.nd (dcl hr C44 (p, h, x) ⟨h1, h2, h3⟩ (pac (dv 0) (pac (dv 1) (pac (dv 2) pa0)))) ?_
  refine sset 4 c45.nd (pRow k hr.u1 h1.nd h2 (dv 0) (dv 1)) ?_
  refine sret (t := Dt (eO (nextNote p.ns h x))) (dife (plt (dv 3) (dlen V.bi (ds := (row p.ns h).map .str) sqT (vT (vF (dv 4))))) (fun hb => ?_) (fun hb => ?_)) rfl
  · have hb : ((nextLevel p.ns h x : Nat) : Int) < (((row p.ns h).map PyData.str).length : Int) := of_decide_eq_true hb.symm
    rw [List.length_map] at hb
    have hl : nextLevel p.ns h x < (row p.ns h).length := by omega
    refine dis (dixT (vT (vF (dv 4))) (dv 3) (lot_at hl)) ?_
    unfold nextNote
    rw [List.getD_eq_getElem?_getD, List.getElem?_eq_getElem hl]
    rfl
  · have hb : ¬ ((nextLevel p.ns h x : Nat) : Int) < (((row p.ns h).map PyData.str).length : Int) := of_decide_eq_false hb.symm
    rw [List.length_map] at hb
    have hl : (row p.ns h).length ≤ nextLevel p.ns h x := by omega
    refine dis dnon ?_
    unfold nextNote
    rw [List.getElem?_eq_none hl]
    rfl
end
end Kb
end TWg
section TWh
set_option Elab.async false
set_option autoImplicit false
set_option linter.all false
set_option maxRecDepth 100000
set_option maxHeartbeats 4000000
/-! Wh: climbs. -/
namespace Kb
open PySem PySem.Spec PyProof.Rows L2 PySem.W
section
variable {P : Program} {w : World} {K : PySem.W.Frag} {mg : Str → Option Value} {base : Heap} {tb : Addr} {qn : Str} {C : Addr}
abbrev q47 (C : Addr) (Z : Zn) : Sp := spD Z (fun x : Pc × List Str => [tyP C x.1, Dt (eL x.2)]) (fun x => Pok x.1 ∧ RowOk x.1.hands x.2) fun x => Dt .none
theorem ok47 (V : Gv mg) (k : PKl K C) (D : Dn K mg "row_fault" s47 ["pact", "value"]) (C12 : Okd P w K mg base "is_name" 2 (q12 ⟨tb, qn, none⟩)) : Okd P w K mg base "row_fault" 3 (q47 C ⟨tb, qn, none⟩) := by
  refine okD D c47 (fun _ => rfl) (by decide) fun f cdv A outer s H E a F0 G hr hp => ?_
  obtain ⟨p, r⟩ := a
  obtain ⟨h1, h2⟩ := hp
  have h1 : Pok p := h1
  have h2 : RowOk p.hands r := h2
  have h3 := h2.len
  have h4 := h1.hl
  have lp : 0 < r.length := List.length_pos_iff.mpr h2.ne
  refine sifF (ptis (ppt (pwor (k := false) (l := false) (ptis (ptnot (ptv (disB V.bi (n := "tuple") (m := "tuple") (r := true) (fun F H v fh h => ty_tup fh h) (dv 1) rfl V.bi.tuple (by decide +kernel) (by decide +kernel)))) rfl) fun _ => pwor1 (ptis (peqI (dlen V.bi (ds := r.map .str) sqT (vT (dv 1))) dint) (decide_eq_false ?_)))) rfl) (s0 rfl) ?_
  · rw [List.length_map]
    omega
  refine sforN (xs := r.zipIdx) (fun pre ρ1 => ∃ x2 x3, ρ1 = [some (.im (tyP C p)), some (.im (Dt (eL r))), x2, x3]) PassesOwn.never rfl (itEHs V.bi false (f := PyData.str) (xs := r) (dv 1)) ⟨_, _, rfl⟩ (fun pre x post ρ1 hx ⟨x2, x3, e⟩ => ?_) fun ρ1 ⟨x2, x3, e⟩ => ?_
  · subst e
    obtain ⟨h, i⟩ := x
    obtain ⟨z1, z2⟩ := zipIdx_split hx
    have hm : h ∈ p.hands := h2.sub h (by rw [z1]; simp)
    have ni : h ∉ r.take i := by
      have nd := h2.nd
      rw [z1] at nd ⊢
      have e2 : i = (pre.map (·.1)).length := by rw [List.length_map]; exact z2
      rw [e2, List.take_left']
      · exact fun hm => (List.nodup_append.mp nd).2.2 _ hm _ List.mem_cons_self rfl
      · rfl
    refine ⟨_, gt rfl (gsc (gn 2 c47.nd) (gsc (gn 3 c47.nd) gs0)), ?_⟩
    have ec : cutA (r.map PyData.str) none (some (i : Int)) = (r.take i).map .str := by
      rw [cutA_map, cutA_to _ (by omega)]
      simp
    refine sifF (ptis (ppt (pwor (k := false) (l := false || false) (ptis (ptnot (ptv (dcl hr C12 h (h1.hn h hm) (pac (dv 3) pa0)))) rfl) fun _ => pwor (k := false) (l := false) (ptis (pnin sqT (dv 3) (vT (vF (pHands k (dv 0))))) (congrArg not (decide_eq_true hm))) fun _ =>
      pwor1 (ptis (pin (xs := r.take i) sqT (dv 3) (vT (dis (dslT (dv 1) po0 (po1 (dv 2))) (congrArg PyData.tuple ec)))) (decide_eq_false ni)))) rfl) (s0 rfl) (s0 ⟨_, _, rfl⟩)
  · subst e
    exact sret dnon rfl
abbrev q48 (C : Addr) (Z : Zn) : Sp := spD Z (fun x : Pc × List Str => [tyP C x.1, Dt (eL x.2)]) (fun x => Pok x.1 ∧ RowOk x.1.hands x.2) fun x => Dt .none
theorem ok48 (V : Gv mg) (k : PKl K C) (D : Dn K mg "need_row" s48 ["pact", "value"]) (C47 : Okd P w K mg base "row_fault" 3 (q47 C ⟨tb, qn, none⟩)) : Okd P w K mg base "need_row" 4 (q48 C ⟨tb, qn, none⟩) := by
  refine okD D c48 (fun _ => rfl) (by decide) fun f cdv A outer s H E a F0 G hr hp => ?_
  refine sset 2 c48.nd (dcl hr C47 a hp (pac (dv 0) (pac (dv 1) pa0))) ?_
  exact sifF (ptis (pnoN (d := .none) (dv 2)) rfl) (s0 rfl) (s0 rfl)
abbrev q49 (C : Addr) (Z : Zn) : Sp := spD Z (fun x : Pc × Str × List Str => [tyP C x.1, Dt (.str x.2.1), Dt (eL x.2.2)]) (fun x => Pok x.1 ∧ x.2.1 ∈ names x.1.ns ∧ RowOk x.1.hands x.2.2) fun x => Dt (eL (climbN x.1.ns x.2.1 x.2.2))
theorem ok49 (V : Gv mg) (k : PKl K C) (D : Dn K mg "climb_from" s49 ["pact", "note", "row"]) (C32 : Okd P w K mg base "need_note" 1 (q32 C ⟨tb, qn, none⟩)) (C45 : Okd P w K mg base "next_note" 3 (q45 C ⟨tb, qn, none⟩)) (C48 : Okd P w K mg base "need_row" 4 (q48 C ⟨tb, qn, none⟩)) : Okd P w K mg base "climb_from" 5 (q49 C ⟨tb, qn, none⟩) := by
  refine okD D c49 (fun _ => rfl) (by decide) fun f cdv A outer s H E a F0 G hr hp => ?_
  obtain ⟨p, x, r⟩ := a
  obtain ⟨h1, h2, h3⟩ := hp
  have h1 : Pok p := h1
  have h2 : x ∈ names p.ns := h2
  have h3 : RowOk p.hands r := h3
  have l1 := h3.len
  have l2 := h1.hl
  refine sexp (dcl hr C32 (p, x) h2 (pac (dv 0) (pac (dv 1) pa0))) (sexp (dcl hr C48 (p, r) ⟨h1, h3⟩ (pac (dv 0) (pac (dv 2) pa0))) ?_)
  refine spar2 3 4 rfl c49.nd (kan (dlst (ds := []) pa0) (kav (dv 1) ka0) (by simp [AK.held, held_dt])) ?_
  refine sforB (xs := r) (fun pre ρ1 => ∃ ys y x5, (∀ rest, climbN p.ns x (pre ++ rest) = ys ++ climbN p.ns y rest) ∧ y ∈ names p.ns ∧ ys.length ≤ pre.length ∧ ρ1 = [some (.im (tyP C p)), some (.im (Dt (.str x))), some (.im (Dt (eL r))), some (.mu (mL (ys.map .str))), some (.im (Dt (.str y))), x5])
    (fun ρ1 => ∃ x4 x5, ρ1 = [some (.im (tyP C p)), some (.im (Dt (.str x))), some (.im (Dt (eL r))), some (.mu (mL ((climbN p.ns x r).map .str))), x4, x5]) PassesOwn.never rfl (itTs (xs := r) (f := PyData.str) (dv 2)) ⟨[], x, none, fun rest => rfl, h2, Nat.le_refl _, rfl⟩
    (fun pre h post ρ1 hx ⟨ys, y, x5, e1, e2, e3, e⟩ => ?_) fun ρ1 hh => ?_
  · subst e
    have hm : h ∈ p.hands := h3.sub h (by rw [hx]; simp)
    have pl1 : pre.length ≤ 6 := by
      have := congrArg List.length hx
      rw [List.length_append, List.length_cons] at this
      omega
    refine ⟨_, gn 5 c49.nd, ?_⟩
    refine sset (t := Dt (eO (nextNote p.ns h y))) 4 c49.nd (dcl hr C45 (p, h, y) ⟨h1, hm, e2⟩ (pac (dv 0) (pac (dv 5) (pac (dv 4) pa0)))) ?_
    cases hn : nextNote p.ns h y with
    | none =>
      refine sif (Ψ := ⟨fun _ => False, _, _, _⟩) (ptis (l := true) (pisN (d := eO none) (dv 4)) rfl) (fun _ => sbrk ?_) (fun z => by cases z) fun _ z => z.elim
      have e4 : climbN p.ns x r = ys := by
        rw [hx, e1, climbN, hn, List.append_nil]
      rw [← e4]
      exact ⟨_, _, rfl⟩
    | some z =>
      refine sifF (ptis (pisN (d := eO (some z)) (dv 4)) rfl) (s0 rfl) (sapp 3 (d := .str z) (dv 4) (s0 ?_) ?_)
      · have e5 : ys.map PyData.str ++ [.str z] = (ys ++ [z]).map .str := by rw [List.map_append]; rfl
        rw [e5]
        refine ⟨ys ++ [z], z, _, fun rest => ?_, nextNote_names hn, ?_, rfl⟩
        · rw [List.append_assoc, List.append_assoc, List.singleton_append, e1, climbN, hn]
          rfl
        · rw [List.length_append, List.length_append]
          exact Nat.add_le_add_right e3 1
      · rw [List.length_map]
        omega
  · have key : ∃ x4 x5, ρ1 = [some (.im (tyP C p)), some (.im (Dt (.str x))), some (.im (Dt (eL r))), some (.mu (mL ((climbN p.ns x r).map .str))), x4, x5] := by
      rcases hh with ⟨ys, y, x5, e1, e2, e3, e⟩ | h
      · have e4 := e1 []
        rw [List.append_nil, climbN, List.append_nil] at e4
        rw [e4]
        exact ⟨_, _, e⟩
      · exact h
    obtain ⟨x4, x5, e⟩ := key
    subst e
    exact sret (dtupL V.bi (dvm 3)) rfl
abbrev q50 (C : Addr) (Z : Zn) : Sp := spD Z (fun x : Pc × Str × List Str => [tyP C x.1, Dt (.str x.2.1), Dt (eL x.2.2)]) (fun x => Pok x.1 ∧ x.2.1 ∈ x.1.hands ∧ RowOk x.1.hands x.2.2) fun x => Dt (eL (climbN x.1.ns (x.1.rdy x.2.1) x.2.2))
theorem ok50 (V : Gv mg) (k : PKl K C) (D : Dn K mg "climb" s50 ["pact", "hand", "row"]) (C40 : Okd P w K mg base "ready_note" 2 (q40 C ⟨tb, qn, none⟩)) (C49 : Okd P w K mg base "climb_from" 5 (q49 C ⟨tb, qn, none⟩)) : Okd P w K mg base "climb" 6 (q50 C ⟨tb, qn, none⟩) := by
  refine okD D c50 (fun _ => rfl) (by decide) fun f cdv A outer s H E a F0 G hr hp => ?_
  obtain ⟨p, h, r⟩ := a
  obtain ⟨h1, h2, h3⟩ := hp
  exact sret (dcl hr C49 (p, p.rdy h, r) ⟨h1, h1.rn h h2, h3⟩ (pac (dv 0) (pac (dcl hr C40 (p, h) ⟨h2, h1.rl⟩ (pac (dv 0) (pac (dv 1) pa0))) (pac (dv 2) pa0)))) rfl
abbrev q51 (C : Addr) (Z : Zn) : Sp := spD Z (fun x : Pc × Str × List Str => [tyP C x.1, Dt (.str x.2.1), Dt (eL x.2.2)]) (fun x => Pok x.1 ∧ x.2.1 ∈ x.1.hands ∧ RowOk x.1.hands x.2.2) fun x => Dt (.bool (rowHolds x.1 x.2.1 x.2.2))
theorem ok51 (V : Gv mg) (k : PKl K C) (D : Dn K mg "row_holds" s51 ["pact", "hand", "row"]) (C36 : Okd P w K mg base "is_under" 1 (q36 C ⟨tb, qn, none⟩)) (C39 : Okd P w K mg base "key_note" 2 (q39 C ⟨tb, qn, none⟩)) (C50 : Okd P w K mg base "climb" 6 (q50 C ⟨tb, qn, none⟩)) : Okd P w K mg base "row_holds" 7 (q51 C ⟨tb, qn, none⟩) := by
  refine okD D c51 (fun _ => rfl) (by decide) fun f cdv A outer s H E a F0 G hr hp => ?_
  obtain ⟨p, h, r⟩ := a
  obtain ⟨h1, h2, h3⟩ := hp
  have h1 : Pok p := h1
  have h2 : h ∈ p.hands := h2
  have h3 : RowOk p.hands r := h3
  have hlm : r.getLastD "" ∈ p.hands := h3.sub _ (getLastD_mem h3.ne)
  have lp : 0 < r.length := List.length_pos_iff.mpr h3.ne
  refine sset 3 c51.nd (dcl hr C50 (p, h, r) ⟨h1, h2, h3⟩ (pac (dv 0) (pac (dv 1) (pac (dv 2) pa0)))) ?_
  refine sret (dis (dand (deqI (dlen V.bi (ds := (climbN p.ns (p.rdy h) r).map .str) sqT (vT (dv 3))) (dlen V.bi (ds := r.map .str) sqT (vT (dv 2)))) fun hb => dand1 (dcl hr C36 (p, (climbN p.ns (p.rdy h) r).getLastD "", keyNote p.ns p.paper (r.getLastD "")) ?_
    (pac (dv 0) (pac (dixT (vT (dv 3)) (dneg dint) (atI_last ?_)) (pac (dcl hr C39 (p, r.getLastD "") ⟨hlm, h1.nd, h1.ln, h1.kr _ hlm⟩ (pac (dv 0) (pac (dixT (vT (dv 2)) (dneg dint) (atI_last h3.ne)) pa0))) pa0))))) ?_) rfl
  · have hb := of_decide_eq_true hb
    rw [List.length_map, List.length_map] at hb
    have ne : climbN p.ns (p.rdy h) r ≠ [] := fun z => by
      rw [z] at hb
      simp at hb
      omega
    exact ⟨climbN_names (getLastD_mem ne), keyNote_names (h1.kr _ hlm)⟩
  · have hb := of_decide_eq_true hb
    rw [List.length_map, List.length_map] at hb
    intro z
    rw [z] at hb
    simp at hb
    omega
  · unfold rowHolds
    rw [List.length_map, List.length_map]
    congr 2
    simp only [decide_eq_decide]
    omega
end
end Kb
end TWh
section TPd
set_option Elab.async false
set_option autoImplicit false
set_option linter.all false
set_option maxRecDepth 100000
/-! Pd: families, plain; == of lots. -/
namespace Kb
open PySem PySem.Spec PyProof.Rows L2 PySem.W
theorem eqvAll_strs : ∀ xs ys : List Str, PyData.eqvAll (xs.map .str) (ys.map .str) = decide (xs = ys)
  | [], [] => rfl
  | [], y :: ys => rfl
  | x :: xs, [] => rfl
  | x :: xs, y :: ys => by
    show ((x == y) && PyData.eqvAll (xs.map .str) (ys.map .str)) = _
    rw [eqvAll_strs xs ys]
    by_cases h : x = y
    · subst h
      simp
    · have : (x == y) = false := beq_eq_false_iff_ne.mpr h
      rw [this]
      simp [h]
theorem eqv_lot (a b : List Str) : PyData.eqv (eL a) (eL b) = decide (a = b) := eqvAll_strs a b
theorem any_eqv_lot (ls : List (List Str)) (x : List Str) : ((ls.map eL).any fun z => PyData.eqv z (eL x)) = decide (x ∈ ls) := by
  rw [List.any_map]
  induction ls with
  | nil => rfl
  | cons l ls ih =>
    rw [List.any_cons, ih]
    show (PyData.eqv (eL l) (eL x) || _) = _
    rw [eqv_lot]
    by_cases h : l = x
    · subst h
      simp
    · have : x ≠ l := fun z => h z.symm
      simp [h, this]
def SOk (xs : List Str) : Prop := ∀ x ∈ xs, PyData.canLay0 (.str x) = true
theorem canLay_strs : ∀ {xs : List Str}, SOk xs → PyData.canLayAll0 (xs.map .str) = true
  | [], _ => rfl
  | x :: xs, h => by
    show (PyData.canLay0 (.str x) && PyData.canLayAll0 (xs.map .str)) = true
    rw [canLay_strs fun y hy => h y (List.mem_cons_of_mem _ hy), h x List.mem_cons_self]
    rfl
theorem depth0_strs : ∀ xs : List Str, PyData.depthAll (xs.map .str) = 0
  | [] => rfl
  | x :: xs => by
    show max (PyData.depth (.str x)) (PyData.depthAll (xs.map .str)) = 0
    rw [depth0_strs xs]
    rfl
theorem shaped_lot {xs : List Str} (h : SOk xs) : SeqAt.shaped (eL xs) = true := by
  unfold SeqAt.shaped
  have h1 : PyData.canLay0 (eL xs) = true := canLay_strs h
  have h2 : PyData.depth (eL xs) ≤ 64 := by
    show PyData.depthAll (xs.map .str) + 1 ≤ 64
    rw [depth0_strs]
    decide
  rw [h1, decide_eq_true h2]
  rfl
theorem canLay_lots : ∀ {ls : List (List Str)}, (∀ l ∈ ls, SOk l) → PyData.canLayAll0 (ls.map eL) = true
  | [], _ => rfl
  | l :: ls, h => by
    show (PyData.canLayAll0 (l.map .str) && PyData.canLayAll0 (ls.map eL)) = true
    rw [canLay_lots fun y hy => h y (List.mem_cons_of_mem _ hy), canLay_strs (h l List.mem_cons_self)]
    rfl
theorem depth_lots : ∀ ls : List (List Str), PyData.depthAll (ls.map eL) ≤ 1
  | [] => Nat.zero_le _
  | l :: ls => by
    show max (PyData.depthAll (l.map .str) + 1) (PyData.depthAll (ls.map eL)) ≤ 1
    rw [depth0_strs]
    exact Nat.max_le.mpr ⟨Nat.le_refl _, depth_lots ls⟩
theorem shaped_lots {ls : List (List Str)} (h : ∀ l ∈ ls, SOk l) : SeqAt.shaped (.list (ls.map eL)) = true := by
  unfold SeqAt.shaped
  have h1 : PyData.canLay0 (.list (ls.map eL)) = true := canLay_lots h
  have h2 : PyData.depth (.list (ls.map eL)) ≤ 64 := by
    show PyData.depthAll (ls.map eL) + 1 ≤ 64
    have := depth_lots ls
    omega
  rw [h1, decide_eq_true h2]
  rfl
/-- the parts of a lot -/
def parts (l : List Str) : List (List Str) := l.foldl (fun f x => f ++ f.map (· ++ [x])) [[]]
theorem parts_snoc (l : List Str) (x : Str) : parts (l ++ [x]) = parts l ++ (parts l).map (· ++ [x]) := by
  unfold parts
  rw [List.foldl_append]
  rfl
theorem parts_len (l : List Str) : (parts l).length = 2 ^ l.length := by
  refine snocInd (p := fun l => (parts l).length = 2 ^ l.length) rfl (fun l x ih => ?_) l
  rw [parts_snoc, List.length_append, List.length_map, ih, List.length_append, List.length_singleton, Nat.pow_succ]
  omega
theorem parts_sub (l : List Str) : ∀ q ∈ parts l, q.Sublist l := by
  refine snocInd (p := fun l => ∀ q ∈ parts l, q.Sublist l) (fun q hq => ?_) (fun l x ih q hq => ?_) l
  · rw [List.mem_singleton.mp hq]
    exact List.Sublist.refl _
  · rw [parts_snoc] at hq
    rcases List.mem_append.mp hq with h | h
    · exact (ih q h).trans (List.sublist_append_left _ _)
    · obtain ⟨r, hr, rfl⟩ := List.mem_map.mp h
      exact (ih r hr).append (List.Sublist.refl _)
theorem sub_parts (l : List Str) : ∀ q : List Str, q.Sublist l → q ∈ parts l := by
  refine snocInd (p := fun l => ∀ q : List Str, q.Sublist l → q ∈ parts l) (fun q hq => ?_) (fun l x ih q hq => ?_) l
  · rw [List.sublist_nil.mp hq]
    exact List.mem_singleton.mpr rfl
  · rw [parts_snoc]
    obtain ⟨a, b, rfl, h1, h2⟩ := List.sublist_append_iff.mp hq
    rcases b with _ | ⟨y, b⟩
    · rw [List.append_nil]
      exact List.mem_append_left _ (ih a h1)
    · cases h2 with
      | cons _ h3 => cases h3
      | cons_cons _ h3 =>
        rw [List.sublist_nil.mp h3]
        exact List.mem_append_right _ (List.mem_map.mpr ⟨a, ih a h1, rfl⟩)
theorem alike_lot (a b : List Str) : alike (eL a) (eL b) = true := alike_strs a b
/-- keep the first of like ones -/
def fst1 (ls : List (List Str)) : List (List Str) := ls.foldl (fun s x => if x ∈ s then s else s ++ [x]) []
theorem fst1_snoc (ls : List (List Str)) (x : List Str) : fst1 (ls ++ [x]) = if x ∈ fst1 ls then fst1 ls else fst1 ls ++ [x] := by
  unfold fst1
  rw [List.foldl_append]
  rfl
theorem fst1_ok (ls : List (List Str)) : (fst1 ls).Nodup ∧ ∀ x, x ∈ fst1 ls ↔ x ∈ ls := by
  refine snocInd (p := fun ls => (fst1 ls).Nodup ∧ ∀ x, x ∈ fst1 ls ↔ x ∈ ls) ⟨List.nodup_nil, fun x => Iff.rfl⟩ (fun ls y ih => ?_) ls
  rw [fst1_snoc]
  by_cases h : y ∈ fst1 ls
  · rw [if_pos h]
    refine ⟨ih.1, fun x => ?_⟩
    rw [ih.2 x, List.mem_append, List.mem_singleton]
    constructor
    · exact .inl
    · rintro (z | z)
      · exact z
      · rw [z]
        exact (ih.2 y).mp h
  · rw [if_neg h]
    refine ⟨List.nodup_append.mpr ⟨ih.1, List.nodup_cons.mpr ⟨by simp, List.nodup_nil⟩, fun a ha b hb e => h ?_⟩, fun x => ?_⟩
    · rw [List.mem_singleton] at hb
      rw [← hb, ← e]
      exact ha
    · rw [List.mem_append, List.mem_append, ih.2 x]
/-- all lots of a family -/
def allLots (F : List (List Str)) : List (List Str) := ksrt (fst1 (F.flatMap parts))
end Kb
end TPd
section TWi
set_option Elab.async false
set_option autoImplicit false
set_option linter.all false
set_option maxRecDepth 100000
set_option maxHeartbeats 4000000
/-! Wi: families. -/
namespace Kb
open PySem PySem.Spec PyProof.Rows L2 PySem.W
theorem Nm.ok {x : Str} (h : Nm x) : PyData.canLay0 (.str x) = true := by
  have key : ∀ c ∈ letters.cps.toList, c < 0x110000 := by decide +kernel
  show x.cps.all (· < 0x110000) = true
  rw [← Array.all_toList]
  exact List.all_eq_true.mpr fun c hc => decide_eq_true (key c (h.2.2 c hc))
def lLt (a b : List Str) : Prop := dataLt (eL a) (eL b) = true
/-- a family of these hands -/
structure FamOk (hs : List Str) (F : List (List Str)) : Prop where
  ne : F ≠ []
  lot : ∀ l ∈ F, Lot l
  sub : ∀ l ∈ F, ∀ x ∈ l, x ∈ hs
  lt : F.Pairwise lLt
  anti : ∀ pre l post, F = pre ++ l :: post → ∀ o ∈ pre ++ post, wiB l o = false
  len : F.length ≤ 63
section
variable {P : Program} {w : World} {K : PySem.W.Frag} {mg : Str → Option Value} {base : Heap} {tb : Addr} {qn : Str} {C : Addr}
theorem cutA_tk {α β : Type} (f : α → β) (xs : List α) (i : Nat) : cutA (xs.map f) none (some (i : Int)) = (xs.take i).map f := by
  rw [cutA_map, cutA_to _ (by omega)]
  simp
theorem cutA_dr {α β : Type} (f : α → β) (xs : List α) (i : Nat) : cutA (xs.map f) (some ((i : Int) + 1)) none = (xs.drop (i + 1)).map f := by
  rw [cutA_map, cutA_from _ (by omega)]
  have e : ((i : Int) + 1).toNat = i + 1 := by omega
  rw [e]
abbrev q53 (Z : Zn) : Sp := spD Z (fun F : List (List Str) => [Dt (.tuple (F.map eL))]) (fun F => F.length ≤ 63 ∧ (∀ l ∈ F, l.length ≤ 1000) ∧ ∀ pre l post, F = pre ++ l :: post → ∀ o ∈ pre ++ post, wiB l o = false) fun x => Dt .none
theorem ok53 (V : Gv mg) (D : Dn K mg "place_within" s53 ["lots"]) (C18 : Okd P w K mg base "lot_within" 1 (q18 ⟨tb, qn, none⟩)) : Okd P w K mg base "place_within" 2 (q53 ⟨tb, qn, none⟩) := by
  refine okD D c53 (fun _ => rfl) (by decide) fun f cdv A outer s H E F F0 G hr hp => ?_
  obtain ⟨p1, p2, p3⟩ := hp
  refine sforN (xs := F.zipIdx) (fun pre ρ1 => ∃ x1 x2 x3, ρ1 = [some (.im (Dt (.tuple (F.map eL)))), x1, x2, x3]) PassesOwn.never rfl (itEHs V.bi false (f := eL) (xs := F) (dv 0)) ⟨_, _, _, rfl⟩ (fun pre x post ρ1 hx ⟨x1, x2, x3, e⟩ => ?_) fun ρ1 ⟨x1, x2, x3, e⟩ => ?_
  · subst e
    obtain ⟨l, i⟩ := x
    obtain ⟨z1, z2⟩ := zipIdx_split hx
    have e2 : i = (pre.map (·.1)).length := by rw [List.length_map]; exact z2
    have hm : l ∈ F := by rw [z1]; simp
    have t1 : F.take i ++ F.drop (i + 1) = pre.map (·.1) ++ post.map (·.1) := by
      rw [z1, e2, List.take_left' rfl, List.drop_append, List.drop_eq_nil_of_le (by omega)]
      simp
    have hl : (F.take i ++ F.drop (i + 1)).length ≤ 100000 := by
      rw [List.length_append, List.length_take, List.length_drop]
      omega
    have ee : cutA (F.map eL) none (some (i : Int)) ++ cutA (F.map eL) (some ((i : Int) + 1)) none = (F.take i ++ F.drop (i + 1)).map eL := by
      rw [cutA_tk, cutA_dr, List.map_append]
    refine ⟨_, gt rfl (gsc (gn 1 c53.nd) (gsc (gn 2 c53.nd) gs0)), ?_⟩
    refine sifF (ptis (ptv (danyC (f := fun _ => true) (g := fun o => wiB l o) (xs := F.take i ++ F.drop (i + 1)) V.bi rfl (dlc (own := [("other", 3)]) rfl c53.nd (itTs (xs := F.take i ++ F.drop (i + 1)) (f := eL) (dis (dcatT (dslT (dv 0) po0 (po1 (dv 1))) (dslT (dv 0) (po1 (dadd (dv 1) dint)) po0) ?_) (congrArg PyData.tuple ee)))
      (blkOk_by (N := n53) (sc := defScope s53) (by decide +kernel)) (fun _ _ _ _ _ x _ => gn 3 c53.nd) (fun _ _ _ _ _ x _ => pt0) (fun _ _ _ _ _ o _ _ => dcl hr C18 (l, o) (p2 l hm) (pac (dv 2) (pac (dv 3) pa0))) hl))) ?_) (s0 rfl) (s0 ⟨_, _, _, rfl⟩)
    · rw [cutA_tk, cutA_dr, List.length_map, List.length_map, ← List.length_append]
      exact hl
    · rw [filt, t1]
      exact List.any_eq_false.mpr fun o ho => by rw [p3 _ _ _ z1 o ho]; decide
  · subst e
    exact sret dnon rfl
abbrev q54 (C : Addr) (Z : Zn) : Sp := spD Z (fun x : Pc × List (List Str) => [tyP C x.1, Dt (.tuple (x.2.map eL))]) (fun x => FamOk x.1.hands x.2) fun x => Dt .none
theorem ok54 (V : Gv mg) (k : PKl K C) (D : Dn K mg "family_fault" s54 ["pact", "value"]) (C13 : Okd P w K mg base "is_lot" 3 (q13 ⟨tb, qn, none⟩)) (C18 : Okd P w K mg base "lot_within" 1 (q18 ⟨tb, qn, none⟩)) (C53 : Okd P w K mg base "place_within" 2 (q53 ⟨tb, qn, none⟩)) : Okd P w K mg base "family_fault" 4 (q54 C ⟨tb, qn, none⟩) := by
  refine okD D c54 (fun _ => rfl) (by decide) fun f cdv A outer s H E a F0 G hr hp => ?_
  obtain ⟨p, F⟩ := a
  have hp : FamOk p.hands F := hp
  have lp : 0 < F.length := List.length_pos_iff.mpr hp.ne
  have ll : ∀ l ∈ F, l.length ≤ 1000 := fun l hl => by have := (hp.lot l hl).2.2; omega
  refine sifF (ptis (ppt (pwor (k := false) (l := false) (ptis (ptnot (ptv (disB V.bi (n := "tuple") (m := "tuple") (r := true) (fun F H v fh h => ty_tup fh h) (dv 1) rfl V.bi.tuple (by decide +kernel) (by decide +kernel)))) rfl) fun _ => pwor1 (ptis (peqI (dlen V.bi (ds := F.map eL) sqT (vT (dv 1))) dint) (decide_eq_false ?_)))) rfl) (s0 rfl) ?_
  · rw [List.length_map]
    omega
  refine sforN (xs := F.zipIdx) (fun pre ρ1 => ∃ x2 x3, ρ1 = [some (.im (tyP C p)), some (.im (Dt (.tuple (F.map eL)))), x2, x3]) PassesOwn.never rfl (itEHs V.bi false (f := eL) (xs := F) (dv 1)) ⟨_, _, rfl⟩ (fun pre x post ρ1 hx ⟨x2, x3, e⟩ => ?_) fun ρ1 ⟨x2, x3, e⟩ => ?_
  · subst e
    obtain ⟨l, i⟩ := x
    obtain ⟨z1, z2⟩ := zipIdx_split hx
    have e2 : i = (pre.map (·.1)).length := by rw [List.length_map]; exact z2
    have hm : l ∈ F := by rw [z1]; simp
    have hil : F[i]? = some l := by rw [z1, e2]; simp
    have hlt := (List.getElem?_eq_some_iff.mp hil).1
    refine ⟨_, gt rfl (gsc (gn 2 c54.nd) (gsc (gn 3 c54.nd) gs0)), ?_⟩
    refine sifF (ptis (ppt (pwor (k := false) (l := false || false) (ptis (ptnot (ptv (dcl hr C13 l (hp.lot l hm) (pac (dv 3) pa0)))) rfl) fun _ => pwor (k := false) (l := false) (ptis (ptnot (ptv (dcl hr C18 (l, p.hands) (ll l hm) (pac (dv 3) (pac (vF (pHands k (dv 0))) pa0))))) ?_) fun _ =>
      pwor1 ?_)) rfl) (s0 rfl) (s0 ⟨_, _, rfl⟩)
    · exact congrArg not (wiB_iff.mpr fun x hx => hp.sub l hm x hx)
    · refine ptis (ppt (pwand (k := decide ((0 : Int) < (i : Int))) (l := false) ?_ fun hb => ?_)) (Bool.and_false _)
      · exact ptis (pgt (dv 2) dint) rfl
      · have hb := of_decide_eq_true hb
        have e3 : ((i : Int) - 1) = ((i - 1 : Nat) : Int) := by omega
        have h1 : i - 1 < F.length := by omega
        have this := List.pairwise_iff_getElem.mp hp.lt (i - 1) i h1 hlt (by omega)
        have e4 : F[i] = l := (List.getElem?_eq_some_iff.mp hil).2
        rw [e4] at this
        have this : dataLt (eL F[i - 1]) (eL l) = true := this
        refine pwand1 (ptis (ptnot (k := true) ?_) rfl)
        refine ptis (pltD hr.u64 (d1 := eL F[i - 1]) (d2 := eL l) ?_ (dv 3) (alike_lot _ _) (fun z => by cases z) ?_) this
        · refine dixT (vT (dv 1)) (dis (dsub (dv 2) dint) (congrArg PyData.int e3)) (atI_nat ?_)
          rw [List.getElem?_map, List.getElem?_eq_getElem h1]
          rfl
        · rw [depth_lot]
          omega
  · subst e
    exact sret (dcl hr C53 F ⟨hp.len, ll, hp.anti⟩ (pac (dv 1) pa0)) rfl
abbrev q55 (C : Addr) (Z : Zn) : Sp := spD Z (fun x : Pc × List (List Str) => [tyP C x.1, Dt (.tuple (x.2.map eL))]) (fun x => FamOk x.1.hands x.2) fun x => Dt .none
theorem ok55 (V : Gv mg) (k : PKl K C) (D : Dn K mg "need_family" s55 ["pact", "value"]) (C54 : Okd P w K mg base "family_fault" 4 (q54 C ⟨tb, qn, none⟩)) : Okd P w K mg base "need_family" 5 (q55 C ⟨tb, qn, none⟩) := by
  refine okD D c55 (fun _ => rfl) (by decide) fun f cdv A outer s H E a F0 G hr hp => ?_
  refine sset 2 c55.nd (dcl hr C54 a hp (pac (dv 0) (pac (dv 1) pa0))) ?_
  exact sifF (ptis (pnoN (d := .none) (dv 2)) rfl) (s0 rfl) (s0 rfl)
def inFam (F : List (List Str)) (l : List Str) : Bool := F.any fun o => wiB l o
abbrev q56 (Z : Zn) : Sp := spD Z (fun x : List (List Str) × List Str => [Dt (.tuple (x.1.map eL)), Dt (eL x.2)]) (fun x => x.1.length ≤ 1000 ∧ x.2.length ≤ 1000) fun x => Dt (.bool (inFam x.1 x.2))
theorem ok56 (V : Gv mg) (D : Dn K mg "in_family" s56 ["family", "lot"]) (C18 : Okd P w K mg base "lot_within" 1 (q18 ⟨tb, qn, none⟩)) : Okd P w K mg base "in_family" 2 (q56 ⟨tb, qn, none⟩) := by
  refine okD D c56 (fun _ => rfl) (by decide) fun f cdv A outer s H E a F0 G hr hp => ?_
  obtain ⟨F, l⟩ := a
  obtain ⟨h1, h2⟩ := hp
  have h1 : F.length ≤ 1000 := h1
  refine sret (dis (danyC (f := fun _ => true) (g := fun o => wiB l o) (xs := F) V.bi rfl (dlc (own := [("other", 2)]) rfl c56.nd (itTs (xs := F) (f := eL) (dv 0)) (blkOk_by (N := n56) (sc := defScope s56) (by decide +kernel)) (fun _ _ _ _ _ x _ => gn 2 c56.nd)
    (fun _ _ _ _ _ x _ => pt0) (fun _ _ _ _ _ o _ _ => dcl hr C18 (l, o) h2 (pac (dv 1) (pac (dv 2) pa0))) (by omega))) ?_) rfl
  rw [filt]
  rfl
abbrev q57 (Z : Zn) : Sp := spD Z (fun l : List Str => [Dt (eL l)]) (fun l => l.length ≤ 8) fun l => Dt (.list ((parts l).map eL))
theorem ok57 (V : Gv mg) (D : Dn K mg "lot_parts" s57 ["lot"]) : Okd P w K mg base "lot_parts" 1 (q57 ⟨tb, qn, none⟩) := by
  refine okD D c57 (fun _ => rfl) (by decide) fun f cdv A outer s H E l F0 G hr hp => ?_
  have hp : l.length ≤ 8 := hp
  refine sset (t := Dt (.list ((parts []).map eL))) 1 c57.nd (nL (dlst (ds := [eL []]) (pac (dtup (ds := []) pa0) pa0))) ?_
  refine sforN (xs := l) (fun pre ρ1 => ∃ x2 x3, ρ1 = [some (.im (Dt (eL l))), some (.im (Dt (.list ((parts pre).map eL)))), x2, x3]) PassesOwn.never rfl (itTs (xs := l) (f := PyData.str) (dv 0)) ⟨_, _, rfl⟩ (fun pre x post ρ1 hx ⟨x2, x3, e⟩ => ?_) fun ρ1 ⟨x2, x3, e⟩ => ?_
  · subst e
    have pl1 : pre.length + 1 ≤ 8 := by
      have := congrArg List.length hx
      rw [List.length_append, List.length_cons] at this
      omega
    have pw : (parts pre).length ≤ 256 := by
      rw [parts_len]
      exact Nat.pow_le_pow_right (n := 2) (by decide) (by omega : pre.length ≤ 8)
    have e1 : (parts pre).map eL ++ ((parts pre).filter fun _ => true).map (fun q => eL (q ++ [x])) = (parts (pre ++ [x])).map eL := by
      rw [filt, parts_snoc, List.map_append, List.map_map]
      rfl
    have pt : ∀ q ∈ parts pre, q.length ≤ 8 := fun q hq => by
      have := (parts_sub pre q hq).length_le
      omega
    refine ⟨_, gn 2 c57.nd, ?_⟩
    refine sset 1 c57.nd (dis (nL (dcatL (vL (dv 1)) (nV (lcD (dlc (own := [("part", 3)]) (f := fun _ => true) (g := fun q => eL (q ++ [x])) rfl c57.nd (itLs (xs := parts pre) (f := eL) (dv 1)) (blkOk_by (N := n57) (sc := defScope s57) (by decide +kernel)) (fun _ _ _ _ _ x _ => gn 3 c57.nd)
      (fun _ _ _ _ _ x _ => pt0) (fun _ _ _ _ _ q hq _ => dis (dcatT (dv 3) (dtup (ds := [.str x]) (pac (dv 2) pa0) (Nat.le_of_ble_eq_true rfl)) ?_) ?_) (by omega)))) ?_)) (congrArg PyData.list e1)) (s0 ⟨_, _, rfl⟩)
    · have := pt q hq
      rw [List.length_map, List.length_singleton]
      omega
    · show PyData.tuple (q.map .str ++ [.str x]) = .tuple ((q ++ [x]).map .str)
      rw [List.map_append]
      rfl
    · rw [filt, List.length_map, List.length_map]
      omega
  · subst e
    exact sret (dv 1) rfl
end
end Kb
end TWi
section TWj
set_option Elab.async false
set_option autoImplicit false
set_option linter.all false
set_option maxRecDepth 100000
set_option maxHeartbeats 4000000
/-! Wj: all lots, the family of lots. -/
namespace Kb
open PySem PySem.Spec PyProof.Rows L2 PySem.W
def lotK (x : List Str) : NestedKey × PyData := (kLot x, .bool true)
theorem putN_lots (x : List Str) : ∀ ls : List (List Str), putN (ls.map lotK) (kLot x) (.bool true) = (if x ∈ ls then ls else ls ++ [x]).map lotK
  | [] => rfl
  | l :: ls => by
    rw [List.map_cons]
    show putN ((kLot l, PyData.bool true) :: ls.map lotK) (kLot x) (.bool true) = _
    rw [putN]
    by_cases e : l = x
    · subst e
      rw [if_pos rfl, if_pos List.mem_cons_self]
      rfl
    · rw [if_neg (fun z => e (kLot_inj z)), putN_lots x ls]
      have e2 : x ≠ l := fun z => e z.symm
      by_cases h : x ∈ ls
      · rw [if_pos h, if_pos (List.mem_cons_of_mem _ h)]
        rfl
      · rw [if_neg h, if_neg (by simp [e2, h])]
        rfl
theorem fst1_len (ls : List (List Str)) : (fst1 ls).length ≤ ls.length := nodup_sub_len (fst1_ok ls).1 fun x hx => ((fst1_ok ls).2 x).mp hx
theorem flat_len {F : List (List Str)} (h : ∀ l ∈ F, l.length ≤ 8) : (F.flatMap parts).length ≤ F.length * 256 := by
  induction F with
  | nil => exact Nat.zero_le _
  | cons l F ih =>
    rw [List.flatMap_cons, List.length_append, parts_len, List.length_cons]
    have h1 := ih fun l hl => h l (List.mem_cons_of_mem _ hl)
    have h2 : 2 ^ l.length ≤ 256 := Nat.pow_le_pow_right (n := 2) (by decide) (h l List.mem_cons_self)
    omega
section
variable {P : Program} {w : World} {K : PySem.W.Frag} {mg : Str → Option Value} {base : Heap} {tb : Addr} {qn : Str} {C : Addr}
abbrev q58 (Z : Zn) : Sp := spD Z (fun ls : List (List Str) => [Dt (.list (ls.map eL))]) (fun ls => ls.length ≤ 100000 ∧ ∀ x ∈ ls, x.length ≤ 100000) fun ls => Dt (.tuple ((ksrt ls).map eL))
abbrev q59 (Z : Zn) : Sp := spD Z (fun F : List (List Str) => [Dt (.tuple (F.map eL))]) (fun F => F.length ≤ 63 ∧ ∀ l ∈ F, l.length ≤ 8) fun F => Dt (.tuple ((allLots F).map eL))
theorem ok59 (V : Gv mg) (D : Dn K mg "all_lots" s59 ["family"]) (C57 : Okd P w K mg base "lot_parts" 1 (q57 ⟨tb, qn, none⟩)) (C58 : Okd P w K mg base "lots_in_order" 3 (q58 ⟨tb, qn, none⟩)) : Okd P w K mg base "all_lots" 4 (q59 ⟨tb, qn, none⟩) := by
  refine okD D c59 (fun _ => rfl) (by decide) fun f cdv A outer s H E F F0 G hr hp => ?_
  obtain ⟨p1, p2⟩ := hp
  have fl := flat_len p2
  refine ssetN 1 c59.nd dnewN ?_
  refine sforN (xs := F) (fun pre ρ1 => ∃ x2 x3, ρ1 = [some (.im (Dt (.tuple (F.map eL)))), some (.mu (mD P w ((fst1 (pre.flatMap parts)).map lotK))), x2, x3]) PassesOwn.never rfl (itTs (xs := F) (f := eL) (dv 0)) ⟨_, _, rfl⟩ (fun pre l post ρ1 hx ⟨x2, x3, e⟩ => ?_) fun ρ1 ⟨x2, x3, e⟩ => ?_
  · subst e
    have hm : l ∈ F := by rw [hx]; simp
    refine ⟨_, gn 2 c59.nd, ?_⟩
    refine sforN (xs := parts l) (fun pre2 ρ1 => ∃ x3, ρ1 = [some (.im (Dt (.tuple (F.map eL)))), some (.mu (mD P w ((fst1 (pre.flatMap parts ++ pre2)).map lotK))), some (.im (Dt (eL l))), x3]) PassesOwn.never rfl (itLs (xs := parts l) (f := eL) (dcl hr C57 l (p2 l hm) (pac (dv 2) pa0))) ?_ (fun pre2 q post2 ρ2 hq ⟨x3, e⟩ => ?_) fun ρ2 ⟨x3, e⟩ => ?_
    · rw [List.append_nil]
      exact ⟨_, rfl⟩
    · subst e
      have e1 : putN ((fst1 (pre.flatMap parts ++ pre2)).map lotK) (kLot q) (.bool true) = (fst1 (pre.flatMap parts ++ (pre2 ++ [q]))).map lotK := by
        rw [putN_lots, ← List.append_assoc, fst1_snoc]
      refine ⟨_, gn 3 c59.nd, ?_⟩
      refine sputN 1 (k := kLot q) hr.u64 dbl (dis (dv 3) (data_lot q).symm) trivial (depth_kLot q) ?_ (s0 ?_)
      · rw [List.length_map]
        have h1 := fst1_len (pre.flatMap parts ++ pre2)
        have h2 : (pre.flatMap parts ++ pre2).length ≤ (F.flatMap parts).length := by
          rw [hx, List.flatMap_append, List.flatMap_cons, hq]
          simp only [List.length_append]
          omega
        omega
      · rw [e1]
        exact ⟨_, rfl⟩
    · subst e
      refine s0 ?_
      rw [List.flatMap_append, List.flatMap_cons, List.flatMap_nil, List.append_nil]
      exact ⟨_, _, rfl⟩
  · subst e
    have fk := fst1_ok (F.flatMap parts)
    have h1 := fst1_len (F.flatMap parts)
    have e2 : ((fst1 (F.flatMap parts)).map lotK).map (fun e => e.1.data) = (fst1 (F.flatMap parts)).map eL := by
      rw [List.map_map]
      refine List.map_congr_left fun x _ => data_lot x
    refine sret (dcl hr C58 (fst1 (F.flatMap parts)) ⟨by omega, fun x hx => ?_⟩ (pac (dis (nL (dlistN V.bi rfl (dvm 1) ?_)) (congrArg PyData.list e2)) pa0)) rfl
    · obtain ⟨l, hl, hx⟩ := List.mem_flatMap.mp ((fk.2 x).mp hx)
      have := (parts_sub l x hx).length_le
      have := p2 l hl
      omega
    · rw [List.length_map]
      omega
/-- those within no other one -/
def tops (ls : List (List Str)) : List (List Str) := ls.filter fun l => !(ls.any fun o => !decide (l = o) && wiB l o)
def famOf (ls : List (List Str)) : List (List Str) := if tops (lotsOf ls) = [] then [[]] else tops (lotsOf ls)
abbrev q60 (Z : Zn) : Sp := spD Z (fun ls : List (List Str) => [Dt (.list (ls.map eL))]) (fun ls => ls.length ≤ 63 ∧ ∀ l ∈ ls, l.length ≤ 1000 ∧ SOk l) fun ls => Dt (.tuple ((famOf ls).map eL))
theorem ok60 (V : Gv mg) (D : Dn K mg "family_of" s60 ["lots"]) (C14 : Okd P w K mg base "lot_of" 1 (q14 ⟨tb, qn, none⟩)) (C18 : Okd P w K mg base "lot_within" 1 (q18 ⟨tb, qn, none⟩)) : Okd P w K mg base "family_of" 2 (q60 ⟨tb, qn, none⟩) := by
  refine okD D c60 (fun _ => rfl) (by decide) fun f cdv A outer s H E ls F0 G hr hp => ?_
  obtain ⟨p1, p2⟩ := hp
  have l1 := len_lotsOf ls
  have hm : ∀ l ∈ lotsOf ls, l.length ≤ 1000 ∧ SOk l := fun l hl => p2 l (mem_lotsOf.mp hl)
  refine sset (t := Dt (.tuple ((lotsOf ls).map eL))) 1 c60.nd (dcl hr C14 (.inr ls) (show ls.length < 64 by omega) (pac (dv 0) pa0)) ?_
  refine ssetN 2 c60.nd (dlst (ds := []) pa0) ?_
  have htop : ∀ l, l ∈ tops (lotsOf ls) → SOk l := fun l hl => (hm l (List.mem_filter.mp hl).1).2
  refine sforN (xs := lotsOf ls) (fun pre ρ1 => ∃ x3 x4, ρ1 = [some (.im (Dt (.list (ls.map eL)))), some (.im (Dt (.tuple ((lotsOf ls).map eL)))), some (.mu (mL ((pre.filter fun l => !((lotsOf ls).any fun o => !decide (l = o) && wiB l o)).map eL))), x3, x4]) PassesOwn.never rfl (itTs (xs := lotsOf ls) (f := eL) (dv 1)) ⟨_, _, rfl⟩ (fun pre l post ρ1 hx ⟨x3, x4, e⟩ => ?_) fun ρ1 ⟨x3, x4, e⟩ => ?_
  · subst e
    have hl : l ∈ lotsOf ls := by rw [hx]; simp
    have pl1 : pre.length ≤ 63 := by
      have := congrArg List.length hx
      rw [List.length_append, List.length_cons] at this
      omega
    refine ⟨_, gn 3 c60.nd, ?_⟩
    refine sif (Ψ := ⟨fun ρ' => ∃ x3 x4, ρ' = [some (.im (Dt (.list (ls.map eL)))), some (.im (Dt (.tuple ((lotsOf ls).map eL)))), some (.mu (mL (((pre ++ [l]).filter fun l => !((lotsOf ls).any fun o => !decide (l = o) && wiB l o)).map eL))), x3, x4], _, _, _⟩)
      (ptnot (ptv (danyC (f := fun _ => true) (g := fun o => !decide (l = o) && wiB l o) (xs := lotsOf ls) V.bi rfl (dlc (own := [("other", 4)]) rfl c60.nd (itTs (xs := lotsOf ls) (f := eL) (dv 1)) (blkOk_by (N := n60) (sc := defScope s60) (by decide +kernel)) (fun _ _ _ _ _ x _ => gn 4 c60.nd) (fun _ _ _ _ _ x _ => pt0)
        (fun _ _ _ _ _ o ho _ => dand (dis (dneD hr.u64 (shaped_lot (hm l hl).2) (shaped_lot (hm o ho).2) (bo (dv 3)) (bo (dv 4))) (congrArg PyData.bool (congrArg not (eqv_lot l o)))) fun _ => dand1 (dcl hr C18 (l, o) (hm l hl).1 (pac (dv 3) (pac (dv 4) pa0)))) (by omega))))) (fun hb => ?_) (fun hb => ?_) fun ρ' h => s0 h
    · rw [filt] at hb
      refine sapp 2 (d := eL l) (dv 3) (s0 ?_) ?_
      · rw [List.filter_append, List.filter_cons, if_pos hb.symm, List.map_append]
        exact ⟨_, _, rfl⟩
      · rw [List.length_map]
        have := List.length_filter_le (fun l => !((lotsOf ls).any fun o => !decide (l = o) && wiB l o)) pre
        omega
    · rw [filt] at hb
      refine s0 ?_
      rw [List.filter_append, List.filter_cons, if_neg (by rw [← hb]; decide), List.filter_nil, List.append_nil]
      exact ⟨_, _, rfl⟩
  · subst e
    have ee : PyData.eqv (.list ((tops (lotsOf ls)).map eL)) (.list []) = decide (tops (lotsOf ls) = []) := by
      cases tops (lotsOf ls) with
      | nil => rfl
      | cons a b => rfl
    refine sret (t := Dt (.tuple ((famOf ls).map eL))) (dife (p := (· = !decide (tops (lotsOf ls) = []))) (ptis (pneD (d := .list ((tops (lotsOf ls)).map eL)) (d' := .list []) hr.u64 (shaped_lots htop) rfl (dvb 2) (bo (nL (dlst (ds := []) pa0)))) (congrArg not ee)) (fun hb => ?_) (fun hb => ?_)) rfl
    · have hb : tops (lotsOf ls) ≠ [] := fun z => by rw [z] at hb; cases hb
      unfold famOf
      rw [if_neg hb]
      exact dtupL V.bi (dvm 2)
    · have hb : tops (lotsOf ls) = [] := Classical.byContradiction fun z => by rw [decide_eq_false z] at hb; cases hb
      unfold famOf
      rw [if_pos hb]
      exact dtup (ds := [eL []]) (pac (dtup (ds := []) pa0) pa0)
end
end Kb
end TWj
section TWk
set_option Elab.async false
set_option autoImplicit false
set_option linter.all false
set_option maxRecDepth 100000
set_option maxHeartbeats 4000000
/-! Wk: lots_in_order, which makes a lambda. -/
namespace Kb
open PySem PySem.Spec PyProof.Rows L2 PySem.W
/-- a def as it stands behind the top, its code object at c -/
structure DnT (K : PySem.W.Frag) (mg : Str → Option Value) (x : Str) (st : Stmt) (ps : List Str) (c : Addr) : Prop where
  ex : ∃ (f : Addr) (oc : Value) (od : Option Addr) (kV doc pm : Value) (an : Option Addr) (ct : Value) (osl : Array (Option Value)),
    K.lookup f = some ⟨oc, od, .func (PySem.W.fnOf x x (defArgs st) (defBody st) (defScope st) .none kV doc pm an (.ref c) ct), osl⟩ ∧ PySem.W.codeIn K (.ref c) x = true ∧ PySem.W.keepIn K (.ref f) = true ∧ mg x = some (.ref f) ∧
      Binds K (PySem.W.fnOf x x (defArgs st) (defBody st) (defScope st) .none kV doc pm an (.ref c) ct) ps []
section
variable {P : Program} {w : World} {K : PySem.W.Frag} {mg : Str → Option Value} {base : Heap} {x : Str} {st : Stmt} {N ps : List Str} {k : Nat} {Z : Zn} {α : Type} {ins : α → List Ty} {pre : α → Prop} {out : α → Ty} {c : Addr}
theorem okDT (D : DnT K mg x st ps c) (S : FnScope N ps (defScope st)) (hl : ∀ a, (ins a).length = ps.length) (hn : ps.length ≤ N.length)
    (body : ∀ (f : Addr) (A : Around) (outer : List Env) (s : Shared) (H : Hp) (E : XK) (a : α) (F0 G : Hp), Room k (A.deeper (envOfC x (defScope st) s.heap.objs.size f (.ref c))) → pre a →
      PSs (cxOf CX0 P w K mg base N x (defScope st) f (.ref c) A outer s H E).nox (defBody st) (tS Z F0 G (en0 (ins a) (N.length - ps.length)) (Fin (out a)))) : Okd P w K mg base x (k + 1) (spD Z ins pre out) := by
  obtain ⟨f, oc, od, kV, doc, pm, an, ct, osl, lk, hcd, kp, hm, hb⟩ := D.ex
  refine ⟨k + 1, f, _, ps, ?_, Nat.le_refl _, hm, kp, hb⟩
  refine fn_of lk hcd S (fun vs H Q E h => ?_) (fun A outer s H vs Q E hr h => ?_)
  · obtain ⟨a, F, _, _, _, _, ok, _⟩ := h
    rw [ok.len, List.length_map, hl]
  · obtain ⟨a, F, hp, fh, zo, zk, ok, q⟩ := h
    refine ⟨_, (body f A outer s H E a F H hr hp).nox, F, ?_, fun ρ' σ' F' H' hnx _ s' => ?_, fun t v F' H' ht g hv => ?_, fun _ _ _ _ h => h.elim, fun _ _ _ _ h => h.elim⟩
    · have s1 := St.first (N := N) fh zo zk ok (by rw [hl]; exact hn)
      rw [hl] at s1
      exact s1
    · have hnx' : out a = Dt .none := hnx
      exact q .non F' H' s'.go (by rw [hnx']; exact Rp.non)
    · have ht' : t = out a := ht
      subst ht'
      exact q v F' H' g hv
end
section
variable {P : Program} {w : World} {K : PySem.W.Frag} {mg : Str → Option Value} {base : Heap} {tb : Addr} {c : Addr}
theorem ok58 (V : Gv mg) (TB : LamX.TabB base mg c tb) (D : DnT K mg "lots_in_order" s58 ["lots"] c) : Okd P w K mg base "lots_in_order" 3 (q58 ⟨tb, "lots_in_order.<locals>.<lambda>", none⟩) := by
  refine okDT D c58 (fun _ => rfl) (by decide) fun f A outer s H E ls F0 G hr hp => ?_
  exact sret (dtupL V.bi (nV (dsortk V.bi rfl (k := 1) hr TB rfl rfl (vL (dv 0)) hp.1 hp.2))) rfl
end
end Kb
end TWk
section TWl
set_option Elab.async false
set_option autoImplicit false
set_option linter.all false
set_option maxRecDepth 100000
set_option maxHeartbeats 4000000
/-! Wl: Just, Torn, orders of a lot. -/
namespace Kb
open PySem PySem.Spec PyProof.Rows L2 PySem.W
section
variable {P : Program} {w : World} {K : PySem.W.Frag} {mg : Str → Option Value} {base : Heap} {tb : Addr} {qn : Str} {C : Addr}
abbrev q62 (C : Addr) (Z : Zn) : Sp := spI Z C (fun d : PyData => [Dt d]) (fun _ => True) fun d => [("table", Dt d)]
theorem ok62 (cl : Cls K C) (na : NoAttr K C "table") (D : Dc K mg "Just" "Just.__init__" C s62_0 ["self", "table"]) : Okc P w K mg base "Just" C 1 (q62 C ⟨tb, qn, none⟩) := by
  refine okInit D c62_0 (fun _ => rfl) (by decide) fun f cdv A outer s H E a F0 G sf hr hp => ?_
  exact sfld (n := 0) 0 cl na (dv 1) (by decide) (s0 ⟨_, rfl⟩)
abbrev q63 (C : Addr) (Z : Zn) : Sp := spI Z C (fun x : Str × List Str => [Dt (.str x.1), Dt (eL x.2)]) (fun _ => True) fun x => [("row", Dt (eL x.2)), ("hand", Dt (.str x.1))]
theorem ok63 (cl : Cls K C) (na1 : NoAttr K C "hand") (na2 : NoAttr K C "row") (D : Dc K mg "Torn" "Torn.__init__" C s63_0 ["self", "hand", "row"]) : Okc P w K mg base "Torn" C 1 (q63 C ⟨tb, qn, none⟩) := by
  refine okInit D c63_0 (fun _ => rfl) (by decide) fun f cdv A outer s H E a F0 G sf hr hp => ?_
  exact sfld (n := 0) 0 cl na1 (dv 1) (by decide) (sfld (n := 1) 0 cl na2 (dv 2) (by decide) (s0 ⟨_, rfl⟩))
/-- orders of a lot, one hand longer -/
def longer (l : List Str) (f : List (List Str)) : List (List Str) := f.flatMap fun r => (l.filter fun h => !decide (h ∈ r)).map fun h => r ++ [h]
def ords (l : List Str) : Nat → List (List Str)
  | 0 => [[]]
  | n + 1 => longer l (ords l n)
abbrev q64 (Z : Zn) : Sp := spD Z (fun l : List Str => [Dt (eL l)]) (fun l => l.length ≤ 6) fun l => Dt (.list ((ords l l.length).map eL))
theorem longer_len (l : List Str) (f : List (List Str)) : (longer l f).length ≤ f.length * l.length := by
  induction f with
  | nil => exact Nat.zero_le _
  | cons r f ih =>
    unfold longer at *
    rw [List.flatMap_cons, List.length_append, List.length_map, List.length_cons, Nat.succ_mul]
    have := List.length_filter_le (fun h => !decide (h ∈ r)) l
    omega
theorem ords_len (l : List Str) (h : l.length ≤ 6) : ∀ n, (ords l n).length ≤ 6 ^ n
  | 0 => Nat.le_refl _
  | n + 1 => by
    have h1 := longer_len l (ords l n)
    have h2 := ords_len l h n
    have h3 : (ords l n).length * l.length ≤ 6 ^ n * 6 := Nat.mul_le_mul h2 h
    show (longer l (ords l n)).length ≤ 6 ^ (n + 1)
    rw [Nat.pow_succ]
    omega
theorem ords_each (l : List Str) : ∀ (n : Nat) (r : List Str), r ∈ ords l n → r.length = n
  | 0, r, h => by
    rw [List.mem_singleton.mp h]
    rfl
  | n + 1, r, h => by
    obtain ⟨q, h1, h2⟩ := List.mem_flatMap.mp h
    obtain ⟨x, _, rfl⟩ := List.mem_map.mp h2
    rw [List.length_append, ords_each l n q h1]
    rfl
theorem ok64 (V : Gv mg) (D : Dn K mg "lot_orders" s64 ["lot"]) : Okd P w K mg base "lot_orders" 1 (q64 ⟨tb, qn, none⟩) := by
  refine okD D c64 (fun _ => rfl) (by decide) fun f cdv A outer s H E l F0 G hr hp => ?_
  have hp : l.length ≤ 6 := hp
  refine sset (t := Dt (.list ((ords l 0).map eL))) 1 c64.nd (nL (dlst (ds := [eL []]) (pac (dtup (ds := []) pa0) pa0))) ?_
  refine sforN (xs := List.range l.length) (enc := fun (i : Nat) => Dt (.int (i : Int))) (fun pre ρ1 => ∃ x2 x3 x4, ρ1 = [some (.im (Dt (eL l))), some (.im (Dt (.list ((ords l pre.length).map eL)))), x2, x3, x4]) PassesOwn.never rfl (itRn V.bi (dlen V.bi (ds := l.map .str) sqT (vT (dv 0))) ?_ ?_) ⟨_, _, _, rfl⟩ (fun pre x post ρ1 hx ⟨x2, x3, x4, e⟩ => ?_) fun ρ1 ⟨x2, x3, x4, e⟩ => ?_
  · rw [List.length_map]
    omega
  · rw [List.length_map]
    omega
  · subst e
    have pl1 : pre.length + 1 ≤ 6 := by
      have := congrArg List.length hx
      rw [List.length_append, List.length_cons, List.length_range] at this
      omega
    have ol : (ords l (pre.length + 1)).length ≤ 100000 := by
      have h1 := ords_len l hp (pre.length + 1)
      have h2 : 6 ^ (pre.length + 1) ≤ 6 ^ 6 := Nat.pow_le_pow_right (by decide) pl1
      omega
    have e1 : ((ords l pre.length).flatMap fun r => (l.filter fun h => !decide (h ∈ r)).map fun h => eL (r ++ [h])) = (ords l (pre.length + 1)).map eL := by
      show _ = (longer l (ords l pre.length)).map eL
      unfold longer
      rw [List.map_flatMap]
      simp only [List.map_map]
      rfl
    refine ⟨_, gn 2 c64.nd, ?_⟩
    refine ssetLc2 1 (ds := (ords l pre.length).flatMap fun r => (l.filter fun h => !decide (h ∈ r)).map fun h => eL (r ++ [h])) (dlc2 (own := [("row", 3), ("hand", 4)]) (vs1 := [4]) (f := fun r h => !decide (h ∈ r)) (g := fun (r : List Str) (h : Str) => eL (r ++ [h])) (ys := fun _ => l) rfl c64.nd (itLs (xs := ords l pre.length) (f := eL) (dv 1)) (blkOk_by (N := n64) (sc := defScope s64) (by decide +kernel)) (by decide) (fun _ _ => rfl)
      (fun _ _ _ _ _ r _ => gn 3 c64.nd) (fun _ _ _ _ _ r _ => itTs (xs := l) (f := PyData.str) (dv 0)) (fun _ _ _ _ _ r h _ _ => gn 4 c64.nd) (fun _ _ _ _ _ r h _ _ => pt1 (pnin sqT (dv 4) (vT (dv 3)))) (fun _ _ _ _ _ r h hr _ _ => ?_) ?_) (s0 ?_)
    · refine dis (dcatT (dv 3) (dtup (ds := [.str h]) (pac (dv 4) pa0) (Nat.le_of_ble_eq_true rfl)) ?_) ?_
      · rw [List.length_map, ords_each l _ r hr, List.length_singleton]
        omega
      · show PyData.tuple (r.map .str ++ [.str h]) = .tuple ((r ++ [h]).map .str)
        rw [List.map_append]
        rfl
    · rw [e1, List.length_map]
      exact ol
    · rw [e1, List.length_append, List.length_singleton]
      exact ⟨_, _, _, rfl⟩
  · subst e
    refine sret (t := Dt (.list ((ords l l.length).map eL))) (dis (dv 1) ?_) rfl
    rw [List.length_range]
end
end Kb
end TWl
section TWm
set_option Elab.async false
set_option autoImplicit false
set_option linter.all false
set_option maxRecDepth 100000
set_option maxHeartbeats 4000000
/-! Wm: levels, hands of a lot, a family cut. -/
namespace Kb
open PySem PySem.Spec PyProof.Rows L2 PySem.W
def lvAfter (ns : List Nt) (h o : Str) (lv : Nat) : Nat := match (row ns o)[lv]? with
  | some x => nextLevel ns h x
  | none => (row ns h).length
def keyLevel (p : Pc) (h : Str) : Nat := (row p.ns (hdOf p.ns (keyNote p.ns p.paper h))).idxOf (keyNote p.ns p.paper h)
section
variable {P : Program} {w : World} {K : PySem.W.Frag} {mg : Str → Option Value} {base : Heap} {tb : Addr} {qn : Str} {C : Addr}
abbrev q66 (C : Addr) (Z : Zn) : Sp := spD Z (fun x : Pc × Str × Str × Nat => [tyP C x.1, Dt (.str x.2.1), Dt (.str x.2.2.1), Dt (.int (x.2.2.2 : Nat))]) (fun x => Pok x.1 ∧ x.2.1 ∈ x.1.hands ∧ x.2.2.1 ∈ x.1.hands) fun x => Dt (.int (lvAfter x.1.ns x.2.1 x.2.2.1 x.2.2.2 : Nat))
theorem ok66 (V : Gv mg) (D : Dn K mg "level_after" s66 ["pact", "hand", "other", "level"]) (C35 : Okd P w K mg base "notes_of" 2 (q35 C ⟨tb, qn, none⟩)) (C43 : Okd P w K mg base "top_of" 3 (q43 C ⟨tb, qn, none⟩)) (C44 : Okd P w K mg base "next_level" 2 (q44 C ⟨tb, qn, none⟩)) : Okd P w K mg base "level_after" 4 (q66 C ⟨tb, qn, none⟩) := by
  refine okD D c66 (fun _ => rfl) (by decide) fun f cdv A outer s H E a F0 G hr hp => ?_
  obtain ⟨p, h, o, lv⟩ := a
  obtain ⟨h1, h2, h3⟩ := hp
  have h1 : Pok p := h1
  have h2 : h ∈ p.hands := h2
  have h3 : o ∈ p.hands := h3
  refine sset 4 c66.nd (dcl hr C35 (p, o) ⟨h3, h1.nd⟩ (pac (dv 0) (pac (dv 2) pa0))) ?_
  refine sret (t := Dt (.int (lvAfter p.ns h o lv : Nat))) (dife (plt (dv 3) (dlen V.bi (ds := (row p.ns o).map .str) sqT (vT (vF (dv 4))))) (fun hb => ?_) (fun hb => ?_)) rfl
  · have hb : ((lv : Nat) : Int) < (((row p.ns o).map PyData.str).length : Int) := of_decide_eq_true hb.symm
    rw [List.length_map] at hb
    have hl : lv < (row p.ns o).length := by omega
    have e : lvAfter p.ns h o lv = nextLevel p.ns h (row p.ns o)[lv] := by
      unfold lvAfter
      rw [List.getElem?_eq_getElem hl]
    rw [e]
    refine dcl hr C44 (p, h, (row p.ns o)[lv]) ⟨h1, h2, row_names (List.getElem_mem hl)⟩ (pac (dv 0) (pac (dv 1) (pac (dixT (vT (vF (dv 4))) (dv 3) (atI_nat ?_)) pa0)))
    rw [List.getElem?_map, List.getElem?_eq_getElem hl]
    rfl
  · have hb : ¬ ((lv : Nat) : Int) < (((row p.ns o).map PyData.str).length : Int) := of_decide_eq_false hb.symm
    rw [List.length_map] at hb
    have e : lvAfter p.ns h o lv = (row p.ns h).length := by
      unfold lvAfter
      rw [List.getElem?_eq_none (by omega)]
    rw [e]
    exact dcl hr C43 (p, h) ⟨h2, h1.nd⟩ (pac (dv 0) (pac (dv 1) pa0))
abbrev q70 (C : Addr) (Z : Zn) : Sp := spD Z (fun x : Pc × Str => [tyP C x.1, Dt (.str x.2)]) (fun x => Pok x.1 ∧ x.2 ∈ x.1.hands) fun x => Dt (.int (keyLevel x.1 x.2 : Nat))
theorem ok70 (V : Gv mg) (D : Dn K mg "key_level" s70 ["pact", "hand"]) (C39 : Okd P w K mg base "key_note" 2 (q39 C ⟨tb, qn, none⟩)) (C42 : Okd P w K mg base "level_of" 3 (q42 C ⟨tb, qn, none⟩)) : Okd P w K mg base "key_level" 4 (q70 C ⟨tb, qn, none⟩) := by
  refine okD D c70 (fun _ => rfl) (by decide) fun f cdv A outer s H E a F0 G hr hp => ?_
  obtain ⟨p, h⟩ := a
  obtain ⟨h1, h2⟩ := hp
  have h1 : Pok p := h1
  have h2 : h ∈ p.hands := h2
  exact sret (dcl hr C42 (p, keyNote p.ns p.paper h) ⟨h1, keyNote_names (h1.kr h h2)⟩ (pac (dv 0) (pac (dcl hr C39 (p, h) ⟨h2, h1.nd, h1.ln, h1.kr h h2⟩ (pac (dv 0) (pac (dv 1) pa0))) pa0))) rfl
abbrev q73 (C : Addr) (Z : Zn) : Sp := spD Z (fun x : Pc × List Str => [tyP C x.1, Dt (eL x.2)]) (fun x => ∀ h ∈ x.2, h ∈ x.1.hands) fun x => Dt .none
theorem ok73 (V : Gv mg) (D : Dn K mg "need_lot_hands" s73 ["pact", "lot"]) (C31 : Okd P w K mg base "need_hand" 1 (q31 C ⟨tb, qn, none⟩)) : Okd P w K mg base "need_lot_hands" 2 (q73 C ⟨tb, qn, none⟩) := by
  refine okD D c73 (fun _ => rfl) (by decide) fun f cdv A outer s H E a F0 G hr hp => ?_
  obtain ⟨p, l⟩ := a
  have hp : ∀ h ∈ l, h ∈ p.hands := hp
  refine sforN (xs := l) (fun pre ρ1 => ∃ x2, ρ1 = [some (.im (tyP C p)), some (.im (Dt (eL l))), x2]) PassesOwn.never rfl (itTs (xs := l) (f := PyData.str) (dv 1)) ⟨_, rfl⟩ (fun pre h post ρ1 hx ⟨x2, e⟩ => ?_) fun ρ1 ⟨x2, e⟩ => ?_
  · subst e
    exact ⟨_, gn 2 c73.nd, sexp (dcl hr C31 (p, h) (hp h (by rw [hx]; simp)) (pac (dv 0) (pac (dv 2) pa0))) (s0 ⟨_, rfl⟩)⟩
  · subst e
    exact s0 rfl
/-- a family cut to a lot -/
def cutFam (l : List Str) (F : List (List Str)) : List (List Str) := famOf (F.map fun o => o.filter fun x => decide (x ∈ l))
abbrev q77 (Z : Zn) : Sp := spD Z (fun x : List Str × List (List Str) => [Dt (eL x.1), Dt (.tuple (x.2.map eL))]) (fun x => x.2.length ≤ 63 ∧ ∀ l ∈ x.2, l.length ≤ 1000 ∧ SOk l) fun x => Dt (.tuple ((cutFam x.1 x.2).map eL))
theorem ok77 (V : Gv mg) (D : Dn K mg "cut_family" s77 ["lot", "family"]) (C16 : Okd P w K mg base "lot_meet" 1 (q16 ⟨tb, qn, none⟩)) (C60 : Okd P w K mg base "family_of" 2 (q60 ⟨tb, qn, none⟩)) : Okd P w K mg base "cut_family" 3 (q77 ⟨tb, qn, none⟩) := by
  refine okD D c77 (fun _ => rfl) (by decide) fun f cdv A outer s H E a F0 G hr hp => ?_
  obtain ⟨l, F⟩ := a
  obtain ⟨h1, h2⟩ := hp
  have h1 : F.length ≤ 63 := h1
  have h2 : ∀ o ∈ F, o.length ≤ 1000 ∧ SOk o := h2
  have e1 : (F.filter fun _ => true).map (fun o => eL (o.filter fun x => decide (x ∈ l))) = (F.map fun o => o.filter fun x => decide (x ∈ l)).map eL := by
    rw [filt, List.map_map]
    rfl
  refine sret (dcl hr C60 (F.map fun o => o.filter fun x => decide (x ∈ l)) ⟨by rw [List.length_map]; exact h1, fun o ho => ?_⟩ (pac (dis (nL (lcD (dlc (own := [("other", 2)]) (f := fun _ => true) (g := fun o => eL (o.filter fun x => decide (x ∈ l))) rfl c77.nd (itTs (xs := F) (f := eL) (dv 1)) (blkOk_by (N := n77) (sc := defScope s77) (by decide +kernel))
    (fun _ _ _ _ _ x _ => gn 2 c77.nd) (fun _ _ _ _ _ x _ => pt0) (fun _ _ _ _ _ o ho _ => dcl hr C16 (o, l) (h2 o ho).1 (pac (dv 2) (pac (dv 0) pa0))) (by omega)))) (congrArg PyData.list e1)) pa0)) rfl
  obtain ⟨q, hq, rfl⟩ := List.mem_map.mp ho
  have := List.length_filter_le (fun x => decide (x ∈ l)) q
  have h3 := (h2 q hq).1
  exact ⟨by omega, fun x hx => (h2 q hq).2 x (List.mem_filter.mp hx).1⟩
end
end Kb
end TWm
section TWn
set_option Elab.async false
set_option autoImplicit false
set_option linter.all false
set_option maxRecDepth 100000
set_option maxHeartbeats 4000000
/-! Wn: levels behind a lot. -/
namespace Kb
open PySem PySem.Spec PyProof.Rows L2 PySem.W
/-- the rows behind a lot: its orders, then one hand more -/
def rowsOf (l las : List Str) : List (List Str) := (ords l l.length).flatMap fun r => las.map fun h => r ++ [h]
def courtRows (p : Pc) (F : List (List Str)) : List (List Str) := ksrt ((allLots F).flatMap fun l => rowsOf l (p.hands.filter fun h => !decide (h ∈ l)))
/-- the highest of naturals -/
def mx (l : List Nat) : Nat := l.foldl max 0
/-- the highest level behind a lot, its last hand h -/
def lvB (p : Pc) : Nat → List Str → Str → Nat
  | 0, _, _ => 0
  | n + 1, l, h => if (l.filter fun x => !decide (x ∈ [h])) = [] then mx (p.ready.map fun x => nextLevel p.ns h x) else mx ((l.filter fun x => !decide (x ∈ [h])).map fun o => lvAfter p.ns h o (lvB p n (l.filter fun x => !decide (x ∈ [h])) o))
def levB (p : Pc) (l : List Str) (h : Str) : Nat := lvB p l.length l h
theorem mx_go : ∀ (l : List Nat) (a : Nat), a ≤ l.foldl max a ∧ (∀ y ∈ l, y ≤ l.foldl max a) ∧ (l.foldl max a = a ∨ l.foldl max a ∈ l)
  | [], a => ⟨Nat.le_refl _, fun y h => (by cases h), .inl rfl⟩
  | x :: l, a => by
    obtain ⟨h1, h2, h3⟩ := mx_go l (max a x)
    show a ≤ l.foldl max (max a x) ∧ (∀ y ∈ x :: l, y ≤ l.foldl max (max a x)) ∧ (l.foldl max (max a x) = a ∨ l.foldl max (max a x) ∈ x :: l)
    refine ⟨by omega, fun y hy => ?_, ?_⟩
    · rcases List.mem_cons.mp hy with e | e
      · rw [e]
        omega
      · exact h2 y e
    · rcases h3 with e | e
      · rw [e]
        by_cases hx : x ≤ a
        · exact .inl (by omega)
        · exact .inr (by rw [show max a x = x by omega]; exact List.mem_cons_self)
      · exact .inr (List.mem_cons_of_mem _ e)
theorem mx_le {l : List Nat} {y : Nat} (h : y ∈ l) : y ≤ mx l := (mx_go l 0).2.1 y h
theorem mx_mem {l : List Nat} (h : l ≠ []) : mx l ∈ l := by
  rcases (mx_go l 0).2.2 with e | e
  · cases l with
    | nil => exact absurd rfl h
    | cons x l =>
      have h1 := mx_le (l := x :: l) List.mem_cons_self
      have h2 : mx (x :: l) = 0 := e
      have h3 : x = 0 := by omega
      rw [h2, h3]
      exact List.mem_cons_self
  · exact e
theorem dmaxN {X : Cx} {Z : Zn} {ρ : En} {a : Expr} {p pos : Pos} {l : List Nat} (T : Bi X.mg) (hc : X.calm = true) (h0 : l ≠ []) (ha : PE X a (tO Z ρ (mL (iL l)).od)) (hg : Gl X "max" := by rfl) (hs : starEach [a] X.env = (false, eval a X.env) :: starEach [] X.env := by rfl) : PE X (.Call (.Name "max" p) [a] [] pos) (tD Z ρ (.int (mx l : Nat))) := by
  have e : iL l = (l.map fun n : Nat => (n : Int)).map .int := by
    unfold iL
    rw [List.map_map]
    rfl
  rw [e] at ha
  refine dmax T hc ha (by rw [List.length_map]; exact List.length_pos_iff.mpr h0) (fun m hm hy => ?_) hg hs
  obtain ⟨n, hn, rfl⟩ := List.mem_map.mp hm
  have h1 := hy _ (List.mem_map.mpr ⟨_, mx_mem h0, rfl⟩)
  have h2 := mx_le hn
  omega
section
variable {P : Program} {w : World} {K : PySem.W.Frag} {mg : Str → Option Value} {base : Heap} {tb : Addr} {qn : Str} {C : Addr}
def lessH (l : List Str) (h : Str) : List Str := l.filter fun x => !decide (x ∈ [h])
/-- the levels known so far -/
def LvK (p : Pc) (kvs : List (NestedKey × PyData)) (l : List Str) (h : Str) : Prop := ∀ o ∈ lessH l h, lookN kvs (kPair (lessH l h) o) = some (.int (levB p (lessH l h) o : Nat))
abbrev q67 (P : Program) (w : World) (C : Addr) (Z : Zn) : Sp := spD Z (fun x : Pc × List (NestedKey × PyData) × List Str × Str => [tyP C x.1, tyD P w x.2.1, Dt (eL x.2.2.1), Dt (.str x.2.2.2)]) (fun x => Pok x.1 ∧ x.1.ready ≠ [] ∧ (∀ r ∈ x.1.ready, r ∈ names x.1.ns) ∧ x.2.2.1.Nodup ∧ (∀ h ∈ x.2.2.1, h ∈ x.1.hands) ∧ x.2.2.2 ∈ x.2.2.1 ∧ SOk x.2.2.1 ∧ LvK x.1 x.2.1 x.2.2.1 x.2.2.2) fun x => Dt (.int (levB x.1 x.2.2.1 x.2.2.2 : Nat))
theorem lessH_len {l : List Str} {h : Str} (nd : l.Nodup) (hm : h ∈ l) : l.length = (lessH l h).length + 1 := by
  have e : lessH l h = l.erase h := by
    unfold lessH
    rw [nd.erase_eq_filter]
    refine List.filter_congr fun x _ => ?_
    by_cases z : x = h <;> simp [z]
  rw [e, List.length_erase_of_mem hm]
  have := List.length_pos_of_mem hm
  omega
theorem levB_eq {p : Pc} {l : List Str} {h : Str} (nd : l.Nodup) (hm : h ∈ l) : levB p l h = if lessH l h = [] then mx (p.ready.map fun x => nextLevel p.ns h x) else mx ((lessH l h).map fun o => lvAfter p.ns h o (levB p (lessH l h) o)) := by
  have e := lessH_len nd hm
  unfold levB
  rw [e]
  rfl
theorem ok67 (V : Gv mg) (D : Dn K mg "level_behind" s67 ["pact", "levels", "lot", "hand"]) (C17 : Okd P w K mg base "lot_less" 1 (q17 ⟨tb, qn, none⟩)) (C44 : Okd P w K mg base "next_level" 2 (q44 C ⟨tb, qn, none⟩)) (C66 : Okd P w K mg base "level_after" 4 (q66 C ⟨tb, qn, none⟩)) (k : PKl K C) : Okd P w K mg base "level_behind" 5 (q67 P w C ⟨tb, qn, none⟩) := by
  refine okD D c67 (fun _ => rfl) (by decide) fun f cdv A outer s H E a F0 G hr hp => ?_
  obtain ⟨p, kvs, l, h⟩ := a
  obtain ⟨h1, h2, h3, h4, h5, h6, h7, h8⟩ := hp
  have h1 : Pok p := h1
  have h2 : p.ready ≠ [] := h2
  have h3 : ∀ r ∈ p.ready, r ∈ names p.ns := h3
  have h4 : l.Nodup := h4
  have h5 : ∀ h ∈ l, h ∈ p.hands := h5
  have h6 : h ∈ l := h6
  have h7 : SOk l := h7
  have h8 : LvK p kvs l h := h8
  have ll : l.length ≤ 6 := Nat.le_trans (nodup_sub_len h4 h5) h1.hl
  have lr : (lessH l h).length ≤ 6 := Nat.le_trans (List.length_filter_le _ _) ll
  have rl := h1.rl
  have hl6 := h1.hl
  have sr : SOk (lessH l h) := fun x hx => h7 x (List.mem_filter.mp hx).1
  have e0 := levB_eq (p := p) h4 h6
  refine sset (t := Dt (eL (lessH l h))) 4 c67.nd (dcl hr C17 (l, [h]) (show l.length ≤ 1000 by omega) (pac (dv 2) (pac (dtup (ds := [.str h]) (pac (dv 3) pa0) (Nat.le_of_ble_eq_true rfl)) pa0))) ?_
  refine sif (Ψ := ⟨fun ρ' => lessH l h ≠ [] ∧ ρ' = [some (.im (tyP C p)), some (.im (tyD P w kvs)), some (.im (Dt (eL l))), some (.im (Dt (.str h))), some (.im (Dt (eL (lessH l h)))), none, none], _, _, _⟩)
    (ptis (peqD (d := eL (lessH l h)) (d' := eL []) hr.u64 (shaped_lot sr) rfl (bo (dv 4)) (bo (dtup (ds := []) pa0))) (eqv_lot _ _)) (fun hb => ?_) (fun hb => ?_) fun ρ' ⟨z, e⟩ => ?_
  · have hb := of_decide_eq_true hb.symm
    rw [if_pos hb] at e0
    refine sret (dmaxN V.bi rfl (l := p.ready.map fun x => nextLevel p.ns h x) (by simpa using h2) (nV (lcD (LcOk.imp (dlc (own := [("note", 5)]) (f := fun _ => true) (g := fun x => .int (nextLevel p.ns h x : Nat)) rfl c67.nd (itTs (xs := p.ready) (f := PyData.str) (pReady k (dv 0))) (blkOk_by (N := n67) (sc := defScope s67) (by decide +kernel))
      (fun _ _ _ _ _ x _ => gn 5 c67.nd) (fun _ _ _ _ _ x _ => pt0) (fun _ _ _ _ _ x hx _ => dcl hr C44 (p, h, x) ⟨h1, h5 h h6, h3 x hx⟩ (pac (dv 0) (pac (dv 3) (pac (dv 5) pa0)))) (by omega)) fun acc ea => ?_)))) ?_
    · rw [ea, filt]
      unfold iL
      rw [List.map_map]
      rfl
    · show Dt _ = Dt _
      rw [e0]
  · exact s0 ⟨of_decide_eq_false hb.symm, rfl⟩
  · subst e
    rw [if_neg z] at e0
    refine sret (dmaxN V.bi rfl (l := (lessH l h).map fun o => lvAfter p.ns h o (levB p (lessH l h) o)) (by simpa using z) (nV (lcD (LcOk.imp (dlc (own := [("other", 6)]) (f := fun _ => true) (g := fun o => .int (lvAfter p.ns h o (levB p (lessH l h) o) : Nat)) rfl c67.nd (itTs (xs := lessH l h) (f := PyData.str) (dv 4)) (blkOk_by (N := n67) (sc := defScope s67) (by decide +kernel))
      (fun _ _ _ _ _ x _ => gn 6 c67.nd) (fun _ _ _ _ _ x _ => pt0) (fun _ _ _ _ _ o ho _ => dcl hr C66 (p, h, o, levB p (lessH l h) o) ⟨h1, h5 h h6, h5 o (List.mem_filter.mp ho).1⟩ (pac (dv 0) (pac (dv 3) (pac (dv 6) (pac (dgetN hr.u64 (vN (dv 1)) (dis (dtup (ds := [eL (lessH l h), .str o]) (pac (dv 4) (pac (dv 6) pa0)) (Nat.le_of_ble_eq_true rfl)) (data_pair _ _).symm) trivial (depth_kPair _ _) (h8 o ho)) pa0))))) (by omega)) fun acc ea => ?_)))) ?_
    · rw [ea, filt]
      unfold iL
      rw [List.map_map]
      rfl
    · show Dt _ = Dt _
      rw [e0]
end
end Kb
end TWn
section TPe
set_option Elab.async false
set_option autoImplicit false
set_option linter.all false
set_option maxRecDepth 100000
/-! Pe: lots in order, plain. -/
namespace Kb
open PySem PySem.Spec PyProof.Rows L2 PySem.W
theorem ksrt_perm (ls : List (List Str)) : (ksrt ls).Perm ls := List.mergeSort_perm _ _
theorem mem_ksrt {ls : List (List Str)} {x : List Str} : x ∈ ksrt ls ↔ x ∈ ls := (ksrt_perm ls).mem_iff
theorem len_ksrt (ls : List (List Str)) : (ksrt ls).length = ls.length := (ksrt_perm ls).length_eq
theorem ksrt_le (ls : List (List Str)) : (ksrt ls).Pairwise fun a b => dLe (kOf a) (kOf b) = true :=
  List.pairwise_mergeSort (le := fun a b => dLe (kOf a) (kOf b)) (fun a b c => dLe_trans (kOf a) (kOf b) (kOf c)) (fun a b => dLe_total (kOf a) (kOf b)) ls
theorem kOf_len {a b : List Str} (h : dLe (kOf a) (kOf b) = true) : a.length ≤ b.length := by
  have := dLe_pair h
  omega
/-- a shorter one comes ahead -/
theorem ksrt_ahead {ls pre post : List (List Str)} {q r : List Str} (e : ksrt ls = pre ++ q :: post) (hr : r ∈ ls) (hl : r.length < q.length) : r ∈ pre := by
  have hm := mem_ksrt.mpr hr
  rw [e] at hm
  rcases List.mem_append.mp hm with h | h
  · exact h
  · exfalso
    rcases List.mem_cons.mp h with z | z
    · rw [z] at hl
      omega
    · have pw := ksrt_le ls
      rw [e] at pw
      have := (List.pairwise_cons.mp (List.pairwise_append.mp pw).2.1).1 r z
      have := kOf_len this
      omega
theorem parts_nodup {l : List Str} (h : l.Nodup) : (parts l).Nodup := by
  revert h
  refine snocInd (p := fun l => l.Nodup → (parts l).Nodup) (fun _ => List.nodup_cons.mpr ⟨by simp, List.nodup_nil⟩) (fun l x ih h => ?_) l
  have h1 := List.nodup_append.mp h
  rw [parts_snoc]
  refine List.nodup_append.mpr ⟨ih h1.1, ?_, fun a ha b hb e => ?_⟩
  · refine List.Pairwise.map _ (fun a b ne z => ne ?_) (ih h1.1)
    exact List.append_cancel_right z
  · obtain ⟨q, _, rfl⟩ := List.mem_map.mp hb
    have hs := (parts_sub l a ha).subset
    rw [e] at hs
    have hx : x ∈ l := hs (by simp)
    exact h1.2.2 x hx x (List.mem_singleton.mpr rfl) rfl
theorem lookN_fun {β : Type} {k : NestedKey} {v : β} : ∀ {s : List (NestedKey × β)}, (∀ e ∈ s, e.1 = k → e.2 = v) → (∃ e ∈ s, e.1 = k) → lookN s k = some v
  | [], _, h => by
    obtain ⟨e, he, _⟩ := h
    cases he
  | (y, b) :: r, h1, h2 => by
    rw [lookN]
    by_cases e : y = k
    · rw [if_pos e, ← h1 (y, b) List.mem_cons_self e]
    · rw [if_neg e]
      refine lookN_fun (fun e he => h1 e (List.mem_cons_of_mem _ he)) ?_
      obtain ⟨e', he, hk⟩ := h2
      rcases List.mem_cons.mp he with z | z
      · rw [z] at hk
        exact absurd hk e
      · exact ⟨e', z, hk⟩
theorem lookN_non {β : Type} {k : NestedKey} : ∀ {s : List (NestedKey × β)}, (∀ e ∈ s, e.1 ≠ k) → lookN s k = none
  | [], _ => rfl
  | (y, b) :: r, h => by
    rw [lookN, if_neg (h (y, b) List.mem_cons_self)]
    exact lookN_non fun e he => h e (List.mem_cons_of_mem _ he)
theorem putN_new {β : Type} {k : NestedKey} {b : β} : ∀ {s : List (NestedKey × β)}, (∀ e ∈ s, e.1 ≠ k) → putN s k b = s ++ [(k, b)]
  | [], _ => rfl
  | (y, c) :: r, h => by
    rw [putN, if_neg (h (y, c) List.mem_cons_self), putN_new fun e he => h e (List.mem_cons_of_mem _ he)]
    rfl
end Kb
end TPe
section TWo
set_option Elab.async false
set_option autoImplicit false
set_option linter.all false
set_option maxRecDepth 100000
set_option maxHeartbeats 4000000
/-! Wo: the highest levels. -/
namespace Kb
open PySem PySem.Spec PyProof.Rows L2 PySem.W
def hiQ (p : Pc) (q hs : List Str) : List (NestedKey × PyData) := hs.map fun h => (kPair q h, .int (levB p q h : Nat))
def hiP (p : Pc) (ls : List (List Str)) : List (NestedKey × PyData) := ls.flatMap fun q => hiQ p q q
theorem mem_hiQ {p : Pc} {q hs : List Str} {e : NestedKey × PyData} : e ∈ hiQ p q hs ↔ ∃ h ∈ hs, e = (kPair q h, .int (levB p q h : Nat)) := by
  unfold hiQ
  rw [List.mem_map]
  constructor
  · rintro ⟨h, h1, h2⟩
    exact ⟨h, h1, h2.symm⟩
  · rintro ⟨h, h1, h2⟩
    exact ⟨h, h1, h2.symm⟩
theorem mem_hiP {p : Pc} {ls : List (List Str)} {e : NestedKey × PyData} : e ∈ hiP p ls ↔ ∃ q ∈ ls, ∃ h ∈ q, e = (kPair q h, .int (levB p q h : Nat)) := by
  unfold hiP
  rw [List.mem_flatMap]
  constructor
  · rintro ⟨q, h1, h2⟩
    exact ⟨q, h1, mem_hiQ.mp h2⟩
  · rintro ⟨q, h1, h2⟩
    exact ⟨q, h1, mem_hiQ.mpr h2⟩
theorem hiP_len (p : Pc) : ∀ ls : List (List Str), (∀ q ∈ ls, q.length ≤ 6) → (hiP p ls).length ≤ ls.length * 6
  | [], _ => Nat.zero_le _
  | q :: ls, h => by
    have h1 := hiP_len p ls fun x hx => h x (List.mem_cons_of_mem _ hx)
    have h2 := h q List.mem_cons_self
    unfold hiP at *
    rw [List.flatMap_cons, List.length_append, List.length_cons]
    unfold hiQ at *
    rw [List.length_map]
    omega
/-- what a table of levels tells -/
theorem hi_look {p : Pc} {ls : List (List Str)} {ex : List (NestedKey × PyData)} {q : List Str} {h : Str} (hq : q ∈ ls) (hh : h ∈ q) (hx : ∀ e ∈ ex, ∃ q h, e = (kPair q h, .int (levB p q h : Nat))) : lookN (hiP p ls ++ ex) (kPair q h) = some (.int (levB p q h : Nat)) := by
  refine lookN_fun (fun e he hk => ?_) ⟨(kPair q h, .int (levB p q h : Nat)), List.mem_append_left _ (mem_hiP.mpr ⟨q, hq, h, hh, rfl⟩), rfl⟩
  have key : ∃ q h, e = (kPair q h, .int (levB p q h : Nat)) := by
    rcases List.mem_append.mp he with z | z
    · obtain ⟨q, _, h, _, e⟩ := mem_hiP.mp z
      exact ⟨q, h, e⟩
    · exact hx e z
  obtain ⟨q', h', rfl⟩ := key
  obtain ⟨rfl, rfl⟩ := kPair_inj hk
  rfl
section
variable {P : Program} {w : World} {K : PySem.W.Frag} {mg : Str → Option Value} {base : Heap} {tb : Addr} {C : Addr}
abbrev lamN : Str := "lots_in_order.<locals>.<lambda>"
abbrev q68 (P : Program) (w : World) (C : Addr) (Z : Zn) : Sp := spD Z (fun x : Pc × List Str => [tyP C x.1, Dt (eL x.2)]) (fun x => Pok x.1 ∧ x.1.ready ≠ [] ∧ (∀ r ∈ x.1.ready, r ∈ names x.1.ns) ∧ x.2.Nodup ∧ (∀ h ∈ x.2, h ∈ x.1.hands) ∧ SOk x.2) fun x => tyD P w (hiP x.1 (ksrt (parts x.2)))
theorem ok68 (V : Gv mg) (D : Dn K mg "highest_levels" s68 ["pact", "lot"]) (C57 : Okd P w K mg base "lot_parts" 1 (q57 ⟨tb, lamN, none⟩)) (C58 : Okd P w K mg base "lots_in_order" 3 (q58 ⟨tb, lamN, none⟩)) (C67 : Okd P w K mg base "level_behind" 5 (q67 P w C ⟨tb, lamN, none⟩)) : Okd P w K mg base "highest_levels" 6 (q68 P w C ⟨tb, lamN, none⟩) := by
  refine okD D c68 (fun _ => rfl) (by decide) fun f cdv A outer s H E a F0 G hr hp => ?_
  obtain ⟨p, l⟩ := a
  obtain ⟨h1, h2, h3, h4, h5, h6⟩ := hp
  have h1 : Pok p := h1
  have h2 : p.ready ≠ [] := h2
  have h3 : ∀ r ∈ p.ready, r ∈ names p.ns := h3
  have h4 : l.Nodup := h4
  have h5 : ∀ h ∈ l, h ∈ p.hands := h5
  have h6 : SOk l := h6
  have ll : l.length ≤ 6 := Nat.le_trans (nodup_sub_len h4 h5) h1.hl
  have pn : (parts l).length ≤ 64 := by
    rw [parts_len]
    exact Nat.pow_le_pow_right (n := 2) (by decide) ll
  have kn := len_ksrt (parts l)
  have knd : (ksrt (parts l)).Nodup := (ksrt_perm _).nodup_iff.mpr (parts_nodup h4)
  refine ssetN 2 c68.nd dnewN ?_
  refine sforN (xs := ksrt (parts l)) (fun pre ρ1 => ∃ x3 x4, ρ1 = [some (.im (tyP C p)), some (.im (Dt (eL l))), some (.mu (mD P w (hiP p pre))), x3, x4]) PassesOwn.never rfl
    (itTs (xs := ksrt (parts l)) (f := eL) (dcl hr C58 (parts l) ⟨by omega, fun x hx => by have := (parts_sub l x hx).length_le; omega⟩ (pac (dcl hr C57 l (show l.length ≤ 8 by omega) (pac (dv 1) pa0)) pa0))) ⟨_, _, rfl⟩ (fun pre q post ρ1 hx ⟨x3, x4, e⟩ => ?_) fun ρ1 ⟨x3, x4, e⟩ => ?_
  · subst e
    have hq : q ∈ parts l := mem_ksrt.mp (by rw [hx]; simp)
    have qs := parts_sub l q hq
    have qn : q.Nodup := qs.nodup h4
    have qnp : q ∉ pre := fun hm => by
      rw [hx] at knd
      exact (List.nodup_append.mp knd).2.2 _ hm _ List.mem_cons_self rfl
    refine ⟨_, gn 3 c68.nd, ?_⟩
    refine sforN (xs := q) (fun pre2 ρ1 => ∃ x4, ρ1 = [some (.im (tyP C p)), some (.im (Dt (eL l))), some (.mu (mD P w (hiP p pre ++ hiQ p q pre2))), some (.im (Dt (eL q))), x4]) PassesOwn.never rfl (itTs (xs := q) (f := PyData.str) (dv 3)) ?_ (fun pre2 h post2 ρ2 hh ⟨x4, e⟩ => ?_) fun ρ2 ⟨x4, e⟩ => ?_
    · rw [show hiQ p q [] = [] from rfl, List.append_nil]
      exact ⟨_, rfl⟩
    · subst e
      have hm : h ∈ q := by rw [hh]; simp
      have hn : h ∉ pre2 := fun z => by
        rw [hh] at qn
        exact (List.nodup_append.mp qn).2.2 _ z _ List.mem_cons_self rfl
      have nw : ∀ e ∈ hiP p pre ++ hiQ p q pre2, e.1 ≠ kPair q h := fun e he z => by
        rcases List.mem_append.mp he with y | y
        · obtain ⟨q', k1, h', _, rfl⟩ := mem_hiP.mp y
          obtain ⟨rfl, _⟩ := kPair_inj z
          exact qnp k1
        · obtain ⟨h', k1, rfl⟩ := mem_hiQ.mp y
          obtain ⟨_, rfl⟩ := kPair_inj z
          exact hn k1
      have ahead : lessH q h ∈ pre := ksrt_ahead hx (sub_parts l _ (List.filter_sublist.trans qs)) (by have := lessH_len qn hm; omega)
      have lk : LvK p (hiP p pre ++ hiQ p q pre2) q h := fun o ho => hi_look ahead ho fun e he => by
        obtain ⟨h', _, e⟩ := mem_hiQ.mp he
        exact ⟨q, h', e⟩
      refine ⟨_, gn 4 c68.nd, ?_⟩
      refine sputN 2 (k := kPair q h) (d := .int (levB p q h : Nat)) hr.u64 (dclB hr C67 (p, hiP p pre ++ hiQ p q pre2, q, h) ⟨h1, h2, h3, qn, fun x hx => h5 x (qs.subset hx), hm, fun x hx => h6 x (qs.subset hx), lk⟩ (flat_int _) (pac (bo (dv 0)) (pac (dvbN 2) (pac (bo (dv 3)) (pac (bo (dv 4)) pa0)))))
        (dis (dtup (ds := [eL q, .str h]) (pac (dv 3) (pac (dv 4) pa0)) (Nat.le_of_ble_eq_true rfl)) (data_pair _ _).symm) trivial (depth_kPair _ _) ?_ (s0 ?_)
      · have b1 := hiP_len p pre fun x hx' => by
          have := (parts_sub l x (mem_ksrt.mp (by rw [hx]; exact List.mem_append_left _ hx'))).length_le
          omega
        have b2 := congrArg List.length hx
        have b3 := congrArg List.length hh
        have b4 := qs.length_le
        rw [List.length_append, List.length_cons] at b2 b3
        rw [List.length_append]
        unfold hiQ
        rw [List.length_map]
        omega
      · rw [putN_new nw, List.append_assoc]
        have e2 : hiQ p q pre2 ++ [(kPair q h, PyData.int ((levB p q h : Nat) : Int))] = hiQ p q (pre2 ++ [h]) := by
          unfold hiQ
          rw [List.map_append]
          rfl
        rw [e2]
        exact ⟨_, rfl⟩
    · subst e
      refine s0 ?_
      have e2 : hiP p pre ++ hiQ p q q = hiP p (pre ++ [q]) := by
        unfold hiP
        rw [List.flatMap_append, List.flatMap_cons, List.flatMap_nil, List.append_nil]
      rw [e2]
      exact ⟨_, _, rfl⟩
  · subst e
    exact sfrz 2 rfl (frzN _) (sret (dv 2) rfl)
end
end Kb
end TWo
section TPf
set_option Elab.async false
set_option autoImplicit false
set_option linter.all false
set_option maxRecDepth 100000
/-! Pf: sorted lots, plain. -/
namespace Kb
open PySem PySem.Spec PyProof.Rows L2 PySem.W
theorem dLt_not {a b : PyData} : dataLt a b = true ↔ dLe b a = false := by
  rw [dLe_eq]
  cases dataLt a b <;> simp
theorem dLt_irr (a : PyData) : dataLt a a = false := by
  have := dLe_total a a
  cases h : dataLt a a with
  | false => rfl
  | true =>
    have := dLt_not.mp h
    simp_all
theorem dLt_trans {a b c : PyData} (h : dataLt a b = true) (k : dataLt b c = true) : dataLt a c = true := by
  rw [dLt_not] at *
  cases e : dLe c a with
  | false => rfl
  | true =>
    have h2 : dLe a b = true := by
      have := dLe_total a b
      rw [h, Bool.or_false] at this
      exact this
    rw [dLe_trans c a b e h2] at k
    cases k
theorem dLt_le {a b : PyData} (h : dataLt a b = true) : dLe a b = true := by
  have h1 := dLt_not.mp h
  have := dLe_total a b
  rw [h1, Bool.or_false] at this
  exact this
theorem sub_sorted : ∀ {ys xs : List Str}, ys.Pairwise sLt → xs.Pairwise sLt → (∀ x ∈ xs, x ∈ ys) → xs.Sublist ys
  | [], [], _, _, _ => List.Sublist.refl _
  | [], x :: xs, _, _, h => by cases h x List.mem_cons_self
  | y :: ys, [], _, _, _ => List.nil_sublist _
  | y :: ys, x :: xs, h1, h2, h => by
    have p1 := List.pairwise_cons.mp h1
    have p2 := List.pairwise_cons.mp h2
    by_cases e : x = y
    · subst e
      refine List.Sublist.cons_cons _ (sub_sorted p1.2 p2.2 fun z hz => ?_)
      rcases List.mem_cons.mp (h z (List.mem_cons_of_mem _ hz)) with q | q
      · have := p2.1 z hz
        rw [q] at this
        have h3 : dataLt (.str x) (.str x) = true := this
        rw [dLt_irr] at h3
        cases h3
      · exact q
    · refine List.Sublist.cons _ (sub_sorted p1.2 h2 fun z hz => ?_)
      have hx : x ∈ ys := by
        rcases List.mem_cons.mp (h x List.mem_cons_self) with q | q
        · exact absurd q e
        · exact q
      have yx : dataLt (.str y) (.str x) = true := p1.1 x hx
      rcases List.mem_cons.mp (h z hz) with q | q
      · exfalso
        rcases List.mem_cons.mp hz with r | r
        · exact e (r.symm.trans q)
        · have h3 : dataLt (.str x) (.str z) = true := p2.1 z r
          rw [q] at h3
          have := dLt_trans yx h3
          rw [dLt_irr] at this
          cases this
      · exact q
theorem lotOf_sLt (xs : List Str) : (lotOf xs).Pairwise sLt := lotOf_lt xs
theorem sub_lotOf {xs ys : List Str} (h : xs.Pairwise sLt) (hs : ∀ x ∈ xs, x ∈ ys) : xs.Sublist (lotOf ys) := sub_sorted (lotOf_sLt ys) h fun x hx => mem_lotOf.mpr (hs x hx)
theorem sLt_nodup {xs : List Str} (h : xs.Pairwise sLt) : xs.Nodup := h.imp fun {a b} h e => by
  have h2 : dataLt (.str a) (.str b) = true := h
  rw [e, dLt_irr] at h2
  cases h2
theorem lotOf_of {xs : List Str} (h : xs.Pairwise sLt) : lotOf xs = xs := lotOf_id h
/-- two sorted ones with the same members -/
theorem sorted_ext {xs ys : List Str} (h1 : xs.Pairwise sLt) (h2 : ys.Pairwise sLt) (h : ∀ x, x ∈ xs ↔ x ∈ ys) : xs = ys := by
  have s1 := sub_sorted h2 h1 fun x hx => (h x).mp hx
  have s2 := sub_sorted h1 h2 fun x hx => (h x).mpr hx
  exact s1.eq_of_length_le s2.length_le
theorem flatMap_len {α β : Type} {f : α → List β} {k : Nat} : ∀ {l : List α}, (∀ x ∈ l, (f x).length ≤ k) → (l.flatMap f).length ≤ l.length * k
  | [], _ => Nat.zero_le _
  | x :: l, h => by
    have h1 := flatMap_len (f := f) (k := k) (l := l) fun y hy => h y (List.mem_cons_of_mem _ hy)
    have h2 := h x List.mem_cons_self
    rw [List.flatMap_cons, List.length_append, List.length_cons, Nat.succ_mul]
    omega
end Kb
end TPf
section TWp
set_option Elab.async false
set_option autoImplicit false
set_option linter.all false
set_option maxRecDepth 100000
set_option maxHeartbeats 4000000
/-! Wp: the court's table. -/
namespace Kb
open PySem PySem.Spec PyProof.Rows L2 PySem.W
/-- what the court asks -/
structure Ct (p : Pc) (F : List (List Str)) : Prop where
  pok : Pok p
  rn : p.ready ≠ []
  rr : ∀ r ∈ p.ready, r ∈ names p.ns
  fam : FamOk p.hands F
theorem mem_allLots {F : List (List Str)} {l : List Str} : l ∈ allLots F ↔ ∃ o ∈ F, l.Sublist o := by
  unfold allLots
  rw [mem_ksrt, (fst1_ok _).2, List.mem_flatMap]
  constructor
  · rintro ⟨o, h1, h2⟩
    exact ⟨o, h1, parts_sub o l h2⟩
  · rintro ⟨o, h1, h2⟩
    exact ⟨o, h1, sub_parts o l h2⟩
theorem allLots_nodup (F : List (List Str)) : (allLots F).Nodup := (ksrt_perm _).nodup_iff.mpr (fst1_ok _).1
section
variable {p : Pc} {F : List (List Str)} {l : List Str}
theorem Ct.lt (c : Ct p F) (h : l ∈ allLots F) : l.Pairwise sLt := by
  obtain ⟨o, h1, h2⟩ := mem_allLots.mp h
  exact (c.fam.lot o h1).2.1.sublist h2
theorem Ct.sub (c : Ct p F) (h : l ∈ allLots F) : ∀ x ∈ l, x ∈ p.hands := by
  obtain ⟨o, h1, h2⟩ := mem_allLots.mp h
  exact fun x hx => c.fam.sub o h1 x (h2.subset hx)
theorem Ct.len6 (c : Ct p F) (h : l ∈ allLots F) : l.length ≤ 6 := Nat.le_trans (nodup_sub_len (sLt_nodup (c.lt h)) (c.sub h)) c.pok.hl
theorem Ct.sok (c : Ct p F) : SOk p.hands := fun x hx => (c.pok.hn x hx).ok
theorem Ct.flen (c : Ct p F) : ∀ o ∈ F, o.length ≤ 6 := fun o ho => Nat.le_trans (nodup_sub_len (sLt_nodup (c.fam.lot o ho).2.1) (c.fam.sub o ho)) c.pok.hl
theorem Ct.evr (c : Ct p F) : (lotOf p.hands).length ≤ 6 := Nat.le_trans (len_lotOf _) c.pok.hl
theorem Ct.all64 (c : Ct p F) : (allLots F).length ≤ 64 := by
  have h1 := nodup_sub_len (allLots_nodup F) fun l hl => sub_parts (lotOf p.hands) l (sub_lotOf (c.lt hl) (c.sub hl))
  rw [parts_len] at h1
  exact Nat.le_trans h1 (Nat.pow_le_pow_right (n := 2) (by decide) c.evr)
end
def lasts (p : Pc) (l : List Str) : List Str := (lotOf p.hands).filter fun h => !decide (h ∈ l)
/-- the table's lines: a whole lot, its last hand -/
def tab (p : Pc) (F : List (List Str)) : List (List Str × Str) := (allLots F).flatMap fun l => (lasts p l).map fun h => (lotOf (l ++ [h]), h)
def eT (p : Pc) (x : List Str × Str) : PyData := .tuple [eL x.1, .str x.2, .int (levB p x.1 x.2 : Nat)]
section
variable {P : Program} {w : World} {K : PySem.W.Frag} {mg : Str → Option Value} {base : Heap} {tb : Addr} {C : Addr}
abbrev q69 (C : Addr) (Z : Zn) : Sp := spD Z (fun x : Pc × List (List Str) => [tyP C x.1, Dt (.tuple (x.2.map eL))]) (fun x => Ct x.1 x.2) fun x => Dt (.tuple ((tab x.1 x.2).map (eT x.1)))
theorem ok69 (V : Gv mg) (k : PKl K C) (D : Dn K mg "court_table" s69 ["pact", "family"]) (C14 : Okd P w K mg base "lot_of" 1 (q14 ⟨tb, lamN, none⟩)) (C15 : Okd P w K mg base "lot_union" 1 (q15 ⟨tb, lamN, none⟩)) (C17 : Okd P w K mg base "lot_less" 1 (q17 ⟨tb, lamN, none⟩)) (C55 : Okd P w K mg base "need_family" 5 (q55 C ⟨tb, lamN, none⟩)) (C59 : Okd P w K mg base "all_lots" 4 (q59 ⟨tb, lamN, none⟩))
    (C68 : Okd P w K mg base "highest_levels" 6 (q68 P w C ⟨tb, lamN, none⟩)) : Okd P w K mg base "court_table" 7 (q69 C ⟨tb, lamN, none⟩) := by
  refine okD D c69 (fun _ => rfl) (by decide) fun f cdv A outer s H E a F0 G hr hp => ?_
  obtain ⟨p, F⟩ := a
  have hp : Ct p F := hp
  have hl6 := hp.pok.hl
  have ev6 := hp.evr
  have evn : (lotOf p.hands).Nodup := nodup_lotOf _
  have evs : ∀ h ∈ lotOf p.hands, h ∈ p.hands := fun h hh => mem_lotOf.mp hh
  have evk : SOk (lotOf p.hands) := fun x hx => hp.sok x (evs x hx)
  have a64 := hp.all64
  refine sexp (dcl hr C55 (p, F) hp.fam (pac (dv 0) (pac (dv 1) pa0))) ?_
  refine sset (t := Dt (eL (lotOf p.hands))) 2 c69.nd (dcl hr C14 (.inl (false, p.hands)) (show p.hands.length ≤ 1000 by omega) (pac (vF (pHands k (dv 0))) pa0)) ?_
  refine sset 3 c69.nd (dcl hr C68 (p, lotOf p.hands) ⟨hp.pok, hp.rn, hp.rr, evn, evs, evk⟩ (pac (dv 0) (pac (dv 2) pa0))) ?_
  refine ssetN 4 c69.nd (dlst (ds := []) pa0) ?_
  refine sforN (xs := allLots F) (fun pre ρ1 => ∃ x5 x6 x7, ρ1 = [some (.im (tyP C p)), some (.im (Dt (.tuple (F.map eL)))), some (.im (Dt (eL (lotOf p.hands)))), some (.im (tyD P w (hiP p (ksrt (parts (lotOf p.hands)))))), some (.mu (mL ((pre.flatMap fun l => (lasts p l).map fun h => (lotOf (l ++ [h]), h)).map (eT p)))), x5, x6, x7]) PassesOwn.never rfl
    (itTs (xs := allLots F) (f := eL) (dcl hr C59 F ⟨hp.fam.len, fun l hl => Nat.le_trans (hp.flen l hl) (by decide)⟩ (pac (dv 1) pa0))) ⟨_, _, _, rfl⟩ (fun pre l post ρ1 hx ⟨x5, x6, x7, e⟩ => ?_) fun ρ1 ⟨x5, x6, x7, e⟩ => ?_
  · subst e
    have hl : l ∈ allLots F := by rw [hx]; simp
    have l6 := hp.len6 hl
    refine ⟨_, gn 5 c69.nd, ?_⟩
    refine sforN (xs := lasts p l) (fun pre2 ρ1 => ∃ x6 x7, ρ1 = [some (.im (tyP C p)), some (.im (Dt (.tuple (F.map eL)))), some (.im (Dt (eL (lotOf p.hands)))), some (.im (tyD P w (hiP p (ksrt (parts (lotOf p.hands)))))), some (.mu (mL ((pre.flatMap fun l => (lasts p l).map fun h => (lotOf (l ++ [h]), h)).map (eT p) ++ (pre2.map fun h => (lotOf (l ++ [h]), h)).map (eT p)))), some (.im (Dt (eL l))), x6, x7]) PassesOwn.never rfl
      (itTs (xs := lasts p l) (f := PyData.str) (dcl hr C17 (lotOf p.hands, l) (show (lotOf p.hands).length ≤ 1000 by omega) (pac (dv 2) (pac (dv 5) pa0)))) ?_ (fun pre2 h post2 ρ2 hh ⟨x6, x7, e⟩ => ?_) fun ρ2 ⟨x6, x7, e⟩ => ?_
    · rw [List.map_nil, List.map_nil, List.append_nil]
      exact ⟨_, _, rfl⟩
    · subst e
      have hm : h ∈ lasts p l := by rw [hh]; simp
      have hm2 := List.mem_filter.mp hm
      have wsub : ∀ x ∈ lotOf (l ++ [h]), x ∈ p.hands := fun x hx => by
        rcases List.mem_append.mp (mem_lotOf.mp hx) with z | z
        · exact hp.sub hl x z
        · rw [List.mem_singleton.mp z]
          exact evs h hm2.1
      have wpart : lotOf (l ++ [h]) ∈ parts (lotOf p.hands) := sub_parts _ _ (sub_lotOf (lotOf_sLt _) wsub)
      have wh : h ∈ lotOf (l ++ [h]) := mem_lotOf.mpr (by simp)
      have lk : lookN (hiP p (ksrt (parts (lotOf p.hands)))) (kPair (lotOf (l ++ [h])) h) = some (.int (levB p (lotOf (l ++ [h])) h : Nat)) := by
        have := hi_look (p := p) (ex := []) (mem_ksrt.mpr wpart) wh (fun e he => by cases he)
        rw [List.append_nil] at this
        exact this
      refine ⟨_, gn 6 c69.nd, ?_⟩
      refine sset (t := Dt (eL (lotOf (l ++ [h])))) 7 c69.nd (dcl hr C15 (l, [h]) ⟨show l.length ≤ 1000 by omega, by show 1 ≤ 1000; decide⟩ (pac (dv 5) (pac (dtup (ds := [.str h]) (pac (dv 6) pa0) (Nat.le_of_ble_eq_true rfl)) pa0))) ?_
      refine sapp 4 (d := eT p (lotOf (l ++ [h]), h)) (dtup (ds := [eL (lotOf (l ++ [h])), .str h, .int (levB p (lotOf (l ++ [h])) h : Nat)]) (pac (dv 7) (pac (dv 6) (pac (dgetN hr.u64 (vN (dv 3)) (dis (dtup (ds := [eL (lotOf (l ++ [h])), .str h]) (pac (dv 7) (pac (dv 6) pa0)) (Nat.le_of_ble_eq_true rfl)) (data_pair _ _).symm) trivial (depth_kPair _ _) lk) pa0))) (Nat.le_of_ble_eq_true rfl)) (s0 ?_) ?_
      · have e2 : (pre2.map fun h => (lotOf (l ++ [h]), h)).map (eT p) ++ [eT p (lotOf (l ++ [h]), h)] = ((pre2 ++ [h]).map fun h => (lotOf (l ++ [h]), h)).map (eT p) := by
          rw [List.map_append, List.map_append]
          rfl
        rw [List.append_assoc, e2]
        exact ⟨_, _, rfl⟩
      · have b1 := flatMap_len (f := fun l => (lasts p l).map fun h => (lotOf (l ++ [h]), h)) (k := 6) (l := pre) fun x _ => by
          rw [List.length_map]
          exact Nat.le_trans (List.length_filter_le _ _) ev6
        have b2 := congrArg List.length hx
        have b3 := congrArg List.length hh
        have b4 : (lasts p l).length ≤ 6 := Nat.le_trans (List.length_filter_le _ _) ev6
        rw [List.length_append, List.length_cons] at b2 b3
        rw [List.length_append, List.length_map, List.length_map, List.length_map]
        omega
    · subst e
      refine s0 ?_
      rw [List.flatMap_append, List.flatMap_cons, List.flatMap_nil, List.append_nil, List.map_append]
      exact ⟨_, _, _, rfl⟩
  · subst e
    exact sret (dtupL V.bi (dvm 4)) rfl
end
end Kb
end TWp
section TPg
set_option Elab.async false
set_option autoImplicit false
set_option linter.all false
set_option maxRecDepth 100000
/-! Pg: rows of hands, plain. -/
namespace Kb
open PySem PySem.Spec PyProof.Rows L2 PySem.W
theorem ords_mem {l : List Str} : ∀ {n : Nat} {r : List Str}, r ∈ ords l n ↔ r.length = n ∧ r.Nodup ∧ ∀ x ∈ r, x ∈ l
  | 0, r => by
    show r ∈ [[]] ↔ _
    rw [List.mem_singleton]
    constructor
    · rintro rfl
      exact ⟨rfl, List.nodup_nil, fun x hx => by cases hx⟩
    · rintro ⟨h, _⟩
      exact List.eq_nil_of_length_eq_zero h
  | n + 1, r => by
    show r ∈ longer l (ords l n) ↔ _
    unfold longer
    rw [List.mem_flatMap]
    constructor
    · rintro ⟨q, hq, hr⟩
      obtain ⟨x, hx, rfl⟩ := List.mem_map.mp hr
      obtain ⟨h1, h2, h3⟩ := ords_mem.mp hq
      have hx := List.mem_filter.mp hx
      have hn : x ∉ q := by simpa using hx.2
      refine ⟨by rw [List.length_append, h1]; rfl, List.nodup_append.mpr ⟨h2, by simp, fun a ha b hb e => hn ?_⟩, fun y hy => ?_⟩
      · rw [← List.mem_singleton.mp hb, ← e]
        exact ha
      · rcases List.mem_append.mp hy with z | z
        · exact h3 y z
        · rw [List.mem_singleton.mp z]
          exact hx.1
    · rintro ⟨h1, h2, h3⟩
      rcases List.eq_nil_or_concat r with z | ⟨q, x, z⟩
      · rw [z] at h1
        cases h1
      · rw [List.concat_eq_append] at z
        subst z
        rw [List.length_append, List.length_singleton] at h1
        have nd := List.nodup_append.mp h2
        refine ⟨q, ords_mem.mpr ⟨by omega, nd.1, fun y hy => h3 y (List.mem_append_left _ hy)⟩, List.mem_map.mpr ⟨x, List.mem_filter.mpr ⟨h3 x (by simp), ?_⟩, rfl⟩⟩
        have : x ∉ q := fun z => nd.2.2 x z x (by simp) rfl
        simpa using this
theorem len_filt {α : Type} (f : α → Bool) : ∀ l : List α, (l.filter f).length + (l.filter fun x => !f x).length = l.length
  | [] => rfl
  | x :: l => by
    have ih := len_filt f l
    rw [List.filter_cons, List.filter_cons, List.length_cons]
    cases f x with
    | true =>
      simp only [if_true, List.length_cons, Bool.not_true, Bool.false_eq_true, if_false]
      omega
    | false =>
      simp only [if_true, List.length_cons, Bool.not_false, Bool.false_eq_true, if_false]
      omega
/-- how many of l are not in r -/
theorem len_out {l r : List Str} (nl : l.Nodup) (nr : r.Nodup) (h : ∀ x ∈ r, x ∈ l) : (l.filter fun x => !decide (x ∈ r)).length + r.length = l.length := by
  have h1 := len_filt (fun x => decide (x ∈ r)) l
  have h2 : (l.filter fun x => decide (x ∈ r)).Perm r := perm_of_mem (List.Nodup.sublist List.filter_sublist nl) nr fun x => by
    rw [List.mem_filter, decide_eq_true_eq]
    exact ⟨fun z => z.2, fun z => ⟨h x z, z⟩⟩
  have h3 := h2.length_eq
  omega
theorem flatMap_len_eq {α β : Type} {f : α → List β} {k : Nat} : ∀ {l : List α}, (∀ x ∈ l, (f x).length = k) → (l.flatMap f).length = l.length * k
  | [], _ => by simp
  | x :: l, h => by
    rw [List.flatMap_cons, List.length_append, List.length_cons, flatMap_len_eq fun y hy => h y (List.mem_cons_of_mem _ hy), h x List.mem_cons_self, Nat.succ_mul]
    omega
theorem ords_succ {l : List Str} (nd : l.Nodup) (n : Nat) : (ords l (n + 1)).length = (ords l n).length * (l.length - n) := by
  show (longer l (ords l n)).length = _
  unfold longer
  refine flatMap_len_eq fun r hr => ?_
  obtain ⟨h1, h2, h3⟩ := ords_mem.mp hr
  have := len_out nd h2 h3
  rw [List.length_map]
  omega
theorem ords_120 {l : List Str} (nd : l.Nodup) (h : l.length ≤ 5) : (ords l l.length).length ≤ 120 := by
  have e := ords_succ nd
  have e0 : (ords l 0).length = 1 := rfl
  have hk : l.length = 0 ∨ l.length = 1 ∨ l.length = 2 ∨ l.length = 3 ∨ l.length = 4 ∨ l.length = 5 := by omega
  rcases hk with z | z | z | z | z | z
  all_goals
    rw [z] at e ⊢
    simp [e, e0]
theorem rowsOf_720 {l las : List Str} (nd : l.Nodup) (h : las.length + l.length ≤ 6) : (rowsOf l las).length ≤ 720 := by
  have e : (rowsOf l las).length = (ords l l.length).length * las.length := by
    unfold rowsOf
    exact flatMap_len_eq fun r _ => List.length_map _
  rw [e]
  by_cases h5 : l.length ≤ 5
  · have h1 := ords_120 nd h5
    exact Nat.mul_le_mul h1 (by omega : las.length ≤ 6)
  · have : las.length = 0 := by omega
    rw [this]
    exact Nat.zero_le _
theorem mem_rowsOf {l las : List Str} {r : List Str} : r ∈ rowsOf l las ↔ ∃ q h, r = q ++ [h] ∧ q.length = l.length ∧ q.Nodup ∧ (∀ x ∈ q, x ∈ l) ∧ h ∈ las := by
  unfold rowsOf
  rw [List.mem_flatMap]
  constructor
  · rintro ⟨q, h1, h2⟩
    obtain ⟨h, h3, rfl⟩ := List.mem_map.mp h2
    obtain ⟨a, b, c⟩ := ords_mem.mp h1
    exact ⟨q, h, rfl, a, b, c, h3⟩
  · rintro ⟨q, h, rfl, a, b, c, d⟩
    exact ⟨q, ords_mem.mpr ⟨a, b, c⟩, List.mem_map.mpr ⟨h, d, rfl⟩⟩
end Kb
end TPg
section TWq
set_option Elab.async false
set_option autoImplicit false
set_option linter.all false
set_option maxRecDepth 100000
set_option maxHeartbeats 4000000
/-! Wq: the court's rows. -/
namespace Kb
open PySem PySem.Spec PyProof.Rows L2 PySem.W
/-- the hands that a lot has not -/
abbrev outs (p : Pc) (l : List Str) : List Str := p.hands.filter fun h => !decide (h ∈ l)
theorem Ct.outs6 {p : Pc} {F : List (List Str)} {l : List Str} (c : Ct p F) (h : l ∈ allLots F) : (outs p l).length + l.length ≤ 6 := by
  have : (outs p l).length + l.length = p.hands.length := len_out c.pok.nd (sLt_nodup (c.lt h)) (c.sub h)
  have := c.pok.hl
  omega
theorem Ct.rows {p : Pc} {F : List (List Str)} (c : Ct p F) {pre : List (List Str)} (h : ∀ l ∈ pre, l ∈ allLots F) : (pre.flatMap fun l => rowsOf l (outs p l)).length ≤ pre.length * 720 := flatMap_len fun l hl => rowsOf_720 (sLt_nodup (c.lt (h l hl))) (c.outs6 (h l hl))
theorem eL_snoc (r : List Str) (h : Str) : PyData.tuple (r.map .str ++ [.str h]) = eL (r ++ [h]) := by
  unfold eL
  rw [List.map_append]
  rfl
theorem rowsOf_map (l las : List Str) : ((ords l l.length).flatMap fun r => ((las.filter fun _ => true).map fun h => eL (r ++ [h]))) = (rowsOf l las).map eL := by
  unfold rowsOf
  rw [List.map_flatMap, filt]
  simp only [List.map_map]
  rfl
section
variable {P : Program} {w : World} {K : PySem.W.Frag} {mg : Str → Option Value} {base : Heap} {tb : Addr} {C : Addr}
abbrev q65 (C : Addr) (Z : Zn) : Sp := spD Z (fun x : Pc × List (List Str) => [tyP C x.1, Dt (.tuple (x.2.map eL))]) (fun x => Ct x.1 x.2) fun x => Dt (.tuple ((courtRows x.1 x.2).map eL))
theorem ok65 (V : Gv mg) (k : PKl K C) (D : Dn K mg "court_rows" s65 ["pact", "family"]) (C55 : Okd P w K mg base "need_family" 5 (q55 C ⟨tb, lamN, none⟩)) (C58 : Okd P w K mg base "lots_in_order" 3 (q58 ⟨tb, lamN, none⟩)) (C59 : Okd P w K mg base "all_lots" 4 (q59 ⟨tb, lamN, none⟩))
    (C64 : Okd P w K mg base "lot_orders" 1 (q64 ⟨tb, lamN, none⟩)) : Okd P w K mg base "court_rows" 6 (q65 C ⟨tb, lamN, none⟩) := by
  refine okD D c65 (fun _ => rfl) (by decide) fun f cdv A outer s H E a F0 G hr hp => ?_
  obtain ⟨p, F⟩ := a
  have hp : Ct p F := hp
  have hl6 := hp.pok.hl
  have a64 := hp.all64
  refine sexp (dcl hr C55 (p, F) hp.fam (pac (dv 0) (pac (dv 1) pa0))) ?_
  refine sset (t := Dt (.list ((([] : List (List Str)).flatMap fun l => rowsOf l (outs p l)).map eL))) 2 c65.nd (nL (dlst (ds := []) pa0)) ?_
  refine sforN (xs := allLots F) (fun pre ρ1 => ∃ x3 x4 x5 x6, ρ1 = [some (.im (tyP C p)), some (.im (Dt (.tuple (F.map eL)))), some (.im (Dt (.list ((pre.flatMap fun l => rowsOf l (outs p l)).map eL)))), x3, x4, x5, x6]) PassesOwn.never rfl
    (itTs (xs := allLots F) (f := eL) (dcl hr C59 F ⟨hp.fam.len, fun l hl => Nat.le_trans (hp.flen l hl) (by decide)⟩ (pac (dv 1) pa0))) ⟨_, _, _, _, rfl⟩ (fun pre l post ρ1 hx ⟨x3, x4, x5, x6, e⟩ => ?_) fun ρ1 ⟨x3, x4, x5, x6, e⟩ => ?_
  · subst e
    have hl : l ∈ allLots F := by rw [hx]; simp
    have l6 := hp.len6 hl
    have b1 := hp.rows (pre := pre ++ [l]) fun x hx' => by
      rw [hx]
      rcases List.mem_append.mp hx' with z | z
      · exact List.mem_append_left _ z
      · rw [List.mem_singleton.mp z]
        simp
    have b2 : (pre ++ [l]).length ≤ 64 := by
      have := congrArg List.length hx
      rw [List.length_append, List.length_cons] at this
      rw [List.length_append, List.length_singleton]
      omega
    have b3 : ((pre ++ [l]).flatMap fun l => rowsOf l (outs p l)).length ≤ 64 * 720 := Nat.le_trans b1 (Nat.mul_le_mul b2 (Nat.le_refl _))
    rw [List.flatMap_append, List.flatMap_cons, List.flatMap_nil, List.append_nil, List.length_append] at b3
    have ol := hp.outs6 hl
    have e1 : (pre.flatMap fun l => rowsOf l (outs p l)).map eL ++ ((ords l l.length).flatMap fun r => (((outs p l).filter fun _ => true).map fun h => eL (r ++ [h]))) = ((pre ++ [l]).flatMap fun l => rowsOf l (outs p l)).map eL := by
      rw [rowsOf_map, List.flatMap_append, List.flatMap_cons, List.flatMap_nil, List.append_nil, List.map_append]
    refine ⟨_, gn 3 c65.nd, ?_⟩
    refine sset (t := Dt (.list ((outs p l).map .str))) 4 c65.nd (nL (lcD (dlc (own := [("hand", 5)]) (xs := p.hands) (f := fun h => !decide (h ∈ l)) (g := fun h => .str h) rfl c65.nd (itTs (xs := p.hands) (f := PyData.str) (vF (pHands k (dv 0)))) (blkOk_by (N := n65) (sc := defScope s65) (by decide +kernel))
      (fun _ _ _ _ _ x _ => gn 5 c65.nd) (fun _ _ _ _ _ x _ => pt1 (pnin sqT (dv 5) (vT (dv 3)))) (fun _ _ _ _ _ x _ _ => dv 5) (by omega)))) ?_
    refine sset 2 c65.nd (dis (nL (dcatL (vL (dv 2)) (nV (lc2D (dlc2 (own := [("row", 6), ("hand", 5)]) (vs1 := [5]) (f := fun _ _ => true) (g := fun (r : List Str) (h : Str) => eL (r ++ [h])) (ys := fun _ => outs p l) rfl c65.nd
      (itLs (xs := ords l l.length) (f := eL) (dcl hr C64 l l6 (pac (dv 3) pa0))) (blkOk_by (N := n65) (sc := defScope s65) (by decide +kernel)) (by decide) (fun _ _ => rfl)
      (fun _ _ _ _ _ r _ => gn 6 c65.nd) (fun _ _ _ _ _ r _ => itLs (xs := outs p l) (f := PyData.str) (dv 4)) (fun _ _ _ _ _ r h _ _ => gn 5 c65.nd) (fun _ _ _ _ _ r h _ _ => pt0) (fun _ _ _ _ _ r h hr _ _ => dis (dcatT (dv 6) (dtup (ds := [.str h]) (pac (dv 5) pa0) (Nat.le_of_ble_eq_true rfl)) ?_) (eL_snoc r h)) ?_))) ?_)) (congrArg PyData.list e1)) (s0 ⟨_, _, _, _, rfl⟩)
    · rw [List.length_map, ords_each l _ r hr, List.length_singleton]
      omega
    · rw [rowsOf_map, List.length_map]
      omega
    · rw [rowsOf_map, List.length_map, List.length_map]
      omega
  · subst e
    refine sret (dcl hr C58 ((allLots F).flatMap fun l => rowsOf l (outs p l)) ⟨?_, fun x hx => ?_⟩ (pac (dv 2) pa0)) rfl
    · exact Nat.le_trans (hp.rows fun l hl => hl) (by omega)
    · obtain ⟨l, h1, h2⟩ := List.mem_flatMap.mp hx
      obtain ⟨q, h, rfl, h3, _⟩ := mem_rowsOf.mp h2
      have := hp.len6 h1
      rw [List.length_append, List.length_singleton]
      omega
end
end Kb
end TWq
section TPu
set_option Elab.async false
set_option autoImplicit false
set_option linter.all false
set_option maxRecDepth 100000
/-! Pu: what lies under what, plain. -/
namespace Kb
open PySem PySem.Spec PyProof.Rows L2
theorem names_snoc (ns : List Nt) (n : Nt) : names (ns ++ [n]) = names ns ++ [n.nm] := names_app ns [n]
theorem names_len (ns : List Nt) : (names ns).length = ns.length := List.length_map _
theorem unders_snoc (ns : List Nt) (n : Nt) : unders (ns ++ [n]) = unders ns ++ [(bu ns).un n] := by
  unfold unders
  rw [bu_snoc]
  rfl
theorem pl_old {ns : List Nt} {n : Nt} {x : Str} (h : x ∈ names ns) : pl (ns ++ [n]) x = pl ns x := by
  unfold pl
  rw [names_snoc, List.idxOf_append, if_pos h]
theorem pl_new {ns : List Nt} {n : Nt} (h : n.nm ∉ names ns) : pl (ns ++ [n]) n.nm = ns.length := by
  unfold pl
  rw [names_snoc, List.idxOf_append, if_neg h, names_len]
  simp
theorem bu_pl (ns : List Nt) : (bu ns).pl = (names ns).zipIdx := by
  refine snocInd (p := fun ns => (bu ns).pl = (names ns).zipIdx) rfl (fun xs x ih => ?_) ns
  show (bu (xs ++ [x])).pl = (names (xs ++ [x])).zipIdx
  rw [bu_snoc, names_snoc]
  show (bu xs).pl ++ [(x.nm, (bu xs).k)] = _
  rw [ih, (bu_ok xs).k, List.zipIdx_append, names_len]
  simp
theorem lookS_put {β : Type} (x y : Str) (b : β) : ∀ s : List (Str × β), lookS (putS s x b) y = if x = y then some b else lookS s y
  | [] => by
    show lookS [(x, b)] y = _
    unfold lookS
    rfl
  | (z, c) :: r => by
    unfold putS
    by_cases h : z = x
    · rw [if_pos h]
      subst h
      unfold lookS
      by_cases h2 : z = y
      · rw [if_pos h2, if_pos h2]
      · rw [if_neg h2, if_neg h2, if_neg h2]
    · rw [if_neg h]
      unfold lookS
      rw [lookS_put x y b r]
      by_cases h2 : z = y
      · rw [if_pos h2, if_pos h2, if_neg (fun e => h (h2.trans e.symm))]
      · rw [if_neg h2, if_neg h2]
theorem row_snoc (ns : List Nt) (n : Nt) (h : Str) : row (ns ++ [n]) h = row ns h ++ if n.hd = h then [n.nm] else [] := by
  unfold row
  rw [List.filter_append, List.map_append, List.filter_cons]
  by_cases e : n.hd = h
  · rw [if_pos (decide_eq_true e), if_pos e]
    rfl
  · rw [if_neg (by rw [decide_eq_false e]; decide), if_neg e]
    rfl
theorem bu_la {ns : List Nt} (nd : (names ns).Nodup) (h : Str) : (∀ j, lookS (bu ns).la h = some j → ∃ z, (row ns h).getLast? = some z ∧ pl ns z = j) ∧ (lookS (bu ns).la h = none → row ns h = []) := by
  revert nd
  refine snocInd (p := fun ns => (names ns).Nodup → (∀ j, lookS (bu ns).la h = some j → ∃ z, (row ns h).getLast? = some z ∧ pl ns z = j) ∧ (lookS (bu ns).la h = none → row ns h = [])) (fun _ => ⟨fun j e => (by cases e), fun _ => rfl⟩) (fun xs x ih nd => ?_) ns
  rw [names_snoc] at nd
  have nd := List.nodup_append.mp nd
  have hx : x.nm ∉ names xs := fun z => nd.2.2 _ z _ (List.mem_singleton.mpr rfl) rfl
  obtain ⟨i1, i2⟩ := ih nd.1
  have e1 : (bu (xs ++ [x])).la = putS (bu xs).la x.hd xs.length := by
    rw [bu_snoc, ← (bu_ok xs).k]
    rfl
  rw [e1, lookS_put, row_snoc]
  by_cases e : x.hd = h
  · rw [if_pos e, if_pos e]
    refine ⟨fun j z => ⟨x.nm, by simp, ?_⟩, fun z => (by cases z)⟩
    cases z
    exact pl_new hx
  · rw [if_neg e, if_neg e, List.append_nil]
    refine ⟨fun j z => ?_, i2⟩
    obtain ⟨y, h1, h2⟩ := i1 j z
    have hy : y ∈ names xs := row_names (List.mem_of_getLast? h1)
    exact ⟨y, h1, (pl_old hy).trans h2⟩
theorem ws_go (s : BU) (i : Nat) : ∀ (ws : List Str) (u : Nat), (ws.foldl (fun u o => u ||| s.at o) u).testBit i = (u.testBit i || ws.any fun o => (s.at o).testBit i)
  | [], u => by simp
  | o :: ws, u => by
    rw [List.foldl_cons, ws_go s i ws, Nat.testBit_or, List.any_cons, Bool.or_assoc]
theorem at_eq {ns : List Nt} {o : Str} (h : o ∈ names ns) : (bu ns).at o = (unders ns).getD (pl ns o) 0 := by
  unfold BU.at
  rw [bu_pl, look_zip h, Nat.zero_add]
  rfl
/-- the bits of the note that comes -/
theorem un_bit {ns : List Nt} {n : Nt} (nd : (names ns).Nodup) (hw : ∀ o ∈ n.ws, o ∈ names ns) (i : Nat) : ((bu ns).un n).testBit i = true ↔ i = ns.length ∨ (∃ o ∈ n.ws, ((unders ns).getD (pl ns o) 0).testBit i = true) ∨ ∃ z, (row ns n.hd).getLast? = some z ∧ ((unders ns).getD (pl ns z) 0).testBit i = true := by
  obtain ⟨l1, l2⟩ := bu_la nd n.hd
  have hws : ((bu ns).ws n.ws).testBit i = true ↔ i = ns.length ∨ ∃ o ∈ n.ws, ((unders ns).getD (pl ns o) 0).testBit i = true := by
    unfold BU.ws
    rw [ws_go, Bool.or_eq_true, Nat.testBit_two_pow, decide_eq_true_eq, (bu_ok ns).k, List.any_eq_true]
    constructor
    · rintro (h | ⟨o, h1, h2⟩)
      · exact .inl h.symm
      · rw [at_eq (hw o h1)] at h2
        exact .inr ⟨o, h1, h2⟩
    · rintro (h | ⟨o, h1, h2⟩)
      · exact .inl h.symm
      · rw [← at_eq (hw o h1)] at h2
        exact .inr ⟨o, h1, h2⟩
  unfold BU.un
  cases hl : lookS (bu ns).la n.hd with
  | none =>
    have e := l2 hl
    show ((bu ns).ws n.ws).testBit i = true ↔ _
    rw [hws, e]
    constructor
    · rintro (h | h)
      · exact .inl h
      · exact .inr (.inl h)
    · rintro (h | h | ⟨z, h, _⟩)
      · exact .inl h
      · exact .inr h
      · cases h
  | some j =>
    obtain ⟨z, h1, h2⟩ := l1 j hl
    show ((bu ns).ws n.ws ||| (bu ns).fo.getD j 0).testBit i = true ↔ _
    rw [Nat.testBit_or, Bool.or_eq_true, hws, ← h2, h1]
    constructor
    · rintro ((h | h) | h)
      · exact .inl h
      · exact .inr (.inl h)
      · exact .inr (.inr ⟨z, rfl, h⟩)
    · rintro (h | h | ⟨z', h, h'⟩)
      · exact .inl (.inl h)
      · exact .inl (.inr h)
      · cases h
        exact .inr h'
/-- a note's waits are earlier ones -/
def WsOk (ns : List Nt) : Prop := ∀ pre n post, ns = pre ++ n :: post → ∀ o ∈ n.ws, o ∈ names pre
theorem WsOk.init {ns : List Nt} {n : Nt} (h : WsOk (ns ++ [n])) : WsOk ns ∧ ∀ o ∈ n.ws, o ∈ names ns :=
  ⟨fun pre m post e => h pre m (post ++ [n]) (by rw [e, List.append_assoc]; rfl), h ns n [] rfl⟩
theorem nd_init {ns : List Nt} {n : Nt} (h : (names (ns ++ [n])).Nodup) : (names ns).Nodup ∧ n.nm ∉ names ns := by
  rw [names_snoc] at h
  have nd := List.nodup_append.mp h
  exact ⟨nd.1, fun z => nd.2.2 _ z _ (List.mem_singleton.mpr rfl) rfl⟩
theorem getD_old {ns : List Nt} {n : Nt} {j : Nat} (h : j < ns.length) : (unders (ns ++ [n])).getD j 0 = (unders ns).getD j 0 := by
  rw [unders_snoc, List.getD_eq_getElem?_getD, List.getD_eq_getElem?_getD, List.getElem?_append_left (by rw [unders_len]; exact h)]
theorem getD_new {ns : List Nt} {n : Nt} : (unders (ns ++ [n])).getD ns.length 0 = (bu ns).un n := by
  have e : (unders ns).length = ns.length := unders_len ns
  rw [unders_snoc, List.getD_eq_getElem?_getD, ← e]
  simp
/-- what lies under comes no later -/
theorem bit_le {ns : List Nt} (nd : (names ns).Nodup) (hw : WsOk ns) (i j : Nat) (hj : j < ns.length) : ((unders ns).getD j 0).testBit i = true → i ≤ j := by
  revert nd hw j
  refine snocInd (p := fun ns => (names ns).Nodup → WsOk ns → ∀ j, j < ns.length → ((unders ns).getD j 0).testBit i = true → i ≤ j) (fun _ _ j h => by cases h) (fun xs x ih nd hw j hj hb => ?_) ns
  obtain ⟨n1, n2⟩ := nd_init nd
  obtain ⟨w1, w2⟩ := hw.init
  rw [List.length_append, List.length_singleton] at hj
  by_cases e : j < xs.length
  · rw [getD_old e] at hb
    exact ih n1 w1 j e hb
  · have e : j = xs.length := by omega
    subst e
    rw [getD_new] at hb
    rcases (un_bit n1 w2 i).mp hb with h | ⟨o, h1, h2⟩ | ⟨z, h1, h2⟩
    · omega
    · have h3 := pl_lt (w2 o h1)
      have := ih n1 w1 _ h3 h2
      omega
    · have h3 := pl_lt (row_names (List.mem_of_getLast? h1))
      have := ih n1 w1 _ h3 h2
      omega
section
variable {ns : List Nt} {n : Nt} {x y z : Str}
theorem isU_old (hx : x ∈ names ns) (hy : y ∈ names ns) : isU (ns ++ [n]) x y = isU ns x y := by
  unfold isU
  rw [pl_old hx, pl_old hy, getD_old (pl_lt hy)]
theorem isU_new (nd : (names (ns ++ [n])).Nodup) (hw : WsOk (ns ++ [n])) (hx : x ∈ names ns) : isU (ns ++ [n]) x n.nm = true ↔ (∃ o ∈ n.ws, isU ns x o = true) ∨ ∃ z, (row ns n.hd).getLast? = some z ∧ isU ns x z = true := by
  obtain ⟨n1, n2⟩ := nd_init nd
  obtain ⟨w1, w2⟩ := hw.init
  have hl := pl_lt hx
  unfold isU
  rw [pl_old hx, pl_new n2, getD_new, un_bit n1 w2]
  constructor
  · rintro (h | h)
    · omega
    · exact h
  · exact fun h => .inr h
theorem isU_up (nd : (names (ns ++ [n])).Nodup) (hw : WsOk (ns ++ [n])) (hy : y ∈ names ns) : isU (ns ++ [n]) n.nm y = false := by
  obtain ⟨n1, n2⟩ := nd_init nd
  obtain ⟨w1, w2⟩ := hw.init
  have hl := pl_lt hy
  unfold isU
  rw [pl_old hy, pl_new n2, getD_old hl]
  refine Bool.eq_false_iff.mpr fun h => ?_
  have := bit_le n1 w1 _ _ hl h
  omega
theorem isU_one (nd : (names (ns ++ [n])).Nodup) (hw : WsOk (ns ++ [n])) : isU (ns ++ [n]) n.nm n.nm = true := by
  obtain ⟨n1, n2⟩ := nd_init nd
  obtain ⟨w1, w2⟩ := hw.init
  unfold isU
  rw [pl_new n2, getD_new, un_bit n1 w2]
  exact .inl rfl
theorem mem_snoc (h : x ∈ names (ns ++ [n])) : x ∈ names ns ∨ x = n.nm := by
  rw [names_snoc] at h
  rcases List.mem_append.mp h with z | z
  · exact .inl z
  · exact .inr (List.mem_singleton.mp z)
end
theorem isU_le {ns : List Nt} {x y : Str} (nd : (names ns).Nodup) (hw : WsOk ns) (hy : y ∈ names ns) (h : isU ns x y = true) : pl ns x ≤ pl ns y := bit_le nd hw _ _ (pl_lt hy) h
theorem isU_refl {ns : List Nt} {x : Str} (nd : (names ns).Nodup) (hw : WsOk ns) (hx : x ∈ names ns) : isU ns x x = true := by
  revert nd hw x
  refine snocInd (p := fun ns => ∀ {x : Str}, (names ns).Nodup → WsOk ns → x ∈ names ns → isU ns x x = true) (fun _ _ h => by cases h) (fun xs n ih x nd hw hx => ?_) ns
  rcases mem_snoc hx with h | h
  · rw [isU_old h h]
    exact ih (nd_init nd).1 hw.init.1 h
  · rw [h]
    exact isU_one nd hw
theorem isU_trans {ns : List Nt} {x y z : Str} (nd : (names ns).Nodup) (hw : WsOk ns) (hx : x ∈ names ns) (hy : y ∈ names ns) (hz : z ∈ names ns) (h1 : isU ns x y = true) (h2 : isU ns y z = true) : isU ns x z = true := by
  revert nd hw x y z
  refine snocInd (p := fun ns => ∀ {x y z : Str}, (names ns).Nodup → WsOk ns → x ∈ names ns → y ∈ names ns → z ∈ names ns → isU ns x y = true → isU ns y z = true → isU ns x z = true) (fun _ _ h => by cases h) (fun xs n ih x y z nd hw hx hy hz h1 h2 => ?_) ns
  obtain ⟨n1, n2⟩ := nd_init nd
  obtain ⟨w1, w2⟩ := hw.init
  rcases mem_snoc hz with hz | hz
  · rcases mem_snoc hy with hy | hy
    · rcases mem_snoc hx with hx | hx
      · rw [isU_old hx hy] at h1
        rw [isU_old hy hz] at h2
        rw [isU_old hx hz]
        exact ih n1 w1 hx hy hz h1 h2
      · rw [hx, isU_up nd hw hy] at h1
        cases h1
    · rw [hy, isU_up nd hw hz] at h2
      cases h2
  · subst hz
    rcases mem_snoc hy with hy | hy
    · rcases mem_snoc hx with hx | hx
      · rw [isU_old hx hy] at h1
        rw [isU_new nd hw hx]
        rcases (isU_new nd hw hy).mp h2 with ⟨o, a, b⟩ | ⟨o, a, b⟩
        · exact .inl ⟨o, a, ih n1 w1 hx hy (w2 o a) h1 b⟩
        · exact .inr ⟨o, a, ih n1 w1 hx hy (row_names (List.mem_of_getLast? a)) h1 b⟩
      · rw [hx, isU_up nd hw hy] at h1
        cases h1
    · rw [← hy]
      exact h1
theorem mem_last {α : Type} {l : List α} {x : α} (h : x ∈ l) : ∃ z, l.getLast? = some z ∧ (x = z ∨ ∃ pre, l = pre ++ [z] ∧ x ∈ pre) := by
  rcases List.eq_nil_or_concat l with e | ⟨q, z, e⟩
  · rw [e] at h
    cases h
  · rw [List.concat_eq_append] at e
    subst e
    refine ⟨z, by simp, ?_⟩
    rcases List.mem_append.mp h with k | k
    · exact .inr ⟨q, rfl, k⟩
    · exact .inl (List.mem_singleton.mp k)
/-- each row is a chain -/
theorem row_chain {ns : List Nt} (nd : (names ns).Nodup) (hw : WsOk ns) (h : Str) : (row ns h).Pairwise fun a b => isU ns a b = true := by
  revert nd hw
  refine snocInd (p := fun ns => (names ns).Nodup → WsOk ns → (row ns h).Pairwise fun a b => isU ns a b = true) (fun _ _ => List.Pairwise.nil) (fun xs n ih nd hw => ?_) ns
  obtain ⟨n1, n2⟩ := nd_init nd
  obtain ⟨w1, w2⟩ := hw.init
  have i1 := ih n1 w1
  have i2 : (row xs h).Pairwise fun a b => isU (xs ++ [n]) a b = true := i1.imp_of_mem fun ha hb k => by
    rw [isU_old (row_names ha) (row_names hb)]
    exact k
  rw [row_snoc]
  by_cases e : n.hd = h
  · rw [if_pos e]
    refine List.pairwise_append.mpr ⟨i2, List.pairwise_singleton _ _, fun a ha b hb => ?_⟩
    rw [List.mem_singleton.mp hb, isU_new nd hw (row_names ha), e]
    obtain ⟨z, h1, h2⟩ := mem_last ha
    refine .inr ⟨z, h1, ?_⟩
    rcases h2 with k | ⟨pre, k1, k2⟩
    · rw [k]
      exact isU_refl n1 w1 (row_names (List.mem_of_getLast? h1))
    · rw [k1] at i1
      exact (List.pairwise_append.mp i1).2.2 a k2 z (List.mem_singleton.mpr rfl)
  · rw [if_neg e, List.append_nil]
    exact i2
theorem row_nodup {ns : List Nt} (nd : (names ns).Nodup) (h : Str) : (row ns h).Nodup := by
  unfold row
  exact nd.sublist (List.Sublist.map _ List.filter_sublist)
theorem pl_pairwise {ns : List Nt} (nd : (names ns).Nodup) : (names ns).Pairwise fun a b => pl ns a < pl ns b := by
  rw [List.pairwise_iff_getElem]
  intro i j hi hj hij
  unfold pl
  rw [nd.idxOf_getElem i hi, nd.idxOf_getElem j hj]
  exact hij
theorem mem_bitNames {ns : List Nt} {b : Nat} {x : Str} (nd : (names ns).Nodup) : x ∈ bitNames ns b ↔ x ∈ names ns ∧ b.testBit (pl ns x) = true := by
  unfold bitNames
  rw [List.mem_map]
  constructor
  · rintro ⟨⟨y, i⟩, h1, rfl⟩
    obtain ⟨h2, h3⟩ := List.mem_filter.mp h1
    obtain ⟨h4, h5⟩ := List.mem_zipIdx' h2
    have e : pl ns (names ns)[i] = i := by
      unfold pl
      exact nd.idxOf_getElem i h4
    refine ⟨?_, ?_⟩
    · show y ∈ names ns
      rw [h5]
      exact List.getElem_mem h4
    · show b.testBit (pl ns y) = true
      rw [h5, e]
      exact h3
  · rintro ⟨h1, h2⟩
    refine ⟨(x, pl ns x), List.mem_filter.mpr ⟨?_, h2⟩, rfl⟩
    have h3 := pl_lt h1
    have h4 : (names ns)[pl ns x]? = some x := pl_at h1
    exact List.mem_zipIdx_iff_getElem?.mpr (by simpa using h4)
theorem mem_underOf {ns : List Nt} {x y : Str} (nd : (names ns).Nodup) : x ∈ underOf ns y ↔ x ∈ names ns ∧ isU ns x y = true := by
  unfold underOf
  rw [mem_lotOf, mem_bitNames nd]
  rfl
theorem bits_go (xs : List Str) (i : Nat) : ∀ (l : List (Nt × Nat)) (f : Nat), (l.foldl (fun f p => if p.1.nm ∈ xs then f ||| p.2 else f) f).testBit i = true ↔ f.testBit i = true ∨ ∃ p ∈ l, p.1.nm ∈ xs ∧ p.2.testBit i = true
  | [], f => by simp
  | p :: l, f => by
    rw [List.foldl_cons, bits_go xs i l]
    by_cases h : p.1.nm ∈ xs
    · rw [if_pos h, Nat.testBit_or, Bool.or_eq_true]
      simp [h, or_assoc]
    · rw [if_neg h]
      simp [h]
/-- all of a lot -/
theorem bitsOf_bit {ns : List Nt} {xs : List Str} {x : Str} (nd : (names ns).Nodup) : (bitsOf xs ns).testBit (pl ns x) = true ↔ ∃ z ∈ names ns, z ∈ xs ∧ isU ns x z = true := by
  unfold bitsOf
  rw [bits_go]
  have hz : (0 : Nat).testBit (pl ns x) = false := Nat.zero_testBit _
  rw [hz]
  constructor
  · rintro (h | ⟨⟨n, u⟩, h1, h2, h3⟩)
    · cases h
    · obtain ⟨i, h4, h5⟩ := List.getElem_of_mem h1
      rw [List.length_zip] at h4
      have hi : i < ns.length := by omega
      have hu : i < (unders ns).length := by omega
      rw [List.getElem_zip] at h5
      cases h5
      have hn : i < (names ns).length := by rw [names_len]; exact hi
      have e1 : ns[i].nm = (names ns)[i] := by simp [names]
      have e2 : pl ns ns[i].nm = i := by
        rw [e1]
        unfold pl
        exact nd.idxOf_getElem i hn
      refine ⟨ns[i].nm, by rw [e1]; exact List.getElem_mem hn, h2, ?_⟩
      unfold isU
      rw [e2, List.getD_eq_getElem?_getD, List.getElem?_eq_getElem hu]
      exact h3
  · rintro ⟨z, h1, h2, h3⟩
    have hl := pl_lt h1
    have hu : pl ns z < (unders ns).length := by rw [unders_len]; exact hl
    have e1 : ns[pl ns z].nm = z := by
      have := pl_at h1
      unfold names at this
      rw [List.getElem?_map, List.getElem?_eq_getElem hl] at this
      exact Option.some.inj this
    refine .inr ⟨(ns[pl ns z], (unders ns)[pl ns z]), ?_, by show ns[pl ns z].nm ∈ xs; rw [e1]; exact h2, ?_⟩
    · have h4 : pl ns z < (ns.zip (unders ns)).length := by rw [List.length_zip]; omega
      have := List.getElem_mem h4
      rw [List.getElem_zip] at this
      exact this
    · unfold isU at h3
      rw [List.getD_eq_getElem?_getD, List.getElem?_eq_getElem hu] at h3
      exact h3
end Kb
end TPu
section TPv
set_option Elab.async false
set_option autoImplicit false
set_option linter.all false
set_option maxRecDepth 100000
/-! Pv: a pact that is well told; the pact of some hands alone, plain. -/
namespace Kb
open PySem PySem.Spec PyProof.Rows L2
theorem NsOk.wo {ns : List Nt} (h : NsOk ns) : WsOk ns := h.ws
theorem hdOf_mem {ns : List Nt} {n : Nt} (nd : (names ns).Nodup) (h : n ∈ ns) : hdOf ns n.nm = n.hd := by
  obtain ⟨i, hi, e⟩ := List.getElem_of_mem h
  have hn : i < (names ns).length := by rw [names_len]; exact hi
  have e1 : (names ns)[i] = n.nm := by simp [names, e]
  unfold hdOf pl
  rw [← e1, nd.idxOf_getElem i hn, List.getD_eq_getElem?_getD, List.getElem?_map, List.getElem?_eq_getElem hi, e]
  rfl
theorem mem_names {ns : List Nt} {x : Str} : x ∈ names ns ↔ ∃ n ∈ ns, n.nm = x := List.mem_map
theorem row_iff {ns : List Nt} {h x : Str} (nd : (names ns).Nodup) : x ∈ row ns h ↔ x ∈ names ns ∧ hdOf ns x = h := by
  rw [mem_row, mem_names]
  constructor
  · rintro ⟨n, h1, h2, rfl⟩
    exact ⟨⟨n, h1, rfl⟩, (hdOf_mem nd h1).trans h2⟩
  · rintro ⟨⟨n, h1, rfl⟩, h2⟩
    exact ⟨n, h1, (hdOf_mem nd h1).symm.trans h2, rfl⟩
theorem row_pl {ns : List Nt} {h : Str} (nd : (names ns).Nodup) : (row ns h).Pairwise fun a b => pl ns a < pl ns b :=
  List.Pairwise.sublist (List.Sublist.map _ List.filter_sublist) (pl_pairwise nd)
theorem row_under {ns : List Nt} {h x y : Str} (nd : (names ns).Nodup) (hw : WsOk ns) (hx : x ∈ row ns h) (hy : y ∈ row ns h) (hl : pl ns x ≤ pl ns y) : isU ns x y = true := by
  obtain ⟨i, hi, ei⟩ := List.getElem_of_mem hx
  obtain ⟨j, hj, ej⟩ := List.getElem_of_mem hy
  rcases Nat.lt_trichotomy i j with k | k | k
  · have := List.pairwise_iff_getElem.mp (row_chain nd hw h) i j hi hj k
    rw [ei, ej] at this
    exact this
  · subst k
    rw [← ej, ei]
    exact isU_refl nd hw (row_names hx)
  · have := List.pairwise_iff_getElem.mp (row_pl (h := h) nd) j i hj hi k
    rw [ei, ej] at this
    omega
/-! a well told pact -/
theorem PcOk.nd {p : Pc} (h : PcOk p) : (names p.ns).Nodup := h.ns.nd
theorem PcOk.wo {p : Pc} (h : PcOk p) : WsOk p.ns := h.ns.ws
theorem PcOk.note {p : Pc} (h : PcOk p) {n : Nt} (hn : n ∈ p.ns) : Nm n.nm ∧ n.hd ∈ p.hands := by
  obtain ⟨s, t, e⟩ := List.append_of_mem hn
  have := h.told s n t e
  exact ⟨this.nm, this.hd⟩
theorem getD_at {α : Type} {l : List α} {d : α} {i : Nat} (h : i < l.length) : l.getD i d = l[i] := by
  rw [List.getD_eq_getElem?_getD, List.getElem?_eq_getElem h]
  rfl
theorem PcOk.rdy {p : Pc} (h : PcOk p) {a : Str} (ha : a ∈ p.hands) : Nm (p.rdy a) ∧ p.rdy a ∈ row p.ns a := by
  have hi : p.hands.idxOf a < p.hands.length := List.idxOf_lt_length_of_mem ha
  have hj : p.hands.idxOf a < p.ready.length := by rw [h.ready.len]; exact hi
  have hz : p.hands.idxOf a < (p.ready.zip p.hands).length := by rw [List.length_zip]; omega
  have hm := List.getElem_mem hz
  rw [List.getElem_zip, List.getElem_idxOf hi] at hm
  obtain ⟨h1, n, h2, h3, h4⟩ := h.ready.own _ hm
  unfold Pc.rdy
  rw [getD_at hj]
  exact ⟨h1, mem_row.mpr ⟨n, h2, h4, h3⟩⟩
theorem PcOk.keyed {p : Pc} (h : PcOk p) {a : Str} (ha : a ∈ p.hands) : keyRow p.ns p.paper a ≠ [] := by
  obtain ⟨j, n, h1, h2, h3⟩ := h.paper.all a ha
  have hn : n ∈ p.ns := List.mem_of_getElem? h1
  obtain ⟨hj, e⟩ := List.getElem?_eq_some_iff.mp h1
  have hl : j < (names p.ns).length := by rw [names_len]; exact hj
  have e1 : (names p.ns)[j] = n.nm := by simp [names, e]
  have e2 : pl p.ns n.nm = j := by
    unfold pl
    rw [← e1]
    exact h.nd.idxOf_getElem j hl
  refine List.ne_nil_of_mem (a := n.nm) (List.mem_filter.mpr ⟨mem_row.mpr ⟨n, hn, h2, rfl⟩, ?_⟩)
  rw [e2]
  exact h3
theorem PcOk.pok {p : Pc} (h : PcOk p) : Pok p where
  nd := h.hands.nd
  hl := h.hands.hi
  hn := h.hands.nm
  ln := h.ns.len
  rl := h.ready.len
  rn := fun a ha => row_names (h.rdy ha).2
  kr := fun a ha => h.keyed ha
  own := fun x hx => by
    obtain ⟨n, h1, rfl⟩ := mem_names.mp hx
    have e := hdOf_mem h.nd h1
    rw [e]
    exact ⟨mem_row.mpr ⟨n, h1, rfl, rfl⟩, (h.note h1).2⟩
theorem PcOk.ready_ne {p : Pc} (h : PcOk p) : p.ready ≠ [] := fun z => by
  have h1 := h.ready.len
  have h2 := h.hands.lo
  rw [z] at h1
  simp at h1
  omega
theorem PcOk.ready_in {p : Pc} (h : PcOk p) : ∀ r ∈ p.ready, r ∈ names p.ns := fun r hr => by
  obtain ⟨i, hi, e⟩ := List.getElem_of_mem hr
  have hz : i < (p.ready.zip p.hands).length := by rw [List.length_zip]; have := h.ready.len; omega
  have hm := List.getElem_mem hz
  rw [List.getElem_zip] at hm
  obtain ⟨h1, n, h2, h3, h4⟩ := h.ready.own _ hm
  rw [← e]
  exact mem_names.mpr ⟨n, h2, h3⟩
theorem PcOk.ct {p : Pc} {F : List (List Str)} (h : PcOk p) (hf : FamOk p.hands F) : Ct p F := ⟨h.pok, h.ready_ne, h.ready_in, hf⟩
/-! the pact of a lot alone -/
section
variable (p : Pc) (l : List Str)
def cutN : List Str := (p.ns.filter fun n => decide (n.hd ∈ l)).map (·.nm)
def cutWs (x : Str) : List Str := (underOf p.ns x).filter fun o => decide (o ∈ cutN p l) && !decide (o = x)
def cutNt (x : Str) : Nt := ⟨x, hdOf p.ns x, cutWs p l x⟩
def cutNs : List Nt := (cutN p l).map (cutNt p l)
def cutH : List Str := p.hands.filter fun h => decide (h ∈ l)
def whole : List Str := lotOf (bitNames p.ns (bitsOf p.paper p.ns))
def cutP : Pc := ⟨cutH p l, cutNs p l, (cutH p l).map p.rdy, (whole p).filter fun x => decide (x ∈ cutN p l)⟩
end
section
variable {p : Pc} {l : List Str}
theorem names_cut : names (cutNs p l) = cutN p l := by
  unfold names cutNs
  rw [List.map_map]
  exact List.map_id' _
theorem cutN_sub : (cutN p l).Sublist (names p.ns) := List.Sublist.map _ List.filter_sublist
theorem mem_cutN (nd : (names p.ns).Nodup) {x : Str} : x ∈ cutN p l ↔ x ∈ names p.ns ∧ hdOf p.ns x ∈ l := by
  unfold cutN
  rw [List.mem_map, mem_names]
  constructor
  · rintro ⟨n, h1, rfl⟩
    obtain ⟨h2, h3⟩ := List.mem_filter.mp h1
    exact ⟨⟨n, h2, rfl⟩, by rw [hdOf_mem nd h2]; exact of_decide_eq_true h3⟩
  · rintro ⟨⟨n, h1, rfl⟩, h2⟩
    rw [hdOf_mem nd h1] at h2
    exact ⟨n, List.mem_filter.mpr ⟨h1, decide_eq_true h2⟩, rfl⟩
theorem mem_cutWs (nd : (names p.ns).Nodup) {x o : Str} : o ∈ cutWs p l x ↔ o ∈ cutN p l ∧ o ≠ x ∧ isU p.ns o x = true := by
  unfold cutWs
  rw [List.mem_filter, mem_underOf nd, Bool.and_eq_true, decide_eq_true_eq, Bool.not_eq_true', decide_eq_false_iff_not]
  constructor
  · rintro ⟨⟨h1, h2⟩, h3, h4⟩
    exact ⟨h3, h4, h2⟩
  · rintro ⟨h1, h2, h3⟩
    exact ⟨⟨cutN_sub.subset h1, h3⟩, h1, h2⟩
theorem mem_whole (nd : (names p.ns).Nodup) {x : Str} : x ∈ whole p ↔ x ∈ names p.ns ∧ ∃ z ∈ names p.ns, z ∈ p.paper ∧ isU p.ns x z = true := by
  unfold whole
  rw [mem_lotOf, mem_bitNames nd, bitsOf_bit nd]
theorem cut_split (nd : (names p.ns).Nodup) {pre post : List Nt} {n : Nt} (e : cutNs p l = pre ++ n :: post) : n = cutNt p l n.nm ∧ n.nm ∈ cutN p l ∧ (∀ x ∈ names pre, pl p.ns x < pl p.ns n.nm) ∧ ∀ x ∈ names post, pl p.ns n.nm < pl p.ns x := by
  have hn : n ∈ cutNs p l := by rw [e]; simp
  obtain ⟨x, h1, rfl⟩ := List.mem_map.mp hn
  have h2 : (cutN p l).Pairwise fun a b => pl p.ns a < pl p.ns b := (pl_pairwise nd).sublist cutN_sub
  rw [← names_cut, e, names_app] at h2
  have h3 := List.pairwise_append.mp h2
  have h4 := List.pairwise_cons.mp h3.2.1
  exact ⟨rfl, h1, fun y hy => h3.2.2 y hy _ List.mem_cons_self, h4.1⟩
theorem cut_wo (nd : (names p.ns).Nodup) (hw : WsOk p.ns) : WsOk (cutNs p l) := fun pre n post e o ho => by
  obtain ⟨h1, h2, h3, h4⟩ := cut_split nd e
  rw [h1] at ho
  obtain ⟨a, b, c⟩ := (mem_cutWs nd).mp ho
  have hle := isU_le nd hw (cutN_sub.subset h2) c
  have a' := a
  rw [← names_cut, e, names_app] at a
  rcases List.mem_append.mp a with z | z
  · exact z
  · have z : o ∈ n.nm :: names post := z
    rcases List.mem_cons.mp z with z | z
    · exact absurd z b
    · have := h4 o z
      omega
theorem cut_nd (nd : (names p.ns).Nodup) : (names (cutNs p l)).Nodup := by
  rw [names_cut]
  exact nd.sublist cutN_sub
theorem WsOk.pre {a b : List Nt} (h : WsOk (a ++ b)) : WsOk a := fun pre n post e => h pre n (post ++ b) (by rw [e, List.append_assoc]; rfl)
/-- what lies under what stays -/
theorem cut_go (nd : (names p.ns).Nodup) (hw : WsOk p.ns) (pre : List Nt) : ∀ post, cutNs p l = pre ++ post → ∀ x ∈ names pre, ∀ y ∈ names pre, isU pre x y = isU p.ns x y := by
  refine snocInd (p := fun pre => ∀ post, cutNs p l = pre ++ post → ∀ x ∈ names pre, ∀ y ∈ names pre, isU pre x y = isU p.ns x y) (fun _ _ x h => by cases h) (fun pre n ih post e x hx y hy => ?_) pre
  have e2 : cutNs p l = pre ++ n :: post := by rw [e, List.append_assoc]; rfl
  have nd1 : (names (pre ++ [n])).Nodup := by
    have := cut_nd (l := l) nd
    rw [e, names_app] at this
    exact (List.nodup_append.mp this).1
  have hw1 : WsOk (pre ++ [n]) := by
    have := cut_wo (l := l) nd hw
    rw [e] at this
    exact this.pre
  obtain ⟨h1, h2, h3, h4⟩ := cut_split nd e2
  have i1 := ih (n :: post) e2
  have inN : ∀ z ∈ names pre, z ∈ cutN p l := fun z hz => by
    rw [← names_cut, e2, names_app]
    exact List.mem_append_left _ hz
  have inP : ∀ z ∈ names pre, z ∈ names p.ns := fun z hz => cutN_sub.subset (inN z hz)
  have nP := cutN_sub.subset h2
  rcases mem_snoc hy with hy | hy
  · rcases mem_snoc hx with hx | hx
    · rw [isU_old hx hy]
      exact i1 x hx y hy
    · rw [hx, isU_up nd1 hw1 hy]
      refine (Bool.eq_false_iff.mpr fun z => ?_).symm
      have a := isU_le nd hw (inP y hy) z
      have b := h3 y hy
      omega
  · rw [hy]
    rcases mem_snoc hx with hx | hx
    · refine Bool.eq_iff_iff.mpr ?_
      rw [isU_new nd1 hw1 hx]
      constructor
      · rintro (⟨o, a, b⟩ | ⟨z, a, b⟩)
        · have ho := hw1.init.2 o a
          rw [i1 x hx o ho] at b
          rw [h1] at a
          obtain ⟨_, _, c⟩ := (mem_cutWs nd).mp a
          exact isU_trans nd hw (inP x hx) (inP o ho) nP b c
        · have hz := List.mem_of_getLast? a
          have hzn := row_names hz
          rw [i1 x hx z hzn] at b
          obtain ⟨m, m1, m2, m3⟩ := mem_row.mp hz
          have m4 : m ∈ cutNs p l := by rw [e2]; exact List.mem_append_left _ m1
          obtain ⟨q, q1, rfl⟩ := List.mem_map.mp m4
          have m3 : q = z := m3
          subst m3
          have m2 : hdOf p.ns q = n.hd := m2
          have e3 : n.hd = hdOf p.ns n.nm := by
            conv => lhs; rw [h1]
            rfl
          refine isU_trans nd hw (inP x hx) (inP q hzn) nP b (row_under (h := n.hd) nd hw ((row_iff nd).mpr ⟨inP q hzn, m2⟩) ((row_iff nd).mpr ⟨nP, e3.symm⟩) ?_)
          have := h3 q hzn
          omega
      · intro c
        refine .inl ⟨x, ?_, isU_refl (nd_init nd1).1 hw1.init.1 hx⟩
        rw [h1]
        refine (mem_cutWs nd).mpr ⟨inN x hx, fun z => ?_, c⟩
        have := h3 x hx
        rw [z] at this
        omega
    · rw [hx, isU_one nd1 hw1, isU_refl nd hw nP]
theorem cut_isU (nd : (names p.ns).Nodup) (hw : WsOk p.ns) {x y : Str} (hx : x ∈ cutN p l) (hy : y ∈ cutN p l) : isU (cutNs p l) x y = isU p.ns x y := by
  rw [← names_cut] at hx hy
  exact cut_go nd hw (cutNs p l) [] (List.append_nil _).symm x hx y hy
theorem cut_row (nd : (names p.ns).Nodup) {h : Str} (hh : h ∈ l) : row (cutNs p l) h = row p.ns h := by
  have e1 : row (cutNs p l) h = (cutN p l).filter fun x => decide (hdOf p.ns x = h) := by
    unfold row cutNs
    rw [List.filter_map, List.map_map]
    exact List.map_id' _
  rw [e1]
  unfold cutN row
  rw [List.filter_map, List.filter_filter]
  refine congrArg _ (List.filter_congr fun n hn => ?_)
  show (decide (hdOf p.ns n.nm = h) && decide (n.hd ∈ l)) = decide (n.hd = h)
  rw [hdOf_mem nd hn]
  by_cases z : n.hd = h
  · rw [z]
    simp [hh]
  · simp [z]
theorem cut_rowN (nd : (names p.ns).Nodup) {h x : Str} (hh : h ∈ l) (hx : x ∈ row p.ns h) : x ∈ cutN p l := by
  obtain ⟨h1, h2⟩ := (row_iff nd).mp hx
  exact (mem_cutN nd).mpr ⟨h1, by rw [h2]; exact hh⟩
theorem cut_level (nd : (names p.ns).Nodup) (hw : WsOk p.ns) {h x : Str} (hh : h ∈ l) (hx : x ∈ cutN p l) : nextLevel (cutNs p l) h x = nextLevel p.ns h x := by
  unfold nextLevel
  rw [cut_row nd hh]
  refine congrArg _ (List.filter_congr fun o ho => ?_)
  rw [cut_isU nd hw hx (cut_rowN nd hh ho)]
theorem cut_next (nd : (names p.ns).Nodup) (hw : WsOk p.ns) {h x : Str} (hh : h ∈ l) (hx : x ∈ cutN p l) : nextNote (cutNs p l) h x = nextNote p.ns h x := by
  unfold nextNote
  rw [cut_row nd hh, cut_level nd hw hh hx]
theorem nextNote_row {ns : List Nt} {h x y : Str} (e : nextNote ns h x = some y) : y ∈ row ns h := List.mem_of_getElem? e
theorem cut_climb (nd : (names p.ns).Nodup) (hw : WsOk p.ns) : ∀ (r : List Str) {x : Str}, (∀ h ∈ r, h ∈ l) → x ∈ cutN p l → climbN (cutNs p l) x r = climbN p.ns x r ∧ ∀ y ∈ climbN p.ns x r, y ∈ cutN p l
  | [], x, _, _ => ⟨rfl, fun y h => by cases h⟩
  | h :: r, x, hr, hx => by
    have hh := hr h List.mem_cons_self
    unfold climbN
    rw [cut_next nd hw hh hx]
    cases e : nextNote p.ns h x with
    | none => exact ⟨rfl, fun y h => by cases h⟩
    | some y =>
      have hy := cut_rowN nd hh (nextNote_row e)
      obtain ⟨a, b⟩ := cut_climb nd hw r (fun z hz => hr z (List.mem_cons_of_mem _ hz)) hy
      refine ⟨congrArg _ a, fun z hz => ?_⟩
      rcases List.mem_cons.mp hz with k | k
      · rw [k]
        exact hy
      · exact b z k
theorem cut_key (nd : (names p.ns).Nodup) (hw : WsOk p.ns) {h : Str} (hh : h ∈ l) : keyRow (cutNs p l) (cutP p l).paper h = keyRow p.ns p.paper h := by
  unfold keyRow
  rw [cut_row nd hh]
  refine List.filter_congr fun x hx => Bool.eq_iff_iff.mpr ?_
  have xc := cut_rowN nd hh hx
  have xn := row_names hx
  rw [bitsOf_bit (cut_nd nd), bitsOf_bit nd, names_cut]
  constructor
  · rintro ⟨z, h1, h2, h3⟩
    have h2 := (List.mem_filter.mp (show z ∈ (whole p).filter fun x => decide (x ∈ cutN p l) from h2)).1
    rw [cut_isU nd hw xc h1] at h3
    obtain ⟨k1, y, k2, k3, k4⟩ := (mem_whole nd).mp h2
    exact ⟨y, k2, k3, isU_trans nd hw xn k1 k2 h3 k4⟩
  · rintro ⟨z, h1, h2, h3⟩
    refine ⟨x, xc, List.mem_filter.mpr ⟨(mem_whole nd).mpr ⟨xn, z, h1, h2, h3⟩, decide_eq_true xc⟩, ?_⟩
    rw [cut_isU nd hw xc xc]
    exact isU_refl nd hw xn
theorem idx_map {f : Str → Str} {hs : List Str} {h : Str} (hh : h ∈ hs) : (hs.map f).getD (hs.idxOf h) "" = f h := by
  have hi := List.idxOf_lt_length_of_mem hh
  rw [List.getD_eq_getElem?_getD, List.getElem?_map, List.getElem?_eq_getElem hi, List.getElem_idxOf hi]
  rfl
theorem mem_cutH {h : Str} : h ∈ cutH p l ↔ h ∈ p.hands ∧ h ∈ l := by
  unfold cutH
  rw [List.mem_filter, decide_eq_true_eq]
theorem cut_rdy {h : Str} (hh : h ∈ l) (hp : h ∈ p.hands) : (cutP p l).rdy h = p.rdy h := idx_map (mem_cutH.mpr ⟨hp, hh⟩)
/-- rows hold as ahead -/
theorem cut_holds (hp : PcOk p) {h : Str} {r : List Str} (hh : h ∈ l) (hph : h ∈ p.hands) (hr : ∀ x ∈ r, x ∈ l) (hrp : ∀ x ∈ r, x ∈ p.hands) (ne : r ≠ []) : rowHolds (cutP p l) h r = rowHolds p h r := by
  have nd := hp.nd
  have hw := hp.wo
  have hx : p.rdy h ∈ cutN p l := cut_rowN nd hh (hp.rdy hph).2
  obtain ⟨e1, e2⟩ := cut_climb nd hw r hr hx
  have hlast : r.getLastD "" ∈ r := getLastD_mem (d := ("" : Str)) (xs := r) ne
  have ek : keyNote (cutP p l).ns (cutP p l).paper (r.getLastD "") = keyNote p.ns p.paper (r.getLastD "") := congrArg (fun z => z.getLastD "") (cut_key nd hw (hr _ hlast))
  unfold rowHolds
  rw [cut_rdy hh hph, ek]
  show (decide ((climbN (cutNs p l) (p.rdy h) r).length = r.length) && isU (cutNs p l) ((climbN (cutNs p l) (p.rdy h) r).getLastD "") _) = _
  rw [e1]
  by_cases hlen : (climbN p.ns (p.rdy h) r).length = r.length
  · have ne2 : climbN p.ns (p.rdy h) r ≠ [] := fun z => by
      rw [z] at hlen
      exact ne (List.eq_nil_of_length_eq_zero hlen.symm)
    have k1 := e2 _ (getLastD_mem (d := ("" : Str)) ne2)
    have k2 : keyNote p.ns p.paper (r.getLastD "") ∈ cutN p l := cut_rowN nd (hr _ hlast) (List.mem_filter.mp (getLastD_mem (d := ("" : Str)) (hp.keyed (hrp _ hlast)))).1
    rw [cut_isU nd hw k1 k2]
  · rw [decide_eq_false hlen]
    rfl
end
end Kb
end TPv
section TWr
set_option Elab.async false
set_option autoImplicit false
set_option linter.all false
set_option maxRecDepth 100000
set_option maxHeartbeats 4000000
/-! Wr: the court. -/
namespace Kb
open PySem PySem.Spec PyProof.Rows L2 PySem.W
/-- an instance, its attributes forgotten -/
theorem wkI {X : Cx} {Z : Zn} {ρ : En} {e : Expr} {C : Addr} {fs : List (Str × Ty)} (h : PE X e (tO Z ρ (tyI C fs).od)) : PE X e (tO Z ρ (tyI C []).od) :=
  od.imp (w := (tyI C fs).od) (w' := (tyI C []).od) (fun F H v _ _ ⟨a, dx, vs, h1, h2, _⟩ => ⟨a, dx, vs, h1, h2, fun f t e => by cases e⟩) h
theorem shaped_strs {xs : List Str} (h : SOk xs) : SeqAt.shaped (.list (xs.map .str)) = true := by
  unfold SeqAt.shaped
  have h1 : PyData.canLay0 (.list (xs.map .str)) = true := canLay_strs h
  have h2 : PyData.depth (.list (xs.map .str)) ≤ 64 := by
    show PyData.depthAll (xs.map .str) + 1 ≤ 64
    rw [depth0_strs]
    decide
  rw [h1, decide_eq_true h2]
  rfl
/-- a Just or a Torn -/
def tyW (CJ CT : Addr) (b : Bool) : Ty := tyI (if b then CJ else CT) []
/-- the lines of the table that are high -/
def highs (p : Pc) (F : List (List Str)) : List (List Str × Str) := (tab p F).filter fun x => decide ((keyLevel p x.2 : Int) < (levB p x.1 x.2 : Int))
def isHigh (p : Pc) (F : List (List Str)) (r : List Str) : Bool := decide (kPair (lotOf r) (r.getLastD "") ∈ (highs p F).map fun x => kPair x.1 x.2)
def failing (p : Pc) (r : List Str) : List Str := p.hands.filter fun h => !rowHolds p h r
def courtB (p : Pc) (F : List (List Str)) : Bool := !((courtRows p F).any fun r => isHigh p F r && !decide (failing p r = []))
theorem Ct.row {p : Pc} {F : List (List Str)} (c : Ct p F) {r : List Str} (h : r ∈ courtRows p F) : RowOk p.hands r := by
  unfold courtRows at h
  rw [mem_ksrt, List.mem_flatMap] at h
  obtain ⟨l, h1, h2⟩ := h
  obtain ⟨q, a, rfl, h3, h4, h5, h6⟩ := mem_rowsOf.mp h2
  obtain ⟨h7, h8⟩ := List.mem_filter.mp h6
  have h8 : a ∉ l := by simpa using h8
  refine ⟨by simp, fun x hx => ?_, List.nodup_append.mpr ⟨h4, by simp, fun x hx y hy e => h8 ?_⟩⟩
  · rcases List.mem_append.mp hx with z | z
    · exact c.sub h1 x (h5 x z)
    · rw [List.mem_singleton.mp z]
      exact h7
  · rw [← List.mem_singleton.mp hy, ← e]
    exact h5 x hx
theorem tab_len {p : Pc} {F : List (List Str)} (c : Ct p F) : (tab p F).length ≤ 384 := by
  have h1 := c.all64
  have h2 : (tab p F).length ≤ (allLots F).length * 6 := flatMap_len fun l _ => by
    rw [List.length_map]
    exact Nat.le_trans (List.length_filter_le _ _) c.evr
  omega
theorem mem_tab {p : Pc} {F : List (List Str)} (c : Ct p F) {x : List Str × Str} (h : x ∈ tab p F) : x.2 ∈ p.hands := by
  obtain ⟨l, _, h2⟩ := List.mem_flatMap.mp h
  obtain ⟨a, h3, rfl⟩ := List.mem_map.mp h2
  exact mem_lotOf.mp (List.mem_filter.mp h3).1
section
variable {P : Program} {w : World} {K : PySem.W.Frag} {mg : Str → Option Value} {base : Heap} {tb : Addr} {C CJ CT : Addr}
/-- Torn, whatever the hand is -/
abbrev q63' (C : Addr) (Z : Zn) : Sp := spI Z C (fun x : Ty × List Str => [x.1, Dt (eL x.2)]) (fun _ => True) fun x => [("row", Dt (eL x.2)), ("hand", x.1)]
theorem ok63' {qn : Str} (cl : Cls K C) (na1 : NoAttr K C "hand") (na2 : NoAttr K C "row") (D : Dc K mg "Torn" "Torn.__init__" C s63_0 ["self", "hand", "row"]) : Okc P w K mg base "Torn" C 1 (q63' C ⟨tb, qn, none⟩) := by
  refine okInit D c63_0 (fun _ => rfl) (by decide) fun f cdv A outer s H E a F0 G sf hr hp => ?_
  exact sfld (n := 0) 0 cl na1 (dv 1) (by decide) (sfld (n := 1) 0 cl na2 (dv 2) (by decide) (s0 ⟨_, rfl⟩))
abbrev q71 (C CJ CT : Addr) (Z : Zn) : Sp := spD Z (fun x : Pc × List (List Str) => [tyP C x.1, Dt (.tuple (x.2.map eL))]) (fun x => Ct x.1 x.2) fun x => tyW CJ CT (courtB x.1 x.2)
theorem ok71 (V : Gv mg) (k : PKl K C) (D : Dn K mg "court" s71 ["pact", "family"]) (C14 : Okd P w K mg base "lot_of" 1 (q14 ⟨tb, lamN, none⟩)) (C51 : Okd P w K mg base "row_holds" 7 (q51 C ⟨tb, lamN, none⟩)) (C62 : Okc P w K mg base "Just" CJ 1 (q62 CJ ⟨tb, lamN, none⟩)) (C63 : Okc P w K mg base "Torn" CT 1 (q63' CT ⟨tb, lamN, none⟩))
    (C65 : Okd P w K mg base "court_rows" 6 (q65 C ⟨tb, lamN, none⟩)) (C69 : Okd P w K mg base "court_table" 7 (q69 C ⟨tb, lamN, none⟩)) (C70 : Okd P w K mg base "key_level" 4 (q70 C ⟨tb, lamN, none⟩)) : Okd P w K mg base "court" 8 (q71 C CJ CT ⟨tb, lamN, none⟩) := by
  refine okD D c71 (fun _ => rfl) (by decide) fun f cdv A outer s H E a F0 G hr hp => ?_
  obtain ⟨p, F⟩ := a
  have hp : Ct p F := hp
  have tl := tab_len hp
  have hl6 := hp.pok.hl
  have lh : (putsN (fun x : List Str × Str => kPair x.1 x.2) (fun _ => PyData.bool true) [] (highs p F)).length ≤ 384 := by
    have := putsN_len (fun x : List Str × Str => kPair x.1 x.2) (fun _ => PyData.bool true) (highs p F) []
    have h2 : (highs p F).length ≤ (tab p F).length := List.length_filter_le _ _
    rw [List.length_nil] at this
    omega
  refine sset (t := Dt (.tuple ((tab p F).map (eT p)))) 2 c71.nd (dcl hr C69 (p, F) hp (pac (dv 0) (pac (dv 1) pa0))) ?_
  refine ssetDc 3 (own := [("lot", 4), ("hand", 5), ("level", 6)]) (t := tyD P w (putsN (fun x : List Str × Str => kPair x.1 x.2) (fun _ => PyData.bool true) [] (highs p F))) (ddcN hr.u64 (xs := tab p F) (f := fun x => decide ((keyLevel p x.2 : Int) < (levB p x.1 x.2 : Int))) (ky := fun x : List Str × Str => kPair x.1 x.2) (vl := fun _ => .bool true) rfl c71.nd
    (itTs (xs := tab p F) (f := eT p) (dv 2)) (blkOk_by (N := n71) (sc := defScope s71) (by decide +kernel)) (fun _ _ _ _ _ x _ => gt rfl (gsc (gn 4 c71.nd) (gsc (gn 5 c71.nd) (gsc (gn 6 c71.nd) gs0))))
    (fun _ _ _ _ _ x hx => pt1 (pgt (dv 6) (dcl hr C70 (p, x.2) ⟨hp.pok, mem_tab hp hx⟩ (pac (dv 0) (pac (dv 5) pa0))))) (fun _ _ _ _ _ x _ _ => dis (dtup (ds := [eL x.1, .str x.2]) (pac (dv 4) (pac (dv 5) pa0)) (Nat.le_of_ble_eq_true rfl)) (data_pair _ _).symm) (fun _ _ _ _ _ x _ _ => dbl) (fun x _ => ⟨trivial, depth_kPair _ _⟩) (by omega)) (frzN _) ?_ (hsw := sw_dict rfl rfl rfl (by decide +kernel))
  refine sif (Ψ := ⟨fun ρ' => courtB p F = true ∧ ∃ x4 x5 x6 x7 x8, ρ' = [some (.im (tyP C p)), some (.im (Dt (.tuple (F.map eL)))), some (.im (Dt (.tuple ((tab p F).map (eT p))))), some (.im (tyD P w (putsN (fun x : List Str × Str => kPair x.1 x.2) (fun _ => PyData.bool true) [] (highs p F)))), x4, x5, x6, x7, x8], _, _, _⟩)
    (pgt (dlenN V.bi (vN (dv 3)) (by omega)) dint) (fun hb => ?_) (fun hb => ?_) fun ρ' ⟨hb, x4, x5, x6, x7, x8, e⟩ => ?_
  · refine sforN (xs := courtRows p F) (fun pre ρ1 => (∀ r ∈ pre, (isHigh p F r && !decide (failing p r = [])) = false) ∧ ∃ x4 x5 x6 x7 x8, ρ1 = [some (.im (tyP C p)), some (.im (Dt (.tuple (F.map eL)))), some (.im (Dt (.tuple ((tab p F).map (eT p))))), some (.im (tyD P w (putsN (fun x : List Str × Str => kPair x.1 x.2) (fun _ => PyData.bool true) [] (highs p F)))), x4, x5, x6, x7, x8]) PassesOwn.never rfl
      (itTs (xs := courtRows p F) (f := eL) (dcl hr C65 (p, F) hp (pac (dv 0) (pac (dv 1) pa0)))) ⟨(fun r h => by cases h), _, _, _, _, _, rfl⟩ (fun pre r post ρ1 hx ⟨hn, x4, x5, x6, x7, x8, e⟩ => ?_) fun ρ1 ⟨hn, x4, x5, x6, x7, x8, e⟩ => ?_
    · subst e
      have hr' : r ∈ courtRows p F := by rw [hx]; simp
      have ro := hp.row hr'
      have rl := ro.len
      have e1 : (lookN (putsN (fun x : List Str × Str => kPair x.1 x.2) (fun _ => PyData.bool true) [] (highs p F)) (kPair (lotOf r) (r.getLastD ""))).isSome = isHigh p F r := by
        rw [putsN_isSome]
        exact Bool.or_false _
      refine ⟨_, gn 7 c71.nd, ?_⟩
      refine sset (t := Dt (.list [])) 8 c71.nd (nL (dlst (ds := []) pa0)) ?_
      refine sif (Ψ := ⟨fun ρ' => ρ' = [some (.im (tyP C p)), some (.im (Dt (.tuple (F.map eL)))), some (.im (Dt (.tuple ((tab p F).map (eT p))))), some (.im (tyD P w (putsN (fun x : List Str × Str => kPair x.1 x.2) (fun _ => PyData.bool true) [] (highs p F)))), x4, x5, x6, some (.im (Dt (eL r))), some (.im (Dt (.list ((if isHigh p F r then failing p r else []).map .str))))], _, _, _⟩)
        (ptis (pinN hr.u64 (k := kPair (lotOf r) (r.getLastD "")) (dis (dtup (ds := [eL (lotOf r), .str (r.getLastD "")]) (pac (dcl hr C14 (.inl (false, r)) (show r.length ≤ 1000 by omega) (pac (dv 7) pa0)) (pac (dixT (vT (dv 7)) (dneg dint) (atI_last ro.ne)) pa0)) (Nat.le_of_ble_eq_true rfl)) (data_pair _ _).symm) (vN (dv 3)) trivial (depth_kPair _ _)) e1) (fun hb => ?_) (fun hb => ?_) fun ρ' e => ?_
      · refine ssetLc 8 (own := [("hand", 5)]) (dlc (xs := p.hands) (f := fun h => !rowHolds p h r) (g := fun h => .str h) rfl c71.nd (itTs (xs := p.hands) (f := PyData.str) (vF (pHands k (dv 0)))) (blkOk_by (N := n71) (sc := defScope s71) (by decide +kernel))
          (fun _ _ _ _ _ x _ => gn 5 c71.nd) (fun _ _ _ _ _ x hx => pt1 (ptnot (ptv (dcl hr C51 (p, x, r) ⟨hp.pok, hx, ro⟩ (pac (dv 0) (pac (dv 5) (pac (dv 7) pa0))))))) (fun _ _ _ _ _ x _ _ => dv 5) (by omega)) (fun acc ha => s0 ?_)
        subst ha
        rw [if_pos hb.symm]
        rfl
      · refine s0 ?_
        rw [if_neg (by rw [← hb]; decide)]
        rfl
      · subst e
        have fo : ∀ x ∈ (if isHigh p F r then failing p r else []), x ∈ p.hands := fun x hx => by
          by_cases z : isHigh p F r
          · rw [if_pos z] at hx
            exact (List.mem_filter.mp hx).1
          · rw [if_neg z] at hx
            cases hx
        have sh : SeqAt.shaped (.list ((if isHigh p F r then failing p r else []).map .str)) = true := shaped_strs fun x hx => hp.sok x (fo x hx)
        have ee : PyData.eqv (.list ((if isHigh p F r then failing p r else []).map .str)) (.list []) = decide ((if isHigh p F r then failing p r else []) = []) := by
          cases (if isHigh p F r then failing p r else []) with
          | nil => rfl
          | cons a b => rfl
        refine sif (Ψ := ⟨fun ρ' => (isHigh p F r && !decide (failing p r = [])) = false ∧ ∃ x4 x5 x6 x7 x8, ρ' = [some (.im (tyP C p)), some (.im (Dt (.tuple (F.map eL)))), some (.im (Dt (.tuple ((tab p F).map (eT p))))), some (.im (tyD P w (putsN (fun x : List Str × Str => kPair x.1 x.2) (fun _ => PyData.bool true) [] (highs p F)))), x4, x5, x6, x7, x8], _, _, _⟩)
          (ptis (pneD (d := .list ((if isHigh p F r then failing p r else []).map .str)) (d' := .list []) hr.u64 sh rfl (bo (dv 8)) (bo (nL (dlst (ds := []) pa0)))) (congrArg not ee)) (fun hb => ?_) (fun hb => ?_) fun ρ' h => s0 ?_
        · have hb : (if isHigh p F r then failing p r else []) ≠ [] := fun z => by rw [z] at hb; cases hb
          have h1 : isHigh p F r = true := Classical.byContradiction fun z => hb (by rw [if_neg z])
          rw [if_pos h1] at hb
          have ct : courtB p F = false := by
            unfold courtB
            rw [Bool.not_eq_false', List.any_eq_true]
            exact ⟨r, hr', by rw [h1, decide_eq_false hb]; rfl⟩
          have et : tyI CT [] = tyW CJ CT (courtB p F) := by
            unfold tyW
            rw [ct]
            rfl
          obtain ⟨x, xs, ex⟩ := List.exists_cons_of_ne_nil hb
          refine sret (t := tyI CT []) (wkI (dmake hr C63 (Ty.ex (fun _ => True) fun y => Dt (.str y), r) trivial (pac (dminS V.bi (x := x) (xs := xs) rfl hr.u64 (vL (dis (dv 8) ?_))) (pac (dv 7) pa0)))) et
          rw [if_pos h1, ex]
        · have hb : (if isHigh p F r then failing p r else []) = [] := Classical.byContradiction fun z => by rw [decide_eq_false z] at hb; cases hb
          refine s0 ⟨?_, _, _, _, _, _, rfl⟩
          cases h1 : isHigh p F r with
          | false => rfl
          | true =>
            rw [h1, if_pos rfl] at hb
            rw [hb]
            rfl
        · obtain ⟨h1, h2⟩ := h
          refine ⟨fun q hq => ?_, h2⟩
          rcases List.mem_append.mp hq with z | z
          · exact hn q z
          · rw [List.mem_singleton.mp z]
            exact h1
    · subst e
      refine s0 ⟨?_, _, _, _, _, _, rfl⟩
      unfold courtB
      rw [Bool.not_eq_true', List.any_eq_false]
      exact fun r hr => by rw [hn r hr]; decide
  · refine s0 ⟨?_, _, _, _, _, _, rfl⟩
    have e0 := putsN_pos (fun x : List Str × Str => kPair x.1 x.2) (fun _ => PyData.bool true) (highs p F)
    have hb : highs p F = [] := Classical.byContradiction fun z => by
      rw [decide_eq_true z] at e0
      have e0 := of_decide_eq_true e0
      have hb := of_decide_eq_false hb.symm
      omega
    unfold courtB
    rw [Bool.not_eq_true', List.any_eq_false]
    intro r _
    unfold isHigh
    rw [hb]
    simp
  · subst e
    have et : tyI CJ [] = tyW CJ CT (courtB p F) := by
      unfold tyW
      rw [hb]
      rfl
    exact sret (t := tyI CJ []) (wkI (dmake hr C62 (.tuple ((tab p F).map (eT p))) trivial (pac (dv 2) pa0))) et
end
end Kb
end TWr
section TWs
set_option Elab.async false
set_option autoImplicit false
set_option linter.all false
set_option maxRecDepth 100000
set_option maxHeartbeats 4000000
/-! Ws: rows within a lot; the pact of a lot alone. -/
namespace Kb
open PySem PySem.Spec PyProof.Rows L2 PySem.W
/-- a Torn or None -/
def tyO (CT : Addr) (b : Bool) : Ty := if b then tyI CT [] else Dt .none
/-- a lot of these hands -/
structure LotIn (hs l : List Str) : Prop where
  lt : l.Pairwise sLt
  sub : ∀ x ∈ l, x ∈ hs
theorem LotIn.nd {hs l : List Str} (h : LotIn hs l) : l.Nodup := sLt_nodup h.lt
theorem LotIn.len {hs l : List Str} (h : LotIn hs l) : l.length ≤ hs.length := nodup_sub_len h.nd h.sub
abbrev rest (l q : List Str) : List Str := l.filter fun x => !decide (x ∈ q)
def rowsIf (F : List (List Str)) (l q : List Str) : List (List Str) := if inFam F q then rowsOf q (rest l q) else []
def tornRows (F : List (List Str)) (l : List Str) : List (List Str) := ksrt ((parts l).flatMap (rowsIf F l))
def tornB (p : Pc) (F : List (List Str)) (l : List Str) : Bool := (tornRows F l).any fun r => l.any fun h => !rowHolds p h r
theorem rowsIf_len {F : List (List Str)} {l q : List Str} (nd : l.Nodup) (h6 : l.length ≤ 6) (hq : q ∈ parts l) : (rowsIf F l q).length ≤ 720 := by
  have qs := parts_sub l q hq
  unfold rowsIf
  by_cases z : inFam F q
  · rw [if_pos z]
    have : (rest l q).length + q.length = l.length := len_out nd (qs.nodup nd) fun x hx => qs.subset hx
    exact rowsOf_720 (qs.nodup nd) (by omega)
  · rw [if_neg z]
    exact Nat.zero_le _
theorem mem_tornRows {F : List (List Str)} {l r : List Str} : r ∈ tornRows F l ↔ ∃ q h, r = q ++ [h] ∧ q.Nodup ∧ (∀ x ∈ q, x ∈ l) ∧ h ∈ l ∧ h ∉ q ∧ ∃ o, o ∈ parts l ∧ inFam F o = true ∧ q.length = o.length ∧ ∀ x ∈ q, x ∈ o := by
  unfold tornRows
  rw [mem_ksrt, List.mem_flatMap]
  constructor
  · rintro ⟨o, h1, h2⟩
    unfold rowsIf at h2
    by_cases z : inFam F o
    · rw [if_pos z] at h2
      obtain ⟨q, h, rfl, a, b, c, d⟩ := mem_rowsOf.mp h2
      obtain ⟨d1, d2⟩ := List.mem_filter.mp d
      have d2 : h ∉ o := by simpa using d2
      exact ⟨q, h, rfl, b, fun x hx => (parts_sub l o h1).subset (c x hx), d1, fun z => d2 (c h z), o, h1, z, a, c⟩
    · rw [if_neg z] at h2
      cases h2
  · rintro ⟨q, h, rfl, b, _, d1, d2, o, h1, z, a, c⟩
    refine ⟨o, h1, ?_⟩
    unfold rowsIf
    rw [if_pos z]
    refine mem_rowsOf.mpr ⟨q, h, rfl, a, b, c, List.mem_filter.mpr ⟨d1, ?_⟩⟩
    have pm := perm_of_sub b c (by omega)
    have : h ∉ o := fun k => d2 (pm.mem_iff.mpr k)
    simpa using this
theorem tornRow_ok {F : List (List Str)} {hs l r : List Str} (hl : ∀ x ∈ l, x ∈ hs) (h : r ∈ tornRows F l) : RowOk hs r := by
  obtain ⟨q, a, rfl, b, b2, d1, d2, _⟩ := mem_tornRows.mp h
  refine ⟨by simp, fun x hx => ?_, List.nodup_append.mpr ⟨b, by simp, fun x hx y hy e => d2 ?_⟩⟩
  · rcases List.mem_append.mp hx with z | z
    · exact hl x (b2 x z)
    · rw [List.mem_singleton.mp z]
      exact hl a d1
  · rw [← List.mem_singleton.mp hy, ← e]
    exact hx
section
variable {P : Program} {w : World} {K : PySem.W.Frag} {mg : Str → Option Value} {base : Heap} {tb : Addr} {C CJ CT : Addr}
abbrev q75 (C CT : Addr) (Z : Zn) : Sp := spD Z (fun x : Pc × List (List Str) × List Str => [tyP C x.1, Dt (.tuple (x.2.1.map eL)), Dt (eL x.2.2)]) (fun x => Ct x.1 x.2.1 ∧ LotIn x.1.hands x.2.2) fun x => tyO CT (tornB x.1 x.2.1 x.2.2)
theorem ok75 (V : Gv mg) (k : PKl K C) (D : Dn K mg "torn_in" s75 ["pact", "family", "lot"]) (C17 : Okd P w K mg base "lot_less" 1 (q17 ⟨tb, lamN, none⟩)) (C51 : Okd P w K mg base "row_holds" 7 (q51 C ⟨tb, lamN, none⟩)) (C55 : Okd P w K mg base "need_family" 5 (q55 C ⟨tb, lamN, none⟩)) (C56 : Okd P w K mg base "in_family" 2 (q56 ⟨tb, lamN, none⟩))
    (C57 : Okd P w K mg base "lot_parts" 1 (q57 ⟨tb, lamN, none⟩)) (C58 : Okd P w K mg base "lots_in_order" 3 (q58 ⟨tb, lamN, none⟩)) (C63 : Okc P w K mg base "Torn" CT 1 (q63' CT ⟨tb, lamN, none⟩)) (C64 : Okd P w K mg base "lot_orders" 1 (q64 ⟨tb, lamN, none⟩)) (C73 : Okd P w K mg base "need_lot_hands" 2 (q73 C ⟨tb, lamN, none⟩)) :
    Okd P w K mg base "torn_in" 8 (q75 C CT ⟨tb, lamN, none⟩) := by
  refine okD D c75 (fun _ => rfl) (by decide) fun f cdv A outer s H E a F0 G hr hp => ?_
  obtain ⟨p, F, l⟩ := a
  obtain ⟨h1, h2⟩ := hp
  have h1 : Ct p F := h1
  have h2 : LotIn p.hands l := h2
  have l6 : l.length ≤ 6 := Nat.le_trans h2.len h1.pok.hl
  have pn : (parts l).length ≤ 64 := by
    rw [parts_len]
    exact Nat.pow_le_pow_right (n := 2) (by decide) l6
  have F63 := h1.fam.len
  refine sexp (dcl hr C55 (p, F) h1.fam (pac (dv 0) (pac (dv 1) pa0))) ?_
  refine sexp (dcl hr C73 (p, l) h2.sub (pac (dv 0) (pac (dv 2) pa0))) ?_
  refine sset (t := Dt (.list ((([] : List (List Str)).flatMap (rowsIf F l)).map eL))) 3 c75.nd (nL (dlst (ds := []) pa0)) ?_
  refine sforN (xs := parts l) (fun pre ρ1 => ∃ x4 x5 x6, ρ1 = [some (.im (tyP C p)), some (.im (Dt (.tuple (F.map eL)))), some (.im (Dt (eL l))), some (.im (Dt (.list ((pre.flatMap (rowsIf F l)).map eL)))), x4, x5, x6, none]) PassesOwn.never rfl
    (itLs (xs := parts l) (f := eL) (dcl hr C57 l (show l.length ≤ 8 by omega) (pac (dv 2) pa0))) ⟨_, _, _, rfl⟩ (fun pre q post ρ1 hx ⟨x4, x5, x6, e⟩ => ?_) fun ρ1 ⟨x4, x5, x6, e⟩ => ?_
  · subst e
    have hq : q ∈ parts l := by rw [hx]; simp
    have qs := parts_sub l q hq
    have ql := qs.length_le
    have qn := qs.nodup h2.nd
    refine ⟨_, gn 4 c75.nd, ?_⟩
    refine sif (Ψ := ⟨fun ρ1 => ∃ x4 x5 x6, ρ1 = [some (.im (tyP C p)), some (.im (Dt (.tuple (F.map eL)))), some (.im (Dt (eL l))), some (.im (Dt (.list (((pre ++ [q]).flatMap (rowsIf F l)).map eL)))), x4, x5, x6, none], _, _, _⟩)
      (ptv (dcl hr C56 (F, q) ⟨show F.length ≤ 1000 by omega, show q.length ≤ 1000 by omega⟩ (pac (dv 1) (pac (dv 4) pa0)))) (fun hb => ?_) (fun hb => ?_) fun ρ' h => s0 h
    · have eq1 : rowsIf F l q = rowsOf q (rest l q) := if_pos hb.symm
      have e1 : (pre.flatMap (rowsIf F l)).map eL ++ ((ords q q.length).flatMap fun r => (((rest l q).filter fun _ => true).map fun h => eL (r ++ [h]))) = ((pre ++ [q]).flatMap (rowsIf F l)).map eL := by
        rw [rowsOf_map, List.flatMap_append, List.flatMap_cons, List.flatMap_nil, List.append_nil, List.map_append, eq1]
      have b1 := flatMap_len (f := rowsIf F l) (k := 720) (l := pre) fun x hx' => rowsIf_len h2.nd l6 (by rw [hx]; exact List.mem_append_left _ hx')
      have b2 := rowsIf_len (F := F) h2.nd l6 hq
      rw [eq1] at b2
      have b3 : pre.length + 1 ≤ 64 := by
        have := congrArg List.length hx
        rw [List.length_append, List.length_cons] at this
        omega
      refine sset 3 c75.nd (dis (nL (dcatL (vL (dv 3)) (nV (lc2D (dlc2 (own := [("row", 5), ("last", 6)]) (vs1 := [6]) (f := fun _ _ => true) (g := fun (r : List Str) (h : Str) => eL (r ++ [h])) (ys := fun _ => rest l q) rfl c75.nd
        (itLs (xs := ords q q.length) (f := eL) (dcl hr C64 q (show q.length ≤ 6 by omega) (pac (dv 4) pa0))) (blkOk_by (N := n75) (sc := defScope s75) (by decide +kernel)) (by decide) (fun _ _ => rfl)
        (fun _ _ _ _ _ r _ => gn 5 c75.nd) (fun _ _ _ _ _ r _ => itTs (xs := rest l q) (f := PyData.str) (dcl hr C17 (l, q) (show l.length ≤ 1000 by omega) (pac (dv 2) (pac (dv 4) pa0)))) (fun _ _ _ _ _ r h _ _ => gn 6 c75.nd) (fun _ _ _ _ _ r h _ _ => pt0) (fun _ _ _ _ _ r h hr' _ _ => dis (dcatT (dv 5) (dtup (ds := [.str h]) (pac (dv 6) pa0) (Nat.le_of_ble_eq_true rfl)) ?_) (eL_snoc r h)) ?_))) ?_)) (congrArg PyData.list e1)) (s0 ⟨_, _, _, rfl⟩)
      · rw [List.length_map, ords_each q _ r hr', List.length_singleton]
        omega
      · rw [rowsOf_map, List.length_map]
        omega
      · rw [rowsOf_map, List.length_map, List.length_map]
        omega
    · have eq1 : rowsIf F l q = [] := if_neg (by rw [← hb]; decide)
      have e1 : (pre.flatMap (rowsIf F l)).map eL = ((pre ++ [q]).flatMap (rowsIf F l)).map eL := by
        rw [List.flatMap_append, List.flatMap_cons, List.flatMap_nil, List.append_nil, eq1, List.append_nil]
      refine s0 ?_
      rw [← e1]
      exact ⟨_, _, _, rfl⟩
  · subst e
    have bl := flatMap_len (f := rowsIf F l) (k := 720) (l := parts l) fun x hx' => rowsIf_len h2.nd l6 hx'
    refine sforN (xs := tornRows F l) (fun pre ρ1 => (∀ r ∈ pre, ∀ h ∈ l, rowHolds p h r = true) ∧ ∃ x5 x7, ρ1 = [some (.im (tyP C p)), some (.im (Dt (.tuple (F.map eL)))), some (.im (Dt (eL l))), some (.im (Dt (.list (((parts l).flatMap (rowsIf F l)).map eL)))), x4, x5, x6, x7]) PassesOwn.never rfl
      (itTs (xs := tornRows F l) (f := eL) (dcl hr C58 ((parts l).flatMap (rowsIf F l)) ⟨by omega, fun x hx => ?_⟩ (pac (dv 3) pa0))) ⟨(fun r h => by cases h), _, _, rfl⟩ (fun pre r post ρ1 hx ⟨hn, x5, x7, e⟩ => ?_) fun ρ1 ⟨hn, x5, x7, e⟩ => ?_
    · have hx : x ∈ tornRows F l := mem_ksrt.mpr hx
      have := (tornRow_ok h2.sub hx).len
      have := h1.pok.hl
      omega
    · subst e
      have hrm : r ∈ tornRows F l := by rw [hx]; simp
      have ro := tornRow_ok h2.sub hrm
      refine ⟨_, gn 5 c75.nd, ?_⟩
      refine sforN (xs := l) (fun pre2 ρ1 => (∀ h ∈ pre2, rowHolds p h r = true) ∧ ∃ x7, ρ1 = [some (.im (tyP C p)), some (.im (Dt (.tuple (F.map eL)))), some (.im (Dt (eL l))), some (.im (Dt (.list (((parts l).flatMap (rowsIf F l)).map eL)))), x4, some (.im (Dt (eL r))), x6, x7]) PassesOwn.never rfl
        (itTs (xs := l) (f := PyData.str) (dv 2)) ⟨(fun r h => by cases h), _, rfl⟩ (fun pre2 h post2 ρ2 hh ⟨hn2, x7, e⟩ => ?_) fun ρ2 ⟨hn2, x7, e⟩ => ?_
      · subst e
        have hm : h ∈ l := by rw [hh]; simp
        refine ⟨_, gn 7 c75.nd, ?_⟩
        refine sif (Ψ := ⟨fun ρ1 => (∀ h' ∈ pre2 ++ [h], rowHolds p h' r = true) ∧ ∃ x7, ρ1 = [some (.im (tyP C p)), some (.im (Dt (.tuple (F.map eL)))), some (.im (Dt (eL l))), some (.im (Dt (.list (((parts l).flatMap (rowsIf F l)).map eL)))), x4, some (.im (Dt (eL r))), x6, x7], _, _, _⟩)
          (ptnot (ptv (dcl hr C51 (p, h, r) ⟨h1.pok, h2.sub h hm, ro⟩ (pac (dv 0) (pac (dv 7) (pac (dv 5) pa0)))))) (fun hb => ?_) (fun hb => ?_) fun ρ' z => s0 z
        · have ct : tornB p F l = true := by
            unfold tornB
            rw [List.any_eq_true]
            refine ⟨r, hrm, ?_⟩
            rw [List.any_eq_true]
            exact ⟨h, hm, hb.symm⟩
          have et : tyI CT [] = tyO CT (tornB p F l) := by
            unfold tyO
            rw [ct]
            rfl
          exact sret (t := tyI CT []) (wkI (dmake hr C63 (Dt (.str h), r) trivial (pac (dv 7) (pac (dv 5) pa0)))) et
        · refine s0 ⟨fun h' hh' => ?_, _, rfl⟩
          rcases List.mem_append.mp hh' with z | z
          · exact hn2 h' z
          · rw [List.mem_singleton.mp z]
            have hb : (!rowHolds p h r) = false := hb.symm
            simpa using hb
      · subst e
        refine s0 ⟨fun q hq h hh => ?_, _, _, rfl⟩
        rcases List.mem_append.mp hq with z | z
        · exact hn q z h hh
        · rw [List.mem_singleton.mp z]
          exact hn2 h hh
    · subst e
      have ct : tornB p F l = false := by
        unfold tornB
        rw [List.any_eq_false]
        intro r hr'
        rw [Bool.not_eq_true, List.any_eq_false]
        intro h hh
        rw [hn r hr' h hh]
        decide
      have et : Dt .none = tyO CT (tornB p F l) := by
        unfold tyO
        rw [ct]
        rfl
      exact sret (t := Dt .none) dnon et
/-! ### the pact of a lot alone -/
abbrev q76 (C : Addr) (Z : Zn) : Sp := spD Z (fun x : Pc × List Str => [tyP C x.1, Dt (eL x.2)]) (fun x => PcOk x.1 ∧ LotIn x.1.hands x.2 ∧ 2 ≤ x.2.length ∧ PcOk (cutP x.1 x.2)) fun x => tyP C (cutP x.1 x.2)
theorem ok76 (V : Gv mg) (k : PKl K C) (D : Dn K mg "cut_pact" s76 ["pact", "lot"]) (C30 : Okc P w K mg base "Pact" C 5 (q30 C ⟨tb, lamN, none⟩)) (C34 : Okd P w K mg base "hand_of" 2 (q34 C ⟨tb, lamN, none⟩)) (C37 : Okd P w K mg base "under_of" 3 (q37 C ⟨tb, lamN, none⟩)) (C38 : Okd P w K mg base "whole_paper" 3 (q38 C ⟨tb, lamN, none⟩))
    (C40 : Okd P w K mg base "ready_note" 2 (q40 C ⟨tb, lamN, none⟩)) (C73 : Okd P w K mg base "need_lot_hands" 2 (q73 C ⟨tb, lamN, none⟩)) : Okd P w K mg base "cut_pact" 7 (q76 C ⟨tb, lamN, none⟩) := by
  refine okD D c76 (fun _ => rfl) (by decide) fun f cdv A outer s H E a F0 G hr hp => ?_
  obtain ⟨p, l⟩ := a
  obtain ⟨h1, h2, h3, h4⟩ := hp
  have h1 : PcOk p := h1
  have h2 : LotIn p.hands l := h2
  have h3 : 2 ≤ l.length := h3
  have h4 : PcOk (cutP p l) := h4
  have n40 := h1.ns.len
  have l6 : l.length ≤ 6 := Nat.le_trans h2.len h1.hands.hi
  have cl : (cutN p l).length ≤ 40 := by
    have := (cutN_sub (p := p) (l := l)).length_le
    rw [names_len] at this
    omega
  refine sexp (dcl hr C73 (p, l) h2.sub (pac (dv 0) (pac (dv 1) pa0))) ?_
  refine sifF (ptis (plt (dlen V.bi (ds := l.map .str) sqT (vT (dv 1))) dint) (decide_eq_false ?_)) (s0 rfl) ?_
  · rw [List.length_map]
    omega
  refine sset (t := Dt (.list ((cutN p l).map .str))) 2 c76.nd (dis (nL (lcD (dlc (own := [("name", 3), ("hand", 4), ("waits", 5)]) (xs := p.ns) (f := fun n : Nt => decide (n.hd ∈ l)) (g := fun n : Nt => .str n.nm) rfl c76.nd (itTs (xs := p.ns) (f := eN) (pNotes k (dv 0))) (blkOk_by (N := n76) (sc := defScope s76) (by decide +kernel))
    (fun _ _ _ _ _ x _ => gt rfl (gsc (gn 3 c76.nd) (gsc (gn 4 c76.nd) (gsc (gn 5 c76.nd) gs0)))) (fun _ _ _ _ _ x _ => pt1 (pin sqT (dv 4) (vT (dv 1)))) (fun _ _ _ _ _ x _ _ => dv 3) (by omega)))) (by unfold cutN; rw [List.map_map]; rfl)) ?_
  refine ssetN 6 c76.nd (dlst (ds := []) pa0) ?_
  refine sforN (xs := cutN p l) (fun pre ρ1 => ∃ x3 x4 x5 x7 x8 x9, ρ1 = [some (.im (tyP C p)), some (.im (Dt (eL l))), some (.im (Dt (.list ((cutN p l).map .str)))), x3, x4, x5, some (.mu (mL ((pre.map (cutNt p l)).map eN))), x7, x8, x9]) PassesOwn.never rfl
    (itLs (xs := cutN p l) (f := PyData.str) (dv 2)) ⟨_, _, _, _, _, _, rfl⟩ (fun pre x post ρ1 hx ⟨x3, x4, x5, x7, x8, x9, e⟩ => ?_) fun ρ1 ⟨x3, x4, x5, x7, x8, x9, e⟩ => ?_
  · subst e
    have hm : x ∈ cutN p l := by rw [hx]; simp
    have hmn := (cutN_sub (p := p) (l := l)).subset hm
    have ul : (underOf p.ns x).length ≤ 40 := by
      have h5 : (underOf p.ns x).length ≤ (names p.ns).length := nodup_sub_len (nodup_lotOf _) fun y hy => ((mem_underOf h1.nd).mp hy).1
      rw [names_len] at h5
      omega
    refine ⟨_, gn 3 c76.nd, ?_⟩
    refine sset (t := Dt (eL (cutWs p l x))) 5 c76.nd (dtupL V.bi (ds := (cutWs p l x).map .str) (nV (lcD (dlc (own := [("other", 7)]) (xs := underOf p.ns x) (f := fun o => decide (o ∈ cutN p l) && !decide (o = x)) (g := fun o => .str o) rfl c76.nd
      (itTs (xs := underOf p.ns x) (f := PyData.str) (dcl hr C37 (p, x) ⟨hmn, n40⟩ (pac (dv 0) (pac (dv 3) pa0)))) (blkOk_by (N := n76) (sc := defScope s76) (by decide +kernel)) (fun _ _ _ _ _ o _ => gn 7 c76.nd)
      (fun _ _ _ _ _ o _ => pt1 (ppt (pwand (pin sqL (dv 7) (vL (dv 2))) fun _ => pwand1 (pneS (dv 7) (dv 3))))) (fun _ _ _ _ _ o _ _ => dv 7) (by omega))))) ?_
    refine sapp 6 (d := eN (cutNt p l x)) (dtup (ds := [.str x, .str (hdOf p.ns x), eL (cutWs p l x)]) (pac (dv 3) (pac (dcl hr C34 (p, x) hmn (pac (dv 0) (pac (dv 3) pa0))) (pac (dv 5) pa0))) (Nat.le_of_ble_eq_true rfl)) (s0 ?_) ?_
    · rw [List.map_append, List.map_append]
      exact ⟨_, _, _, _, _, _, rfl⟩
    · rw [List.length_map, List.length_map]
      have := congrArg List.length hx
      rw [List.length_append] at this
      omega
  · subst e
    refine sfrz 6 rfl (frzL _) ?_
    refine ssetLc 8 (own := [("hand", 4)]) (dlc (xs := p.hands) (f := fun h => decide (h ∈ l)) (g := fun h => .str h) rfl c76.nd (itTs (xs := p.hands) (f := PyData.str) (vF (pHands k (dv 0)))) (blkOk_by (N := n76) (sc := defScope s76) (by decide +kernel))
      (fun _ _ _ _ _ x _ => gn 4 c76.nd) (fun _ _ _ _ _ x _ => pt1 (pin sqT (dv 4) (vT (dv 1)))) (fun _ _ _ _ _ x _ _ => dv 4) (by have := h1.hands.hi; omega)) (fun acc ha => ?_)
    subst ha
    have wl : (whole p).length ≤ 40 := by
      have h5 : (whole p).length ≤ (names p.ns).length := nodup_sub_len (nodup_lotOf _) fun y hy => ((mem_whole h1.nd).mp hy).1
      rw [names_len] at h5
      omega
    refine sset (t := Dt (eL (cutP p l).paper)) 9 c76.nd (dtupL V.bi (ds := (cutP p l).paper.map .str) (nV (lcD (dlc (own := [("name", 3)]) (xs := whole p) (f := fun x => decide (x ∈ cutN p l)) (g := fun o => .str o) rfl c76.nd
      (itTs (xs := whole p) (f := PyData.str) (dcl hr C38 p n40 (pac (dv 0) pa0))) (blkOk_by (N := n76) (sc := defScope s76) (by decide +kernel)) (fun _ _ _ _ _ o _ => gn 3 c76.nd)
      (fun _ _ _ _ _ o _ => pt1 (pin sqL (dv 3) (vL (dv 2)))) (fun _ _ _ _ _ o _ _ => dv 3) (by omega))))) ?_
    refine sret (t := tyP C (cutP p l)) (teq (dmake hr C30 (true, cutP p l) h4 (pac (dv 8) (pac (dv 6) (pac (dis (nL (lcD (dlc (own := [("hand", 4)]) (xs := cutH p l) (f := fun _ => true) (g := fun h => .str (p.rdy h)) rfl c76.nd (itLs (xs := cutH p l) (f := PyData.str) (dv 8)) (blkOk_by (N := n76) (sc := defScope s76) (by decide +kernel))
      (fun _ _ _ _ _ x _ => gn 4 c76.nd) (fun _ _ _ _ _ x _ => pt0) (fun _ _ _ _ _ x hx _ => dcl hr C40 (p, x) ⟨(mem_cutH.mp hx).1, h1.ready.len⟩ (pac (dv 0) (pac (dv 4) pa0))) ?_))) ?_) (pac (dv 9) pa0))))) rfl) rfl
    · have := h4.hands.hi
      have : (cutH p l).length ≤ 6 := this
      omega
    · rw [filt]
      show PyData.list _ = .list (((cutH p l).map p.rdy).map .str)
      rw [List.map_map]
      rfl
end
end Kb
end TWs
section TWt
set_option Elab.async false
set_option autoImplicit false
set_option linter.all false
set_option maxRecDepth 100000
set_option maxHeartbeats 4000000
/-! Wt: the law's own lots and rows. -/
namespace Kb
open PySem PySem.Spec PyProof.Rows L2 PySem.W
theorem eqv_nil (ds : List PyData) : PyData.eqv (.list ds) (.list []) = decide (ds = []) := by
  cases ds with
  | nil => rfl
  | cons a b => rfl
theorem filter_nil {α : Type} {f : α → Bool} {l : List α} : decide (l.filter f = []) = !l.any f := by
  rw [Bool.eq_iff_iff, decide_eq_true_eq, List.filter_eq_nil_iff, Bool.not_eq_true', List.any_eq_false]
section
variable {P : Program} {w : World} {K : PySem.W.Frag} {mg : Str → Option Value} {base : Heap} {tb : Addr} {C CJ CT : Addr}
abbrev q94 (Z : Zn) : Sp := spD Z (fun a : List Str × List Str => [Dt (eL a.1), Dt (eL a.2)]) (fun a => a.1.length ≤ 1000 ∧ SOk a.1) fun a => Dt (.bool (wiB a.1 a.2))
theorem ok94 (V : Gv mg) (D : Dn K mg "_law_within" s94 ["_law_one", "_law_other"]) : Okd P w K mg base "_law_within" 1 (q94 ⟨tb, lamN, none⟩) := by
  refine okD D c94 (fun _ => rfl) (by decide) fun f cdv A outer s H E a F0 G hr hp => ?_
  obtain ⟨x, y⟩ := a
  obtain ⟨h1, h2⟩ := hp
  have h1 : x.length ≤ 1000 := h1
  have h2 : SOk x := h2
  have e1 : PyData.eqv (.list ((x.filter fun n => !decide (n ∈ y)).map .str)) (.list []) = wiB x y := by
    rw [eqv_nil]
    have e2 : decide ((x.filter fun n => !decide (n ∈ y)).map PyData.str = []) = decide ((x.filter fun n => !decide (n ∈ y)) = []) := by simp
    rw [e2, filter_nil]
    unfold wiB
    rw [Bool.eq_iff_iff, Bool.not_eq_true', List.any_eq_false, List.all_eq_true]
    simp
  refine sret (dis (deqD (d := .list ((x.filter fun n => !decide (n ∈ y)).map .str)) (d' := .list []) hr.u64 (shaped_strs fun n hn => h2 n (List.mem_filter.mp hn).1) rfl (bo (nL (lcD (dlc (own := [("_law_name", 2)]) (xs := x) (f := fun n => !decide (n ∈ y)) (g := fun n => .str n) rfl c94.nd (itTs (xs := x) (f := PyData.str) (dv 0)) (blkOk_by (N := n94) (sc := defScope s94) (by decide +kernel))
    (fun _ _ _ _ _ n _ => gn 2 c94.nd) (fun _ _ _ _ _ n _ => pt1 (pnin sqT (dv 2) (vT (dv 1)))) (fun _ _ _ _ _ n _ _ => dv 2) (by omega))))) (bo (nL (dlst (ds := []) pa0)))) (congrArg PyData.bool e1)) rfl
abbrev q95 (Z : Zn) : Sp := spD Z (fun a : Bool × List (List Str) × List Str => [Dt (sqD a.1 (a.2.1.map eL)), Dt (eL a.2.2)]) (fun a => a.2.1.length ≤ 1000 ∧ (∀ o ∈ a.2.1, SOk o) ∧ a.2.2.length ≤ 1000 ∧ SOk a.2.2) fun a => Dt (.bool (inFam a.2.1 a.2.2))
theorem ok95 (V : Gv mg) (D : Dn K mg "_law_inside" s95 ["_law_family_here", "_law_lot"]) (C94 : Okd P w K mg base "_law_within" 1 (q94 ⟨tb, lamN, none⟩)) : Okd P w K mg base "_law_inside" 2 (q95 ⟨tb, lamN, none⟩) := by
  refine okD D c95 (fun _ => rfl) (by decide) fun f cdv A outer s H E a F0 G hr hp => ?_
  obtain ⟨b, F, l⟩ := a
  obtain ⟨h1, h2, h3, h4⟩ := hp
  have h1 : F.length ≤ 1000 := h1
  have h2 : ∀ o ∈ F, SOk o := h2
  have h3 : l.length ≤ 1000 := h3
  have h4 : SOk l := h4
  have e1 : (!PyData.eqv (.list ((F.filter fun o => wiB l o).map eL)) (.list [])) = inFam F l := by
    rw [eqv_nil]
    have e2 : decide ((F.filter fun o => wiB l o).map eL = []) = decide ((F.filter fun o => wiB l o) = []) := by simp
    rw [e2, filter_nil, Bool.not_not]
    rfl
  cases b with
  | true =>
    exact sret (dis (dneD (d := .list ((F.filter fun o => wiB l o).map eL)) (d' := .list []) hr.u64 (shaped_lots fun o ho => h2 o (List.mem_filter.mp ho).1) rfl (bo (nL (lcD (dlc (own := [("_law_other", 2)]) (xs := F) (f := fun o => wiB l o) (g := eL) rfl c95.nd (itLs (xs := F) (f := eL) (dv 0)) (blkOk_by (N := n95) (sc := defScope s95) (by decide +kernel))
      (fun _ _ _ _ _ n _ => gn 2 c95.nd) (fun _ _ _ _ _ o _ => pt1 (ptv (dcl hr C94 (l, o) ⟨h3, h4⟩ (pac (dv 1) (pac (dv 2) pa0))))) (fun _ _ _ _ _ n _ _ => dv 2) (by omega))))) (bo (nL (dlst (ds := []) pa0)))) (congrArg PyData.bool e1)) rfl
  | false =>
    exact sret (dis (dneD (d := .list ((F.filter fun o => wiB l o).map eL)) (d' := .list []) hr.u64 (shaped_lots fun o ho => h2 o (List.mem_filter.mp ho).1) rfl (bo (nL (lcD (dlc (own := [("_law_other", 2)]) (xs := F) (f := fun o => wiB l o) (g := eL) rfl c95.nd (itTs (xs := F) (f := eL) (dv 0)) (blkOk_by (N := n95) (sc := defScope s95) (by decide +kernel))
      (fun _ _ _ _ _ n _ => gn 2 c95.nd) (fun _ _ _ _ _ o _ => pt1 (ptv (dcl hr C94 (l, o) ⟨h3, h4⟩ (pac (dv 1) (pac (dv 2) pa0))))) (fun _ _ _ _ _ n _ _ => dv 2) (by omega))))) (bo (nL (dlst (ds := []) pa0)))) (congrArg PyData.bool e1)) rfl
/-! rows -/
abbrev q92 (Z : Zn) : Sp := spD Z (fun a : List (List Str) × List Str => [Dt (.list (a.1.map eL)), Dt (eL a.2)]) (fun a => a.1.length ≤ 1000 ∧ a.2.length ≤ 6 ∧ ∀ r ∈ a.1, r.length ≤ 100) fun a => Dt (.list ((longer a.2 a.1).map eL))
theorem ok92 (V : Gv mg) (D : Dn K mg "_law_longer" s92 ["_law_layer", "_law_hands"]) : Okd P w K mg base "_law_longer" 1 (q92 ⟨tb, lamN, none⟩) := by
  refine okD D c92 (fun _ => rfl) (by decide) fun f cdv A outer s H E a F0 G hr hp => ?_
  obtain ⟨ls, l⟩ := a
  obtain ⟨h1, h2, h3⟩ := hp
  have h1 : ls.length ≤ 1000 := h1
  have h2 : l.length ≤ 6 := h2
  have h3 : ∀ r ∈ ls, r.length ≤ 100 := h3
  refine sset (t := Dt (.list ((longer l []).map eL))) 2 c92.nd (nL (dlst (ds := []) pa0)) ?_
  refine sforN (xs := ls) (fun pre ρ1 => ∃ x3 x4, ρ1 = [some (.im (Dt (.list (ls.map eL)))), some (.im (Dt (eL l))), some (.im (Dt (.list ((longer l pre).map eL)))), x3, x4]) PassesOwn.never rfl (itLs (xs := ls) (f := eL) (dv 0)) ⟨_, _, rfl⟩ (fun pre r post ρ1 hx ⟨x3, x4, e⟩ => ?_) fun ρ1 ⟨x3, x4, e⟩ => ?_
  · subst e
    have hm : r ∈ ls := by rw [hx]; simp
    have pl1 : pre.length + 1 ≤ 1000 := by
      have := congrArg List.length hx
      rw [List.length_append, List.length_cons] at this
      omega
    have e1 : (longer l pre).map eL ++ ((l.filter fun h => !decide (h ∈ r)).map fun h => eL (r ++ [h])) = (longer l (pre ++ [r])).map eL := by
      unfold longer
      rw [List.flatMap_append, List.flatMap_cons, List.flatMap_nil, List.append_nil, List.map_append, List.map_map (f := fun h => r ++ [h])]
      rfl
    have b1 := longer_len l pre
    have b2 : pre.length * l.length ≤ 1000 * 6 := Nat.mul_le_mul (by omega) h2
    have b3 := List.length_filter_le (fun h => !decide (h ∈ r)) l
    have b4 := h3 r hm
    refine ⟨_, gn 3 c92.nd, ?_⟩
    refine sset 2 c92.nd (dis (nL (dcatL (vL (dv 2)) (nV (lcD (dlc (own := [("_law_hand", 4)]) (xs := l) (f := fun h => !decide (h ∈ r)) (g := fun h => eL (r ++ [h])) rfl c92.nd (itTs (xs := l) (f := PyData.str) (dv 1)) (blkOk_by (N := n92) (sc := defScope s92) (by decide +kernel))
      (fun _ _ _ _ _ h _ => gn 4 c92.nd) (fun _ _ _ _ _ h _ => pt1 (pnin sqT (dv 4) (vT (dv 3)))) (fun _ _ _ _ _ h _ _ => dis (dcatT (dv 3) (dtup (ds := [.str h]) (pac (dv 4) pa0) (Nat.le_of_ble_eq_true rfl)) ?_) (eL_snoc r h)) (by omega)))) ?_)) (congrArg PyData.list e1)) (s0 ⟨_, _, rfl⟩)
    · rw [List.length_map, List.length_singleton]
      omega
    · rw [List.length_map, List.length_map]
      omega
  · subst e
    exact sret (dv 2) rfl
/-- the rows of n hands of a lot, in order; all rows of 1 to n hands -/
def layR (l : List Str) : Nat → List (List Str)
  | 0 => [[]]
  | n + 1 => lsrt (longer l (layR l n))
def rowsR (l : List Str) : Nat → List (List Str)
  | 0 => []
  | n + 1 => rowsR l n ++ layR l (n + 1)
theorem mem_lsrt {ls : List (List Str)} {x : List Str} : x ∈ lsrt ls ↔ x ∈ ls := mem_sortB eL
theorem mem_longer {l : List Str} {f : List (List Str)} {r : List Str} : r ∈ longer l f ↔ ∃ q h, r = q ++ [h] ∧ q ∈ f ∧ h ∈ l ∧ h ∉ q := by
  unfold longer
  rw [List.mem_flatMap]
  constructor
  · rintro ⟨q, h1, h2⟩
    obtain ⟨h, h3, rfl⟩ := List.mem_map.mp h2
    have h4 := List.mem_filter.mp h3
    exact ⟨q, h, rfl, h1, h4.1, by simpa using h4.2⟩
  · rintro ⟨q, h, rfl, h1, h2, h3⟩
    exact ⟨q, h1, List.mem_map.mpr ⟨h, List.mem_filter.mpr ⟨h2, by simpa using h3⟩, rfl⟩⟩
theorem mem_layR {l : List Str} : ∀ {n : Nat} {r : List Str}, r ∈ layR l n ↔ r ∈ ords l n
  | 0, r => Iff.rfl
  | n + 1, r => by
    show r ∈ lsrt (longer l (layR l n)) ↔ r ∈ longer l (ords l n)
    rw [mem_lsrt, mem_longer, mem_longer]
    constructor
    · rintro ⟨q, h, a, b, c⟩
      exact ⟨q, h, a, mem_layR.mp b, c⟩
    · rintro ⟨q, h, a, b, c⟩
      exact ⟨q, h, a, mem_layR.mpr b, c⟩
theorem layR_len {l : List Str} (nd : l.Nodup) : ∀ n, (layR l n).length = (ords l n).length
  | 0 => rfl
  | n + 1 => by
    show (lsrt (longer l (layR l n))).length = _
    have e0 : (lsrt (longer l (layR l n))).length = (longer l (layR l n)).length := len_sortB eL _
    rw [ords_succ nd, ← layR_len nd n, e0]
    unfold longer
    refine flatMap_len_eq fun r hr => ?_
    obtain ⟨h1, h2, h3⟩ := ords_mem.mp (mem_layR.mp hr)
    have := len_out nd h2 h3
    rw [List.length_map]
    omega
theorem ords_24 {l : List Str} (nd : l.Nodup) (h : l.length ≤ 4) {n : Nat} (hn : n ≤ 5) : (ords l n).length ≤ 24 := by
  have e := ords_succ nd
  have e0 : (ords l 0).length = 1 := rfl
  have hk : l.length = 0 ∨ l.length = 1 ∨ l.length = 2 ∨ l.length = 3 ∨ l.length = 4 := by omega
  have hj : n = 0 ∨ n = 1 ∨ n = 2 ∨ n = 3 ∨ n = 4 ∨ n = 5 := by omega
  rcases hk with z | z | z | z | z <;> rcases hj with y | y | y | y | y | y
  all_goals
    rw [z] at e
    rw [y]
    simp [e, e0]
theorem rowsR_len {l : List Str} (nd : l.Nodup) (h : l.length ≤ 4) : ∀ n, n ≤ 4 → (rowsR l n).length ≤ n * 24
  | 0, _ => Nat.le_refl _
  | n + 1, hn => by
    have h1 := rowsR_len nd h n (by omega)
    have h2 := ords_24 nd h (n := n + 1) (by omega)
    rw [← layR_len nd] at h2
    show (rowsR l n ++ layR l (n + 1)).length ≤ _
    rw [List.length_append]
    omega
theorem mem_rowsR {l : List Str} : ∀ {n : Nat} {r : List Str}, r ∈ rowsR l n ↔ r ≠ [] ∧ r.length ≤ n ∧ r.Nodup ∧ ∀ x ∈ r, x ∈ l
  | 0, r => by
    show r ∈ [] ↔ _
    constructor
    · intro h
      cases h
    · rintro ⟨a, b, _⟩
      exact absurd (List.eq_nil_of_length_eq_zero (by omega)) a
  | n + 1, r => by
    show r ∈ rowsR l n ++ layR l (n + 1) ↔ _
    rw [List.mem_append, mem_rowsR, mem_layR, ords_mem]
    constructor
    · rintro (⟨a, b, c⟩ | ⟨a, b, c⟩)
      · exact ⟨a, by omega, c⟩
      · exact ⟨fun z => by rw [z] at a; simp at a, by omega, b, c⟩
    · rintro ⟨a, b, c, d⟩
      by_cases z : r.length = n + 1
      · exact .inr ⟨z, c, d⟩
      · exact .inl ⟨a, by omega, c, d⟩
abbrev q91 (Z : Zn) : Sp := spD Z (fun l : List Str => [Dt (eL l)]) (fun l => l.Nodup ∧ l.length ≤ 4) fun l => Dt (.list ((rowsR l l.length).map eL))
theorem ok91 (V : Gv mg) (D : Dn K mg "_law_rows" s91 ["_law_hands"]) (C92 : Okd P w K mg base "_law_longer" 1 (q92 ⟨tb, lamN, none⟩)) : Okd P w K mg base "_law_rows" 2 (q91 ⟨tb, lamN, none⟩) := by
  refine okD D c91 (fun _ => rfl) (by decide) fun f cdv A outer s H E l F0 G hr hp => ?_
  obtain ⟨nd, l4⟩ := hp
  have nd : l.Nodup := nd
  have l4 : l.length ≤ 4 := l4
  refine spar2 1 2 rfl c91.nd (kav (t := Dt (.list ((layR l 0).map eL))) (nL (dlst (ds := [eL []]) (pac (dtup (ds := []) pa0) pa0))) (kav (t := Dt (.list ((rowsR l 0).map eL))) (nL (dlst (ds := []) pa0)) ka0)) ?_
  refine sforN (xs := l) (fun pre ρ1 => ∃ x3, ρ1 = [some (.im (Dt (eL l))), some (.im (Dt (.list ((layR l pre.length).map eL)))), some (.im (Dt (.list ((rowsR l pre.length).map eL)))), x3]) PassesOwn.never rfl (itTs (xs := l) (f := PyData.str) (dv 0)) ⟨_, rfl⟩ (fun pre r post ρ1 hx ⟨x3, e⟩ => ?_) fun ρ1 ⟨x3, e⟩ => ?_
  · subst e
    have pl1 : pre.length + 1 ≤ 4 := by
      have := congrArg List.length hx
      rw [List.length_append, List.length_cons] at this
      omega
    have b1 := ords_24 nd l4 (n := pre.length) (by omega)
    have b2 := ords_24 nd l4 (n := pre.length + 1) (by omega)
    have b3 := rowsR_len nd l4 pre.length (by omega)
    rw [← layR_len nd] at b1 b2
    have b4 : (longer l (layR l pre.length)).length ≤ 24 := by
      have e0 : (lsrt (longer l (layR l pre.length))).length = (longer l (layR l pre.length)).length := len_sortB eL _
      rw [← e0]
      exact b2
    refine ⟨_, gn 3 c91.nd, ?_⟩
    refine sset (t := Dt (.list ((layR l (pre.length + 1)).map eL))) 1 c91.nd (dis (nL (dsort V.bi hr.u64 (ds := (longer l (layR l pre.length)).map eL) sqL (vL (dcl hr C92 (layR l pre.length, l) ⟨show (layR l pre.length).length ≤ 1000 by omega, show l.length ≤ 6 by omega, fun r hr' => ?_⟩ (pac (dv 1) (pac (dv 0) pa0)))) (sortOk_lots _) ?_ ?_)) (congrArg PyData.list (sortB_map eL _))) ?_
    · have := (ords_mem.mp (mem_layR.mp hr')).1
      omega
    · rw [List.length_map]
      omega
    · intro d hd
      obtain ⟨xs, _, rfl⟩ := List.mem_map.mp hd
      rw [depth_lot]
      omega
    refine sset 2 c91.nd (dis (nL (dcatL (vL (dv 2)) (vL (dv 1)) ?_)) (congrArg PyData.list (List.map_append).symm)) (s0 ?_)
    · rw [List.length_map, List.length_map]
      omega
    · rw [List.length_append, List.length_singleton]
      exact ⟨_, rfl⟩
  · subst e
    exact sret (dv 2) rfl
/-! parts -/
theorem kOf_map (ls : List (List Str)) : (ls.map kOf).mergeSort (dataLe false id) = (ksrt ls).map kOf := sortB_map kOf ls
theorem sortOk_kOf (ls : List (List Str)) : SortOk (ls.map kOf) := ⟨AllAlike.of alike_kOf, .inr fun d hd => by
  obtain ⟨xs, _, rfl⟩ := List.mem_map.mp hd
  exact ⟨_, rfl⟩⟩
theorem parts256 {l : List Str} (h : l.length ≤ 8) : (parts l).length ≤ 256 := by
  rw [parts_len]
  exact Nat.pow_le_pow_right (n := 2) (by decide) h
abbrev q93 (Z : Zn) : Sp := spD Z (fun l : List Str => [Dt (eL l)]) (fun l => l.length ≤ 8) fun l => Dt (.list ((ksrt (parts l)).map eL))
theorem ok93 (V : Gv mg) (D : Dn K mg "_law_parts" s93 ["_law_lot"]) : Okd P w K mg base "_law_parts" 1 (q93 ⟨tb, lamN, none⟩) := by
  refine okD D c93 (fun _ => rfl) (by decide) fun f cdv A outer s H E l F0 G hr hp => ?_
  have hp : l.length ≤ 8 := hp
  refine sset (t := Dt (.list ((parts []).map eL))) 1 c93.nd (nL (dlst (ds := [eL []]) (pac (dtup (ds := []) pa0) pa0))) ?_
  refine sforN (xs := l) (fun pre ρ1 => ∃ x2 x3, ρ1 = [some (.im (Dt (eL l))), some (.im (Dt (.list ((parts pre).map eL)))), x2, x3, none]) PassesOwn.never rfl (itTs (xs := l) (f := PyData.str) (dv 0)) ⟨_, _, rfl⟩ (fun pre x post ρ1 hx ⟨x2, x3, e⟩ => ?_) fun ρ1 ⟨x2, x3, e⟩ => ?_
  · subst e
    have pl1 : pre.length + 1 ≤ 8 := by
      have := congrArg List.length hx
      rw [List.length_append, List.length_cons] at this
      omega
    have pw := parts256 (l := pre) (by omega)
    have e1 : (parts pre).map eL ++ ((parts pre).filter fun _ => true).map (fun q => eL (q ++ [x])) = (parts (pre ++ [x])).map eL := by
      rw [filt, parts_snoc, List.map_append, List.map_map]
      rfl
    have pt : ∀ q ∈ parts pre, q.length ≤ 8 := fun q hq => by
      have := (parts_sub pre q hq).length_le
      omega
    refine ⟨_, gn 2 c93.nd, ?_⟩
    refine sset 1 c93.nd (dis (nL (dcatL (vL (dv 1)) (nV (lcD (dlc (own := [("_law_part", 3)]) (f := fun _ => true) (g := fun q => eL (q ++ [x])) rfl c93.nd (itLs (xs := parts pre) (f := eL) (dv 1)) (blkOk_by (N := n93) (sc := defScope s93) (by decide +kernel)) (fun _ _ _ _ _ x _ => gn 3 c93.nd)
      (fun _ _ _ _ _ x _ => pt0) (fun _ _ _ _ _ q hq _ => dis (dcatT (dv 3) (dtup (ds := [.str x]) (pac (dv 2) pa0) (Nat.le_of_ble_eq_true rfl)) ?_) (eL_snoc q x)) (by omega)))) ?_)) (congrArg PyData.list e1)) (s0 ⟨_, _, rfl⟩)
    · have := pt q hq
      rw [List.length_map, List.length_singleton]
      omega
    · rw [filt, List.length_map, List.length_map]
      omega
  · subst e
    have pw := parts256 hp
    have e1 : (((parts l).filter fun _ => true).map fun q => kOf q).mergeSort (dataLe false id) = (ksrt (parts l)).map kOf := by
      rw [filt]
      exact kOf_map _
    refine sret (dis (nL (lcD (dlc (own := [("_law_size_here", 4), ("_law_part", 3)]) (xs := ksrt (parts l)) (enc := fun q => Dt (kOf q)) (f := fun _ => true) (g := eL) rfl c93.nd
      (itLs (xs := ksrt (parts l)) (f := kOf) (dis (nL (dsort V.bi hr.u64 (ds := ((parts l).filter fun _ => true).map fun q => kOf q) sqL (nV (lcD (dlc (own := [("_law_part", 3)]) (xs := parts l) (f := fun _ => true) (g := fun q => kOf q) rfl c93.nd (itLs (xs := parts l) (f := eL) (dv 1)) (blkOk_by (N := n93) (sc := defScope s93) (by decide +kernel))
        (fun _ _ _ _ _ x _ => gn 3 c93.nd) (fun _ _ _ _ _ x _ => pt0) (fun _ _ _ _ _ q hq _ => dtup (ds := [.int (q.length : Int), eL q]) (pac (dis (dlen V.bi (ds := q.map .str) sqT (vT (dv 3))) (by rw [List.length_map])) (pac (dv 3) pa0)) (Nat.le_of_ble_eq_true rfl)) (by omega)))) ?_ ?_ ?_)) (congrArg PyData.list e1)))
      (blkOk_by (N := n93) (sc := defScope s93) (by decide +kernel)) (fun _ _ _ _ _ x _ => gt rfl (gsc (gn 4 c93.nd) (gsc (gn 3 c93.nd) gs0))) (fun _ _ _ _ _ x _ => pt0) (fun _ _ _ _ _ q hq _ => dv 3) ?_))) (congrArg PyData.list (by rw [filt]))) rfl
    · rw [filt]
      exact sortOk_kOf _
    · rw [filt, List.length_map]
      omega
    · intro d hd
      rw [filt] at hd
      obtain ⟨xs, _, rfl⟩ := List.mem_map.mp hd
      rw [depth_kOf]
      omega
    · rw [len_ksrt]
      omega
/-! the greatest of some lots -/
def grow1 (s : List (List Str)) (l : List Str) : List (List Str) := if inFam s l then s else s ++ [l]
def greatest (ls : List (List Str)) : List (List Str) := (ksrt ls).reverse.foldl grow1 []
abbrev q96 (Z : Zn) : Sp := spD Z (fun ls : List (List Str) => [Dt (.list (ls.map eL))]) (fun ls => ls.length ≤ 63 ∧ ∀ l ∈ ls, l.length ≤ 1000 ∧ SOk l) fun ls => Dt (.tuple ((lsrt (greatest ls)).map eL))
theorem grow_sub : ∀ (ls s : List (List Str)) (x : List Str), x ∈ ls.foldl grow1 s → x ∈ s ∨ x ∈ ls
  | [], s, x, h => .inl h
  | l :: ls, s, x, h => by
    rcases grow_sub ls (grow1 s l) x h with k | k
    · unfold grow1 at k
      by_cases z : inFam s l
      · rw [if_pos z] at k
        exact .inl k
      · rw [if_neg z] at k
        rcases List.mem_append.mp k with y | y
        · exact .inl y
        · rw [List.mem_singleton.mp y]
          exact .inr List.mem_cons_self
    · exact .inr (List.mem_cons_of_mem _ k)
theorem grow_len : ∀ (ls s : List (List Str)), (ls.foldl grow1 s).length ≤ s.length + ls.length
  | [], s => Nat.le_refl _
  | l :: ls, s => by
    have h := grow_len ls (grow1 s l)
    have h2 : (grow1 s l).length ≤ s.length + 1 := by
      unfold grow1
      by_cases z : inFam s l
      · rw [if_pos z]
        omega
      · rw [if_neg z, List.length_append, List.length_singleton]
        omega
    rw [List.foldl_cons, List.length_cons]
    omega
theorem ok96 (V : Gv mg) (D : Dn K mg "_law_greatest" s96 ["_law_lots"]) (C95 : Okd P w K mg base "_law_inside" 2 (q95 ⟨tb, lamN, none⟩)) : Okd P w K mg base "_law_greatest" 3 (q96 ⟨tb, lamN, none⟩) := by
  refine okD D c96 (fun _ => rfl) (by decide) fun f cdv A outer s H E ls F0 G hr hp => ?_
  obtain ⟨p1, p2⟩ := hp
  have p1 : ls.length ≤ 63 := p1
  have p2 : ∀ l ∈ ls, l.length ≤ 1000 ∧ SOk l := p2
  have gm : ∀ l ∈ (ksrt ls).reverse, l ∈ ls := fun l hl => mem_ksrt.mp (List.mem_reverse.mp hl)
  have gl : (ksrt ls).reverse.length ≤ 63 := by rw [List.length_reverse, len_ksrt]; exact p1
  have e1 : (((ls.filter fun _ => true).map fun q => kOf q).mergeSort (dataLe false id)).reverse = (ksrt ls).reverse.map kOf := by
    rw [filt, List.map_reverse]
    exact congrArg List.reverse (kOf_map ls)
  refine ssetN 1 c96.nd (dlst (ds := []) pa0) ?_
  refine sforN (xs := (ksrt ls).reverse) (enc := fun q => Dt (kOf q)) (fun pre ρ1 => ∃ x2 x3, ρ1 = [some (.im (Dt (.list (ls.map eL)))), some (.mu (mL ((pre.foldl grow1 []).map eL))), x2, x3]) PassesOwn.never rfl
    (itLs (xs := (ksrt ls).reverse) (f := kOf) (dis (nL (drev (nV (dsort V.bi hr.u64 (ds := (ls.filter fun _ => true).map fun q => kOf q) sqL (nV (lcD (dlc (own := [("_law_lot", 3)]) (xs := ls) (f := fun _ => true) (g := fun q => kOf q) rfl c96.nd (itLs (xs := ls) (f := eL) (dv 0)) (blkOk_by (N := n96) (sc := defScope s96) (by decide +kernel))
        (fun _ _ _ _ _ x _ => gn 3 c96.nd) (fun _ _ _ _ _ x _ => pt0) (fun _ _ _ _ _ q hq _ => dtup (ds := [.int (q.length : Int), eL q]) (pac (dis (dlen V.bi (ds := q.map .str) sqT (vT (dv 3))) (by rw [List.length_map])) (pac (dv 3) pa0)) (Nat.le_of_ble_eq_true rfl)) (by omega)))) ?_ ?_ ?_)))) (congrArg PyData.list e1))) ⟨_, _, rfl⟩ (fun pre l post ρ1 hx ⟨x2, x3, e⟩ => ?_) fun ρ1 ⟨x2, x3, e⟩ => ?_
  · rw [filt]
    exact sortOk_kOf _
  · rw [filt, List.length_map]
    omega
  · intro d hd
    rw [filt] at hd
    obtain ⟨xs, _, rfl⟩ := List.mem_map.mp hd
    rw [depth_kOf]
    omega
  · subst e
    have hl : l ∈ ls := gm l (by rw [hx]; simp)
    have hpre : ∀ o ∈ pre, o ∈ ls := fun o ho => gm o (by rw [hx]; exact List.mem_append_left _ ho)
    have pl1 : pre.length + 1 ≤ 63 := by
      have := congrArg List.length hx
      rw [List.length_append, List.length_cons] at this
      omega
    have fl := grow_len pre []
    rw [List.length_nil] at fl
    have fm : ∀ o ∈ pre.foldl grow1 [], SOk o := fun o ho => by
      rcases grow_sub pre [] o ho with z | z
      · cases z
      · exact (p2 o (hpre o z)).2
    refine ⟨_, gt rfl (gsc (gn 2 c96.nd) (gsc (gn 3 c96.nd) gs0)), ?_⟩
    refine sif (Ψ := ⟨fun ρ' => ∃ x2 x3, ρ' = [some (.im (Dt (.list (ls.map eL)))), some (.mu (mL (((pre ++ [l]).foldl grow1 []).map eL))), x2, x3], _, _, _⟩)
      (ptnot (ptv (dclB hr C95 (true, pre.foldl grow1 [], l) ⟨by show (pre.foldl grow1 []).length ≤ 1000; omega, fm, (p2 l hl).1, (p2 l hl).2⟩ (flat_bl _) (pac (dvb 1) (pac (bo (dv 3)) pa0))))) (fun hb => ?_) (fun hb => ?_) fun ρ' h => s0 h
    · have hb : (!inFam (pre.foldl grow1 []) l) = true := hb.symm
      have e2 : (pre ++ [l]).foldl grow1 [] = pre.foldl grow1 [] ++ [l] := by
        rw [List.foldl_append]
        exact if_neg (by simpa using hb)
      refine sapp 1 (d := eL l) (dv 3) (s0 ?_) ?_
      · rw [e2, List.map_append]
        exact ⟨_, _, rfl⟩
      · rw [List.length_map]
        omega
    · have hb : (!inFam (pre.foldl grow1 []) l) = false := hb.symm
      have e2 : (pre ++ [l]).foldl grow1 [] = pre.foldl grow1 [] := by
        rw [List.foldl_append]
        exact if_pos (by simpa using hb)
      refine s0 ?_
      rw [e2]
      exact ⟨_, _, rfl⟩
  · subst e
    have fl := grow_len (ksrt ls).reverse []
    rw [List.length_nil] at fl
    refine sret (t := Dt (.tuple ((lsrt (greatest ls)).map eL))) (dis (dtupL V.bi (nV (dsort V.bi hr.u64 (ds := (greatest ls).map eL) sqL (dvm 1) (sortOk_lots _) ?_ ?_))) (congrArg PyData.tuple (sortB_map eL _))) rfl
    · rw [List.length_map]
      unfold greatest
      omega
    · intro d hd
      obtain ⟨xs, _, rfl⟩ := List.mem_map.mp hd
      rw [depth_lot]
      omega
end
end Kb
end TWt
section TLf
set_option Elab.async false
set_option autoImplicit false
set_option linter.all false
set_option maxRecDepth 100000
set_option maxHeartbeats 4000000
/-! Lf: what is drawn: a value is one of several; displays of dicts; while; pop; isinstance of own classes. -/
namespace Kb
open PySem PySem.Spec PyProof.Rows L2 PySem.W
/-- a natural of some kind; some bool -/
abbrev tyN (p : Nat → Prop) : Ty := Ty.ex p fun k : Nat => Dt (.int (k : Int))
abbrev tyB (p : Bool → Prop) : Ty := Ty.ex p fun b : Bool => Dt (.bool b)
section
variable {X : Cx} {Z : Zn} {F0 G : Hp} {ρ ρ1 ρ2 : En} {e a b c tg : Expr} {es rest0 : List Expr} {pos p p1 : Pos} {t : Ty} {m : Mt} {d : PyData} {ds : List PyData} {Φ Ψ : Po} {rest : List Stmt}
theorem exO {α : Type} {q : α → Prop} {t : α → Ty} (x : α) (h : PE X e (tO Z ρ (t x).od)) (hx : q x) : PE X e (tO Z ρ (Ty.ex q t).od) := od.imp (w := (t x).od) (w' := (Ty.ex q t).od) (fun F H v fh zo r => ⟨x, hx, r⟩) h
theorem exM {α : Type} {q q' : α → Prop} {t : α → Ty} (h : PE X e (tO Z ρ (Ty.ex q t).od)) (k : ∀ x, q x → q' x) : PE X e (tO Z ρ (Ty.ex q' t).od) := od.imp (w := (Ty.ex q t).od) (w' := (Ty.ex q' t).od) (fun F H v fh zo ⟨x, h1, h2⟩ => ⟨x, k x h1, h2⟩) h
/-- an item, any one -/
theorem dixLX (ha : PE X a (tO Z ρ (mL ds).od)) (hb : PE X b (tO Z ρ (tyN (· < ds.length)).od)) (hp : PlainIx b := by exact fun _ _ => rfl) : PE X (.Subscript a b pos) (tO Z ρ (Ty.ex (· ∈ ds) Dt).od) :=
  (pe_ix ix_list ha hb hp).imp (imp2 fun F0 G F H σ x y Q s h1 h2 k => by
    obtain ⟨p, us, rfl, h3, h4⟩ := mL_at h1
    obtain ⟨j, hj, h2⟩ := h2
    rw [Rp.inj_int h2]
    have hi : atI ds (j : Int) = some ds[j] := atI_nat (List.getElem?_eq_getElem hj)
    obtain ⟨v, h5, h6⟩ := at_rp h4 hi
    exact ⟨p, us, (j : Int), v, rfl, rfl, SqL.of h3, h5, k v F H s.self ⟨ds[j], List.getElem_mem hj, h6⟩⟩)
/-- a sign of a text, any one -/
theorem dixSX {z : Str} (ha : PE X a (tD Z ρ (.str z))) (hb : PE X b (tO Z ρ (tyN (· < z.cps.toList.length)).od)) (hz : z.length ≤ 100000) (hp : PlainIx b := by exact fun _ _ => rfl) : PE X (.Subscript a b pos) (tO Z ρ (Ty.ex (· ∈ z.cps.toList) fun c => Dt (.str ⟨#[c]⟩)).od) :=
  (pe_ix ix_str ha hb hp).imp (imp2 fun F0 G F H σ x y Q s h1 h2 k => by
    obtain ⟨j, hj, h2⟩ := h2
    rw [Rp.inj_str h1, Rp.inj_int h2]
    have hi : atI z.cps.toList (j : Int) = some z.cps.toList[j] := atI_nat (List.getElem?_eq_getElem hj)
    exact ⟨z, (j : Int), z.cps.toList[j], rfl, rfl, small hz, hi, k _ F H s.self ⟨_, List.getElem_mem hj, .str _⟩⟩)
/-- c + e -/
theorem daddX {q : Nat → Prop} (c : Nat) (ha : PE X a (tD Z ρ (.int (c : Int)))) (hb : PE X b (tO Z ρ (tyN q).od)) : PE X (.BinOp a .Add b pos) (tO Z ρ (tyN fun m => ∃ k, q k ∧ m = c + k).od) :=
  (pe_op op_add ha hb).imp (imp2 fun F0 G F H σ x y Q s h1 h2 k => by
    obtain ⟨j, hj, h2⟩ := h2
    rw [Rp.inj_int h1, Rp.inj_int h2]
    refine ⟨(c : Int), (j : Int), rfl, rfl, k _ F H s.self ⟨c + j, ⟨j, hj, rfl⟩, ?_⟩⟩
    have e : ((c : Int) + (j : Int)) = ((c + j : Nat) : Int) := by omega
    show Rp F (.int ((c : Int) + (j : Int))) (.int ((c + j : Nat) : Int))
    rw [e]
    exact .int _)
/-- a comparison of what is not known: some bool -/
theorem pcmpX {op : CmpOp} {r : R2} {w1 w2 : Od Z} (ho : OpR X (compareOp op) r) (hr : ∀ F0 G F H σ x y (Q : VK), St Z F0 G F H σ ρ → w1.ok F H x → w2.ok F H y → (∀ k, Q (.bl k) H) → r x y H Q)
    (ha : PE X a (tO Z ρ w1)) (hb : PE X b (tO Z ρ w2)) (hm : behindInMarks op b = false) : PT X (.Compare a [op] [b] pos) (tP Z ρ fun _ => True) :=
  (pt_cmpR ho ha hb hm).imp fun σ H Q ⟨F0, G, F, s, q⟩ => ⟨F0, G, F, s, fun x F1 H1 g1 k1 => ⟨F0, G, F1, s.mv g1, fun y F2 H2 g2 k2 => hr F0 G F2 H2 σ x y _ ((s.mv g1).mv g2) (w1.mv g2 k1) k2 fun k => ⟨k, rfl, q k F2 H2 (g1.tr g2) trivial⟩⟩⟩
theorem dcmpX {op : CmpOp} {r : R2} {w1 w2 : Od Z} (ho : OpR X (compareOp op) r) (hr : ∀ F0 G F H σ x y (Q : VK), St Z F0 G F H σ ρ → w1.ok F H x → w2.ok F H y → (∀ k, Q (.bl k) H) → r x y H Q)
    (ha : PE X a (tO Z ρ w1)) (hb : PE X b (tO Z ρ w2)) (hm : behindInMarks op b = false) : PE X (.Compare a [op] [b] pos) (tO Z ρ (tyB fun _ => True).od) :=
  (pe_cmpR ho ha hb hm).imp (imp2 fun F0 G F H σ x y Q s h1 h2 q => hr F0 G F H σ x y Q s h1 h2 fun k => q _ F H s.self ⟨k, trivial, .bl k⟩)
theorem gtX_hr {q : Nat → Prop} {j : Int} : ∀ F0 G F H σ x y (Q : VK), St Z F0 G F H σ ρ → ((tyN q).od (Z := Z)).ok F H x → ((Dt (.int j)).od (Z := Z)).ok F H y → (∀ k, Q (.bl k) H) → rI0 (fun i j => .bl (decide (j < i))) x y H Q := fun F0 G F H σ x y Q s h1 h2 k => by
  obtain ⟨i, hi, h1⟩ := h1
  rw [Rp.inj_int h1, Rp.inj_int h2]
  exact ⟨(i : Int), j, rfl, rfl, k _⟩
theorem eqX_hr {q : Nat → Prop} {j : Int} : ∀ F0 G F H σ x y (Q : VK), St Z F0 G F H σ ρ → ((tyN q).od (Z := Z)).ok F H x → ((Dt (.int j)).od (Z := Z)).ok F H y → (∀ k, Q (.bl k) H) → rEq x y H Q := fun F0 G F H σ x y Q s h1 h2 k => by
  obtain ⟨i, hi, h1⟩ := h1
  rw [Rp.inj_int h1, Rp.inj_int h2]
  exact ⟨rfl, k _⟩
theorem pgtX {q : Nat → Prop} {j : Int} (ha : PE X a (tO Z ρ (tyN q).od)) (hb : PE X b (tD Z ρ (.int j))) : PT X (.Compare a [.Gt] [b] pos) (tP Z ρ fun _ => True) := pcmpX op_gt gtX_hr ha hb (nomark _)
theorem peqX {q : Nat → Prop} {j : Int} (ha : PE X a (tO Z ρ (tyN q).od)) (hb : PE X b (tD Z ρ (.int j))) : PT X (.Compare a [.Eq] [b] pos) (tP Z ρ fun _ => True) := pcmpX op_eq eqX_hr ha hb (nomark _)
theorem dgtX {q : Nat → Prop} {j : Int} (ha : PE X a (tO Z ρ (tyN q).od)) (hb : PE X b (tD Z ρ (.int j))) : PE X (.Compare a [.Gt] [b] pos) (tO Z ρ (tyB fun _ => True).od) := dcmpX op_gt gtX_hr ha hb (nomark _)
theorem deqX {q : Nat → Prop} {j : Int} (ha : PE X a (tO Z ρ (tyN q).od)) (hb : PE X b (tD Z ρ (.int j))) : PE X (.Compare a [.Eq] [b] pos) (tO Z ρ (tyB fun _ => True).od) := dcmpX op_eq eqX_hr ha hb (nomark _)
/-- k or .. -/
theorem dorX {k : Bool} {q : Bool → Prop} (h : PE X a (tD Z ρ (.bool k))) (h2 : k = false → PE X (.BoolOp .Or (b :: rest0) pos) (tO Z ρ (tyB q).od)) (hq : k = true → q true) : PE X (.BoolOp .Or (a :: b :: rest0) pos) (tO Z ρ (tyB q).od) := by
  cases k with
  | false => exact (pe_or h (h2 rfl)).imp fun σ H Q ⟨F0, G, F, s, q⟩ => ⟨F0, G, F, s, fun v F' H' g e => ⟨false, Rp.inj_bl e, iteF ⟨F0, G, F', s.mv g, fun v2 F2 H2 g2 e2 => q v2 F2 H2 (g.tr g2) e2⟩⟩⟩
  | true => exact (pe_or h pe_nv).imp fun σ H Q ⟨F0, G, F, s, q⟩ => ⟨F0, G, F, s, fun v F' H' g e => ⟨true, Rp.inj_bl e, iteT (q _ F' H' g ⟨true, hq rfl, .bl _⟩)⟩⟩
theorem pe_or1X {w : Od Z} (h : PE X a (tO Z ρ w)) (he : PE X (.BoolOp .Or [a] pos) (tO Z ρ w)) : PE X (.BoolOp .Or [a] pos) (tO Z ρ w) := he
theorem pwor1X {q : Bool → Prop} (h : PT X a (tP Z ρ q)) : PW X (.BoolOp .Or [a] pos) (tP Z ρ q) := pw_or1 h
theorem pworX {k : Bool} {q : Bool → Prop} (h : PT X a (tQ Z ρ k)) (h2 : k = false → PW X (.BoolOp .Or (b :: rest0) pos) (tP Z ρ q)) (hq : k = true → q true) : PW X (.BoolOp .Or (a :: b :: rest0) pos) (tP Z ρ q) := by
  cases k with
  | false => exact PW.imp (pw_or h (h2 rfl)) fun σ H Q ⟨F0, G, F, s, q⟩ => ⟨F0, G, F, s, fun c F' H' g e => by
      rw [e]
      exact iteF ⟨F0, G, F', s.mv g, fun c2 F2 H2 g2 e2 => q c2 F2 H2 (g.tr g2) e2⟩⟩
  | true => exact PW.imp (pw_or h pw_nv) fun σ H Q ⟨F0, G, F, s, q⟩ => ⟨F0, G, F, s, fun c F' H' g e => by
      rw [e]
      exact iteT (q _ F' H' g (hq rfl))⟩
/-- what isinstance asks of a class of the program's own -/
structure Isc (K : PySem.W.Frag) (C : Addr) : Prop where
  cl : Cls K C
  ha : PySem.W.findIn K (.ref C) "__class__" = some (some (.builtin "object.__class__"))
  hn : PySem.W.specialIn K (.builtin "object.__class__") "__get__" = some (some (.builtin "getset_descriptor.__get__"))
  htk : PySem.W.takesIn K (.builtin "object.__class__") = some true
  hm : PySem.W.mroIn K C (.type "object") = some true
/-- isinstance(a, C), a an instance of D -/
theorem disI (T : Bi X.mg) {C D : Addr} {y : Str} {r : Bool} (cl : Isc X.K D) (ha : PE X a (tO Z ρ (tyI D []).od)) (hmy : X.mg y = some (.ref C)) (hk : PySem.W.kitOne X.K (.ref D) (.ref C) = some r) (hgy : Gl X y := by rfl) (hdy : (y == ("__debug__" : Str)) = false := by decide)
    (hg : Gl X "isinstance" := by rfl) (hs : starEach [a, .Name y p1] X.env = (false, eval a X.env) :: starEach [.Name y p1] X.env := by rfl) (hs2 : starEach [.Name y p1] X.env = (false, eval (.Name y p1) X.env) :: starEach [] X.env := by rfl) (hpl : (backTo pos (starEach [.Name y p1] X.env)).any (·.1) = false := by rfl) :
    PE X (.Call (.Name "isinstance" p) [a, .Name y p1] [] pos) (tD Z ρ (.bool r)) :=
  (pe_callB call_isi hg T.isinstance (by decide +kernel) (pa_cons ha (pa_cons (pe_glob (v := .ref C) hgy hmy rfl hdy) pa_nil hs2) hs) (he := hs) (hpl := hpl)).imp fun σ H Q ⟨F0, G, F, s, k⟩ => ⟨F0, G, F, s, fun v F1 H1 g1 k1 => by
    obtain ⟨q, dx, vs, rfl, h1, h2⟩ := k1
    exact ⟨.ref q, .ref C, .ref D, .ref C, r, rfl, .own C, .base (.ins (g1.fh _ _ h1) cl.cl cl.ha cl.hn cl.htk cl.hm), hk, k _ F1 H1 g1 (.bl r)⟩⟩
/-- e is not None, e is None; e a Torn or None -/
theorem dnoI {C : Addr} {k : Bool} {j pos'} (ha : PE X a (tO Z ρ (tyO C k).od)) : PE X (.Compare a [.IsNot] [.Constant .none j pos'] pos) (tD Z ρ (.bool k)) := by
  cases k with
  | false => exact dnoN (d := .none) ha
  | true => exact dcmp (w1 := (tyI C []).od) (w2 := (Dt .none).od) op_notN (fun F0 G F H σ x y Q s h1 h2 q => by
      obtain ⟨q', dx, vs, rfl, _⟩ := h1
      exact ⟨Rp.inj_non h2, q⟩) ha dnon (nomark _)
theorem disNI {C : Addr} {k : Bool} {j pos'} (ha : PE X a (tO Z ρ (tyO C k).od)) : PE X (.Compare a [.Is] [.Constant .none j pos'] pos) (tD Z ρ (.bool (!k))) := by
  cases k with
  | false => exact disN (d := .none) ha
  | true => exact dcmp (w1 := (tyI C []).od) (w2 := (Dt .none).od) op_isN (fun F0 G F H σ x y Q s h1 h2 q => by
      obtain ⟨q', dx, vs, rfl, _⟩ := h1
      exact ⟨Rp.inj_non h2, q⟩) ha dnon (nomark _)
/-! dict displays -/
def ppT (Z : Zn) (ρ : En) (es : List (Str × Ty)) : List (TE × TE) := es.map fun x => (tD Z ρ (.str x.1), tO Z ρ x.2.od)
theorem dp0 : PPs X pos [] [] (ppT Z ρ []) := pps_nil
theorem dpc {x : Str} {v : Expr} {ks : List (Option Expr)} {vs : List Expr} {r : List (Str × Ty)} {k : Expr} (hk : PE X k (tD Z ρ (.str x))) (hv : PE X v (tO Z ρ t.od)) (h : PPs X pos ks vs (ppT Z ρ r)) : PPs X pos (some k :: ks) (v :: vs) (ppT Z ρ ((x, t) :: r)) := pps_cons hk hv h
inductive PsR (F : Hp) : List (V × V) → List (Str × Ty) → Prop
  | nil : PsR F [] []
  | cons {x : Str} {v : V} {t : Ty} {ps : List (V × V)} {r : List (Str × Ty)} : t.ok F v → PsR F ps r → PsR F ((.str x, v) :: ps) ((x, t) :: r)
theorem PsR.kv {F : Hp} : ∀ {ps : List (V × V)} {r : List (Str × Ty)}, PsR F ps r → ∃ kvs : List (Key × V), ps = kvs.map (fun kv => (kV kv.1, kv.2)) ∧ KvR F kvs r
  | _, _, .nil => ⟨[], rfl, .nil⟩
  | _, _, .cons (x := x) (v := v) h t => by
    obtain ⟨kvs, h1, h2⟩ := t.kv
    exact ⟨(.inr x, v) :: kvs, by rw [h1]; rfl, .cons h h2⟩
theorem putK_nw {x : Str} {v : V} {F : Hp} : ∀ {kvs : List (Key × V)} {r : List (Str × Ty)}, KvR F kvs r → x ∉ r.map (·.1) → putK kvs (.inr x) v = kvs ++ [(.inr x, v)] := fun {kvs r} h hx => by
  have h1 := (h.look (x := x)).2 (lookS_none hx)
  exact L2.putK_new v h1
theorem KvR.app {F : Hp} : ∀ {a b : List (Key × V)} {r s : List (Str × Ty)}, KvR F a r → KvR F b s → KvR F (a ++ b) (r ++ s)
  | _, _, _, _, .nil, k => k
  | _, _, _, _, .cons h t, k => .cons h (t.app k)
theorem merge_id {F : Hp} : ∀ {more : List (Key × V)} {s : List (Str × Ty)} {kvs : List (Key × V)} {r : List (Str × Ty)}, KvR F kvs r → KvR F more s → ((r ++ s).map (·.1)).Nodup → mergeK kvs more = kvs ++ more
  | _, _, kvs, _, _, .nil, _ => (List.append_nil kvs).symm
  | _, _, kvs, r, h, .cons (x := x) (v := v) (t := t) (r := m) (s := s) hv ht, nd => by
    have nx : x ∉ r.map (·.1) := fun z => by
      rw [List.map_append] at nd
      exact (List.nodup_append.mp nd).2.2 _ z _ List.mem_cons_self rfl
    show mergeK (putK kvs (.inr x) v) m = _
    rw [putK_nw h nx]
    have h2 : KvR F (kvs ++ [(Sum.inr x, v)]) (r ++ [(x, t)]) := h.app (.cons hv .nil)
    rw [merge_id h2 ht (by rw [List.append_assoc]; exact nd), List.append_assoc]
    rfl
theorem pairs_of : ∀ {es : List (Str × Ty)} {σ : L2.St} {H : Hp} {Q : List (V × V) → Hp → Prop} {F0 G F : Hp}, St Z F0 G F H σ ρ → (∀ ps F' H', Go Z F H F' H' → PsR F' ps es → Q ps H') → tPairs (ppT Z ρ es) σ H Q
  | [], σ, H, Q, F0, G, F, s, k => k [] F H s.self .nil
  | (x, t) :: es, σ, H, Q, F0, G, F, s, k => ⟨F0, G, F, s, fun u F1 H1 g1 r1 => ⟨F0, G, F1, s.mv g1, fun v F2 H2 g2 r2 => pairs_of ((s.mv g1).mv g2) fun ps F3 H3 g3 r3 => k _ F3 H3 ((g1.tr g2).tr g3) (by
      rw [Rp.inj_str r1]
      exact .cons (t.mono g3.f r2) r3)⟩⟩
theorem dispK {keys : List (Option Expr)} {values : List Expr} {es : List (Str × Ty)} (h : PPs X pos keys values (ppT Z ρ es)) (nd : (es.map (·.1)).Nodup) (hall : keys.all (·.isSome) = true) (hl : keys.length = values.length) (h0 : keys ≠ []) (h15 : keys.length ≤ 15) (hes : es.length ≤ 15) :
    PE X (.Dict keys values pos) (tN Z ρ (mK es)) :=
  (pe_disp h hall hl h0 h15).imp fun σ H Q ⟨F0, G, F, s, k⟩ => fun p hp => by
    have g0 := Go.new (o := .dK []) s.fh s.zk hp
    have np : ¬ Z.out p := fun z => s.zk.there z hp
    refine pairs_of (s.mv g0) fun ps F1 H1 g1 r1 => ?_
    have e1 : H1 p = some (.dK []) := g1.h p _ np upd_same
    obtain ⟨kvs, a1, a2⟩ := r1.kv
    have fp : F1 p = none := g1.nw p (s.fh.free hp) (by rw [upd_same]; intro z; cases z)
    have gp : G p = none := by
      cases e : G p with
      | none => rfl
      | some u =>
        rw [s.go.h p u np e] at hp
        cases hp
    refine ⟨e1, kvs, a1, by rw [a2.len]; exact hes, ?_⟩
    rw [merge_id .nil a2 nd]
    have s2 := ((s.mv g0).mv g1).own (o2 := .dK kvs) fp gp np (fun i m hi hs => by
      obtain ⟨q, o, b1, b2, _⟩ := s.mu i m hi
      rw [hs] at b1
      cases b1
      rw [hp] at b2
      cases b2) e1 (fun c q z => by cases z)
    exact k p _ F1 _ ((g0.tr g1).own hp fp s2.zk) hp fp upd_same ⟨kvs, rfl, a2⟩
/-! while -/
theorem swhile {body : List Stmt} (I : Nat → En → Prop) (J : En → Prop) (hp : PassesOwn (model X.prog X.w) X.A X.env X.xe) (h0 : ∃ n, I n ρ)
    (hb : ∀ n ρ1, I n ρ1 → ∃ k, PT X c (tQ Z ρ1 k) ∧ (k = false → J ρ1) ∧ (k = true → PSs X body (tS Z F0 G ρ1 ⟨fun ρ2 => ∃ m, m < n ∧ I m ρ2, Φ.rt, fun _ => False, fun _ => False⟩)))
    (h2 : ∀ ρ', J ρ' → PSs X rest (tS Z F0 G ρ' Φ)) : PSs X (.While c body [] pos :: rest) (tS Z F0 G ρ Φ) := by
  refine scons (Ψ := { Φ with nx := J })
    (ps_while (tc := fun σ H Q => ∃ n ρ1 k, I n ρ1 ∧ PT X c (tQ Z ρ1 k) ∧ tQ Z ρ1 k σ H Q) (tb := fun D σ H => ∃ n ρ1, PSs X body (tS Z F0 G ρ1 ⟨fun ρ2 => ∃ m, m < n ∧ I m ρ2, Φ.rt, fun _ => False, fun _ => False⟩) ∧ tS Z F0 G ρ1 ⟨fun ρ2 => ∃ m, m < n ∧ I m ρ2, Φ.rt, fun _ => False, fun _ => False⟩ D σ H) hp ⟨?_⟩ ⟨?_⟩) h2 ?_
  · rintro pins s σ H Q Iv ⟨n, ρ1, k, _, h3, h4⟩
    exact h3.run pins s σ H Q Iv h4
  · rintro pins s σ H D Iv ⟨n, ρ1, h3, h4⟩
    exact h3.run pins s σ H D Iv h4
  · rintro D σ H ⟨F, s, k1, k2, k3, k4⟩
    obtain ⟨n0, hn0⟩ := h0
    refine ⟨fun n σ' H' => ∃ ρ1 F', I n ρ1 ∧ Same F F' ∧ St Z F0 G F' H' σ' ρ1, ⟨n0, ρ, F, hn0, Same.refl _, s⟩, ?_⟩
    rintro n σ' H2 ⟨ρ1, F2, hI, sf, s2⟩
    obtain ⟨k, t1, t2, t3⟩ := hb n ρ1 hI
    refine ⟨n, ρ1, k, hI, t1, F0, G, F2, s2, fun b F3 H3 g3 hb => ?_⟩
    subst hb
    cases b with
    | false => exact iteF (k1 ρ1 σ' F3 H3 (t2 rfl) (sf.trans g3.f) (s2.mv g3))
    | true =>
      exact iteT ⟨fun σ4 H4 => ∃ m ρ4 F4, m < n ∧ I m ρ4 ∧ Same F F4 ∧ St Z F0 G F4 H4 σ4 ρ4, fun σ4 H4 ⟨m, ρ4, F4, a1, a2, a3, a4⟩ => ⟨m, a1, ρ4, F4, a2, a3, a4⟩,
        n, ρ1, t3 rfl, F3, s2.mv g3, fun ρ' σ' F' H' ⟨m, b1, b2⟩ a s' => ⟨m, ρ', F', b1, b2, (sf.trans g3.f).trans a, s'⟩, k2, fun _ _ _ _ h => h.elim, fun _ _ _ _ h => h.elim⟩
end
end Kb
end TLf
section TPw
set_option Elab.async false
set_option autoImplicit false
set_option linter.all false
set_option maxRecDepth 100000
/-! Pw: the law's own pact, plain. -/
namespace Kb
open PySem PySem.Spec PyProof.Rows L2 PySem.W
theorem isU_ext {pr : List Nt} {x y : Str} (post : List Nt) (hx : x ∈ names pr) (hy : y ∈ names pr) : isU (pr ++ post) x y = isU pr x y := by
  refine snocInd (p := fun post => isU (pr ++ post) x y = isU pr x y) (by rw [List.append_nil]) (fun q n ih => ?_) post
  rw [← List.append_assoc, isU_old (by rw [names_app]; exact List.mem_append_left _ hx) (by rw [names_app]; exact List.mem_append_left _ hy)]
  exact ih
/-- what lies under the note behind pr -/
theorem isU_step {ns pr post : List Nt} {n : Nt} (nd : (names ns).Nodup) (hw : WsOk ns) (e : ns = pr ++ n :: post) {y : Str} : (y ∈ names ns ∧ isU ns y n.nm = true) ↔ y = n.nm ∨ (y ∈ names pr ∧ ((∃ o ∈ n.ws, isU ns y o = true) ∨ ∃ z, (row pr n.hd).getLast? = some z ∧ isU ns y z = true)) := by
  have e1 : ns = (pr ++ [n]) ++ post := by rw [e, List.append_assoc]; rfl
  have nd1 : (names (pr ++ [n])).Nodup := by
    rw [e1, names_app] at nd
    exact (List.nodup_append.mp nd).1
  have hw1 : WsOk (pr ++ [n]) := by
    rw [e1] at hw
    exact hw.pre
  have nin : n.nm ∈ names (pr ++ [n]) := by rw [names_snoc]; simp
  have inl : ∀ x ∈ names pr, x ∈ names (pr ++ [n]) := fun x hx => by rw [names_snoc]; exact List.mem_append_left _ hx
  have ext : ∀ x y, x ∈ names (pr ++ [n]) → y ∈ names (pr ++ [n]) → isU ns x y = isU (pr ++ [n]) x y := fun x y hx hy => by
    rw [e1]
    exact isU_ext post hx hy
  have ext0 : ∀ x y, x ∈ names pr → y ∈ names pr → isU ns x y = isU pr x y := fun x y hx hy => by
    rw [ext x y (inl x hx) (inl y hy), isU_old hx hy]
  have fwd : ∀ y, y ∈ names pr → ((∃ o ∈ n.ws, isU ns y o = true) ∨ ∃ z, (row pr n.hd).getLast? = some z ∧ isU ns y z = true) → isU ns y n.nm = true := fun y hy h => by
    rw [ext y n.nm (inl y hy) nin, isU_new nd1 hw1 hy]
    rcases h with ⟨o, a, b⟩ | ⟨z, a, b⟩
    · rw [ext0 y o hy (hw1.init.2 o a)] at b
      exact .inl ⟨o, a, b⟩
    · rw [ext0 y z hy (row_names (List.mem_of_getLast? a))] at b
      exact .inr ⟨z, a, b⟩
  constructor
  · rintro ⟨h1, h2⟩
    have hn : n.nm ∈ names ns := by rw [e1, names_app]; exact List.mem_append_left _ nin
    have hle := isU_le nd hw hn h2
    have hpn : pl ns n.nm = pr.length := by
      unfold pl
      rw [e, names_app, List.idxOf_append, if_neg (nd_init nd1).2, names_len]
      show List.idxOf n.nm (n.nm :: names post) + pr.length = pr.length
      rw [List.idxOf_cons_self, Nat.zero_add]
    by_cases z : y = n.nm
    · exact .inl z
    · right
      have hy : y ∈ names pr := by
        rw [e, names_app] at h1
        rcases List.mem_append.mp h1 with k | k
        · exact k
        · exfalso
          have k : y ∈ n.nm :: names post := k
          rcases List.mem_cons.mp k with k | k
          · exact z k
          · have hny : y ∉ names pr := fun k2 => by
              rw [e, names_app] at nd
              exact (List.nodup_append.mp nd).2.2 _ k2 y (List.mem_cons_of_mem _ k) rfl
            have : pr.length < pl ns y := by
              unfold pl
              rw [e, names_app, List.idxOf_append, if_neg hny, names_len]
              show pr.length < List.idxOf y (n.nm :: names post) + pr.length
              have hb : (n.nm == y) = false := beq_eq_false_iff_ne.mpr fun k => z k.symm
              rw [List.idxOf_cons, hb]
              show pr.length < List.idxOf y (names post) + 1 + pr.length
              omega
            omega
      refine ⟨hy, ?_⟩
      rw [ext y n.nm (inl y hy) nin, isU_new nd1 hw1 hy] at h2
      rcases h2 with ⟨o, a, b⟩ | ⟨q, a, b⟩
      · rw [← ext0 y o hy (hw1.init.2 o a)] at b
        exact .inl ⟨o, a, b⟩
      · rw [← ext0 y q hy (row_names (List.mem_of_getLast? a))] at b
        exact .inr ⟨q, a, b⟩
  · rintro (h | ⟨h1, h2⟩)
    · rw [h]
      have hn : n.nm ∈ names ns := by rw [e1, names_app]; exact List.mem_append_left _ nin
      exact ⟨hn, isU_refl nd hw hn⟩
    · refine ⟨?_, fwd y h1 h2⟩
      rw [e, names_app]
      exact List.mem_append_left _ h1
/-- a list parted by what rises along it -/
theorem filt_part {α : Type} {f : α → Bool} : ∀ {l : List α}, (l.Pairwise fun a b => f a = true → f b = true) → l = l.filter (fun x => !f x) ++ l.filter f
  | [], _ => rfl
  | a :: l, h => by
    obtain ⟨h1, h2⟩ := List.pairwise_cons.mp h
    have ih := filt_part h2
    cases e : f a with
    | true =>
      have hall : ∀ b ∈ l, f b = true := fun b hb => h1 b hb e
      have e1 : l.filter f = l := List.filter_eq_self.mpr hall
      have e2 : (l.filter fun x => !f x) = [] := List.filter_eq_nil_iff.mpr fun b hb => by rw [hall b hb]; decide
      rw [List.filter_cons, List.filter_cons, e, e1, e2]
      rfl
    | false =>
      rw [List.filter_cons, List.filter_cons, e]
      simp only [Bool.not_false, if_true, Bool.false_eq_true, if_false, List.cons_append]
      exact congrArg _ ih
def nextS (ns : List Nt) (h x : Str) : Str := ((row ns h).filter fun o => isU ns x o).headD ""
theorem next_head {ns : List Nt} {h x : Str} (nd : (names ns).Nodup) (hw : WsOk ns) (hx : x ∈ names ns) : nextNote ns h x = ((row ns h).filter fun o => isU ns x o).head? := by
  have hp : (row ns h).Pairwise fun a b => isU ns x a = true → isU ns x b = true := (row_chain nd hw h).imp_of_mem fun ha hb k1 k2 => isU_trans nd hw hx (row_names ha) (row_names hb) k2 k1
  have e := filt_part hp
  unfold nextNote nextLevel
  conv => lhs; rw [e]
  rw [List.getElem?_append_right (by
    rw [← e]
    exact Nat.le_refl _)]
  rw [← e, Nat.sub_self, List.head?_eq_getElem?]
theorem nextS_none {ns : List Nt} {h x : Str} (nd : (names ns).Nodup) (hw : WsOk ns) (hx : x ∈ names ns) (e : nextNote ns h x = none) : nextS ns h x = "" := by
  rw [next_head nd hw hx] at e
  unfold nextS
  rw [List.head?_eq_none_iff.mp e]
  rfl
theorem nextS_some {ns : List Nt} {h x y : Str} (nd : (names ns).Nodup) (hw : WsOk ns) (hx : x ∈ names ns) (e : nextNote ns h x = some y) : nextS ns h x = y := by
  rw [next_head nd hw hx] at e
  unfold nextS
  rw [List.headD_eq_head?_getD, e]
  rfl
theorem Nm.ne {x : Str} (h : Nm x) : x ≠ "" := fun z => by
  have := h.1
  rw [z] at this
  revert this
  decide
end Kb
end TPw
section TWu
set_option Elab.async false
set_option autoImplicit false
set_option linter.all false
set_option maxRecDepth 100000
set_option maxHeartbeats 4000000
/-! Wu: the law's world looked at. -/
namespace Kb
open PySem PySem.Spec PyProof.Rows L2 PySem.W
/-- the law's own pact: what lies below each note, its whole paper -/
structure Wd where
  p : Pc
  bl : List (Str × List Str)
  wh : List Str
def kvB (bl : List (Str × List Str)) : List (Str × Ty) := bl.map fun e => (e.1, Dt (.list (e.2.map .str)))
def kvH (hs : List Str) (f : Str → PyData) : List (Str × Ty) := hs.map fun h => (h, Dt (f h))
def nextsN (ns : List Nt) (hs : List Str) : List (NestedKey × PyData) := hs.flatMap fun h => ns.map fun n => (kTwo h n.nm, .str (nextS ns h n.nm))
def wdF (P : Program) (w : World) (W : Wd) : List (Str × Ty) :=
  [("hands", Dt (.list (W.p.hands.map .str))), ("notes", Dt (.list (W.p.ns.map eN))), ("ready", Dt (.list (W.p.ready.map .str))), ("paper", Dt (eL W.p.paper)), ("rows", tyK (kvH W.p.hands fun h => .list ((row W.p.ns h).map .str))),
    ("below", tyK (kvB W.bl)), ("keys", tyK (kvH W.p.hands fun h => .str (keyNote W.p.ns W.p.paper h))), ("nexts", tyD P w (nextsN W.p.ns W.p.hands)), ("whole", Dt (.list (W.wh.map .str)))]
abbrev tyWd (P : Program) (w : World) (W : Wd) : Ty := tyK (wdF P w W)
/-- what lies below some notes, told rightly -/
structure BlOk (ns : List Nt) (xs : List Str) (bl : List (Str × List Str)) : Prop where
  keys : bl.map (·.1) = xs
  mem : ∀ e ∈ bl, ∀ y, y ∈ e.2 ↔ y ∈ names ns ∧ isU ns y e.1 = true
  nd : ∀ e ∈ bl, e.2.Nodup
structure WdOk (W : Wd) : Prop where
  pok : PcOk W.p
  bl : BlOk W.p.ns (names W.p.ns) W.bl
theorem kvH_look {hs : List Str} {f : Str → PyData} {h : Str} (nd : hs.Nodup) (hh : h ∈ hs) : lookS (kvH hs f) h = some (Dt (f h)) := by
  refine lookS_mem ?_ (List.mem_map.mpr ⟨h, hh, rfl⟩)
  unfold kvH
  rw [List.map_map]
  show (hs.map fun x => x).Nodup
  rw [List.map_id']
  exact nd
theorem BlOk.look {ns : List Nt} {xs : List Str} {bl : List (Str × List Str)} (b : BlOk ns xs bl) (nd : xs.Nodup) {x : Str} (hx : x ∈ xs) : ∃ l : List Str, lookS (kvB bl) x = some (Dt (.list (l.map .str))) ∧ (∀ y, y ∈ l ↔ y ∈ names ns ∧ isU ns y x = true) ∧ l.Nodup := by
  rw [← b.keys] at hx nd
  obtain ⟨e, h1, rfl⟩ := List.mem_map.mp hx
  refine ⟨e.2, lookS_mem ?_ (List.mem_map.mpr ⟨e, h1, rfl⟩), b.mem e h1, b.nd e h1⟩
  unfold kvB
  rw [List.map_map]
  exact nd
theorem data_two (x y : Str) : (kTwo x y).data = .tuple [.str x, .str y] := rfl
theorem nexts_look {ns : List Nt} {hs : List Str} {h x : Str} (hh : h ∈ hs) (hx : x ∈ names ns) : lookN (nextsN ns hs) (kTwo h x) = some (.str (nextS ns h x)) := by
  obtain ⟨n, h1, rfl⟩ := mem_names.mp hx
  refine lookN_fun (fun e he hk => ?_) ⟨(kTwo h n.nm, .str (nextS ns h n.nm)), List.mem_flatMap.mpr ⟨h, hh, List.mem_map.mpr ⟨n, h1, rfl⟩⟩, rfl⟩
  obtain ⟨h', h2, h3⟩ := List.mem_flatMap.mp he
  obtain ⟨m, h4, rfl⟩ := List.mem_map.mp h3
  obtain ⟨rfl, e2⟩ := kTwo_inj hk
  show PyData.str (nextS ns h' m.nm) = .str (nextS ns h' n.nm)
  rw [e2]
section
variable {P : Program} {w : World} {K : PySem.W.Frag} {mg : Str → Option Value} {base : Heap} {tb : Addr} {C CJ CT : Addr}
abbrev q88 (P : Program) (w : World) (Z : Zn) : Sp := spD Z (fun a : Wd × Str => [tyWd P w a.1, Dt (.str a.2)]) (fun a => WdOk a.1 ∧ a.2 ∈ a.1.p.hands) fun a => Dt (.str (a.1.p.rdy a.2))
theorem ok88 (V : Gv mg) (D : Dn K mg "_law_start" s88 ["_law_world_here", "_law_hand"]) : Okd P w K mg base "_law_start" 1 (q88 P w ⟨tb, lamN, none⟩) := by
  refine okD D c88 (fun _ => rfl) (by decide) fun f cdv A outer s H E a F0 G hr hp => ?_
  obtain ⟨W, h⟩ := a
  obtain ⟨h1, h2⟩ := hp
  have h1 : WdOk W := h1
  have h2 : h ∈ W.p.hands := h2
  have hi : W.p.hands.idxOf h < W.p.ready.length := by rw [h1.pok.ready.len]; exact List.idxOf_lt_length_of_mem h2
  exact sret (dixL (vL (dgetK (t := Dt (.list (W.p.ready.map .str))) hr.u1 (vK (dv 0)) dstr rfl)) (dixOfL (vL (dgetK (t := Dt (.list (W.p.hands.map .str))) hr.u1 (vK (dv 0)) dstr rfl)) (dv 1) h2) (lot_at hi)) rfl
abbrev q89 (P : Program) (w : World) (Z : Zn) : Sp := spD Z (fun a : Wd × Str × List Str => [tyWd P w a.1, Dt (.str a.2.1), Dt (eL a.2.2)]) (fun a => WdOk a.1 ∧ a.2.1 ∈ names a.1.p.ns ∧ (∀ h ∈ a.2.2, h ∈ a.1.p.hands) ∧ a.2.2.length ≤ 6) fun a => Dt (.list ((climbN a.1.p.ns a.2.1 a.2.2).map .str))
theorem ok89 (V : Gv mg) (D : Dn K mg "_law_climb" s89 ["_law_world_here", "_law_note", "_law_row"]) : Okd P w K mg base "_law_climb" 1 (q89 P w ⟨tb, lamN, none⟩) := by
  refine okD D c89 (fun _ => rfl) (by decide) fun f cdv A outer s H E a F0 G hr hp => ?_
  obtain ⟨W, x, r⟩ := a
  obtain ⟨h1, h2, h3, h4⟩ := hp
  have h1 : WdOk W := h1
  have h2 : x ∈ names W.p.ns := h2
  have h3 : ∀ h ∈ r, h ∈ W.p.hands := h3
  have h4 : r.length ≤ 6 := h4
  refine ssetN 3 c89.nd (dlst (ds := []) pa0) ?_
  refine sforB (xs := r) (fun pre ρ1 => ∃ ys y x4, (∀ rest, climbN W.p.ns x (pre ++ rest) = ys ++ climbN W.p.ns y rest) ∧ y ∈ names W.p.ns ∧ ys.length ≤ pre.length ∧ ρ1 = [some (.im (tyWd P w W)), some (.im (Dt (.str y))), some (.im (Dt (eL r))), some (.mu (mL (ys.map .str))), x4])
    (fun ρ1 => ∃ x1 x4, ρ1 = [some (.im (tyWd P w W)), x1, some (.im (Dt (eL r))), some (.mu (mL ((climbN W.p.ns x r).map .str))), x4]) PassesOwn.never rfl (itTs (xs := r) (f := PyData.str) (dv 2)) ⟨[], x, none, fun rest => rfl, h2, Nat.le_refl _, rfl⟩
    (fun pre h post ρ1 hx ⟨ys, y, x4, e1, e2, e3, e⟩ => ?_) fun ρ1 hh => ?_
  · subst e
    have hm : h ∈ W.p.hands := h3 h (by rw [hx]; simp)
    have pl1 : pre.length ≤ 6 := by
      have := congrArg List.length hx
      rw [List.length_append, List.length_cons] at this
      omega
    refine ⟨_, gn 4 c89.nd, ?_⟩
    refine sset (t := Dt (.str (nextS W.p.ns h y))) 1 c89.nd (dgetN hr.u64 (k := kTwo h y) (vN (dgetK (t := tyD P w (nextsN W.p.ns W.p.hands)) hr.u1 (vK (dv 0)) dstr rfl)) (dis (dtup (ds := [.str h, .str y]) (pac (dv 4) (pac (dv 1) pa0)) (Nat.le_of_ble_eq_true rfl)) (data_two h y).symm) trivial (depth_kTwo _ _) (nexts_look hm e2)) ?_
    cases hn : nextNote W.p.ns h y with
    | none =>
      refine sif (Ψ := ⟨fun _ => False, _, _, _⟩) (ptis (l := true) (peqS (dv 1) dstr) (decide_eq_true (nextS_none h1.pok.nd h1.pok.wo e2 hn))) (fun _ => sbrk ?_) (fun z => by cases z) fun _ z => z.elim
      have e4 : climbN W.p.ns x r = ys := by
        rw [hx, e1, climbN, hn, List.append_nil]
      rw [← e4]
      exact ⟨_, _, rfl⟩
    | some z =>
      have ez := nextS_some h1.pok.nd h1.pok.wo e2 hn
      have hz := nextNote_names hn
      obtain ⟨n, hn1, hn2⟩ := mem_names.mp hz
      have zne : z ≠ "" := by
        rw [← hn2]
        exact (h1.pok.note hn1).1.ne
      refine sifF (ptis (peqS (dv 1) dstr) (decide_eq_false (by rw [ez]; exact zne))) (s0 rfl) (sapp 3 (d := .str (nextS W.p.ns h y)) (dv 1) (s0 ?_) ?_)
      · have e5 : ys.map PyData.str ++ [.str (nextS W.p.ns h y)] = (ys ++ [nextS W.p.ns h y]).map .str := by rw [List.map_append]; rfl
        rw [e5]
        refine ⟨ys ++ [nextS W.p.ns h y], nextS W.p.ns h y, _, fun rest => ?_, by rw [ez]; exact hz, ?_, rfl⟩
        · rw [List.append_assoc, List.append_assoc, List.singleton_append, e1, climbN, hn, ez]
          rfl
        · rw [List.length_append, List.length_append]
          exact Nat.add_le_add_right e3 1
      · rw [List.length_map]
        omega
  · have key : ∃ x1 x4, ρ1 = [some (.im (tyWd P w W)), x1, some (.im (Dt (eL r))), some (.mu (mL ((climbN W.p.ns x r).map .str))), x4] := by
      rcases hh with ⟨ys, y, x4, e1, e2, e3, e⟩ | h
      · have e4 := e1 []
        rw [List.append_nil, climbN, List.append_nil] at e4
        rw [e4]
        exact ⟨_, _, e⟩
      · exact h
    obtain ⟨x1, x4, e⟩ := key
    subst e
    exact sfrz 3 rfl (frzL _) (sret (dv 3) rfl)
abbrev q90 (P : Program) (w : World) (Z : Zn) : Sp := spD Z (fun a : Wd × Str × List Str => [tyWd P w a.1, Dt (.str a.2.1), Dt (eL a.2.2)]) (fun a => WdOk a.1 ∧ a.2.1 ∈ a.1.p.hands ∧ RowOk a.1.p.hands a.2.2) fun a => Dt (.bool (rowHolds a.1.p a.2.1 a.2.2))
theorem ok90 (V : Gv mg) (D : Dn K mg "_law_holds" s90 ["_law_world_here", "_law_hand", "_law_row"]) (C88 : Okd P w K mg base "_law_start" 1 (q88 P w ⟨tb, lamN, none⟩)) (C89 : Okd P w K mg base "_law_climb" 1 (q89 P w ⟨tb, lamN, none⟩)) : Okd P w K mg base "_law_holds" 2 (q90 P w ⟨tb, lamN, none⟩) := by
  refine okD D c90 (fun _ => rfl) (by decide) fun f cdv A outer s H E a F0 G hr hp => ?_
  obtain ⟨W, h, r⟩ := a
  obtain ⟨h1, h2, h3⟩ := hp
  have h1 : WdOk W := h1
  have h2 : h ∈ W.p.hands := h2
  have h3 : RowOk W.p.hands r := h3
  have hlm : r.getLastD "" ∈ W.p.hands := h3.sub _ (getLastD_mem h3.ne)
  have lp : 0 < r.length := List.length_pos_iff.mpr h3.ne
  have l6 : r.length ≤ 6 := Nat.le_trans h3.len h1.pok.hands.hi
  have kn := keyNote_names (h1.pok.keyed hlm)
  obtain ⟨l, b1, b2, b3⟩ := h1.bl.look h1.pok.nd kn
  refine sset 3 c90.nd (dcl hr C89 (W, W.p.rdy h, r) ⟨h1, row_names (h1.pok.rdy h2).2, h3.sub, l6⟩ (pac (dv 0) (pac (dcl hr C88 (W, h) ⟨h1, h2⟩ (pac (dv 0) (pac (dv 1) pa0))) (pac (dv 2) pa0)))) ?_
  refine sret (dis (dand (deqI (dlen V.bi (ds := (climbN W.p.ns (W.p.rdy h) r).map .str) sqL (vL (dv 3))) (dlen V.bi (ds := r.map .str) sqT (vT (dv 2)))) fun hb => dand1 (dis (din (xs := l) sqL (dixL (d := .str ((climbN W.p.ns (W.p.rdy h) r).getLastD "")) (vL (dv 3)) (dneg dint) (atI_last ?_))
    (vL (dgetK hr.u1 (vK (dgetK (t := tyK (kvB W.bl)) hr.u1 (vK (dv 0)) dstr rfl)) (dgetK (t := Dt (.str (keyNote W.p.ns W.p.paper (r.getLastD "")))) hr.u1 (vK (dgetK (t := tyK (kvH W.p.hands fun h => .str (keyNote W.p.ns W.p.paper h))) hr.u1 (vK (dv 0)) dstr rfl)) (dixT (vT (dv 2)) (dneg dint) (atI_last h3.ne)) (kvH_look h1.pok.hands.nd hlm)) b1))) (d' := .bool (isU W.p.ns ((climbN W.p.ns (W.p.rdy h) r).getLastD "") (keyNote W.p.ns W.p.paper (r.getLastD "")))) ?_)) ?_) rfl
  · have hb := of_decide_eq_true hb
    rw [List.length_map, List.length_map] at hb
    intro z
    rw [z] at hb
    simp at hb
    omega
  · have hb := of_decide_eq_true hb
    rw [List.length_map, List.length_map] at hb
    have ne : climbN W.p.ns (W.p.rdy h) r ≠ [] := fun z => by
      rw [z] at hb
      simp at hb
      omega
    have := climbN_names (getLastD_mem (d := ("" : Str)) ne)
    refine congrArg PyData.bool ?_
    rw [Bool.eq_iff_iff, decide_eq_true_eq, b2]
    exact ⟨fun z => z.2, fun z => ⟨this, z⟩⟩
  · unfold rowHolds
    rw [List.length_map, List.length_map]
    congr 2
    simp only [decide_eq_decide]
    omega
/-- some row of hands of a lot fails -/
def lawTorn (p : Pc) (F : List (List Str)) (l : List Str) : Bool := (rowsR l l.length).any fun r => inFam F r.dropLast && l.any fun h => !rowHolds p h r
abbrev q99 (P : Program) (w : World) (Z : Zn) : Sp := spD Z (fun a : Wd × List (List Str) × List Str => [tyWd P w a.1, Dt (.tuple (a.2.1.map eL)), Dt (eL a.2.2)]) (fun a => WdOk a.1 ∧ FamOk a.1.p.hands a.2.1 ∧ LotIn a.1.p.hands a.2.2 ∧ a.2.2.length ≤ 4) fun a => Dt (.bool (lawTorn a.1.p a.2.1 a.2.2))
theorem ok99 (V : Gv mg) (D : Dn K mg "_law_torn" s99 ["_law_world_here", "_law_family_here", "_law_lot"]) (C90 : Okd P w K mg base "_law_holds" 2 (q90 P w ⟨tb, lamN, none⟩)) (C91 : Okd P w K mg base "_law_rows" 2 (q91 ⟨tb, lamN, none⟩)) (C95 : Okd P w K mg base "_law_inside" 2 (q95 ⟨tb, lamN, none⟩)) : Okd P w K mg base "_law_torn" 3 (q99 P w ⟨tb, lamN, none⟩) := by
  refine okD D c99 (fun _ => rfl) (by decide) fun f cdv A outer s H E a F0 G hr hp => ?_
  obtain ⟨W, F, l⟩ := a
  obtain ⟨h1, h2, h3, h4⟩ := hp
  have h1 : WdOk W := h1
  have h2 : FamOk W.p.hands F := h2
  have h3 : LotIn W.p.hands l := h3
  have h4 : l.length ≤ 4 := h4
  have F63 := h2.len
  have sok : ∀ x ∈ W.p.hands, PyData.canLay0 (.str x) = true := fun x hx => (h1.pok.hands.nm x hx).ok
  refine sforN (xs := rowsR l l.length) (fun pre ρ1 => (∀ r ∈ pre, (inFam F r.dropLast && l.any fun h => !rowHolds W.p h r) = false) ∧ ∃ x3, ρ1 = [some (.im (tyWd P w W)), some (.im (Dt (.tuple (F.map eL)))), some (.im (Dt (eL l))), x3, none]) PassesOwn.never rfl
    (itLs (xs := rowsR l l.length) (f := eL) (dcl hr C91 l ⟨h3.nd, h4⟩ (pac (dv 2) pa0))) ⟨(fun r h => by cases h), _, rfl⟩ (fun pre r post ρ1 hx ⟨hn, x3, e⟩ => ?_) fun ρ1 ⟨hn, x3, e⟩ => ?_
  · subst e
    have hrm : r ∈ rowsR l l.length := by rw [hx]; simp
    obtain ⟨r1, r2, r3, r4⟩ := mem_rowsR.mp hrm
    have ro : RowOk W.p.hands r := ⟨r1, fun x hx => h3.sub x (r4 x hx), r3⟩
    have dl : ∀ x ∈ r.dropLast, x ∈ W.p.hands := fun x hx => ro.sub x (List.dropLast_subset _ hx)
    have dn : r.dropLast.length ≤ 4 := by rw [List.length_dropLast]; omega
    have ee : (!PyData.eqv (.list ((l.filter fun h => !rowHolds W.p h r).map .str)) (.list [])) = l.any fun h => !rowHolds W.p h r := by
      rw [eqv_nil]
      have e2 : decide ((l.filter fun h => !rowHolds W.p h r).map PyData.str = []) = decide ((l.filter fun h => !rowHolds W.p h r) = []) := by simp
      rw [e2, filter_nil, Bool.not_not]
    refine ⟨_, gn 3 c99.nd, ?_⟩
    refine sif (Ψ := ⟨fun ρ1 => (inFam F r.dropLast && l.any fun h => !rowHolds W.p h r) = false ∧ ∃ x3, ρ1 = [some (.im (tyWd P w W)), some (.im (Dt (.tuple (F.map eL)))), some (.im (Dt (eL l))), x3, none], _, _, _⟩)
      (ppt (pwand (k := inFam F r.dropLast) (ptv (dcl hr C95 (false, F, r.dropLast) ⟨show F.length ≤ 1000 by omega, fun o ho x hx => sok x (h2.sub o ho x hx), show r.dropLast.length ≤ 1000 by omega, fun x hx => sok x (dl x hx)⟩ (pac (dv 1) (pac (dis (dslT (dv 3) po0 (po1 (dneg dint))) ?_) pa0)))) fun _ => pwand1 (ptis (pneD (d := .list ((l.filter fun h => !rowHolds W.p h r).map .str)) (d' := .list []) hr.u64 (shaped_strs fun x hx => sok x (h3.sub x (List.mem_filter.mp hx).1)) rfl (bo (nL (lcD (dlc (own := [("_law_hand", 4)]) (xs := l) (f := fun h => !rowHolds W.p h r) (g := fun h => .str h) rfl c99.nd (itTs (xs := l) (f := PyData.str) (dv 2)) (blkOk_by (N := n99) (sc := defScope s99) (by decide +kernel))
        (fun _ _ _ _ _ x _ => gn 4 c99.nd) (fun _ _ _ _ _ x hx => pt1 (ptnot (ptv (dcl hr C90 (W, x, r) ⟨h1, h3.sub x hx, ro⟩ (pac (dv 0) (pac (dv 4) (pac (dv 3) pa0))))))) (fun _ _ _ _ _ x _ _ => dv 4) (by omega))))) (bo (nL (dlst (ds := []) pa0)))) ee))) (fun hb => ?_) (fun hb => ?_) fun ρ' ⟨z1, z2⟩ => s0 ⟨fun q hq => ?_, z2⟩
    · show PyData.tuple (cutA (r.map PyData.str) none (some (-1))) = eL r.dropLast
      rw [cutA_init]
      unfold eL
      rw [List.map_dropLast]
    · have ct : lawTorn W.p F l = true := by
        unfold lawTorn
        rw [List.any_eq_true]
        exact ⟨r, hrm, hb.symm⟩
      exact sret dbl (congrArg (fun b => Dt (.bool b)) ct.symm)
    · exact s0 ⟨hb.symm, _, rfl⟩
    · rcases List.mem_append.mp hq with z | z
      · exact hn q z
      · rw [List.mem_singleton.mp z]
        exact z1
  · subst e
    have ct : lawTorn W.p F l = false := by
      unfold lawTorn
      rw [List.any_eq_false]
      intro r hr'
      rw [hn r hr']
      decide
    exact sret dbl (congrArg (fun b => Dt (.bool b)) ct.symm)
abbrev q87 (P : Program) (w : World) (C : Addr) (Z : Zn) : Sp := spD Z (fun W : Wd => [tyWd P w W]) WdOk fun W => tyP C W.p
theorem ok87 (V : Gv mg) (D : Dn K mg "_law_pact" s87 ["_law_world_here"]) (C30 : Okc P w K mg base "Pact" C 5 (q30 C ⟨tb, lamN, none⟩)) : Okd P w K mg base "_law_pact" 7 (q87 P w C ⟨tb, lamN, none⟩) := by
  refine okD D c87 (fun _ => rfl) (by decide) fun f cdv A outer s H E W F0 G hr hp => ?_
  have hp : WdOk W := hp
  exact sret (t := tyP C W.p) (teq (dmake hr C30 (false, W.p) hp.pok (pac (nL (dlist V.bi (ds := W.p.hands.map .str) sqL (vL (dgetK (t := Dt (.list (W.p.hands.map .str))) hr.u1 (vK (dv 0)) dstr rfl)))) (pac (nL (dlist V.bi (ds := W.p.ns.map eN) sqL (vL (dgetK (t := Dt (.list (W.p.ns.map eN))) hr.u1 (vK (dv 0)) dstr rfl))))
    (pac (dtupL V.bi (ds := W.p.ready.map .str) (vL (dgetK (t := Dt (.list (W.p.ready.map .str))) hr.u1 (vK (dv 0)) dstr rfl))) (pac (dgetK (t := Dt (eL W.p.paper)) hr.u1 (vK (dv 0)) dstr rfl) pa0))))) rfl) rfl
end
end Kb
end TWu
section TWv
set_option Elab.async false
set_option autoImplicit false
set_option linter.all false
set_option maxRecDepth 100000
set_option maxHeartbeats 4000000
/-! Wv: the law's world made. -/
namespace Kb
open PySem PySem.Spec PyProof.Rows L2 PySem.W
theorem lookS_kvH {hs : List Str} {f : Str → PyData} {h : Str} (n : h ∉ hs) : lookS (kvH hs f) h = none := by
  refine lookS_none ?_
  unfold kvH
  rw [List.map_map]
  show h ∉ hs.map fun x => x
  rw [List.map_id']
  exact n
theorem row_mid {pr post : List Nt} {n : Nt} (nd : (names (pr ++ n :: post)).Nodup) : (row (pr ++ n :: post) n.hd).take ((row (pr ++ n :: post) n.hd).idxOf n.nm) = row pr n.hd ∧ n.nm ∈ row (pr ++ n :: post) n.hd := by
  have e : row (pr ++ n :: post) n.hd = row pr n.hd ++ n.nm :: row post n.hd := by
    unfold row
    rw [List.filter_append, List.map_append, List.filter_cons, if_pos (decide_eq_true rfl)]
    rfl
  have hn : n.nm ∉ row pr n.hd := fun z => by
    rw [names_app] at nd
    exact (List.nodup_append.mp nd).2.2 _ (row_names z) n.nm List.mem_cons_self rfl
  rw [e]
  refine ⟨?_, by simp⟩
  rw [List.idxOf_append, if_neg hn, List.idxOf_cons_self, Nat.zero_add, List.take_left]
/-- what has come under a note, its earlier ones gone through down to here -/
structure UdOk (ns pr : List Nt) (n : Nt) (own done u : List Str) : Prop where
  nd : u.Nodup
  me : n.nm ∈ u
  ok : ∀ y ∈ u, y ∈ names ns ∧ isU ns y n.nm = true
  dn : ∀ y ∈ u, y ≠ n.nm → ∀ z ∈ names ns, isU ns z y = true → z ∈ u
  all : ∀ o ∈ done, o ∈ n.ws ∨ o ∈ own → o ∈ u
theorem own_last {l : List Str} {o : Str} : o ∈ l.drop (l.length - 1) ↔ l.getLast? = some o := by
  rcases List.eq_nil_or_concat l with e | ⟨q, z, e⟩
  · rw [e]
    simp
  · rw [List.concat_eq_append] at e
    subst e
    simp
    exact ⟨fun h => h.symm, fun h => h.symm⟩
theorem UdOk.step {ns pr post : List Nt} {n : Nt} {done u b : List Str} {o : Str} (nd : (names ns).Nodup) (hw : WsOk ns) (e : ns = pr ++ n :: post) (ho : o ∈ names pr) (h : UdOk ns pr n ((row pr n.hd).drop ((row pr n.hd).length - 1)) done u)
    (hb : ∀ y, y ∈ b ↔ y ∈ names ns ∧ isU ns y o = true) (bn : b.Nodup) : UdOk ns pr n ((row pr n.hd).drop ((row pr n.hd).length - 1)) (done ++ [o]) (if o ∉ u ∧ (o ∈ n.ws ∨ o ∈ (row pr n.hd).drop ((row pr n.hd).length - 1)) then u ++ b.filter (fun y => !decide (y ∈ u)) else u) := by
  have hon : o ∈ names ns := by rw [e, names_app]; exact List.mem_append_left _ ho
  have hnn : n.nm ∈ names ns := by rw [e, names_app]; exact List.mem_append_right _ List.mem_cons_self
  by_cases c : o ∉ u ∧ (o ∈ n.ws ∨ o ∈ (row pr n.hd).drop ((row pr n.hd).length - 1))
  · rw [if_pos c]
    have hou : isU ns o n.nm = true := ((isU_step nd hw e).mpr (.inr ⟨ho, by
      rcases c.2 with k | k
      · exact .inl ⟨o, k, isU_refl nd hw hon⟩
      · exact .inr ⟨o, own_last.mp k, isU_refl nd hw hon⟩⟩)).2
    refine ⟨List.nodup_append.mpr ⟨h.nd, bn.sublist List.filter_sublist, fun x hx y hy z => ?_⟩, List.mem_append_left _ h.me, fun y hy => ?_, fun y hy ne z hz hzy => ?_, fun q hq hq2 => ?_⟩
    · have := (List.mem_filter.mp hy).2
      rw [← z] at this
      simp [hx] at this
    · rcases List.mem_append.mp hy with k | k
      · exact h.ok y k
      · obtain ⟨k1, k2⟩ := (hb y).mp (List.mem_filter.mp k).1
        exact ⟨k1, isU_trans nd hw k1 hon hnn k2 hou⟩
    · rcases List.mem_append.mp hy with k | k
      · exact List.mem_append_left _ (h.dn y k ne z hz hzy)
      · obtain ⟨k1, k2⟩ := (hb y).mp (List.mem_filter.mp k).1
        by_cases zu : z ∈ u
        · exact List.mem_append_left _ zu
        · exact List.mem_append_right _ (List.mem_filter.mpr ⟨(hb z).mpr ⟨hz, isU_trans nd hw hz k1 hon hzy k2⟩, by simpa using zu⟩)
    · rcases List.mem_append.mp hq with k | k
      · exact List.mem_append_left _ (h.all q k hq2)
      · rw [List.mem_singleton.mp k]
        exact List.mem_append_right _ (List.mem_filter.mpr ⟨(hb o).mpr ⟨hon, isU_refl nd hw hon⟩, by simpa using c.1⟩)
  · rw [if_neg c]
    refine ⟨h.nd, h.me, h.ok, h.dn, fun q hq hq2 => ?_⟩
    rcases List.mem_append.mp hq with k | k
    · exact h.all q k hq2
    · rw [List.mem_singleton.mp k] at hq2 ⊢
      exact Classical.byContradiction fun z => c ⟨z, hq2⟩
theorem UdOk.fin {ns pr post : List Nt} {n : Nt} {done u : List Str} (nd : (names ns).Nodup) (hw : WsOk ns) (e : ns = pr ++ n :: post) (h : UdOk ns pr n ((row pr n.hd).drop ((row pr n.hd).length - 1)) done u) (hd : ∀ x ∈ names pr, x ∈ done) : ∀ y, y ∈ u ↔ y ∈ names ns ∧ isU ns y n.nm = true := fun y => by
  refine ⟨h.ok y, fun hy => ?_⟩
  have hnp : n.nm ∉ names pr := fun z => by
    rw [e, names_app] at nd
    exact (List.nodup_append.mp nd).2.2 _ z n.nm List.mem_cons_self rfl
  rcases (isU_step nd hw e).mp hy with k | ⟨k1, k2⟩
  · rw [k]
    exact h.me
  · rcases k2 with ⟨o, a, b⟩ | ⟨o, a, b⟩
    · have ho := hw pr n post e o a
      exact h.dn o (h.all o (hd o ho) (.inl a)) (fun z => hnp (by rw [← z]; exact ho)) y hy.1 b
    · have ho := row_names (List.mem_of_getLast? a)
      exact h.dn o (h.all o (hd o ho) (.inr (own_last.mpr a))) (fun z => hnp (by rw [← z]; exact ho)) y hy.1 b
/-- the whole paper so far -/
structure WhOk (ns : List Nt) (done wh : List Str) : Prop where
  nd : wh.Nodup
  mem : ∀ y, y ∈ wh ↔ y ∈ names ns ∧ ∃ z ∈ done, isU ns y z = true
theorem WhOk.step {ns : List Nt} {done wh b : List Str} {o : Str} (h : WhOk ns done wh) (hb : ∀ y, y ∈ b ↔ y ∈ names ns ∧ isU ns y o = true) (bn : b.Nodup) : WhOk ns (done ++ [o]) (wh ++ b.filter fun y => !decide (y ∈ wh)) := by
  refine ⟨List.nodup_append.mpr ⟨h.nd, bn.sublist List.filter_sublist, fun x hx y hy z => ?_⟩, fun y => ?_⟩
  · have := (List.mem_filter.mp hy).2
    rw [← z] at this
    simp [hx] at this
  · rw [List.mem_append, h.mem, List.mem_filter, hb]
    constructor
    · rintro (⟨h1, z, h2, h3⟩ | ⟨⟨h1, h2⟩, _⟩)
      · exact ⟨h1, z, List.mem_append_left _ h2, h3⟩
      · exact ⟨h1, o, by simp, h2⟩
    · rintro ⟨h1, z, h2, h3⟩
      rcases List.mem_append.mp h2 with k | k
      · exact .inl ⟨h1, z, k, h3⟩
      · rw [List.mem_singleton.mp k] at h3
        by_cases y1 : y ∈ wh
        · exact .inl ((h.mem y).mp y1)
        · exact .inr ⟨⟨h1, h3⟩, by simpa using y1⟩
theorem sub40 {ns : List Nt} {u : List Str} (hl : ns.length ≤ 40) (nd : u.Nodup) (h : ∀ y ∈ u, y ∈ names ns) : u.length ≤ 40 := by
  have := nodup_sub_len nd h
  rw [names_len] at this
  omega
theorem atI_hd {xs : List Str} (h : xs ≠ []) : atI (xs.map PyData.str) (0 : Int) = some (.str (xs.headD "")) := by
  cases xs with
  | nil => exact absurd rfl h
  | cons a b => exact atI_nat (i := 0) rfl
theorem cutA_lst (l : List Str) : cutA (l.map PyData.str) (some (-1)) none = (l.drop (l.length - 1)).map .str := by
  rw [cutA_map, cutA_last]
section
variable {P : Program} {w : World} {K : PySem.W.Frag} {mg : Str → Option Value} {base : Heap} {tb : Addr} {C CJ CT : Addr}
abbrev q85 (P : Program) (w : World) (Z : Zn) : Sp := spD Z (fun p : Pc => [Dt (.list (p.hands.map .str)), Dt (.list (p.ns.map eN)), Dt (.list (p.ready.map .str)), Dt (eL p.paper)]) PcOk fun p => Ty.ex (fun W : Wd => W.p = p ∧ WdOk W) (tyWd P w)
theorem ok85 (V : Gv mg) (D : Dn K mg "_law_web" s85 ["_law_hands", "_law_notes_here", "_law_ready", "_law_paper"]) : Okd P w K mg base "_law_web" 1 (q85 P w ⟨tb, lamN, none⟩) := by
  refine okD D c85 (fun _ => rfl) (by decide) fun f cdv A outer s H E p F0 G hr hp => ?_
  have hp : PcOk p := hp
  have nd := hp.nd
  have wo := hp.wo
  have h6 := hp.hands.hi
  have hnd := hp.hands.nd
  have n40 := hp.ns.len
  refine spar [4, 5, 6, 7, 8] (ks := [.n (mK (kvH [] fun h => .list ((row p.ns h).map .str))), .n (mK (kvB [])), .n (mK (kvH [] fun h => .str (keyNote p.ns p.paper h))), .n (mD P w (nextsN p.ns [])), .v (Dt (.list (([] : List Str).map .str)))]) rfl
    (kan dnewK (kan dnewK (kan dnewK (kan dnewN (kav (nL (dlst (ds := []) pa0)) ka0) (by simp [AK.held, held_dt])) (by simp [AK.held, held_dt])) (by simp [AK.held, held_dt])) (by simp [AK.held, held_dt]))
    (gac 4 c85.nd (gac 5 c85.nd (gac 6 c85.nd (gac 7 c85.nd (gac 8 c85.nd ga0))))) ?_ (hz := Nat.le_of_ble_eq_true rfl)
  refine sforN (xs := p.hands) (fun pre ρ1 => ∃ x9, ρ1 = [some (.im (Dt (.list (p.hands.map .str)))), some (.im (Dt (.list (p.ns.map eN)))), some (.im (Dt (.list (p.ready.map .str)))), some (.im (Dt (eL p.paper))), some (.mu (mK (kvH pre fun h => .list ((row p.ns h).map .str)))), some (.mu (mK (kvB []))), some (.mu (mK (kvH [] fun h => .str (keyNote p.ns p.paper h)))), some (.mu (mD P w (nextsN p.ns []))), some (.im (Dt (.list (([] : List Str).map .str)))), x9, none, none, none, none, none, none, none, none, none])
    PassesOwn.never rfl (itLs (xs := p.hands) (f := PyData.str) (dv 0)) ⟨_, rfl⟩ (fun pre h post ρ1 hx ⟨x9, e⟩ => ?_) fun ρ1 ⟨x9, e⟩ => ?_
  · subst e
    have hn : h ∉ pre := fun z => by
      rw [hx] at hnd
      exact (List.nodup_append.mp hnd).2.2 _ z h List.mem_cons_self rfl
    have pl1 : pre.length + 1 ≤ 6 := by
      have := congrArg List.length hx
      rw [List.length_append, List.length_cons] at this
      omega
    refine ⟨_, gn 9 c85.nd, ?_⟩
    refine sputK 4 (x := h) (t := Dt (.list ((row p.ns h).map .str))) hr.u1 (dis (nL (lcD (dlc (own := [("_law_note", 10)]) (xs := p.ns) (f := fun n : Nt => decide (n.hd = h)) (g := fun n : Nt => .str n.nm) rfl c85.nd (itLs (xs := p.ns) (f := eN) (dv 1)) (blkOk_by (N := n85) (sc := defScope s85) (by decide +kernel))
      (fun _ _ _ _ _ x _ => gn 10 c85.nd) (fun _ _ _ _ _ n _ => pt1 (peqS (dixT (d := .str n.hd) (vT (dv 10)) dint rfl) (dv 9))) (fun _ _ _ _ _ n _ _ => dixT (d := .str n.nm) (vT (dv 10)) dint rfl) (by omega)))) (by unfold row; rw [List.map_map]; rfl)) (dv 9) (lookS_kvH hn) ?_ (s0 ?_)
    · unfold kvH
      rw [List.length_map]
      omega
    · have e2 : kvH pre (fun h => PyData.list ((row p.ns h).map .str)) ++ [(h, Dt (.list ((row p.ns h).map .str)))] = kvH (pre ++ [h]) fun h => .list ((row p.ns h).map .str) := by
        unfold kvH
        rw [List.map_append]
        rfl
      rw [e2]
      exact ⟨_, rfl⟩
  subst e
  refine sforN (xs := p.ns.zipIdx) (fun pre ρ1 => ∃ bl, BlOk p.ns (names (pre.map (·.1))) bl ∧ ∃ x9 x11 x12 x13 x14 x15 x16, ρ1 = [some (.im (Dt (.list (p.hands.map .str)))), some (.im (Dt (.list (p.ns.map eN)))), some (.im (Dt (.list (p.ready.map .str)))), some (.im (Dt (eL p.paper))), some (.mu (mK (kvH p.hands fun h => .list ((row p.ns h).map .str)))), some (.mu (mK (kvB bl))), some (.mu (mK (kvH [] fun h => .str (keyNote p.ns p.paper h)))), some (.mu (mD P w (nextsN p.ns []))), some (.im (Dt (.list (([] : List Str).map .str)))), x9, none, x11, x12, x13, x14, x15, x16, none, none])
    PassesOwn.never rfl (itEs V.bi (f := eN) (xs := p.ns) (dv 1)) ⟨[], ⟨rfl, (fun e h => by cases h), (fun e h => by cases h)⟩, _, _, _, _, _, _, _, rfl⟩ (fun pre x post ρ1 hx ⟨bl, hbl, x9, x11, x12, x13, x14, x15, x16, e⟩ => ?_) fun ρ1 ⟨bl, hbl, x9, x11, x12, x13, x14, x15, x16, e⟩ => ?_
  · subst e
    obtain ⟨n, i⟩ := x
    obtain ⟨z1, z2⟩ := zipIdx_split hx
    have z2 : i = (pre.map (·.1)).length := by rw [List.length_map]; exact z2
    rw [List.map_append]
    generalize pre.map (·.1) = pr at z1 z2 hbl ⊢
    generalize post.map (·.1) = po at z1
    have hnm : n ∈ p.ns := by rw [z1]; simp
    have hh := (hp.note hnm).2
    obtain ⟨rm1, rm2⟩ := row_mid (pr := pr) (post := po) (n := n) (by rw [← z1]; exact nd)
    rw [← z1] at rm1 rm2
    have prn : (names pr).Nodup := by
      rw [z1, names_app] at nd
      exact (List.nodup_append.mp nd).1
    have prl : pr.length < 40 := by
      have := congrArg List.length z1
      rw [List.length_append, List.length_cons] at this
      omega
    have npr : n.nm ∉ names pr := fun z => by
      rw [z1, names_app] at nd
      exact (List.nodup_append.mp nd).2.2 _ z n.nm List.mem_cons_self rfl
    have tk : p.ns.take i = pr := by rw [z1, z2, List.take_left]
    have e1 : cutA (cutA ((row p.ns n.hd).map PyData.str) none (some (((row p.ns n.hd).idxOf n.nm : Nat) : Int))) (some (-1)) none = ((row pr n.hd).drop ((row pr n.hd).length - 1)).map .str := by
      rw [cutA_tk, rm1, cutA_lst]
    refine ⟨_, gt rfl (gsc (gn 11 c85.nd) (gsc (gt rfl (gsc (gn 12 c85.nd) (gsc (gn 9 c85.nd) (gsc (gn 13 c85.nd) gs0)))) gs0)), ?_⟩
    refine sset (t := Dt (.list ([n.nm].map .str))) 14 c85.nd (nL (dlst (ds := [.str n.nm]) (pac (dv 12) pa0) (Nat.le_of_ble_eq_true rfl))) ?_
    refine sset (t := Dt (.list (((row pr n.hd).drop ((row pr n.hd).length - 1)).map .str))) 15 c85.nd (dis (nL (dslL (nV (dslL (vL (dgetK (t := Dt (.list ((row p.ns n.hd).map .str))) hr.u1 (dvm 4) (dv 9) (kvH_look hnd hh))) po0 (po1 (dixOfL (vL (dgetK (t := Dt (.list ((row p.ns n.hd).map .str))) hr.u1 (dvm 4) (dv 9) (kvH_look hnd hh))) (dv 12) rm2)))) (po1 (dneg dint)) po0)) (congrArg PyData.list e1)) ?_
    have start : UdOk p.ns pr n ((row pr n.hd).drop ((row pr n.hd).length - 1)) [] [n.nm] := by
      have hnn : n.nm ∈ names p.ns := mem_names.mpr ⟨n, hnm, rfl⟩
      refine ⟨by simp, by simp, fun y hy => ?_, fun y hy ne => ?_, fun o h => by cases h⟩
      · rw [List.mem_singleton.mp hy]
        exact ⟨hnn, isU_refl nd wo hnn⟩
      · exact absurd (List.mem_singleton.mp hy) ne
    have e3 : ((pr.filter fun _ => true).map fun m => PyData.str m.nm).reverse = (names pr).reverse.map .str := by
      rw [filt, ← List.map_reverse]
      unfold names
      rw [← List.map_reverse, List.map_map]
      rfl
    refine sforN (xs := (names pr).reverse) (fun pre2 ρ1 => ∃ u, UdOk p.ns pr n ((row pr n.hd).drop ((row pr n.hd).length - 1)) pre2 u ∧ ∃ x16, ρ1 = [some (.im (Dt (.list (p.hands.map .str)))), some (.im (Dt (.list (p.ns.map eN)))), some (.im (Dt (.list (p.ready.map .str)))), some (.im (Dt (eL p.paper))), some (.mu (mK (kvH p.hands fun h => .list ((row p.ns h).map .str)))), some (.mu (mK (kvB bl))), some (.mu (mK (kvH [] fun h => .str (keyNote p.ns p.paper h)))), some (.mu (mD P w (nextsN p.ns []))), some (.im (Dt (.list (([] : List Str).map .str)))), some (.im (Dt (.str n.hd))), none, some (.im (Dt (.int (i : Int)))), some (.im (Dt (.str n.nm))), some (.im (Dt (eL n.ws))), some (.im (Dt (.list (u.map .str)))), some (.im (Dt (.list (((row pr n.hd).drop ((row pr n.hd).length - 1)).map .str)))), x16, none, none])
      PassesOwn.never rfl (itLs (xs := (names pr).reverse) (f := PyData.str) (dis (nL (drev (nV (lcD (dlc (own := [("_law_note", 10)]) (xs := pr) (f := fun _ => true) (g := fun m : Nt => .str m.nm) rfl c85.nd (itLs (xs := pr) (f := eN) (dis (nL (dslL (vL (dv 1)) po0 (po1 (dv 11)))) (congrArg PyData.list (by rw [cutA_tk, tk])))) (blkOk_by (N := n85) (sc := defScope s85) (by decide +kernel))
        (fun _ _ _ _ _ x _ => gn 10 c85.nd) (fun _ _ _ _ _ n _ => pt0) (fun _ _ _ _ _ m _ _ => dixT (d := .str m.nm) (vT (dv 10)) dint rfl) (by omega)))))) (congrArg PyData.list e3))) ⟨_, start, _, rfl⟩ (fun pre2 o post2 ρ2 ho ⟨u, hu, x16, e⟩ => ?_) fun ρ2 ⟨u, hu, x16, e⟩ => ?_
    · subst e
      have hom : o ∈ names pr := by
        have : o ∈ (names pr).reverse := by rw [ho]; simp
        exact List.mem_reverse.mp this
      obtain ⟨b, b1, b2, b3⟩ := hbl.look prn hom
      have st := hu.step nd wo z1 hom b2 b3
      have ul := sub40 n40 hu.nd fun y hy => (hu.ok y hy).1
      have bl40 := sub40 n40 b3 fun y hy => ((b2 y).mp hy).1
      refine ⟨_, gn 16 c85.nd, ?_⟩
      refine sif (Ψ := ⟨fun ρ1 => ∃ u, UdOk p.ns pr n ((row pr n.hd).drop ((row pr n.hd).length - 1)) (pre2 ++ [o]) u ∧ ∃ x16, ρ1 = [some (.im (Dt (.list (p.hands.map .str)))), some (.im (Dt (.list (p.ns.map eN)))), some (.im (Dt (.list (p.ready.map .str)))), some (.im (Dt (eL p.paper))), some (.mu (mK (kvH p.hands fun h => .list ((row p.ns h).map .str)))), some (.mu (mK (kvB bl))), some (.mu (mK (kvH [] fun h => .str (keyNote p.ns p.paper h)))), some (.mu (mD P w (nextsN p.ns []))), some (.im (Dt (.list (([] : List Str).map .str)))), some (.im (Dt (.str n.hd))), none, some (.im (Dt (.int (i : Int)))), some (.im (Dt (.str n.nm))), some (.im (Dt (eL n.ws))), some (.im (Dt (.list (u.map .str)))), some (.im (Dt (.list (((row pr n.hd).drop ((row pr n.hd).length - 1)).map .str)))), x16, none, none], _, _, _⟩)
        (ppt (pwand (k := !decide (o ∈ u)) (l := decide (o ∈ n.ws) || decide (o ∈ (row pr n.hd).drop ((row pr n.hd).length - 1))) (pnin sqL (dv 16) (vL (dv 14))) fun _ => pwand1 (ppt (pwor (pin sqT (dv 16) (vT (dv 13))) fun _ => pwor1 (pin sqL (dv 16) (vL (dv 15))))))) (fun hb => ?_) (fun hb => ?_) fun ρ' h => s0 h
      · have hb : (!decide (o ∈ u) && (decide (o ∈ n.ws) || decide (o ∈ (row pr n.hd).drop ((row pr n.hd).length - 1)))) = true := hb.symm
        have c : o ∉ u ∧ (o ∈ n.ws ∨ o ∈ (row pr n.hd).drop ((row pr n.hd).length - 1)) := by simpa [Bool.and_eq_true, Bool.or_eq_true] using hb
        rw [if_pos c] at st
        refine sset 14 c85.nd (dis (nL (dcatL (vL (dv 14)) (nV (lcD (dlc (own := [("_law_one", 17)]) (xs := b) (f := fun y => !decide (y ∈ u)) (g := fun y => .str y) rfl c85.nd (itLs (xs := b) (f := PyData.str) (dgetK hr.u1 (dvm 5) (dv 16) b1)) (blkOk_by (N := n85) (sc := defScope s85) (by decide +kernel))
          (fun _ _ _ _ _ x _ => gn 17 c85.nd) (fun _ _ _ _ _ y _ => pt1 (pnin sqL (dv 17) (vL (dv 14)))) (fun _ _ _ _ _ y _ _ => dv 17) (by omega)))) ?_)) (congrArg PyData.list (List.map_append).symm)) (s0 ⟨_, st, _, rfl⟩)
        rw [List.length_map, List.length_map]
        have := List.length_filter_le (fun y => !decide (y ∈ u)) b
        omega
      · have hb : (!decide (o ∈ u) && (decide (o ∈ n.ws) || decide (o ∈ (row pr n.hd).drop ((row pr n.hd).length - 1)))) = false := hb.symm
        have c : ¬ (o ∉ u ∧ (o ∈ n.ws ∨ o ∈ (row pr n.hd).drop ((row pr n.hd).length - 1))) := fun z => by
          have : (!decide (o ∈ u) && (decide (o ∈ n.ws) || decide (o ∈ (row pr n.hd).drop ((row pr n.hd).length - 1)))) = true := by simpa [Bool.and_eq_true, Bool.or_eq_true] using z
          rw [hb] at this
          cases this
        rw [if_neg c] at st
        exact s0 ⟨_, st, _, rfl⟩
    · subst e
      have fin := hu.fin nd wo z1 fun x hx => List.mem_reverse.mpr hx
      refine sputK 5 (x := n.nm) hr.u1 (dv 14) (dv 12) (lookS_none ?_) ?_ (s0 ?_)
      · have : (kvB bl).map (·.1) = bl.map (·.1) := by
          unfold kvB
          rw [List.map_map]
          rfl
        rw [this, hbl.keys]
        exact npr
      · have := congrArg List.length hbl.keys
        rw [List.length_map, names_len] at this
        unfold kvB
        rw [List.length_map]
        omega
      · refine ⟨bl ++ [(n.nm, u)], ⟨?_, fun e he => ?_, fun e he => ?_⟩, ?_⟩
        · rw [List.map_append, hbl.keys]
          exact (names_snoc pr n).symm
        · rcases List.mem_append.mp he with k | k
          · exact hbl.mem e k
          · rw [List.mem_singleton.mp k]
            exact fin
        · rcases List.mem_append.mp he with k | k
          · exact hbl.nd e k
          · rw [List.mem_singleton.mp k]
            exact hu.nd
        · have e5 : kvB (bl ++ [(n.nm, u)]) = kvB bl ++ [(n.nm, Dt (.list (u.map .str)))] := by
            unfold kvB
            rw [List.map_append]
            rfl
          rw [e5]
          exact ⟨_, _, _, _, _, _, _, rfl⟩
  subst e
  rw [List.zipIdx_map_fst] at hbl
  have pal := hp.paper.lot.2.2
  refine sforN (xs := p.paper) (fun pre ρ1 => ∃ wh, WhOk p.ns pre wh ∧ ∃ x12, ρ1 = [some (.im (Dt (.list (p.hands.map .str)))), some (.im (Dt (.list (p.ns.map eN)))), some (.im (Dt (.list (p.ready.map .str)))), some (.im (Dt (eL p.paper))), some (.mu (mK (kvH p.hands fun h => .list ((row p.ns h).map .str)))), some (.mu (mK (kvB bl))), some (.mu (mK (kvH [] fun h => .str (keyNote p.ns p.paper h)))), some (.mu (mD P w (nextsN p.ns []))), some (.im (Dt (.list (wh.map .str)))), x9, none, x11, x12, x13, x14, x15, x16, none, none])
    PassesOwn.never rfl (itTs (xs := p.paper) (f := PyData.str) (dv 3)) ⟨[], ⟨by simp, fun y => by simp⟩, _, rfl⟩ (fun pre o post ρ1 hx ⟨wh, hwh, x12, e⟩ => ?_) fun ρ1 ⟨wh, hwh, x12, e⟩ => ?_
  · subst e
    have hon : o ∈ names p.ns := hp.paper.sub o (by rw [hx]; simp)
    obtain ⟨b, b1, b2, b3⟩ := hbl.look nd hon
    have st := hwh.step b2 b3
    have wl := sub40 n40 hwh.nd fun y hy => ((hwh.mem y).mp hy).1
    have bl40 := sub40 n40 b3 fun y hy => ((b2 y).mp hy).1
    refine ⟨_, gn 12 c85.nd, ?_⟩
    refine sset 8 c85.nd (dis (nL (dcatL (vL (dv 8)) (nV (lcD (dlc (own := [("_law_one", 17)]) (xs := b) (f := fun y => !decide (y ∈ wh)) (g := fun y => .str y) rfl c85.nd (itLs (xs := b) (f := PyData.str) (dgetK hr.u1 (dvm 5) (dv 12) b1)) (blkOk_by (N := n85) (sc := defScope s85) (by decide +kernel))
      (fun _ _ _ _ _ x _ => gn 17 c85.nd) (fun _ _ _ _ _ y _ => pt1 (pnin sqL (dv 17) (vL (dv 8)))) (fun _ _ _ _ _ y _ _ => dv 17) (by omega)))) ?_)) (congrArg PyData.list (List.map_append).symm)) (s0 ⟨_, st, _, rfl⟩)
    rw [List.length_map, List.length_map]
    have := List.length_filter_le (fun y => !decide (y ∈ wh)) b
    omega
  subst e
  have wl := sub40 n40 hwh.nd fun y hy => ((hwh.mem y).mp hy).1
  have key : ∀ h ∈ p.hands, ((row p.ns h).filter fun x => decide (x ∈ wh)) = keyRow p.ns p.paper h := fun h hh => by
    unfold keyRow
    refine List.filter_congr fun x hx => Bool.eq_iff_iff.mpr ?_
    rw [decide_eq_true_eq, hwh.mem, bitsOf_bit nd]
    constructor
    · rintro ⟨a, z, b, c⟩
      exact ⟨z, hp.paper.sub z b, b, c⟩
    · rintro ⟨z, a, b, c⟩
      exact ⟨row_names hx, z, b, c⟩
  have mid : ∀ x ∈ p.hands, ((row p.ns x).length ≤ 40) := fun x _ => Nat.le_trans (row_len p.ns x) n40
  refine sforN (xs := p.hands) (fun pre ρ1 => ∃ x9 x10 x18, ρ1 = [some (.im (Dt (.list (p.hands.map .str)))), some (.im (Dt (.list (p.ns.map eN)))), some (.im (Dt (.list (p.ready.map .str)))), some (.im (Dt (eL p.paper))), some (.mu (mK (kvH p.hands fun h => .list ((row p.ns h).map .str)))), some (.mu (mK (kvB bl))), some (.mu (mK (kvH pre fun h => .str (keyNote p.ns p.paper h)))), some (.mu (mD P w (nextsN p.ns pre))), some (.im (Dt (.list (wh.map .str)))), x9, x10, x11, x12, x13, x14, x15, x16, none, x18])
    PassesOwn.never rfl (itLs (xs := p.hands) (f := PyData.str) (dv 0)) ⟨_, _, _, rfl⟩ (fun pre h post ρ1 hx ⟨x9, x10, x18, e⟩ => ?_) fun ρ1 ⟨x9, x10, x18, e⟩ => ?_
  · subst e
    have hh : h ∈ p.hands := by rw [hx]; simp
    have hn : h ∉ pre := fun z => by
      rw [hx] at hnd
      exact (List.nodup_append.mp hnd).2.2 _ z h List.mem_cons_self rfl
    have pl1 : pre.length + 1 ≤ 6 := by
      have := congrArg List.length hx
      rw [List.length_append, List.length_cons] at this
      omega
    have rl := mid h hh
    refine ⟨_, gn 9 c85.nd, ?_⟩
    refine sputK 6 (x := h) (t := Dt (.str (keyNote p.ns p.paper h))) hr.u1 (dis (dixL (nV (lcD (dlc (own := [("_law_name", 12)]) (xs := row p.ns h) (f := fun x => decide (x ∈ wh)) (g := fun x => .str x) rfl c85.nd (itLs (xs := row p.ns h) (f := PyData.str) (dgetK (t := Dt (.list ((row p.ns h).map .str))) hr.u1 (dvm 4) (dv 9) (kvH_look hnd hh))) (blkOk_by (N := n85) (sc := defScope s85) (by decide +kernel))
      (fun _ _ _ _ _ x _ => gn 12 c85.nd) (fun _ _ _ _ _ y _ => pt1 (pin sqL (dv 12) (vL (dv 8)))) (fun _ _ _ _ _ y _ _ => dv 12) (by omega)))) (dneg dint) (atI_last (xs := (row p.ns h).filter fun x => decide (x ∈ wh)) (by rw [key h hh]; exact hp.keyed hh))) (by rw [key h hh]; rfl)) (dv 9) (lookS_kvH hn) ?_ ?_
    · unfold kvH
      rw [List.length_map]
      omega
    have e2 : kvH pre (fun h => PyData.str (keyNote p.ns p.paper h)) ++ [(h, Dt (.str (keyNote p.ns p.paper h)))] = kvH (pre ++ [h]) fun h => .str (keyNote p.ns p.paper h) := by
      unfold kvH
      rw [List.map_append]
      rfl
    rw [e2]
    have npre : (nextsN p.ns pre).length ≤ 6 * 40 := by
      have : (nextsN p.ns pre).length ≤ pre.length * 40 := flatMap_len fun x _ => by rw [List.length_map]; exact n40
      omega
    refine sforN (xs := p.ns) (fun pre2 ρ1 => ∃ x10 x18, ρ1 = [some (.im (Dt (.list (p.hands.map .str)))), some (.im (Dt (.list (p.ns.map eN)))), some (.im (Dt (.list (p.ready.map .str)))), some (.im (Dt (eL p.paper))), some (.mu (mK (kvH p.hands fun h => .list ((row p.ns h).map .str)))), some (.mu (mK (kvB bl))), some (.mu (mK (kvH (pre ++ [h]) fun h => .str (keyNote p.ns p.paper h)))), some (.mu (mD P w (nextsN p.ns pre ++ pre2.map fun n => (kTwo h n.nm, .str (nextS p.ns h n.nm))))), some (.im (Dt (.list (wh.map .str)))), some (.im (Dt (.str h))), x10, x11, x12, x13, x14, x15, x16, none, x18])
      PassesOwn.never rfl (itLs (xs := p.ns) (f := eN) (dv 1)) ⟨_, _, by rw [List.map_nil, List.append_nil]; rfl⟩ (fun pre2 n post2 ρ2 ho ⟨x10, x18, e⟩ => ?_) fun ρ2 ⟨x10, x18, e⟩ => ?_
    · subst e
      have hnm : n ∈ p.ns := by rw [ho]; simp
      have hnn : n.nm ∈ names p.ns := mem_names.mpr ⟨n, hnm, rfl⟩
      have np2 : ∀ m ∈ pre2, m.nm ≠ n.nm := fun m hm z => by
        have : (names (pre2 ++ n :: post2)).Nodup := by rw [← ho]; exact nd
        rw [names_app] at this
        exact (List.nodup_append.mp this).2.2 _ (mem_names.mpr ⟨m, hm, z⟩) n.nm List.mem_cons_self rfl
      have nw : ∀ e ∈ nextsN p.ns pre ++ pre2.map (fun n => (kTwo h n.nm, PyData.str (nextS p.ns h n.nm))), e.1 ≠ kTwo h n.nm := fun e he z => by
        rcases List.mem_append.mp he with k | k
        · obtain ⟨h', h2, h3⟩ := List.mem_flatMap.mp k
          obtain ⟨m, h4, rfl⟩ := List.mem_map.mp h3
          obtain ⟨rfl, _⟩ := kTwo_inj z
          exact hn h2
        · obtain ⟨m, h4, rfl⟩ := List.mem_map.mp k
          obtain ⟨_, e2⟩ := kTwo_inj z
          exact np2 m h4 e2
      have p2l : pre2.length < 40 := by
        have := congrArg List.length ho
        rw [List.length_append, List.length_cons] at this
        omega
      refine ⟨_, gn 10 c85.nd, ?_⟩
      refine ssetLc 18 (own := [("_law_own", 15)]) (dlc (xs := row p.ns h) (f := fun o => isU p.ns n.nm o) (g := fun x => .str x) rfl c85.nd (itLs (xs := row p.ns h) (f := PyData.str) (dgetK (t := Dt (.list ((row p.ns h).map .str))) hr.u1 (dvm 4) (dv 9) (kvH_look hnd hh))) (blkOk_by (N := n85) (sc := defScope s85) (by decide +kernel))
        (fun _ _ _ _ _ x _ => gn 15 c85.nd) (fun _ _ _ _ _ o hom => ?_) (fun _ _ _ _ _ y _ _ => dv 15) (by omega)) (fun acc ha => ?_) (hi := rfl)
      · obtain ⟨b, b1, b2, b3⟩ := hbl.look nd (row_names hom)
        refine pt1 (ptis (pin (xs := b) sqL (dixT (d := .str n.nm) (vT (dv 10)) dint rfl) (vL (dgetK hr.u1 (dvm 5) (dv 15) b1))) ?_)
        rw [Bool.eq_iff_iff, decide_eq_true_eq, b2]
        exact ⟨fun z => z.2, fun z => ⟨hnn, z⟩⟩
      subst ha
      have rok : SOk ((row p.ns h).filter fun o => isU p.ns n.nm o) := fun x hx => by
        obtain ⟨m, hm1, hm2⟩ := mem_names.mp (row_names (List.mem_filter.mp hx).1)
        rw [← hm2]
        exact (hp.note hm1).1.ok
      have ee : PyData.eqv (.list (((row p.ns h).filter fun o => isU p.ns n.nm o).map .str)) (.list []) = decide (((row p.ns h).filter fun o => isU p.ns n.nm o) = []) := by
        rw [eqv_nil]
        simp
      refine sputN 7 (k := kTwo h n.nm) (d := .str (nextS p.ns h n.nm)) hr.u64 (dife (p := (· = !decide (((row p.ns h).filter fun o => isU p.ns n.nm o) = []))) (ptis (pneD (d := .list (((row p.ns h).filter fun o => isU p.ns n.nm o).map .str)) (d' := .list []) hr.u64 (shaped_strs rok) rfl (bo (dv 18)) (bo (nL (dlst (ds := []) pa0)))) (congrArg not ee)) (fun hb => ?_) (fun hb => ?_))
        (dis (dtup (ds := [.str h, .str n.nm]) (pac (dv 9) (pac (dixT (d := .str n.nm) (vT (dv 10)) dint rfl) pa0)) (Nat.le_of_ble_eq_true rfl)) (data_two h n.nm).symm) trivial (depth_kTwo _ _) ?_ (s0 ?_)
      · have hb : ((row p.ns h).filter fun o => isU p.ns n.nm o) ≠ [] := fun z => by rw [z] at hb; cases hb
        exact dixL (vL (dv 18)) dint (atI_hd hb)
      · have hb : ((row p.ns h).filter fun o => isU p.ns n.nm o) = [] := Classical.byContradiction fun z => by rw [decide_eq_false z] at hb; cases hb
        have e3 : nextS p.ns h n.nm = "" := by
          unfold nextS
          rw [hb]
          rfl
        rw [e3]
        exact dstr
      · rw [List.length_append, List.length_map]
        omega
      · have e6 : pre2.map (fun n => (kTwo h n.nm, PyData.str (nextS p.ns h n.nm))) ++ [(kTwo h n.nm, PyData.str (nextS p.ns h n.nm))] = (pre2 ++ [n]).map fun n => (kTwo h n.nm, PyData.str (nextS p.ns h n.nm)) := by
          rw [List.map_append]
          rfl
        rw [putN_new nw, List.append_assoc, e6]
        exact ⟨_, _, rfl⟩
    · subst e
      refine s0 ?_
      have e4 : nextsN p.ns pre ++ (p.ns.map fun n => (kTwo h n.nm, PyData.str (nextS p.ns h n.nm))) = nextsN p.ns (pre ++ [h]) := by
        unfold nextsN
        rw [List.flatMap_append, List.flatMap_cons, List.flatMap_nil, List.append_nil]
      rw [e4]
      exact ⟨_, _, _, rfl⟩
  subst e
  refine sfrz 4 rfl (frzK _) (sfrz 5 rfl (frzK _) (sfrz 6 rfl (frzK _) (sfrz 7 rfl (frzN _) ?_)))
  have ndk : (["hands", "notes", "ready", "paper", "rows", "below", "keys", "nexts", "whole"] : List Str).Nodup := by decide +kernel
  refine sret (t := Ty.ex (fun W : Wd => W.p = p ∧ WdOk W) (tyWd P w)) (exO ⟨p, bl, srt wh⟩ (nK (dispK (es := wdF P w ⟨p, bl, srt wh⟩) (dpc dstr (dv 0) (dpc dstr (dv 1) (dpc dstr (dv 2) (dpc dstr (dv 3) (dpc dstr (dv 4) (dpc dstr (dv 5) (dpc dstr (dv 6) (dpc dstr (dv 7) (dpc dstr (dis (nL (dsort V.bi hr.u64 (ds := wh.map .str) sqL (vL (dv 8)) (sortOk_strs _) ?_ ?_)) (congrArg PyData.list (sortB_map .str wh))) dp0)))))))))
    ndk rfl rfl (by decide) (by decide) (Nat.le_of_ble_eq_true rfl))) ⟨rfl, hp, hbl⟩) rfl
  · rw [List.length_map]
    omega
  · intro d hd
    obtain ⟨x, _, rfl⟩ := List.mem_map.mp hd
    exact Nat.zero_le _
end
end Kb
end TWv
section TWx
set_option Elab.async false
set_option autoImplicit false
set_option linter.all false
set_option maxRecDepth 100000
set_option maxHeartbeats 4000000
/-! Wx: a number is drawn. -/
namespace Kb
open PySem PySem.Spec PyProof.Rows L2 PySem.W
/-- an out is changed -/
theorem St.setOut {Z : Zn} {F0 G F H : Hp} {σ : L2.St} {ρ : En} {a : Addr} {o : HO} (s : St Z F0 G F H σ ρ) (ha : Z.out a) (zk : Z.ok (upd H a o)) : St Z F0 G F (upd H a o) σ ρ where
  go := ⟨s.go.f, fun b u e => by
      rw [upd_ne (fun z => by rw [z, s.zo a ha] at e; cases e)]
      exact s.fh b u e, fun b u n e => by
      rw [upd_ne (fun z => n (by rw [z]; exact ha))]
      exact s.go.h b u n e, s.go.nw, zk⟩
  zo := s.zo
  len := s.len
  im := s.im
  mu := fun i m h => by
    obtain ⟨p, o, h1, h2, h3, h4, h5, h6⟩ := s.mu i m h
    exact ⟨p, o, h1, by rw [upd_ne (fun z => h6 (by rw [z]; exact ha))]; exact h2, h3, h4, h5, h6⟩
  ap := s.ap
  dl := s.dl
/-- the deal at its cells and its number -/
structure Dl (tb : Addr) (qn : Str) (q l : Addr) (F0 G F H : Hp) (σ : L2.St) (ρ : En) (cs : List Int) (b : Int) : Prop where
  st : St ⟨tb, qn, some (q, l)⟩ F0 G F H σ ρ
  hq : H q = some (.lst [.ref l, .int b])
  hl : H l = some (.lst (cs.map V.int))
  few : cs.length ≤ 63
  pos : ∀ c ∈ cs, 0 ≤ c
  b0 : 0 ≤ b
  b1 : b < 2147483647
section
variable {tb : Addr} {qn : Str} {q l : Addr} {F0 G F H : Hp} {σ : L2.St} {ρ : En} {cs : List Int} {b : Int}
theorem St.dealt (s : St ⟨tb, qn, some (q, l)⟩ F0 G F H σ ρ) : ∃ cs b, Dl tb qn q l F0 G F H σ ρ cs b := by
  obtain ⟨cs, b, h1, h2, h3, h4, h5, h6⟩ := s.zk.deal (q, l) rfl
  exact ⟨cs, b, s, h1, h2, h3, h4, h5, h6⟩
theorem Dl.ql (d : Dl tb qn q l F0 G F H σ ρ cs b) : q ≠ l := fun z => by
  have h1 := d.hq
  rw [z, d.hl] at h1
  cases cs with
  | nil => cases h1
  | cons x y => cases h1
theorem Dl.new (d : Dl tb qn q l F0 G F H σ ρ cs b) {p : Addr} {o : HO} (hp : H p = none) : Dl tb qn q l F0 G F (upd H p o) σ ρ cs b :=
  ⟨d.st.mv (Go.new d.st.fh d.st.zk hp), by rw [upd_ne (ne_of_none d.hq hp)]; exact d.hq, by rw [upd_ne (ne_of_none d.hl hp)]; exact d.hl, d.few, d.pos, d.b0, d.b1⟩
theorem tabS_set {H : Hp} {tb a : Addr} {qn : Str} {xs ys : List V} (t : LamX.TabS H tb qn) (ha : H a = some (.lst xs)) : LamX.TabS (upd H a (.lst ys)) tb qn := by
  obtain ⟨ps, h1, h2, h3⟩ := t
  refine ⟨ps, ?_, h2, fun pos cv hc => ?_⟩
  · rw [upd_ne (fun z => by rw [z, ha] at h1; cases h1)]
    exact h1
  · obtain ⟨c, e1, e2⟩ := h3 pos cv hc
    refine ⟨c, e1, ?_⟩
    rw [upd_ne (fun z => by rw [z, ha] at e2; cases e2)]
    exact e2
theorem Dl.setL (d : Dl tb qn q l F0 G F H σ ρ cs b) {cs' : List Int} (h1 : cs'.length ≤ 63) (h2 : ∀ c ∈ cs', 0 ≤ c) : Dl tb qn q l F0 G F (upd H l (.lst (cs'.map V.int))) σ ρ cs' b := by
  have hq : upd H l (.lst (cs'.map V.int)) q = some (.lst [.ref l, .int b]) := by rw [upd_ne d.ql]; exact d.hq
  refine ⟨d.st.setOut (.inr ⟨(q, l), rfl, .inr rfl⟩) ⟨tabS_set d.st.zk.tab d.hl, fun p e => ?_⟩, hq, upd_same, h1, h2, d.b0, d.b1⟩
  cases e
  exact ⟨cs', b, hq, upd_same, h1, h2, d.b0, d.b1⟩
theorem Dl.setQ (d : Dl tb qn q l F0 G F H σ ρ cs b) {b' : Int} (h1 : 0 ≤ b') (h2 : b' < 2147483647) : Dl tb qn q l F0 G F (upd H q (.lst [.ref l, .int b'])) σ ρ cs b' := by
  have hl : upd H q (.lst [.ref l, .int b']) l = some (.lst (cs.map V.int)) := by rw [upd_ne d.ql.symm]; exact d.hl
  refine ⟨d.st.setOut (.inr ⟨(q, l), rfl, .inl rfl⟩) ⟨tabS_set d.st.zk.tab d.hq, fun p e => ?_⟩, upd_same, hl, d.few, d.pos, h1, h2⟩
  cases e
  exact ⟨cs, b', upd_same, hl, d.few, d.pos, h1, h2⟩
end
theorem dpA_ints {K : PySem.W.Frag} {H : Hp} : ∀ cs : List Int, DpAll K H (cs.map V.int) (cs.map .int)
  | [] => .nil
  | x :: y => .cons (.int x) (dpA_ints y)
theorem dp_ints {K : PySem.W.Frag} {H : Hp} {a : Addr} {cs : List Int} (h : H a = some (.lst (cs.map V.int))) : Dp K H (.ref a) (.list (cs.map .int)) := .lst (SqL.of h) (dpA_ints cs)
theorem shaped_ints (cs : List Int) : SeqAt.shaped (.list (cs.map .int)) = true := by
  have h1 : PyData.canLayAll0 (cs.map .int) = true := by
    induction cs with
    | nil => rfl
    | cons x y ih => exact ih
  have h2 : ∀ cs : List Int, PyData.depthAll (cs.map .int) = 0 := fun cs => by
    induction cs with
    | nil => rfl
    | cons x y ih =>
      show Nat.max (PyData.depth (.int x)) (PyData.depthAll (y.map .int)) = 0
      rw [ih]
      rfl
  unfold SeqAt.shaped
  have h3 : PyData.canLay0 (.list (cs.map .int)) = true := h1
  have h4 : PyData.depth (.list (cs.map .int)) ≤ 64 := by
    show PyData.depthAll (cs.map .int) + 1 ≤ 64
    rw [h2]
    decide
  rw [h3, decide_eq_true h4]
  rfl

section
variable {P : Program} {w : World} {K : PySem.W.Frag} {mg : Str → Option Value} {base : Heap} {tb : Addr} {C CJ CT : Addr}
abbrev q80 (Z : Zn) : Sp := spQ Z (fun n : Nat => [Dt (.int (n : Int))]) (fun n => 0 < n ∧ n ≤ 1000) fun n => tyN (· < n)
theorem eqv_ints (cs : List Int) : (!PyData.eqv (.list (cs.map .int)) (.list [])) = !decide (cs = []) := by
  cases cs with
  | nil => rfl
  | cons a b => rfl
theorem rd0 {qn : Str} {K : PySem.W.Frag} {q l : Addr} {F0 G F H : Hp} {σ : L2.St} {ρ : En} {cs : List Int} {b : Int} {Q : VK} (d : Dl tb qn q l F0 G F H σ ρ cs b) (s0 : σ[0]? = some (some (.ref q))) (h : Q (.ref l) H) : tOp (rIxL K) (tVar 0) (tC (.int 0)) σ H Q :=
  ⟨.ref q, s0, q, [.ref l, .int b], 0, .ref l, rfl, rfl, SqL.of d.hq, atI_nat (i := 0) rfl, h⟩
theorem rd1 {qn : Str} {K : PySem.W.Frag} {q l : Addr} {F0 G F H : Hp} {σ : L2.St} {ρ : En} {cs : List Int} {b : Int} {Q : VK} (d : Dl tb qn q l F0 G F H σ ρ cs b) (s0 : σ[0]? = some (some (.ref q))) (h : Q (.int b) H) : tOp (rIxL K) (tVar 0) (tC (.int 1)) σ H Q :=
  ⟨.ref q, s0, q, [.ref l, .int b], 1, .int b, rfl, rfl, SqL.of d.hq, atI_nat (i := 1) rfl, h⟩
/-- deal[0] != [] -/
theorem rdN {qn : Str} {K : PySem.W.Frag} {q l : Addr} {F0 G F H : Hp} {σ : L2.St} {ρ : En} {cs : List Int} {b : Int} {Q : Bool → Hp → Prop} (d : Dl tb qn q l F0 G F H σ ρ cs b) (s0 : σ[0]? = some (some (.ref q))) (h : ∀ H', Dl tb qn q l F0 G F H' σ ρ cs b → Q (!decide (cs = [])) H') :
    tTest (tOp (rNeD K) (tOp (rIxL K) (tVar 0) (tC (.int 0))) (tLst tNil)) σ H Q := rd0 d s0 ⟨Nat.zero_le _, fun p hp => by
      have d1 := d.new (o := .lst []) hp
      exact ⟨.list (cs.map .int), .list [], dp_ints d1.hl, .lst (SqL.of upd_same) .nil, shaped_ints cs, rfl, _, rfl, by rw [eqv_ints]; exact h _ d1⟩⟩
theorem ok80 (V : Gv mg) (D : Dn K mg "_law_any" s80 ["_law_deal_here", "_law_bound"]) : Okd P w K mg base "_law_any" 1 (q80 ⟨tb, lamN, none⟩) := by
  refine okQ D c80 (fun _ => rfl) (by decide) fun f cdv A outer s H E n F0 G q l hr hp => ?_
  obtain ⟨n0, n1⟩ := hp
  have n0 : 0 < n := n0
  have n1 : n ≤ 1000 := n1
  have hs0 : ∀ {F H σ}, St ⟨tb, lamN, some (q, l)⟩ F0 G F H σ (enQ [Dt (.int (n : Int))] 1) → σ[0]? = some (some (.ref q)) := fun s => by
    obtain ⟨p, e1, e2⟩ := s.dl 0 rfl
    cases e1
    exact e2
  have hs1 : ∀ {F H σ}, St ⟨tb, lamN, some (q, l)⟩ F0 G F H σ (enQ [Dt (.int (n : Int))] 1) → σ[1]? = some (some (.int (n : Int))) := fun s => by
    obtain ⟨v, e1, e2⟩ := s.im 1 (Dt (.int (n : Int))) rfl
    rw [Rp.inj_int e2] at e1
    exact e1
  have at1 : ∀ (ys : List Int) (y : Int), atI ((ys ++ [y]).map L2.V.int) (-1) = some (.int y) := fun ys y => by
    unfold atI ixN
    rw [if_neg (by omega), List.length_map, List.length_append, List.length_singleton, if_pos (by omega)]
    have e : ((-1 : Int) + ((ys.length + 1 : Nat) : Int)).toNat = ys.length := by omega
    simp only [e, Option.bind_some]
    simp
  have popd : ∀ (ys : List Int) (y : Int), ((ys ++ [y]).map L2.V.int)[((ys ++ [y]).map L2.V.int).length - 1]? = some (.int y) ∧ ((ys ++ [y]).map L2.V.int).dropLast = ys.map L2.V.int := fun ys y => by
    rw [List.map_append]
    simp
  refine scons (Ψ := { Fin (tyN (· < n)) with nx := (· = enQ [Dt (.int (n : Int))] 1) }) (ps_while PassesOwn.never (ppt (pw_and (pt_cmpR (op_neD hr.u64) (pe_ix ix_list (pe_var (i := 0) rfl (.inl rfl)) pe_int (fun _ _ => rfl)) (pe_lst pa_nil) (nomark _)) (pw_and1 (pt_cmpR op_eq (pe_ix ix_list (pe_ix ix_list (pe_var (i := 0) rfl (.inl rfl)) pe_int (fun _ _ => rfl)) (pe_un un_neg pe_int) (fun _ _ => rfl)) pe_int (nomark _)))))
      (pss_one (ps_expr (pe_bm0 PySem.F.plainAttrs_list PySem.F.slot_list_pop PySem.F.type_list_pop mt_pop (pe_ix ix_list (pe_var (i := 0) rfl (.inl rfl)) pe_int (fun _ _ => rfl)))))) (fun ρ' e => ?_) fun D σ H ⟨F, s, k1, k2, k3, k4⟩ => ?_
  · subst e
    refine PSs.imp (pss_cons (ps_if (pt_cmpR (op_neD hr.u64) (pe_ix ix_list (pe_var (i := 0) rfl (.inl rfl)) pe_int (fun _ _ => rfl)) (pe_lst pa_nil) (nomark _))
        (pss_cons (ps_set (i := 2) c80.nd rfl (.inl rfl) (pe_callTy call_int1 rfl V.bi.int (by decide +kernel) (pa_cons (pe_bm0 PySem.F.plainAttrs_list PySem.F.slot_list_pop PySem.F.type_list_pop mt_pop (pe_ix ix_list (pe_var (i := 0) rfl (.inl rfl)) pe_int (fun _ _ => rfl))) pa_nil)))
          (pss_cons (ps_expr (pe_bm PySem.F.plainAttrs_list PySem.F.slot_list_append PySem.F.type_list_append mt_append (pe_ix ix_list (pe_var (i := 0) rfl (.inl rfl)) pe_int (fun _ _ => rfl)) (pa_cons (pe_op op_fdiv (pe_var (i := 2) rfl (.inl rfl)) (pe_var (i := 1) rfl (.inl rfl))) pa_nil)))
            (pss_one (ps_ret (pe_op op_mod (pe_var (i := 2) rfl (.inl rfl)) (pe_var (i := 1) rfl (.inl rfl))))))) pss_nil)
      (pss_cons (ps_asg (pe_op op_mod (pe_callTy call_int1 rfl V.bi.int (by decide +kernel) (pa_cons (pe_op op_add (pe_op op_mul (pe_ix ix_list (pe_var (i := 0) rfl (.inl rfl)) pe_int (fun _ _ => rfl)) pe_int) pe_int) pa_nil)) pe_int) (pg_sub (pe_var (i := 0) rfl (.inl rfl)) pe_int set_list (by intro _; rfl)))
        (pss_one (ps_ret (pe_op op_mod (pe_callTy call_int1 rfl V.bi.int (by decide +kernel) (pa_cons (pe_op op_fdiv (pe_ix ix_list (pe_var (i := 0) rfl (.inl rfl)) pe_int (fun _ _ => rfl)) pe_int) pa_nil)) (pe_var (i := 1) rfl (.inl rfl))))))) fun D σ H ⟨F, s, k1, k2, k3, k4⟩ => ?_
    obtain ⟨cs, b, d⟩ := s.dealt
    have s0 := hs0 s
    have s1 := hs1 s
    refine rdN d s0 fun H2 d2 => ?_
    by_cases hc : cs = []
    · rw [decide_eq_true hc]
      refine iteF ?_
      -- deal[1] = ..
      have b0 := d2.b0
      have b1 := d2.b1
      refine rd1 d2 s0 ⟨b, 40692, rfl, rfl, .inl ⟨by omega, by omega⟩, ?_⟩
      refine ⟨b * 40692, 97, rfl, rfl, .inl ⟨_, rfl, ⟨_, 2147483647, rfl, rfl, (by show (0 : Int) < 2147483647; decide), ?_⟩⟩⟩
      have e0 : 0 ≤ (b * 40692 + 97) % 2147483647 := Int.emod_nonneg _ (by decide)
      have e1 : (b * 40692 + 97) % 2147483647 < 2147483647 := Int.emod_lt_of_pos _ (by decide)
      have d3 := d2.setQ e0 e1
      refine ⟨.ref q, s0, q, [.ref l, .int b], 1, 1, rfl, rfl, d2.hq, rfl, ?_⟩
      refine rd1 d3 s0 ⟨_, 64, rfl, rfl, ⟨by decide, by decide⟩, .inl ⟨_, rfl, .int (n : Int), s1, _, (n : Int), rfl, rfl, by show (0 : Int) < n; omega, ?_⟩⟩
      have f0 : 0 ≤ (b * 40692 + 97) % 2147483647 / 64 % (n : Int) := Int.emod_nonneg _ (by omega)
      have f1 : (b * 40692 + 97) % 2147483647 / 64 % (n : Int) < n := Int.emod_lt_of_pos _ (by omega)
      refine k2 _ _ F _ rfl d3.st.go ⟨((b * 40692 + 97) % 2147483647 / 64 % (n : Int)).toNat, by omega, ?_⟩
      have e : (((b * 40692 + 97) % 2147483647 / 64 % (n : Int)).toNat : Int) = (b * 40692 + 97) % 2147483647 / 64 % (n : Int) := Int.toNat_of_nonneg f0
      show Rp F (.int _) (.int _)
      rw [e]
      exact .int _
    · rw [decide_eq_false hc]
      refine iteT ?_
      obtain ⟨ys, y, rfl⟩ : ∃ ys y, cs = ys ++ [y] := by
        rcases List.eq_nil_or_concat cs with z | ⟨ys, y, z⟩
        · exact absurd z hc
        · exact ⟨ys, y, by rw [z, List.concat_eq_append]⟩
      obtain ⟨p1, p2⟩ := popd ys y
      have few := d2.few
      rw [List.length_append, List.length_singleton] at few
      have y0 : 0 ≤ y := d2.pos y (by simp)
      have d3 := d2.setL (cs' := ys) (by omega) (fun c hc => d2.pos c (List.mem_append_left _ hc))
      refine rd0 d2 s0 ⟨.inl ⟨rfl, _, SqL.of d2.hl⟩, l, _, .int y, rfl, rfl, d2.hl, p1, ?_⟩
      rw [p2]
      refine .inl ⟨y, rfl, ?_⟩
      have st3 := d3.st.setI (i := 2) (v := .int y) (t := Dt (.int y)) (by show 2 < 3; decide) (.int y)
      have s0' : (σ.set 2 (some (.int y)))[0]? = some (some (.ref q)) := by rw [List.getElem?_set_ne (by decide)]; exact s0
      have s1' : (σ.set 2 (some (.int y)))[1]? = some (some (.int (n : Int))) := by rw [List.getElem?_set_ne (by decide)]; exact s1
      have s2' : (σ.set 2 (some (L2.V.int y)))[2]? = some (some (.int y)) := by
        rw [List.getElem?_set_self]
        rw [s.len]
        show 2 < 3
        decide
      have d4 : Dl tb lamN q l F0 G F _ _ _ ys b := ⟨st3, d3.hq, d3.hl, d3.few, d3.pos, d3.b0, d3.b1⟩
      have hdiv : 0 ≤ y / (n : Int) := Int.ediv_nonneg y0 (by omega)
      have d5 := d4.setL (cs' := ys ++ [y / (n : Int)]) (by rw [List.length_append, List.length_singleton]; exact few) (fun c hc => by
        rcases List.mem_append.mp hc with z | z
        · exact d3.pos c z
        · rw [List.mem_singleton.mp z]
          exact hdiv)
      refine rd0 d4 s0' ⟨.inl ⟨rfl, _, SqL.of d4.hl⟩, .int y, s2', .int (n : Int), s1', y, (n : Int), rfl, rfl, ⟨by omega, by omega⟩, ?_⟩
      refine ⟨l, _, .int (y / (n : Int)), rfl, rfl, d4.hl, smallS (by rw [List.length_map]; omega), ?_⟩
      have e6 : ys.map L2.V.int ++ [.int (y / (n : Int))] = (ys ++ [y / (n : Int)]).map L2.V.int := by rw [List.map_append]; rfl
      rw [e6]
      refine ⟨.int y, s2', .int (n : Int), s1', y, (n : Int), rfl, rfl, by show (0 : Int) < n; omega, ?_⟩
      have f0 : 0 ≤ y % (n : Int) := Int.emod_nonneg _ (by omega)
      have f1 : y % (n : Int) < n := Int.emod_lt_of_pos _ (by omega)
      refine k2 _ _ F _ rfl d5.st.go ⟨(y % (n : Int)).toNat, by omega, ?_⟩
      have e : ((y % (n : Int)).toNat : Int) = y % (n : Int) := Int.toNat_of_nonneg f0
      show Rp F (.int _) (.int _)
      rw [e]
      exact .int _
  · obtain ⟨cs0, b0, d0⟩ := s.dealt
    refine ⟨fun m σ' H' => σ' = σ ∧ ∃ cs b, m = cs.length ∧ Dl tb lamN q l F0 G F H' σ (enQ [Dt (.int (n : Int))] 1) cs b, ⟨cs0.length, rfl, cs0, b0, rfl, d0⟩, ?_⟩
    rintro m σ' H1 ⟨rfl, cs, b, rfl, d⟩
    have s0 := hs0 s
    refine rdN d s0 fun H2 d2 => ?_
    by_cases hc : cs = []
    · rw [decide_eq_true hc]
      exact iteF (iteF (k1 _ _ F H2 rfl (Same.refl F) d2.st))
    · rw [decide_eq_false hc]
      refine iteT ?_
      obtain ⟨ys, y, rfl⟩ : ∃ ys y, cs = ys ++ [y] := by
        rcases List.eq_nil_or_concat cs with z | ⟨ys, y, z⟩
        · exact absurd z hc
        · exact ⟨ys, y, by rw [z, List.concat_eq_append]⟩
      obtain ⟨p1, p2⟩ := popd ys y
      refine rd0 d2 s0 ⟨1, rfl, l, _, -1, .int y, rfl, rfl, SqL.of d2.hl, at1 ys y, rfl, _, rfl, ?_⟩
      by_cases hy : y = 0
      · have e : decide (L2.V.int y = L2.V.int 0) = true := decide_eq_true (by rw [hy])
        rw [e]
        refine iteT ?_
        have few := d2.few
        rw [List.length_append, List.length_singleton] at few
        have d3 := d2.setL (cs' := ys) (by omega) (fun c hc => d2.pos c (List.mem_append_left _ hc))
        refine ⟨fun σ2 H' => σ2 = σ' ∧ ∃ b, Dl tb lamN q l F0 G F H' σ' (enQ [Dt (.int (n : Int))] 1) ys b, fun σ2 H' ⟨e2, b', d'⟩ => ⟨ys.length, by rw [List.length_append, List.length_singleton]; omega, e2, ys, b', rfl, d'⟩, ?_⟩
        refine rd0 d2 s0 ⟨.inl ⟨rfl, _, SqL.of d2.hl⟩, l, _, .int y, rfl, rfl, d2.hl, p1, ?_⟩
        rw [p2]
        exact ⟨rfl, b, d3⟩
      · have e : decide (L2.V.int y = L2.V.int 0) = false := decide_eq_false fun z => hy (by cases z; rfl)
        rw [e]
        exact iteF (k1 _ _ F H2 rfl (Same.refl F) d2.st)
end
end Kb
end TWx
section TWy
set_option Elab.async false
set_option autoImplicit false
set_option linter.all false
set_option maxRecDepth 100000
set_option maxHeartbeats 4000000
/-! Wy: the deal is made. -/
namespace Kb
open PySem PySem.Spec PyProof.Rows L2 PySem.W
theorem seqL_mono {K : PySem.W.Frag} {F F' : Hp} {a : Addr} {xs : List V} (e : Same F F') (h : SqL K F a xs) : SqL K F' a xs := by
  rcases h with (h | ⟨ob, h⟩) | h
  · exact .inl (.inl (e _ _ h))
  · exact .inl (.inr ⟨ob, e _ _ h⟩)
  · exact .inr h
/-- the script -/
def tyScr (K : PySem.W.Frag) (ns : List Int) : Ty := ⟨fun F v => ∃ a, v = .ref a ∧ SqL K F a (ns.map V.int), fun e ⟨a, h1, h2⟩ => ⟨a, h1, seqL_mono e h2⟩⟩
theorem cutV_to (xs : List V) {n : Nat} : cutV xs none (some (n : Int)) = xs.take n := cutA_to xs (by omega)
theorem dslS {X : Cx} {Z : Zn} {ρ : En} {a : Expr} {pos p2 : Pos} {hi : Option Expr} {ns : List Int} {n : Nat} (ha : PE X a (tO Z ρ (tyScr X.K ns).od)) (hh : PO X hi (tPo Z ρ (some (n : Int)))) : PE X (.Subscript a (.Slice none hi none p2) pos) (tN Z ρ (mL ((ns.take n).map .int))) :=
  (pe_slice sl_list ha po0 hh).imp fun σ H Q h => tO.useN h fun F0 G F H1 v s k1 q => ⟨F0, G, F, s, fun F2 H2 g2 => ⟨F0, G, F2, s.mv g2, fun F3 H3 g3 => by
    have g := g2.tr g3
    obtain ⟨p, rfl, h2⟩ := (tyScr X.K ns).mono g.f k1
    refine ⟨p, _, rfl, seqL_mono g.fh h2, fun l hl => ?_⟩
    refine q l _ F3 _ (g.tr (Go.new g.fh g.zk hl)) (g.was hl) (g.fh.free hl) upd_same ⟨_, rfl, ?_⟩
    rw [cutV_to, ← List.map_take]
    have of_ints : ∀ xs : List Int, RpL F3 (xs.map V.int) (xs.map .int) := fun xs => by
      induction xs with
      | nil => exact .nil
      | cons x xs ih => exact .cons (.int x) ih
    exact of_ints _⟩⟩
/-- what the deal's making promises -/
def spDeal (K : PySem.W.Frag) (Z : Zn) : Sp := fun vs H Q _ => ∃ (ns : List Int) (F : Hp), OkL (Z := Z) F H vs ([tyScr K ns, Dt (.int 43)].map Ty.od) ∧ ns.length ≤ 63 ∧ Same F H ∧ (∀ a, Z.out a → F a = none) ∧ Z.ok H ∧
  ∀ (q l : Addr) (cs : List Int) (b : Int) (F' H' : Hp), Go Z F H F' H' → H q = none → H l = none → F' q = none → F' l = none → H' q = some (.lst [.ref l, .int b]) → H' l = some (.lst (cs.map V.int)) → cs.length ≤ 63 → (∀ c ∈ cs, 0 ≤ c) → 0 ≤ b → b < 2147483647 → Q (.ref q) H'
/-- the deal as it comes, new since G -/
def tyNew (G : Hp) : Ty := ⟨fun F v => ∃ (q l : Addr) (cs : List Int) (b : Int), v = .ref q ∧ F q = some (.lst [.ref l, .int b]) ∧ F l = some (.lst (cs.map V.int)) ∧ G q = none ∧ G l = none ∧ cs.length ≤ 63 ∧ (∀ c ∈ cs, 0 ≤ c) ∧ 0 ≤ b ∧ b < 2147483647,
  fun e ⟨q, l, cs, b, h1, h2, h3, r⟩ => ⟨q, l, cs, b, h1, e _ _ h2, e _ _ h3, r⟩⟩
section
variable {P : Program} {w : World} {K : PySem.W.Frag} {mg : Str → Option Value} {base : Heap} {tb : Addr}
theorem okNew {qn x : Str} {st : Stmt} {N ps : List Str} {k : Nat} (D : Dn K mg x st ps) (S : FnScope N ps (defScope st)) (hl : ps.length = 2) (hn : ps.length ≤ N.length)
    (body : ∀ (f : Addr) (cdv : Value) (A : Around) (outer : List Env) (s : Shared) (H : Hp) (E : XK) (ns : List Int) (F0 G : Hp), Room k (A.deeper (envOfC x (defScope st) s.heap.objs.size f cdv)) → ns.length ≤ 63 →
      PSs (cxOf CX0 P w K mg base N x (defScope st) f cdv A outer s H E).nox (defBody st) (tS ⟨tb, qn, none⟩ F0 G (en0 [tyScr K ns, Dt (.int 43)] (N.length - ps.length)) ⟨fun _ => False, (· = tyNew G), fun _ => False, fun _ => False⟩)) : Okd P w K mg base x (k + 1) (spDeal K ⟨tb, qn, none⟩) := by
  obtain ⟨f, fd, F, hm, hb⟩ := D.ex
  refine ⟨k + 1, f, fd, ps, ?_, Nat.le_refl _, hm, F.kp, hb⟩
  refine F.ok S (fun vs H Q E h => ?_) (fun cdv A outer s H vs Q E hr h => ?_)
  · obtain ⟨ns, F, ok, _⟩ := h
    rw [ok.len, hl]
    rfl
  · obtain ⟨ns, F, ok, hns, fh, zo, zk, q⟩ := h
    refine ⟨_, body f cdv A outer s H E ns F H hr hns, F, ?_, fun ρ' σ' F' H' hnx _ s' => hnx.elim, fun t v F' H' ht g hv => ?_, fun _ _ _ _ h => h.elim, fun _ _ _ _ h => h.elim⟩
    · have s1 := St.first (N := N) fh zo zk ok (by show 2 ≤ _; rw [← hl]; exact hn)
      have e : ([tyScr K ns, Dt (.int 43)] : List Ty).length = ps.length := by rw [hl]; rfl
      rw [e] at s1
      exact s1
    · have ht' : t = tyNew H := ht
      subst ht'
      obtain ⟨q1, l1, cs, b, rfl, h1, h2, h3, h4, h5, h6, h7, h8⟩ := hv
      have ne : q1 ≠ l1 := fun z => by
        rw [z, h2] at h1
        cases cs with
        | nil => cases h1
        | cons x y => cases h1
      refine q q1 l1 cs b (fun a => if a = q1 ∨ a = l1 then none else F' a) H' ⟨fun a o e => ?_, fun a o e => ?_, g.h, fun a e1 e2 => ?_, g.zk⟩ h3 h4 (if_pos (.inl rfl)) (if_pos (.inr rfl)) (g.fh _ _ h1) (g.fh _ _ h2) h5 h6 h7 h8
      · have hne : ¬ (a = q1 ∨ a = l1) := fun z => by
          have := fh a o e
          rcases z with z | z
          · rw [z, h3] at this
            cases this
          · rw [z, h4] at this
            cases this
        show (if a = q1 ∨ a = l1 then none else F' a) = some o
        rw [if_neg hne]
        exact g.f a o e
      · have e : (if a = q1 ∨ a = l1 then none else F' a) = some o := e
        by_cases z : a = q1 ∨ a = l1
        · rw [if_pos z] at e
          cases e
        · rw [if_neg z] at e
          exact g.fh a o e
      · show (if a = q1 ∨ a = l1 then none else F' a) = none
        by_cases z : a = q1 ∨ a = l1
        · rw [if_pos z]
        · rw [if_neg z]
          exact g.nw a e1 e2
theorem ok79 (V : Gv mg) (D : Dn K mg "_law_deal" s79 ["_law_script", "_law_base"]) : Okd P w K mg base "_law_deal" 1 (spDeal K ⟨tb, lamN, none⟩) := by
  refine okNew D c79 rfl (by decide) fun f cdv A outer s H E ns F0 G hr hns => ?_
  have l63 : (ns.take 60).length ≤ 63 := by rw [List.length_take]; omega
  refine ssetLc 2 (own := [("_law_cell", 3)]) (dlc (xs := ns.take 60) (f := fun _ => true) (g := fun i : Int => .int (if i < 0 then -i else i)) rfl c79.nd (itLs (xs := ns.take 60) (f := PyData.int) (nL (dslS (n := 60) (dv 0) (po1 dint)))) (blkOk_by (N := n79) (sc := defScope s79) (by decide +kernel))
    (fun _ _ _ _ _ x _ => gn 3 c79.nd) (fun _ _ _ _ _ x _ => pt0) (fun _ _ _ _ _ i _ _ => dabs V.bi (dintc V.bi (dv 3))) (by omega)) (fun acc ha => ?_)
  subst ha
  rw [filt]
  have e1 : ((ns.take 60).map fun i : Int => PyData.int (if i < 0 then -i else i)) = ((ns.take 60).map fun i : Int => if i < 0 then -i else i).map .int := by
    rw [List.map_map]
    rfl
  rw [e1]
  have cpos : ∀ c ∈ (ns.take 60).map (fun i : Int => if i < 0 then -i else i), 0 ≤ c := fun c hc => by
    obtain ⟨i, _, rfl⟩ := List.mem_map.mp hc
    show 0 ≤ if i < 0 then -i else i
    by_cases z : i < 0
    · rw [if_pos z]; omega
    · rw [if_neg z]; omega
  have clen : ((ns.take 60).map (fun i : Int => if i < 0 then -i else i)).length ≤ 63 := by rw [List.length_map]; exact l63
  generalize (ns.take 60).map (fun i : Int => if i < 0 then -i else i) = cells at cpos clen ⊢
  refine sset (t := Dt (.int (7368787 + 104729 * 43))) 4 c79.nd (dadd dint (dmul dint (dv 1) (.inl ⟨by decide, by decide⟩))) ?_
  refine sforN (xs := cells) (fun pre ρ1 => ∃ b : Int, (0 ≤ b ∧ b < 2147483647) ∧ ∃ x3, ρ1 = [some (.im (tyScr K ns)), some (.im (Dt (.int 43))), some (.im (Dt (.list (cells.map .int)))), x3, some (.im (Dt (.int b)))]) PassesOwn.never rfl (itLs (xs := cells) (f := PyData.int) (dv 2)) ⟨_, ⟨by decide, by decide⟩, _, rfl⟩ (fun pre c post ρ1 hx ⟨b, hb, x3, e⟩ => ?_) fun ρ1 ⟨b, hb, x3, e⟩ => ?_
  · subst e
    refine ⟨_, gn 3 c79.nd, ?_⟩
    refine sset (t := Dt (.int ((b * 40692 + c % 2147483399 + 83) % 2147483647))) 4 c79.nd (dmod (dintc V.bi (dadd (dadd (dmul (dv 4) dint (.inl ⟨by omega, by omega⟩)) (dmod (dv 3) dint (by decide))) dint)) dint (by decide)) (s0 ⟨_, ⟨Int.emod_nonneg _ (by decide), Int.emod_lt_of_pos _ (by decide)⟩, _, rfl⟩)
  · subst e
    refine (pss_one (ps_ret (pe_lst (pa_cons (drev (Z := ⟨tb, lamN, none⟩) (ρ := [some (.im (tyScr K ns)), some (.im (Dt (.int 43))), some (.im (Dt (.list (cells.map .int)))), x3, some (.im (Dt (.int b)))]) (nV (lcD (dlc (own := [("_law_cell", 3)]) (xs := cells) (f := fun c : Int => decide ((10 : Int) ^ (18 : Int).toNat ≤ c)) (g := fun c : Int => .int c) rfl c79.nd (itLs (xs := cells) (f := PyData.int) (dv 2)) (blkOk_by (N := n79) (sc := defScope s79) (by decide +kernel))
      (fun _ _ _ _ _ x _ => gn 3 c79.nd) (fun _ _ _ _ _ c _ => pt1 (pge (dv 3) (dpow dint dint ⟨by decide, by decide, by decide⟩))) (fun _ _ _ _ _ c _ _ => dv 3) (by omega))))) (pa_cons (dv (Z := ⟨tb, lamN, none⟩) (ρ := [some (.im (tyScr K ns)), some (.im (Dt (.int 43))), some (.im (Dt (.list (cells.map .int)))), x3, some (.im (Dt (.int b)))]) (t := Dt (.int b)) 4) pa_nil))))).imp fun D σ H ⟨F, s, k1, k2, _⟩ => ?_
    refine ⟨F0, G, F, s, fun l o F1 H1 g1 hl0 hf1 hl1 ⟨vs, e, r⟩ => ⟨F0, G, F1, s.mv g1, fun v F2 H2 g2 hv => ⟨by show 2 ≤ sizeLine; decide, fun q hq => ?_⟩⟩⟩
    subst e
    have g12 := g1.tr g2
    have nol : ¬ (⟨tb, lamN, none⟩ : Zn).out l := fun z => s.zk.there z hl0
    have hl2 : H2 l = some (.lst vs) := g2.h l _ nol hl1
    have fl2 : F2 l = none := g2.nw l hf1 (by rw [hl1]; intro z; cases z)
    have ga : ∀ a, H a = none → G a = none := fun a ha => by
      cases e : G a with
      | none => rfl
      | some u =>
        have := s.go.h a u (fun z => s.zk.there z ha) e
        rw [ha] at this
        cases this
    have hq0 : H q = none := g12.was hq
    have g3 := g12.tr (Go.new (o := .lst [.ref l, v]) g12.fh g12.zk hq)
    have nlq : l ≠ q := fun z => by rw [z, hq] at hl2; cases hl2
    have hl3 : upd H2 q (.lst [.ref l, v]) l = some (.lst vs) := by rw [upd_ne nlq]; exact hl2
    have g4 := g3.keep hl0 hl3 fl2
    have fq2 : F2 q = none := g12.fh.free hq
    have g5 := g4.keep hq0 upd_same (by rw [upd_ne nlq.symm]; exact fq2)
    have ev := Rp.inj_int hv
    subst ev
    have er : ((cells.filter fun c => decide ((10 : Int) ^ (18 : Int).toNat ≤ c)).map fun c => PyData.int c).reverse = (cells.filter fun c => decide ((10 : Int) ^ (18 : Int).toNat ≤ c)).reverse.map .int := (List.map_reverse).symm
    rw [er] at r
    have evs := r.ints
    subst evs
    refine k2 _ _ _ _ rfl (s.go.tr g5) ⟨q, l, (cells.filter fun c => decide ((10 : Int) ^ (18 : Int).toNat ≤ c)).reverse, b, rfl, upd_same, by rw [upd_ne nlq, upd_same], ga q hq0, ga l hl0, ?_, fun c hc => cpos c (List.mem_filter.mp (List.mem_reverse.mp hc)).1, hb.1, hb.2⟩
    rw [List.length_reverse]
    have := List.length_filter_le (fun c => decide ((10 : Int) ^ (18 : Int).toNat ≤ c)) cells
    omega
end
end Kb
end TWy
section TLg
set_option Elab.async false
set_option autoImplicit false
set_option linter.all false
set_option maxRecDepth 100000
set_option maxHeartbeats 4000000
/-! Lg: pop into another list; ranges of unknown length; join of one of several. -/
namespace Kb
open PySem PySem.Spec PyProof.Rows L2 PySem.W
section
variable {X : Cx} {Z : Zn} {F0 G : Hp} {ρ ρ1 ρ2 : En} {e a b c tg : Expr} {es rest0 : List Expr} {pos p p1 : Pos} {t : Ty} {m : Mt} {d : PyData} {ds us : List PyData} {Φ Ψ : Po} {rest : List Stmt}
/-- xs.append(ys.pop(e)), both this frame's own -/
theorem spop (i j : Nat) {x y : Str} {px py apos cpos apos2 cpos2 : Pos} (hij : i ≠ j) (he : PE X e (tO Z ρ (tyN (· < us.length)).od)) (h : ∀ (k : Nat) (hk : k < us.length), Φ.nx ((ρ.set j (some (.mu (mL (us.eraseIdx k))))).set i (some (.mu (mL (ds ++ [us[k]])))))) (hz : ds.length < 100000) (hz2 : us.length ≤ 100000)
    (hi : ρ[i]? = some (some (.mu (mL ds))) := by rfl) (hj : ρ[j]? = some (some (.mu (mL us))) := by rfl) (hN : X.N[i]? = some x := by rfl) (hN2 : X.N[j]? = some y := by rfl)
    (hv : Vis X.env.scope x := by first | exact Or.inl rfl | exact Or.inr (Or.inl rfl) | exact Or.inr (Or.inr rfl)) (hv2 : Vis X.env.scope y := by first | exact Or.inl rfl | exact Or.inr (Or.inl rfl) | exact Or.inr (Or.inr rfl))
    (hd : (x == ("__debug__" : Str)) = false := by decide) (hcd : (x == ("__classdict__" : Str)) = false := by decide) (hd2 : (y == ("__debug__" : Str)) = false := by decide) (hcd2 : (y == ("__classdict__" : Str)) = false := by decide)
    (hbase : attributeBase (.Name x px) "append" X.env (eval (.Name x px) X.env) = eval (.Name x px) X.env := by rfl) (hbase2 : attributeBase (.Name y py) "pop" X.env (eval (.Name y py) X.env) = eval (.Name y py) X.env := by rfl)
    (hfew : ((backTo cpos (starEach [.Call (.Attribute (.Name y py) "pop" apos2) [e] [] cpos2] X.env)).all (fun x => !x.1) && (backToKw cpos (keywordEach [] X.env)).all (fun x => x.1.isSome)
      && decide ([Expr.Call (.Attribute (.Name y py) "pop" apos2) [e] [] cpos2].length + ([] : List Keyword).length + (if ([] : List Keyword).isEmpty then 0 else 1) < 30)) = true := by rfl)
    (hfew2 : ((backTo cpos2 (starEach [e] X.env)).all (fun x => !x.1) && (backToKw cpos2 (keywordEach [] X.env)).all (fun x => x.1.isSome)
      && decide ([e].length + ([] : List Keyword).length + (if ([] : List Keyword).isEmpty then 0 else 1) < 30)) = true := by rfl)
    (hline : (apos.endLine == cpos.line) = true := by rfl) (hline2 : (apos2.endLine == cpos2.line) = true := by rfl) (hs : starEach [.Call (.Attribute (.Name y py) "pop" apos2) [e] [] cpos2] X.env = (false, eval (.Call (.Attribute (.Name y py) "pop" apos2) [e] [] cpos2) X.env) :: starEach [] X.env := by rfl)
    (hs2 : starEach [e] X.env = (false, eval e X.env) :: starEach [] X.env := by rfl) (hplain : (backTo cpos (starEach [] X.env)).any (·.1) = false := by rfl) (hplain2 : (backTo cpos2 (starEach [] X.env)).any (·.1) = false := by rfl)
    (hsw : swapsWith (.Call (.Attribute (.Name x px) "append" apos) [.Call (.Attribute (.Name y py) "pop" apos2) [e] [] cpos2] [] cpos) none pos.line X.env = pure false := by rfl) :
    PSs X [.Expr (.Call (.Attribute (.Name x px) "append" apos) [.Call (.Attribute (.Name y py) "pop" apos2) [e] [] cpos2] [] cpos) pos] (tS Z F0 G ρ Φ) :=
  (pss_one (ps_expr (pe_bm PySem.F.plainAttrs_list PySem.F.slot_list_append PySem.F.type_list_append mt_append (pe_var hN hv hd hcd) (pa_cons (pe_bm PySem.F.plainAttrs_list PySem.F.slot_list_pop PySem.F.type_list_pop mt_popAt (pe_var hN2 hv2 hd2 hcd2) (pa1 he hs2) hbase2 hfew2 hline2 hs2 hplain2) pa_nil hs) hbase hfew hline hs hplain) hsw)).imp fun D σ H ⟨F, s, k1, k2, _⟩ => by
    obtain ⟨q, o, h3, h4, ⟨vs, h5, h6⟩, h7, h8, h9⟩ := s.mu i _ hi
    obtain ⟨q2, o2, g3, g4, ⟨ws, g5, g6⟩, g7, g8, g9⟩ := s.mu j _ hj
    subst h5
    subst g5
    have nq : q ≠ q2 := s.ap i j _ _ q q2 hij hi hj h3 g3
    refine ⟨.ref q, h3, .inl ⟨rfl, _, SqL.of h4⟩, .ref q2, g3, .inl ⟨rfl, _, SqL.of g4⟩, F0, G, F, s, fun args F1 H1 g1 ok => ?_⟩
    cases ok with
    | @cons v _ _ _ r1 r2 =>
      cases r2
      obtain ⟨k, hk, r1⟩ := r1
      have ev := Rp.inj_int r1
      subst ev
      have s1 := s.mv g1
      have h10 := g1.h q _ h9 h4
      have g10 := g1.h q2 _ g9 g4
      have g6' := RpL.mono g1.f _ _ g6
      have lw : ws.length = us.length := g6'.len
      have hkw : k < ws.length := by rw [lw]; exact hk
      have esi : seqIndex? (k : Int) ws.length = some k := by
        have : ixN ws.length (k : Int) = some k := by
          unfold ixN
          rw [if_pos (by omega), if_pos (by omega)]
          rfl
        exact (ixN_seq this).1
      obtain ⟨y1, e1, e2⟩ := RpL.at (i := k) g6' (List.getElem?_eq_getElem hk)
      have s2 := s1.chg (n := mL (us.eraseIdx k)) hj g3 ⟨ws.eraseIdx k, rfl, RpL.erase k g6'⟩
      refine ⟨q2, ws, (k : Int), k, y1, rfl, rfl, g10, by omega, by omega, esi, e1, ?_⟩
      have h11 : upd H1 q2 (.lst (ws.eraseIdx k)) q = some (.lst vs) := by rw [upd_ne nq]; exact h10
      refine ⟨q, vs, y1, rfl, rfl, h11, smallS (by rw [h6.len]; exact hz), ?_⟩
      have hi2 : (ρ.set j (some (.mu (mL (us.eraseIdx k)))))[i]? = some (some (.mu (mL ds))) := by rw [List.getElem?_set_ne (Ne.symm hij)]; exact hi
      exact k1 _ _ F1 _ (h k hk) g1.f (s2.chg hi2 h3 ⟨vs ++ [y1], rfl, (RpL.mono g1.f _ _ h6).app (.one e2)⟩)
/-- [elt for tg in iter if ..], what comes of each not known: J, what may have come behind some -/
theorem dlcJ {α : Type} {elt iter : Expr} {ifs : List Expr} {scope : Scope} {own : List (Str × Nat)} {xs : List α} {enc : α → Ty} {ρ' : α → En} {pb : α → Bool → Prop} {qd : α → PyData → Prop} (J : List α → List PyData → Prop) (hc : X.calm = true) (hN : X.N.Nodup)
    (hi : PI X tg iter (tI Z ρ (xs.map enc))) (ok : BlkOk X.N X.env.scope scope own)
    (hg : ∀ (s : Shared) (H : Hp) (C : Addr) (cl : List (Str × Addr)) (fp : List Addr) (x : α), x ∈ xs → PG (X.blk s H scope (compEnvC scope cl C X.env) fp) tg (tGt (some (own.map (·.2))) Z (wipeA ρ (own.map (·.2))) (enc x) (ρ' x)))
    (ht : ∀ (s : Shared) (H : Hp) (C : Addr) (cl : List (Str × Addr)) (fp : List Addr) (x : α), x ∈ xs → PTs (X.blk s H scope (compEnvC scope cl C X.env) fp) ifs (tP Z (ρ' x) (pb x)))
    (he : ∀ (s : Shared) (H : Hp) (C : Addr) (cl : List (Str × Addr)) (fp : List Addr) (x : α), x ∈ xs → pb x true → PE (X.blk s H scope (compEnvC scope cl C X.env) fp) elt (tO Z (ρ' x) (Ty.ex (qd x) Dt).od))
    (h0 : J [] []) (hk : ∀ pre x acc, x ∈ xs → pb x false → J pre acc → J (pre ++ [x]) acc) (hs : ∀ pre x acc d, x ∈ xs → pb x true → qd x d → J pre acc → J (pre ++ [x]) (acc ++ [d])) (hn : xs.length ≤ 100000)
    (hf : ∀ x, foldedSetIterable iter X.env x = pure x := by intro _; rfl) : LcOk X Z ρ elt tg iter ifs scope own (J xs) := by
  have hl : (xs.map enc).length = xs.length := List.length_map _
  cases xs with
  | nil =>
    exact (dlcG (ρ' := fun _ => []) (pb := fun _ _ => False) (qd := fun _ _ => False) (fun _ acc => acc = []) hc hN hi ok (fun s H C cl fp i t h => by simp at h) (fun s H C cl fp i h => absurd h (by simp)) (fun s H C cl fp i h => absurd h (by simp)) rfl (fun i acc h => absurd h (by simp)) (fun i acc d h => absurd h (by simp)) (by simp) hf).imp fun acc e => by
      rw [e]
      exact h0
  | cons x0 xr =>
    have mem : ∀ {i : Nat}, i < (x0 :: xr).length → (x0 :: xr).getD i x0 ∈ (x0 :: xr) := fun {i} h => by
      rw [List.getD_eq_getElem?_getD, List.getElem?_eq_getElem h]
      exact List.getElem_mem h
    have take_ : ∀ {i : Nat}, i < (x0 :: xr).length → (x0 :: xr).take (i + 1) = (x0 :: xr).take i ++ [(x0 :: xr).getD i x0] := fun {i} h => by
      rw [List.take_add_one, List.getElem?_eq_getElem h, List.getD_eq_getElem?_getD, List.getElem?_eq_getElem h]
      rfl
    have key := dlcG (ρ' := fun i => ρ' ((x0 :: xr).getD i x0)) (pb := fun i b => pb ((x0 :: xr).getD i x0) b) (qd := fun i d => qd ((x0 :: xr).getD i x0) d) (fun i acc => J ((x0 :: xr).take i) acc) (elt := elt) (ifs := ifs) hc hN hi ok
      (fun s H C cl fp i t h => by
        rw [List.getElem?_map] at h
        cases e : (x0 :: xr)[i]? with
        | none =>
          rw [e] at h
          cases h
        | some y =>
          rw [e] at h
          cases h
          have ey : (x0 :: xr).getD i x0 = y := by
            rw [List.getD_eq_getElem?_getD, e]
            rfl
          rw [ey]
          exact hg s H C cl fp y (List.mem_of_getElem? e))
      (fun s H C cl fp i h => ht s H C cl fp _ (mem (by rw [← hl]; exact h)))
      (fun s H C cl fp i h hb => he s H C cl fp _ (mem (by rw [← hl]; exact h)) hb)
      h0 (fun i acc h hb hj => by
        rw [hl] at h
        rw [take_ h]
        exact hk _ _ _ (mem h) hb hj) (fun i acc d h hb hq hj => by
        rw [hl] at h
        rw [take_ h]
        exact hs _ _ _ _ (mem h) hb hq hj) (by rw [hl]; exact hn) hf
    refine key.imp fun acc e => ?_
    rw [hl, List.take_length] at e
    exact e
/-- a range as long as one of several numbers -/
def tIx (Z : Zn) (ρ : En) (q : Nat → Prop) : TI := fun σ H R => ∃ F0 G F, St Z F0 G F H σ ρ ∧ ∀ n, q n → ∀ J F' H', Go Z F H F' H' → Wk Z J ((List.range n).map fun (i : Nat) => Dt (.int (i : Int))) F' → R J H'
theorem itRX (T : Bi X.mg) {q : Nat → Prop} (ha : PE X a (tO Z ρ (tyN q).od)) (h0 : ∀ n, q n → n ≤ 100000) (hg : Gl X "range" := by rfl) (hs : starEach [a] X.env = [(false, eval a X.env)] := by rfl) : PI X tg (.Call (.Name "range" p) [a] [] pos) (tIx Z ρ q) :=
  (pi_range1 hg T.range (pa1 ha (hs.trans rfl)) hs).imp fun σ H Q ⟨F0, G, F, s, k⟩ => ⟨F0, G, F, s, fun vs F1 H1 g1 k1 => by
    cases k1 with
    | cons h1 h2 =>
      cases h2
      obtain ⟨n, hn, h1⟩ := h1
      have hn2 := h0 n hn
      rw [Rp.inj_int h1]
      refine ⟨(n : Int), rfl, by omega, by omega, k n hn _ F1 H1 g1 fun F H e1 e2 zk zo => ⟨fun i hi => ?_, ?_, fun i t x H' ht y => ?_⟩⟩
      · rw [List.length_map, List.length_range] at hi
        exact hi
      · rw [List.length_map, List.length_range]
        exact Nat.le_refl _
      · obtain ⟨rfl, y⟩ := y
        rw [List.getElem?_map] at ht
        cases e : (List.range n)[i]? with
        | none =>
          rw [e] at ht
          cases ht
        | some j =>
          rw [e] at ht
          cases ht
          have ej : j = i := by
            have := (List.getElem?_eq_some_iff.mp e).2
            rw [List.getElem_range] at this
            exact this.symm
          subst ej
          rw [y, Int.zero_add]
          exact ⟨F, Go.rfl e2 zk, .int _⟩⟩
/-- [elt for _ in range(n)], n not known -/
theorem dlcRX {elt iter : Expr} {scope : Scope} {own : List (Str × Nat)} {pn : Nat → Prop} {q : PyData → Prop} {ρ' : Nat → En} (hc : X.calm = true) (hN : X.N.Nodup)
    (hi : PI X tg iter (tIx Z ρ pn)) (ok : BlkOk X.N X.env.scope scope own)
    (hg : ∀ (s : Shared) (H : Hp) (C : Addr) (cl : List (Str × Addr)) (fp : List Addr) (i : Nat), PG (X.blk s H scope (compEnvC scope cl C X.env) fp) tg (tGt (some (own.map (·.2))) Z (wipeA ρ (own.map (·.2))) (Dt (.int (i : Int))) (ρ' i)))
    (he : ∀ (s : Shared) (H : Hp) (C : Addr) (cl : List (Str × Addr)) (fp : List Addr) (i : Nat), PE (X.blk s H scope (compEnvC scope cl C X.env) fp) elt (tO Z (ρ' i) (Ty.ex q Dt).od))
    (hn : ∀ n, pn n → n ≤ 100000) (hf : ∀ x, foldedSetIterable iter X.env x = pure x := by intro _; rfl) : LcOk X Z ρ elt tg iter [] scope own (fun acc => pn acc.length ∧ ∀ d ∈ acc, q d) := by
  refine ⟨tIx Z ρ pn, fun v σ H Q => ∃ i : Nat, tGt (some (own.map (·.2))) Z (wipeA ρ (own.map (·.2))) (Dt (.int (i : Int))) (ρ' i) v σ H Q,
    fun σ H Q => ∃ i, tQ Z (ρ' i) true σ H Q, fun σ H Q => ∃ i, tO Z (ρ' i) (Ty.ex q Dt).od σ H Q, hc, hN, hi, ok, fun s H C cl fp => ⟨?_⟩, fun s H C cl fp => ⟨?_⟩, fun s H C cl fp => ⟨?_⟩, hf, ?_⟩
  · rintro pins s1 σ H v u Q Iv r ⟨i, h2⟩
    exact (hg s _ C cl fp i).run pins s1 σ H v u Q Iv r h2
  · rintro pins s1 σ H Q Iv ⟨i, h2⟩
    exact (pt0 (ρ := ρ' i)).run pins s1 σ H Q Iv h2
  · rintro pins s1 σ H Q Iv ⟨i, h3⟩
    exact (he s _ C cl fp i).run pins s1 σ H Q Iv h3
  · rintro σ H Q ⟨F0, G, F, s, k⟩
    refine ⟨F0, G, F, s, fun n hpn J F1 H1 g1 wk D hD => ?_⟩
    have n5 := hn n hpn
    have lt : ((List.range n).map fun (i : Nat) => Dt (.int (i : Int))).length = n := by rw [List.length_map, List.length_range]
    have s1 := (s.mv g1).wipe (own.map (·.2))
    refine ⟨fun i m H' => m = n - i ∧ i ≤ n ∧ ∃ F', CSt Z F0 G F1 H1 (L2.wipe σ (own.map (·.2))) (wipeA ρ (own.map (·.2))) D i (fun acc => acc.length = i ∧ ∀ d ∈ acc, q d) F' H', ⟨n, rfl, Nat.zero_le _, F1, CSt.start s1 hD ⟨rfl, fun d h => by cases h⟩⟩, ?_⟩
    rintro i m H2 ⟨rfl, hi, F2, c2⟩
    obtain ⟨w1, w2, w3⟩ := wk F2 H2 c2.go.f c2.st.fh c2.st.zk c2.st.zo
    rw [lt] at w1 w2
    by_cases hlt : i < n
    · refine .inr ⟨w1 i hlt, fun H' => ∃ F', CSt Z F0 G F1 H1 (L2.wipe σ (own.map (·.2))) (wipeA ρ (own.map (·.2))) D (i + 1) (fun acc => acc.length = i + 1 ∧ ∀ d ∈ acc, q d) F' H', fun H' h => ⟨n - (i + 1), by omega, rfl, hlt, h⟩, fun x H3 y => ?_⟩
      obtain ⟨F3, g3, ok3⟩ := w3 i (Dt (.int (i : Int))) x H3 (by rw [List.getElem?_map, List.getElem?_range hlt]; rfl) y
      have c3 := c2.at g3
      refine ⟨i, F0, G, F3, c3.st, ok3, fun σ4 s4 e4 => ⟨Eq.trans e4 (wipe_wipe σ _), i, F0, G, F3, s4, fun b F5 H5 g5 hb => ?_⟩⟩
      have c5 := c3.at g5
      subst hb
      refine iteT ⟨i, F0, G, F5, s4.mv g5, fun v F6 H6 g6 ⟨d, h1, h2⟩ => ?_⟩
      obtain ⟨vs, a1, a2, a3⟩ := (c5.at g6).more (A' := fun acc => acc.length = i + 1 ∧ ∀ d ∈ acc, q d) h2 (fun acc ⟨z1, z2⟩ => ⟨by rw [List.length_append, z1]; rfl, fun d' hd' => by
        rcases List.mem_append.mp hd' with z | z
        · exact z2 d' z
        · rw [List.mem_singleton.mp z]
          exact h1⟩) (by omega)
      exact ⟨vs, a1, a2, F6, a3⟩
    · have e : i = n := by omega
      subst e
      refine .inl ⟨w2, ?_⟩
      obtain ⟨acc, vs, a1, a2, ⟨a3, a5⟩, a4⟩ := c2.acc
      exact k acc ⟨by rw [a3]; exact hpn, a5⟩ D vs F2 H2 (g1.tr c2.go) (g1.was c2.h0) c2.fd a1 a2
/-- a list, one of several -/
def mLx {Z : Zn} (q : List PyData → Prop) : Od Z := ⟨fun F H v => ∃ ds, q ds ∧ ((mL ds).od (Z := Z)).ok F H v, fun g ⟨ds, h1, h2⟩ => ⟨ds, h1, ((mL ds).od (Z := Z)).mv g h2⟩⟩
theorem toLx {q : List PyData → Prop} (h : PE X e (tO Z ρ (mL ds).od)) (hq : q ds) : PE X e (tO Z ρ (mLx q)) := od.imp (w := (mL ds).od) (w' := mLx q) (fun F H v fh zo r => ⟨ds, hq, r⟩) h
theorem djoinX {sep : Str} {apos cpos : Pos} {q : List PyData → Prop} (ha : PE X a (tD Z ρ (.str sep))) (hb : PE X b (tO Z ρ (mLx q))) (hq : ∀ ds, q ds → ∃ ys : List Str, ds = ys.map .str ∧ (ys.map (·.length)).sum + ys.length * sep.length ≤ 16777216) (hs : starEach [b] X.env = [(false, eval b X.env)] := by rfl)
    (hbase : attributeBase a "join" X.env (eval a X.env) = eval a X.env := by rfl) (hline : (apos.endLine == cpos.line) = true := by rfl) : PE X (.Call (.Attribute a "join" apos) [b] [] cpos) (tO Z ρ (Ty.ex (fun z : Str => ∃ ys : List Str, q (ys.map .str) ∧ z = Txt.join sep ys) fun z => Dt (.str z)).od) :=
  (pe_join ha hb hs hbase hline).imp fun σ H Q ⟨F0, G, F, s, k⟩ => ⟨F0, G, F, s, fun v F1 H1 g1 ok => by
    rw [Rp.inj_str ok]
    refine ⟨⟨_, rfl⟩, F0, G, F1, s.mv g1, fun u F2 H2 g2 ok2 => ?_⟩
    obtain ⟨ds, hds, ok2⟩ := ok2
    obtain ⟨ys, rfl, hz⟩ := hq ds hds
    obtain ⟨p, us, rfl, h3, h4⟩ := mL_at ok2
    have e := h4.strs
    subst e
    exact ⟨sep, p, ys, rfl, rfl, .inl (SqL.of h3), hz, k _ F2 H2 (g1.tr g2) ⟨_, ⟨ys, hds, rfl⟩, .str _⟩⟩⟩
end
end Kb
end TLg
section TPx
set_option Elab.async false
set_option autoImplicit false
set_option linter.all false
set_option maxRecDepth 100000
/-! Px: drawn names, plain. -/
namespace Kb
open PySem PySem.Spec PyProof.Rows L2 PySem.W
abbrev lts : List Nat := letters.cps.toList
theorem lts_len : lts.length = 26 := by decide +kernel
theorem lts_nd : lts.Nodup := by decide +kernel
def ltr (k : Nat) : Nat := lts.getD (k % 26) 0
theorem ltr_at (k : Nat) : lts[k % 26]? = some (ltr k) := by
  have h : k % 26 < lts.length := by rw [lts_len]; omega
  unfold ltr
  rw [List.getD_eq_getElem?_getD, List.getElem?_eq_getElem h]
  rfl
theorem ltr_mem (k : Nat) : ltr k ∈ lts := List.mem_of_getElem? (ltr_at k)
theorem ltr_inj {a b : Nat} (h : ltr a = ltr b) : a % 26 = b % 26 := by
  have h1 := ltr_at a
  have h2 := ltr_at b
  rw [← h] at h2
  obtain ⟨a1, a2⟩ := List.getElem?_eq_some_iff.mp h1
  obtain ⟨b1, b2⟩ := List.getElem?_eq_some_iff.mp h2
  exact (List.getElem_inj lts_nd).mp (a2.trans b2.symm)
structure NameAt (many pl oth first step i : Nat) (x : Str) : Prop where
  nm : Nm x
  at1 : x.cps.toList[pl]? = some (ltr (first + step * i))
  at2 : 26 < many → x.cps.toList[oth]? = some (ltr (first + i / 26))
theorem step_inj {first step i j : Nat} (hs : step ∈ [1, 3, 5, 7, 9, 11]) (h : (first + step * i) % 26 = (first + step * j) % 26) : i % 26 = j % 26 := by
  simp only [List.mem_cons, List.not_mem_nil, or_false] at hs
  rcases hs with z | z | z | z | z | z <;> subst z <;> omega
theorem names_nodup {many pl oth first step : Nat} {xs : List Str} (hs : step ∈ [1, 3, 5, 7, 9, 11]) (hm : many ≤ 40) (hl : xs.length = many) (h : ∀ (i : Nat) (x : Str), xs[i]? = some x → NameAt many pl oth first step i x) : xs.Nodup := by
  refine List.pairwise_iff_getElem.mpr fun i j hi hj hij e => ?_
  have h1 := h i xs[i] (List.getElem?_eq_getElem hi)
  have h2 := h j xs[j] (List.getElem?_eq_getElem hj)
  rw [← e] at h2
  have e1 := step_inj hs (ltr_inj (Option.some.inj (h1.at1.symm.trans h2.at1)))
  by_cases c : 26 < many
  · have e2 := ltr_inj (Option.some.inj ((h1.at2 c).symm.trans (h2.at2 c)))
    omega
  · omega
/-- the text of some signs -/
abbrev mkS (cs : List Nat) : Str := ⟨cs.toArray⟩
theorem joinL_one : ∀ cs : List Nat, TL.joinL [] (cs.map fun c => [c]) = cs
  | [] => rfl
  | [c] => rfl
  | c :: d :: r => by
    show [c] ++ ([] ++ TL.joinL [] ((d :: r).map fun c => [c])) = c :: d :: r
    rw [joinL_one (d :: r)]
    rfl
theorem join_one (cs : List Nat) : Txt.join "" (cs.map fun c => (⟨#[c]⟩ : Str)) = mkS cs := by
  have e := TL.tl_join ("" : Str) (cs.map fun c => (⟨#[c]⟩ : Str))
  rw [List.map_map] at e
  have e2 : TL.joinL (TL.tl "") (cs.map (TL.tl ∘ fun c => (⟨#[c]⟩ : Str))) = cs := joinL_one cs
  rw [e2] at e
  exact TL.ext_tl ((congrArg TL.tl (TL.join_eq "" (cs.map fun c => (⟨#[c]⟩ : Str)))).trans e)
/-- the signs of a name -/
def signs (many pl oth first step i : Nat) (cs : List Nat) : List Nat := (if 26 < many then cs.set oth (ltr (first + i / 26)) else cs).set pl (ltr (first + step * i))
theorem signs_len (many pl oth first step i : Nat) (cs : List Nat) : (signs many pl oth first step i cs).length = cs.length := by
  unfold signs
  rw [List.length_set]
  by_cases c : 26 < many
  · rw [if_pos c, List.length_set]
  · rw [if_neg c]
theorem signs_mem {many pl oth first step i : Nat} {cs : List Nat} (h : ∀ c ∈ cs, c ∈ lts) : ∀ c ∈ signs many pl oth first step i cs, c ∈ lts := fun c hc => by
  unfold signs at hc
  rcases List.mem_or_eq_of_mem_set hc with k | k
  · by_cases z : 26 < many
    · rw [if_pos z] at k
      rcases List.mem_or_eq_of_mem_set k with k | k
      · exact h c k
      · rw [k]
        exact ltr_mem _
    · rw [if_neg z] at k
      exact h c k
  · rw [k]
    exact ltr_mem _
theorem name_ok {many pl oth first step i L : Nat} {cs ws : List Nat} (hL : cs.length = L) (h8 : L ≤ 8) (hpl : pl < L) (hoth : 26 < many → oth < L ∧ oth ≠ pl) (hc : ∀ c ∈ cs, c ∈ lts)
    (hw : ws = signs many pl oth first step i cs ∨ (¬ 26 < many ∧ ws = (signs many pl oth first step i cs).take (pl + 1))) : NameAt many pl oth first step i (mkS ws) := by
  have hl : (signs many pl oth first step i cs).length = L := by rw [signs_len, hL]
  have ha : (signs many pl oth first step i cs)[pl]? = some (ltr (first + step * i)) := by
    unfold signs
    rw [List.getElem?_set_self]
    by_cases c : 26 < many
    · rw [if_pos c, List.length_set, hL]; exact hpl
    · rw [if_neg c, hL]; exact hpl
  have hb : 26 < many → (signs many pl oth first step i cs)[oth]? = some (ltr (first + i / 26)) := fun c => by
    unfold signs
    obtain ⟨o1, o2⟩ := hoth c
    rw [List.getElem?_set_ne (Ne.symm o2), if_pos c, List.getElem?_set_self (by rw [hL]; exact o1)]
  have hm := signs_mem (many := many) (pl := pl) (oth := oth) (first := first) (step := step) (i := i) hc
  have len : ∀ ws : List Nat, (mkS ws).length = ws.length := fun ws => by
    rw [TL.len_tl]
  rcases hw with rfl | ⟨n26, rfl⟩
  · refine ⟨⟨?_, ?_, hm⟩, ha, hb⟩
    · rw [len, hl]; omega
    · rw [len, hl]; exact h8
  · refine ⟨⟨?_, ?_, fun c hc => hm c (List.mem_of_mem_take hc)⟩, ?_, fun c => absurd c n26⟩
    · rw [len, List.length_take, hl]; omega
    · rw [len, List.length_take, hl]; omega
    · show ((signs many pl oth first step i cs).take (pl + 1))[pl]? = _
      rw [List.getElem?_take_of_lt (Nat.lt_succ_self pl)]
      exact ha
end Kb
end TPx
section TWz
set_option Elab.async false
set_option autoImplicit false
set_option linter.all false
set_option maxRecDepth 100000
set_option maxHeartbeats 4000000
/-! Wz: one of some things, a drawn order, names. -/
namespace Kb
open PySem PySem.Spec PyProof.Rows L2 PySem.W
section
variable {X : Cx} {ρ : En} {F0 G : Hp} {e : Expr} {es : List Expr} {pos p : Pos} {x : Str} {n : Nat} {α : Type} {ins : α → List Ty} {pre : α → Prop} {out : α → Ty} {Z : Zn} {Φ : Po} {rest : List Stmt}
/-- a def of the deal called: what comes told by t -/
theorem dclQ {tb : Addr} {qn : Str} {q l : Addr} {pd : Pos} {y : Str} {t : Ty} (i : Nat) {j : Nat} (hr : Room n X.A) (C : Can X x j (spQ ⟨tb, qn, none⟩ ins pre out)) (a : α) (hp : pre a) (ha : PA X es (tOs ⟨tb, qn, some (q, l)⟩ ρ ((ins a).map Ty.od))) (ho : out a = t := by rfl) (hd : ρ[i]? = some (some .dl) := by rfl) (hN : X.N[i]? = some y := by rfl)
    (hv : Vis X.env.scope y := by first | exact Or.inl rfl | exact Or.inr (Or.inl rfl) | exact Or.inr (Or.inr rfl)) (hd1 : (y == ("__debug__" : Str)) = false := by decide) (hcd : (y == ("__classdict__" : Str)) = false := by decide)
    (hg : Gl X x := by rfl) (hj : j ≤ n := by decide) (hdb : (x == ("__debug__" : Str)) = false := by decide)
    (he : starEach (.Name y pd :: es) X.env = (false, eval (.Name y pd) X.env) :: starEach es X.env := by rfl) (hpl : (backTo pos (starEach es X.env)).any (·.1) = false := by rfl) : PE X (.Call (.Name x p) (.Name y pd :: es) [] pos) (tO ⟨tb, qn, some (q, l)⟩ ρ t.od) := by
  subst ho
  exact dcallQ i hr C a hp ha hd hN hv hd1 hcd hg hj hdb he hpl
/-- xs.append(e), e one of several -/
theorem sappX (i : Nat) {β : Type} {q : β → Prop} {g : β → PyData} {ds : List PyData} {x : Str} {px apos cpos : Pos} (he : PE X e (tO Z ρ (Ty.ex q fun a => Dt (g a)).od)) (h2 : ∀ a, q a → PSs X rest (tS Z F0 G (ρ.set i (some (.mu (mL (ds ++ [g a]))))) Φ)) (hz : ds.length < 100000) (hi : ρ[i]? = some (some (.mu (mL ds))) := by rfl) (hN : X.N[i]? = some x := by rfl)
    (hv : Vis X.env.scope x := by first | exact Or.inl rfl | exact Or.inr (Or.inl rfl) | exact Or.inr (Or.inr rfl)) (hd : (x == ("__debug__" : Str)) = false := by decide) (hcd : (x == ("__classdict__" : Str)) = false := by decide)
    (hbase : attributeBase (.Name x px) "append" X.env (eval (.Name x px) X.env) = eval (.Name x px) X.env := by rfl)
    (hfew : ((backTo cpos (starEach [e] X.env)).all (fun x => !x.1) && (backToKw cpos (keywordEach [] X.env)).all (fun x => x.1.isSome)
      && decide ([e].length + ([] : List Keyword).length + (if ([] : List Keyword).isEmpty then 0 else 1) < 30)) = true := by rfl)
    (hline : (apos.endLine == cpos.line) = true := by rfl) (hs : starEach [e] X.env = (false, eval e X.env) :: starEach [] X.env := by rfl) (hplain : (backTo cpos (starEach [] X.env)).any (·.1) = false := by rfl)
    (hsw : swapsWith (.Call (.Attribute (.Name x px) "append" apos) [e] [] cpos) none pos.line X.env = pure false := by rfl) : PSs X (.Expr (.Call (.Attribute (.Name x px) "append" apos) [e] [] cpos) pos :: rest) (tS Z F0 G ρ Φ) :=
  scons (Ψ := { Φ with nx := fun ρ' => ∃ a, q a ∧ ρ' = ρ.set i (some (.mu (mL (ds ++ [g a])))) }) (ps_expr (pe_bm PySem.F.plainAttrs_list PySem.F.slot_list_append PySem.F.type_list_append mt_append (pe_var hN hv hd hcd) (pa1 he hs) hbase hfew hline hs hplain) hsw) (fun ρ' ⟨a, h, e'⟩ => by
      subst e'
      exact h2 a h) fun D σ H ⟨F, s, k1, k2, _⟩ => by
    obtain ⟨q1, o, h3, h4, ⟨vs, h5, h6⟩, h7, h8, h9⟩ := s.mu i _ hi
    subst h5
    refine ⟨.ref q1, h3, .inl ⟨rfl, _, SqL.of h4⟩, F0, G, F, s, fun us F1 H1 g1 ok => ?_⟩
    cases ok with
    | @cons v _ _ _ r1 r2 =>
      cases r2
      obtain ⟨a, ha, r1⟩ := r1
      have s1 := s.mv g1
      have h10 := g1.h q1 _ h9 h4
      refine ⟨q1, vs, v, rfl, rfl, h10, smallS (by rw [h6.len]; exact hz), ?_⟩
      exact k1 _ _ F1 _ ⟨a, ha, rfl⟩ g1.f (s1.chg hi h3 ⟨vs ++ [v], rfl, (RpL.mono g1.f _ _ h6).app (.one r1)⟩)
end
section
variable {P : Program} {w : World} {K : PySem.W.Frag} {mg : Str → Option Value} {base : Heap} {tb : Addr}
abbrev q81 (Z : Zn) : Sp := spQ Z (fun p : List PyData → Prop => [Ty.ex p fun ds => Dt (.list ds)]) (fun p => ∀ ds, p ds → ds ≠ [] ∧ ds.length ≤ 1000) fun p => Ty.ex (fun d => ∃ ds, p ds ∧ d ∈ ds) Dt
theorem ok81 (V : Gv mg) (D : Dn K mg "_law_of" s81 ["_law_deal_here", "_law_some"]) (C80 : Okd P w K mg base "_law_any" 1 (q80 ⟨tb, lamN, none⟩)) : Okd P w K mg base "_law_of" 2 (q81 ⟨tb, lamN, none⟩) := by
  refine okQ D c81 (fun _ => rfl) (by decide) fun f cdv A outer s H E p F0 G q l hr hp => ?_
  have hp : ∀ ds, p ds → ds ≠ [] ∧ ds.length ≤ 1000 := hp
  refine sopen 1 rfl fun ds hds => ?_
  obtain ⟨h1, h2⟩ := hp ds hds
  exact sret (t := Ty.ex (fun d => ∃ ds, p ds ∧ d ∈ ds) Dt) (exM (dixLX (ds := ds) (vL (dv 1)) (dclQ 0 hr C80 ds.length ⟨List.length_pos_iff.mpr h1, h2⟩ (pac (dlen V.bi sqL (vL (dv 1))) pa0))) fun d hd => ⟨ds, hds, hd⟩) rfl
abbrev q81s (Z : Zn) : Sp := spQ Z (fun z : Str => [Dt (.str z)]) (fun z => z.cps.toList ≠ [] ∧ z.length ≤ 1000) fun z => Ty.ex (· ∈ z.cps.toList) fun c => Dt (.str ⟨#[c]⟩)
theorem ok81s (V : Gv mg) (D : Dn K mg "_law_of" s81 ["_law_deal_here", "_law_some"]) (C80 : Okd P w K mg base "_law_any" 1 (q80 ⟨tb, lamN, none⟩)) : Okd P w K mg base "_law_of" 2 (q81s ⟨tb, lamN, none⟩) := by
  refine okQ D c81 (fun _ => rfl) (by decide) fun f cdv A outer s H E z F0 G q l hr hp => ?_
  obtain ⟨h1, h2⟩ := hp
  have h1 : z.cps.toList ≠ [] := h1
  have h2 : z.length ≤ 1000 := h2
  have e : z.length = z.cps.toList.length := TL.len_tl z
  have hpos : 0 < z.length := by rw [e]; exact List.length_pos_iff.mpr h1
  refine sret (t := Ty.ex (· ∈ z.cps.toList) fun c => Dt (.str ⟨#[c]⟩)) (dixSX (dv 1) (exM (q := (· < z.length)) (dclQ 0 hr C80 z.length ⟨hpos, h2⟩ (pac (dlenS V.bi (dv 1) (by omega)) pa0)) fun k hk => by rw [← e]; exact hk) (by omega)) rfl
/-- one of some naturals -/
theorem exN {X : Cx} {Z : Zn} {ρ : En} {e : Expr} {ns : List Nat} (h : PE X e (tO Z ρ (Ty.ex (fun d => ∃ ds, ds = iL ns ∧ d ∈ ds) Dt).od)) : PE X e (tO Z ρ (tyN (· ∈ ns)).od) :=
  od.imp (w := (Ty.ex (fun d => ∃ ds, ds = iL ns ∧ d ∈ ds) Dt).od) (w' := (tyN (· ∈ ns)).od) (fun F H v fh zo ⟨d, ⟨ds, e1, h1⟩, h2⟩ => by
    subst e1
    obtain ⟨k, hk, rfl⟩ := List.mem_map.mp h1
    exact ⟨k, hk, h2⟩) h
/-- one of some texts -/
theorem exT {X : Cx} {Z : Zn} {ρ : En} {e : Expr} {xs : List Str} (h : PE X e (tO Z ρ (Ty.ex (fun d => ∃ ds, ds = xs.map PyData.str ∧ d ∈ ds) Dt).od)) : PE X e (tO Z ρ (Ty.ex (· ∈ xs) fun x => Dt (.str x)).od) :=
  od.imp (w := (Ty.ex (fun d => ∃ ds, ds = xs.map PyData.str ∧ d ∈ ds) Dt).od) (w' := (Ty.ex (· ∈ xs) fun x => Dt (.str x)).od) (fun F H v fh zo ⟨d, ⟨ds, e1, h1⟩, h2⟩ => by
    subst e1
    obtain ⟨k, hk, rfl⟩ := List.mem_map.mp h1
    exact ⟨k, hk, h2⟩) h
abbrev q82 (Z : Zn) : Sp := spQ Z (fun a : Bool × List Str => [Dt (sqD a.1 (a.2.map .str))]) (fun a => a.2.length ≤ 1000 ∧ SOk a.2) fun a => Ty.ex (fun ys : List Str => ys.Perm a.2) fun ys => Dt (.list (ys.map .str))
theorem dlistB {X : Cx} {Z : Zn} {ρ : En} {a : Expr} {p pos : Pos} (T : Bi X.mg) (k : Bool) {ds : List PyData} (ha : PE X a (tD Z ρ (sqD k ds))) (hg : Gl X "list" := by rfl) (hs : starEach [a] X.env = (false, eval a X.env) :: starEach [] X.env := by rfl) : PE X (.Call (.Name "list" p) [a] [] pos) (tN Z ρ (mL ds)) := by
  cases k with
  | true => exact dlist T sqL (vL ha) hg hs
  | false => exact dlist T sqT (vT ha) hg hs
theorem perm_erase {α : Type} : ∀ (l : List α) (k : Nat) (h : k < l.length), (l[k] :: l.eraseIdx k).Perm l
  | x :: l, 0, _ => List.Perm.refl _
  | x :: l, k + 1, h => by
    have h' : k < l.length := Nat.lt_of_succ_lt_succ h
    show (l[k] :: x :: l.eraseIdx k).Perm (x :: l)
    exact (List.Perm.swap x l[k] _).trans ((perm_erase l k h').cons x)
theorem erase_map {α β : Type} (f : α → β) : ∀ (l : List α) (k : Nat), (l.map f).eraseIdx k = (l.eraseIdx k).map f
  | [], _ => rfl
  | x :: l, 0 => rfl
  | x :: l, k + 1 => by
    show f x :: (l.map f).eraseIdx k = f x :: (l.eraseIdx k).map f
    rw [erase_map f l k]
theorem ok82 (V : Gv mg) (D : Dn K mg "_law_mixed" s82 ["_law_deal_here", "_law_some"]) (C80 : Okd P w K mg base "_law_any" 1 (q80 ⟨tb, lamN, none⟩)) : Okd P w K mg base "_law_mixed" 2 (q82 ⟨tb, lamN, none⟩) := by
  refine okQ D c82 (fun _ => rfl) (by decide) fun f cdv A outer s H E a F0 G q l hr hp => ?_
  obtain ⟨b, xs⟩ := a
  obtain ⟨h1, h2⟩ := hp
  have h1 : xs.length ≤ 1000 := h1
  have h2 : SOk xs := h2
  refine spar2 2 3 rfl c82.nd (kan (dlistB V.bi b (dv 1)) (kan (dlst (ds := []) pa0) ka0 (by simp [AK.held])) (by simp [AK.held])) ?_
  refine swhile (fun n ρ1 => ∃ left found : List Str, n = left.length ∧ (found ++ left).Perm xs ∧ ρ1 = [some .dl, some (.im (Dt (sqD b (xs.map .str)))), some (.mu (mL (left.map .str))), some (.mu (mL (found.map .str)))])
    (fun ρ1 => ∃ found : List Str, found.Perm xs ∧ ρ1 = [some .dl, some (.im (Dt (sqD b (xs.map .str)))), some (.mu (mL [])), some (.mu (mL (found.map .str)))]) PassesOwn.never ⟨_, xs, [], rfl, List.Perm.refl _, rfl⟩ (fun n ρ1 ⟨left, found, e1, e2, e3⟩ => ?_) fun ρ1 ⟨found, e2, e3⟩ => ?_
  · subst e1
    subst e3
    have hsub : ∀ x ∈ left, x ∈ xs := fun x hx => e2.mem_iff.mp (List.mem_append_right _ hx)
    have hlen := e2.length_eq
    rw [List.length_append] at hlen
    refine ⟨!decide (left = []), ptis (pneD (d := .list (left.map .str)) (d' := .list []) hr.u64 (shaped_strs fun x hx => h2 x (hsub x hx)) rfl (dvb 2) (bo (nL (dlst (ds := []) pa0)))) ?_, fun hb => ?_, fun hb => ?_⟩
    · rw [eqv_nil]
      simp
    · have hb : left = [] := Classical.byContradiction fun z => by rw [decide_eq_false z] at hb; cases hb
      subst hb
      rw [List.append_nil] at e2
      exact ⟨found, e2, rfl⟩
    · have hb : left ≠ [] := fun z => by rw [z] at hb; cases hb
      have lp : 0 < left.length := List.length_pos_iff.mpr hb
      have el : (left.map PyData.str).length = left.length := List.length_map _
      refine spop 3 2 (by decide) (us := left.map .str) (exM (q := (· < left.length)) (dclQ 0 hr C80 left.length ⟨lp, by omega⟩ (pac (dis (dlen V.bi (ds := left.map .str) sqL (dvm 2)) (by rw [el])) pa0)) fun k hk => by rw [el]; exact hk) (fun k hk => ?_) ?_ ?_
      · rw [el] at hk
        refine ⟨(left.eraseIdx k).length, ?_, left.eraseIdx k, found ++ [left[k]], rfl, ?_, ?_⟩
        · rw [List.length_eraseIdx_of_lt hk]
          omega
        · refine List.Perm.trans ?_ e2
          rw [List.append_assoc]
          refine List.Perm.append_left _ ?_
          exact perm_erase left k hk
        · have e5 : (left.map PyData.str).eraseIdx k = (left.eraseIdx k).map .str := erase_map _ _ _
          have e6 : (left.map PyData.str)[k]'(by rw [el]; exact hk) = .str left[k] := by rw [List.getElem_map]
          rw [e5, e6, List.map_append]
          rfl
      · rw [List.length_map]
        omega
      · rw [el]
        omega
  · subst e3
    exact sfrz 3 rfl (frzL _) (sret (t := Ty.ex (fun ys : List Str => ys.Perm xs) fun ys => Dt (.list (ys.map .str))) (exO found (dv 3) e2) rfl)
end
end Kb
end TWz
section TXa
set_option Elab.async false
set_option autoImplicit false
set_option linter.all false
set_option maxRecDepth 100000
set_option maxHeartbeats 4000000
/-! Xa: names are drawn. -/
namespace Kb
open PySem PySem.Spec PyProof.Rows L2 PySem.W
section
variable {P : Program} {w : World} {K : PySem.W.Frag} {mg : Str → Option Value} {base : Heap} {tb : Addr}
theorem disL {X : Cx} {Z : Zn} {ρ : En} {e : Expr} {ds ds' : List PyData} (h : PE X e (tN Z ρ (mL ds))) (e' : ds = ds') : PE X e (tN Z ρ (mL ds')) := e' ▸ h
def one (c : Nat) : Str := ⟨#[c]⟩
theorem ltr_ix (k : Nat) : atI letters.cps.toList (((k % 26 : Nat) : Int)) = some (ltr k) := atI_nat (ltr_at k)
abbrev q83 (Z : Zn) : Sp := spQ Z (fun n : Nat => [Dt (.int (n : Int))]) (fun n => n ≤ 40) fun n => Ty.ex (fun xs : List Str => xs.length = n ∧ xs.Nodup ∧ ∀ x ∈ xs, Nm x) fun xs => Dt (.list (xs.map .str))
theorem word_of {ds : List PyData} (h : ∀ d ∈ ds, ∃ c ∈ lts, d = .str (one c)) : ∃ cs : List Nat, ds = (cs.map one).map .str ∧ ∀ c ∈ cs, c ∈ lts := by
  induction ds with
  | nil => exact ⟨[], rfl, fun c h => by cases h⟩
  | cons d ds ih =>
    obtain ⟨cs, e, hc⟩ := ih fun d hd => h d (List.mem_cons_of_mem _ hd)
    obtain ⟨c, h1, rfl⟩ := h d List.mem_cons_self
    refine ⟨c :: cs, by rw [e]; rfl, fun x hx => ?_⟩
    rcases List.mem_cons.mp hx with z | z
    · rw [z]; exact h1
    · exact hc x z
theorem one_inj : ∀ {a b : List Nat}, a.map one = b.map one → a = b
  | [], [], _ => rfl
  | x :: a, y :: b, h => by
    have h1 := (List.cons.inj h).1
    have h2 := one_inj (List.cons.inj h).2
    have h3 : x = y := by
      have := congrArg (fun z : Str => z.cps.toList) h1
      exact (List.cons.inj this).1
    rw [h3, h2]
  | [], _ :: _, h => by cases h
  | _ :: _, [], h => by cases h
theorem str_inj : ∀ {a b : List Str}, a.map PyData.str = b.map PyData.str → a = b
  | [], [], _ => rfl
  | x :: a, y :: b, h => by
    have h1 := PyData.str.inj (List.cons.inj h).1
    rw [h1, str_inj (List.cons.inj h).2]
  | [], _ :: _, h => by cases h
  | _ :: _, [], h => by cases h
theorem set_one (cs : List Nat) (k c : Nat) : ((cs.map one).map PyData.str).set k (.str (one c)) = ((cs.set k c).map one).map .str := by
  rw [List.map_set, List.map_set]
theorem ok83 (V : Gv mg) (D : Dn K mg "_law_names" s83 ["_law_deal_here", "_law_many"]) (C80 : Okd P w K mg base "_law_any" 1 (q80 ⟨tb, lamN, none⟩)) (C81 : Okd P w K mg base "_law_of" 2 (q81 ⟨tb, lamN, none⟩)) (C81s : Okd P w K mg base "_law_of" 2 (q81s ⟨tb, lamN, none⟩)) : Okd P w K mg base "_law_names" 3 (q83 ⟨tb, lamN, none⟩) := by
  refine okQ D c83 (fun _ => rfl) (by decide) fun f cdv A outer s H E many F0 G q l hr hp => ?_
  have hp : many ≤ 40 := hp
  refine sset (t := Dt (.str letters)) 2 c83.nd dstr ?_
  refine sset (t := tyN fun L => 1 ≤ L ∧ L ≤ 8 ∧ (26 < many → 2 ≤ L)) 3 c83.nd (dife (ple (dv 1) dint) (fun hb => exM (q := fun m => ∃ k, k < 8 ∧ m = 1 + k) (daddX 1 dint (dclQ 0 hr C80 8 ⟨by decide, by decide⟩ (pac dint pa0))) fun m ⟨k, h1, h2⟩ => ⟨by omega, by omega, fun c => by have := of_decide_eq_true hb.symm; omega⟩) (fun hb => exM (q := fun m => ∃ k, k < 7 ∧ m = 2 + k) (daddX 2 dint (dclQ 0 hr C80 7 ⟨by decide, by decide⟩ (pac dint pa0))) fun m ⟨k, h1, h2⟩ => ⟨by omega, by omega, fun c => by omega⟩)) ?_
  refine sopen 3 rfl fun L ⟨l1, l8, l2⟩ => ?_
  refine spar3 4 5 6 rfl c83.nd (kav (t := tyN (· < L)) (dclQ 0 hr C80 L ⟨by omega, by omega⟩ (pac (dv 3) pa0)) (kav (t := tyN (· < 26)) (dclQ 0 hr C80 26 ⟨by decide, by decide⟩ (pac dint pa0)) (kav (t := tyN (· ∈ [1, 3, 5, 7, 9, 11])) (exN (ns := [1, 3, 5, 7, 9, 11]) (dclQ 0 hr C81 (· = iL [1, 3, 5, 7, 9, 11]) (fun ds e => by subst e; exact ⟨by decide, by decide⟩) (pac (exO (iL [1, 3, 5, 7, 9, 11]) (nL (dlst (ds := iL [1, 3, 5, 7, 9, 11]) (pac dint (pac dint (pac dint (pac dint (pac dint (pac dint pa0)))))) (by decide))) rfl) pa0))) ka0))) ?_
  refine sopen 4 rfl fun pl hpl => sopen 5 rfl fun first hfirst => sopen 6 rfl fun step hstep => ?_
  refine spar2 7 8 rfl c83.nd (kav (t := Ty.ex (fun acc : List PyData => acc.length = L ∧ ∀ d ∈ acc, ∃ c ∈ lts, d = .str (one c)) fun acc => Dt (.list acc)) (neX _ (lcE (LcOk.imp (dlcJ (own := [("_law_turn", 9)]) (xs := List.range L) (enc := fun (i : Nat) => Dt (.int (i : Int))) (pb := fun _ b => b = true) (qd := fun _ d => ∃ c ∈ lts, d = .str (one c)) (fun pre acc => acc.length = pre.length ∧ ∀ d ∈ acc, ∃ c ∈ lts, d = .str (one c)) rfl c83.nd
      (itRn V.bi (dv 3) (by omega) (by omega)) (blkOk_by (N := n83) (sc := defScope s83) (by decide +kernel)) (fun _ _ _ _ _ i _ => gn 9 c83.nd) (fun _ _ _ _ _ i _ => pt0) (fun _ _ _ _ _ i _ _ => od.imp (w := (Ty.ex (· ∈ letters.cps.toList) fun c => Dt (.str ⟨#[c]⟩)).od) (w' := (Ty.ex (fun d => ∃ c ∈ lts, d = .str (one c)) Dt).od) (fun F H v fh zo ⟨c, h1, h2⟩ => ⟨.str (one c), ⟨c, h1, rfl⟩, h2⟩) (dclQ 0 hr C81s letters ⟨by decide +kernel, by decide +kernel⟩ (pac (dv 2) pa0)))
      ⟨rfl, fun d h => by cases h⟩ (fun pre i acc _ h => by cases h) (fun pre i acc d _ _ hd ⟨h1, h2⟩ => ⟨by rw [List.length_append, List.length_append, h1]; rfl, fun d' hd' => by
        rcases List.mem_append.mp hd' with z | z
        · exact h2 d' z
        · rw [List.mem_singleton.mp z]; exact hd⟩) (by rw [List.length_range]; omega)) fun acc ⟨h1, h2⟩ => ⟨by rw [h1, List.length_range], h2⟩))) (kan (dlst (ds := []) pa0) ka0 (by simp))) ?_
  refine sopen 7 rfl fun acc ⟨al, ac⟩ => ?_
  obtain ⟨cs, rfl, hcs⟩ := word_of ac
  have csl : cs.length = L := by
    rw [List.length_map, List.length_map] at al
    exact al
  have eo : ((pl : Int) + 1) % (L : Int) = (((pl + 1) % L : Nat) : Int) := by rw [Int.natCast_emod, Int.natCast_add]; rfl
  refine sset (t := Dt (.int (((pl + 1) % L : Nat) : Int))) 10 c83.nd (dis (dmod (dintc V.bi (dadd (dv 4) dint)) (dv 3) (by omega)) (congrArg PyData.int eo)) ?_
  have ho : 26 < many → (pl + 1) % L < L ∧ (pl + 1) % L ≠ pl := fun c => by
    have := l2 c
    refine ⟨Nat.mod_lt _ (by omega), fun z => ?_⟩
    have hpl : pl < L := hpl
    by_cases k : pl + 1 = L
    · rw [k, Nat.mod_self] at z
      omega
    · rw [Nat.mod_eq_of_lt (by omega)] at z
      omega
  refine sforN (xs := List.range many) (enc := fun (i : Nat) => Dt (.int (i : Int))) (fun pre ρ1 => ∃ xs : List Str, xs.length = pre.length ∧ (∀ (i : Nat) (x : Str), xs[i]? = some x → NameAt many pl ((pl + 1) % L) first step i x) ∧ ∃ x11 x12, ρ1 = [some .dl, some (.im (Dt (.int (many : Int)))), some (.im (Dt (.str letters))), some (.im (Dt (.int (L : Int)))), some (.im (Dt (.int (pl : Int)))), some (.im (Dt (.int (first : Int)))), some (.im (Dt (.int (step : Int)))), some (.im (Dt (.list ((cs.map one).map .str)))), some (.mu (mL (xs.map .str))), none, some (.im (Dt (.int (((pl + 1) % L : Nat) : Int)))), x11, x12])
    PassesOwn.never rfl (itRn V.bi (dv 1) (by omega) (by omega)) ⟨[], rfl, fun i x h => (by simp at h), _, _, rfl⟩ (fun pre at_ post ρ1 hx ⟨xs, xl, xn, x11, x12, e⟩ => ?_) fun ρ1 ⟨xs, xl, xn, x11, x12, e⟩ => ?_
  · subst e
    have hat : at_ = pre.length ∧ at_ < many := by
      have h1 : (List.range many)[pre.length]? = some at_ := by rw [hx]; simp
      obtain ⟨h2, h3⟩ := List.getElem?_eq_some_iff.mp h1
      rw [List.getElem_range] at h3
      rw [List.length_range] at h2
      omega
    obtain ⟨ha1, ha2⟩ := hat
    have stepb : step ≤ 11 := by
      have hstep : step ∈ [1, 3, 5, 7, 9, 11] := hstep
      simp only [List.mem_cons, List.not_mem_nil, or_false] at hstep
      omega
    refine ⟨_, gn 11 c83.nd, ?_⟩
    have e1 : cutA ((cs.map one).map PyData.str) none (some (L : Int)) = (cs.map one).map .str := by
      rw [cutA_to _ (by omega)]
      have : (L : Int).toNat = ((cs.map one).map PyData.str).length := by rw [List.length_map, List.length_map, csl]; rfl
      rw [this, List.take_length]
    refine ssetN (m := mL ((cs.map one).map .str)) 12 c83.nd (disL (dslL (vL (dv 7)) po0 (po1 (dv 3))) e1) ?_
    refine sif (Ψ := ⟨fun ρ' => ρ' = [some .dl, some (.im (Dt (.int (many : Int)))), some (.im (Dt (.str letters))), some (.im (Dt (.int (L : Int)))), some (.im (Dt (.int (pl : Int)))), some (.im (Dt (.int (first : Int)))), some (.im (Dt (.int (step : Int)))), some (.im (Dt (.list ((cs.map one).map .str)))), some (.mu (mL (xs.map .str))), none, some (.im (Dt (.int (((pl + 1) % L : Nat) : Int)))), some (.im (Dt (.int (at_ : Int)))), some (.mu (mL (((if 26 < many then cs.set ((pl + 1) % L) (ltr (first + at_ / 26)) else cs).map one).map .str)))], _, _, _⟩)
      (pgt (dv 1) dint) (fun hb => ?_) (fun hb => ?_) fun ρ' e => ?_
    · have hb : 26 < many := by have := of_decide_eq_true hb.symm; omega
      have e2 : ((first : Int) + (at_ : Int) / 26) % 26 = (((first + at_ / 26) % 26 : Nat) : Int) := by omega
      refine ssetL 12 (d := .str (one (ltr (first + at_ / 26)))) (n := (pl + 1) % L) (dixS (dv 2) (dis (dmod (dintc V.bi (dadd (dv 5) (ddiv (dv 11) dint ⟨by decide, by decide⟩))) dint (by decide)) (congrArg PyData.int e2)) (by decide +kernel) (ltr_ix _)) (dv 10) ?_ (s0 ?_)
      · rw [List.length_map, List.length_map, csl]
        exact (ho hb).1
      · rw [set_one, if_pos hb]
        rfl
    · have hb : ¬ 26 < many := fun z => by have := of_decide_eq_false hb.symm; omega
      refine s0 ?_
      rw [if_neg hb]
      rfl
    · subst e
      have e2 : ((first : Int) + (step : Int) * (at_ : Int)) % 26 = (((first + step * at_) % 26 : Nat) : Int) := by
        rw [Int.natCast_emod, Int.natCast_add, Int.natCast_mul]
        rfl
      refine ssetL 12 (d := .str (one (ltr (first + step * at_)))) (n := pl) (dixS (dv 2) (dis (dmod (dintc V.bi (dadd (dv 5) (dmul (dv 6) (dv 11) (.inl ⟨by omega, by omega⟩)))) dint (by decide)) (congrArg PyData.int e2)) (by decide +kernel) (ltr_ix _)) (dv 4) ?_ ?_
      · rw [List.length_map, List.length_map]
        have hpl : pl < L := hpl
        by_cases c : 26 < many
        · rw [if_pos c, List.length_set, csl]; exact hpl
        · rw [if_neg c, csl]; exact hpl
      rw [set_one]
      have e4 : ((if 26 < many then cs.set ((pl + 1) % L) (ltr (first + at_ / 26)) else cs).set pl (ltr (first + step * at_))) = signs many pl ((pl + 1) % L) first step at_ cs := rfl
      rw [e4]
      have sl : (signs many pl ((pl + 1) % L) first step at_ cs).length = L := by rw [signs_len, csl]
      have e5 : cutA (((signs many pl ((pl + 1) % L) first step at_ cs).map one).map PyData.str) none (some ((pl : Int) + 1)) = (((signs many pl ((pl + 1) % L) first step at_ cs).take (pl + 1)).map one).map .str := by
        rw [cutA_to _ (by omega)]
        have : ((pl : Int) + 1).toNat = pl + 1 := by omega
        rw [this, List.map_take, List.map_take]
      refine sappX 8 (q := fun z : Str => ∃ ys : List Str, (∃ ws : List Nat, ys.map PyData.str = (ws.map one).map .str ∧ (ws = signs many pl ((pl + 1) % L) first step at_ cs ∨ (¬ 26 < many ∧ ws = (signs many pl ((pl + 1) % L) first step at_ cs).take (pl + 1)))) ∧ z = Txt.join "" ys) (g := PyData.str) (djoinX (q := fun ds => ∃ ws : List Nat, ds = (ws.map one).map .str ∧ (ws = signs many pl ((pl + 1) % L) first step at_ cs ∨ (¬ 26 < many ∧ ws = (signs many pl ((pl + 1) % L) first step at_ cs).take (pl + 1)))) dstr
        (dife (p := fun b => 26 < many → b = true) (ppt (pworX (k := decide ((26 : Int) < (many : Int))) (pgt (dv 1) dint) (fun hk => pwor1X (PT.imp (pgtX (dclQ 0 hr C80 3 ⟨by decide, by decide⟩ (pac dint pa0)) dint) fun σ H Q ⟨F0, G, F, s, k⟩ => ⟨F0, G, F, s, fun c F' H' g _ => k c F' H' g fun z => absurd (of_decide_eq_false hk) (by omega)⟩)) (fun _ _ => rfl)))
          (fun _ => toLx (dvm 12) ⟨_, rfl, .inl rfl⟩) (fun hb => toLx (nV (dslL (dvm 12) po0 (po1 (dadd (dv 4) dint)))) ⟨_, e5, .inr ⟨(fun z => by cases hb z), rfl⟩⟩)) ?_) (fun z ⟨ys, ⟨ws, e6, hw⟩, ez⟩ => s0 ?_) ?_
      · rintro ds ⟨ws, rfl, hw⟩
        refine ⟨ws.map one, rfl, ?_⟩
        have wl : ws.length ≤ 8 := by
          rcases hw with z | ⟨_, z⟩
          · rw [z, sl]; exact l8
          · rw [z, List.length_take, sl]; omega
        have e7 : ((ws.map one).map fun x => x.length) = ws.map fun _ => 1 := by
          rw [List.map_map]
          rfl
        have e8 : ∀ ws : List Nat, (ws.map fun _ => 1).sum = ws.length := fun ws => by
          induction ws with
          | nil => rfl
          | cons a b ih => rw [List.map_cons, List.sum_cons, ih, List.length_cons]; omega
        have e9 : ("" : Str).length = 0 := by decide +kernel
        rw [e7, e8, e9, List.length_map]
        omega
      · have hys : ys = ws.map one := str_inj e6
        have ez2 : z = mkS ws := by rw [ez, hys]; exact join_one ws
        have e10 : xs.map PyData.str ++ [.str z] = (xs ++ [z]).map .str := by rw [List.map_append]; rfl
        refine ⟨xs ++ [z], by rw [List.length_append, List.length_append, xl]; rfl, fun i x hi => ?_, ?_⟩
        · by_cases hlt : i < xs.length
          · rw [List.getElem?_append_left hlt] at hi
            exact xn i x hi
          · rw [List.getElem?_append_right (by omega)] at hi
            have hi0 : i - xs.length = 0 := by
              cases hk : i - xs.length with
              | zero => rfl
              | succ k => rw [hk] at hi; simp at hi
            rw [hi0] at hi
            cases hi
            have ei : i = at_ := by omega
            rw [ei, ez2]
            exact name_ok csl l8 hpl ho hcs hw
        · rw [e10]
          exact ⟨_, _, rfl⟩
      · rw [List.length_map, xl]
        omega
  · subst e
    rw [List.length_range] at xl
    refine sfrz 8 rfl (frzL _) (sret (t := Ty.ex (fun xs : List Str => xs.length = many ∧ xs.Nodup ∧ ∀ x ∈ xs, Nm x) fun xs => Dt (.list (xs.map .str))) (exO xs (dv 8) ⟨xl, names_nodup hstep hp xl xn, fun x hx => ?_⟩) rfl)
    obtain ⟨i, hi⟩ := List.getElem?_of_mem hx
    exact (xn i x hi).nm
end
end Kb
end TXa
section TXb
set_option Elab.async false
set_option autoImplicit false
set_option linter.all false
set_option maxRecDepth 100000
set_option maxHeartbeats 4000000
/-! Xb: notes are drawn. -/
namespace Kb
open PySem PySem.Spec PyProof.Rows L2 PySem.W
section
variable {X : Cx} {Z : Zn} {ρ : En} {e a b : Expr} {pos : Pos} {ds : List PyData}
/-- a list that is one of several -/
theorem exLx {α : Type} {q : α → Prop} {q' : List PyData → Prop} {g : α → List PyData} (h : PE X e (tO Z ρ (Ty.ex q fun x => Dt (.list (g x))).od)) (k : ∀ x, q x → q' (g x)) : PE X e (tO Z ρ (mLx q')) :=
  od.imp (w := (Ty.ex q fun x => Dt (.list (g x))).od) (w' := mLx q') (fun F H v fh zo ⟨x, h1, r⟩ => ⟨g x, k x h1, by
    cases (show Rp F v _ from r) with
    | lst h1 h2 => exact ⟨_, _, rfl, fh _ _ h1, ⟨_, rfl, h2⟩, fun z => by rw [zo _ z] at h1; cases h1⟩⟩) h
/-- xs + ys, ys one of several -/
theorem dcatLX {q : List PyData → Prop} (ha : PE X a (tO Z ρ (mL ds).od)) (hb : PE X b (tO Z ρ (mLx q))) (hz : ∀ us, q us → ds.length + us.length ≤ 100000) : PE X (.BinOp a .Add b pos) (tO Z ρ (Ty.ex (fun es : List PyData => ∃ us, q us ∧ es = ds ++ us) fun es => Dt (.list es)).od) :=
  (pe_op op_cat ha hb).imp (imp2 fun F0 G F H σ x y Q s h1 h2 k => by
    obtain ⟨us', hus, h2⟩ := h2
    obtain ⟨p, us, rfl, h3, h4⟩ := mL_at h1
    obtain ⟨q, ws, rfl, h5, h6⟩ := mL_at h2
    refine ⟨p, q, us, ws, rfl, rfl, h3, h5, small (by rw [h4.len, h6.len]; exact hz _ hus), fun l hl => ?_⟩
    exact k (.ref l) (upd F l (.lst (us ++ ws))) _ (Go.put s.fh s.zk hl) ⟨_, ⟨us', hus, rfl⟩, .lst upd_same (RpL.mono (same_new (s.fh.free hl)) _ _ (h4.app h6))⟩)
end
/-- the drawn notes -/
structure NtsOk (hs xs : List Str) (ns : List Nt) : Prop where
  nm : names ns = xs
  hd : ∀ n ∈ ns, n.hd ∈ hs
  ws : ∀ pre n post, ns = pre ++ n :: post → Lot n.ws ∧ ∀ o ∈ n.ws, o ∈ names pre
  all : ∀ h ∈ hs, ∃ n ∈ ns, n.hd = h
section
variable {P : Program} {w : World} {K : PySem.W.Frag} {mg : Str → Option Value} {base : Heap} {tb : Addr}
abbrev q84 (Z : Zn) : Sp := spQ Z (fun a : List Str × List Str => [Dt (.list (a.1.map .str)), Dt (.list (a.2.map .str))]) (fun a => 2 ≤ a.1.length ∧ a.1.length ≤ 6 ∧ SOk a.1 ∧ a.1.length ≤ a.2.length ∧ a.2.length ≤ 40 ∧ a.2.Nodup ∧ ∀ x ∈ a.2, Nm x) fun a => Ty.ex (NtsOk a.1 a.2) fun ns => Dt (.list (ns.map eN))
theorem srt_lot {ws : List Str} (nd : ws.Nodup) (hn : ∀ x ∈ ws, Nm x) (hl : ws.length ≤ 100) : Lot (srt ws) :=
  ⟨fun x hx => hn x ((mem_sortB PyData.str).mp hx), sortB_lt (fun a b => toks_str) nd, by
    have : (srt ws).length = ws.length := len_sortB PyData.str ws
    omega⟩
theorem ok84 (V : Gv mg) (D : Dn K mg "_law_notes" s84 ["_law_deal_here", "_law_hands", "_law_names_here"]) (C80 : Okd P w K mg base "_law_any" 1 (q80 ⟨tb, lamN, none⟩)) (C81 : Okd P w K mg base "_law_of" 2 (q81 ⟨tb, lamN, none⟩)) (C82 : Okd P w K mg base "_law_mixed" 2 (q82 ⟨tb, lamN, none⟩)) : Okd P w K mg base "_law_notes" 3 (q84 ⟨tb, lamN, none⟩) := by
  refine okQ D c84 (fun _ => rfl) (by decide) fun f cdv A outer s H E a F0 G q l hr hp => ?_
  obtain ⟨hs, xs⟩ := a
  obtain ⟨p1, p2, p3, p4, p5, p6, p7⟩ := hp
  have p1 : 2 ≤ hs.length := p1
  have p2 : hs.length ≤ 6 := p2
  have p3 : SOk hs := p3
  have p4 : hs.length ≤ xs.length := p4
  have p5 : xs.length ≤ 40 := p5
  have p6 : xs.Nodup := p6
  have p7 : ∀ x ∈ xs, Nm x := p7
  have hne : hs ≠ [] := fun z => by rw [z] at p1; simp at p1
  refine spar [3, 4, 5, 6] (ks := [.v (Dt (.int (hs.length : Int))), .v (tyN (· ∈ [0, 0, 1, 1, 2, 3])), .v (Dt (.list (([] : List Str).map .str))), .n (mL (([] : List Nt).map eN))]) rfl
    (kav (dis (dlen V.bi (ds := hs.map .str) sqL (vL (dv 1))) (by rw [List.length_map])) (kav (exN (ns := [0, 0, 1, 1, 2, 3]) (dclQ 0 hr C81 (· = iL [0, 0, 1, 1, 2, 3]) (fun ds e => by subst e; exact ⟨by decide, by decide⟩) (pac (exO (iL [0, 0, 1, 1, 2, 3]) (nL (dlst (ds := iL [0, 0, 1, 1, 2, 3]) (pac dint (pac dint (pac dint (pac dint (pac dint (pac dint pa0)))))) (by decide))) rfl) pa0)))
      (kav (nL (dlst (ds := []) pa0)) (kan (dlst (ds := []) pa0) ka0 (by simp)))))
    (gac 3 c84.nd (gac 4 c84.nd (gac 5 c84.nd (gac 6 c84.nd ga0)))) ?_ (hz := Nat.le_of_ble_eq_true rfl)
  refine sopen 4 rfl fun kind hkind => ?_
  have dm : hs.length * (xs.length / hs.length) + xs.length % hs.length = xs.length := Nat.div_add_mod _ _
  have mlt : xs.length % hs.length < hs.length := Nat.mod_lt _ (by omega)
  have dle : xs.length / hs.length ≤ 40 := Nat.le_trans (Nat.div_le_self _ _) p5
  have ed : (1 : Int) + (xs.length : Int) / (hs.length : Int) = ((1 + xs.length / hs.length : Nat) : Int) := by
    rw [Int.natCast_add, Int.natCast_ediv]
    rfl
  refine sforN (xs := List.range (1 + xs.length / hs.length)) (enc := fun (i : Nat) => Dt (.int (i : Int))) (fun pre ρ1 => ∃ os : List Str, os.length = pre.length * hs.length ∧ (∀ o ∈ os, o ∈ hs) ∧ (pre ≠ [] → ∀ h ∈ hs, h ∈ os.take hs.length) ∧ ∃ x7 x8, ρ1 = [some .dl, some (.im (Dt (.list (hs.map .str)))), some (.im (Dt (.list (xs.map .str)))), some (.im (Dt (.int (hs.length : Int)))), some (.im (Dt (.int (kind : Int)))), some (.im (Dt (.list (os.map .str)))), some (.mu (mL (([] : List Nt).map eN))), x7, x8, none, none, none, none, none])
    PassesOwn.never rfl (itRn V.bi (dadd dint (ddiv (dis (dlen V.bi (ds := xs.map .str) sqL (vL (dv 2))) (d' := .int (xs.length : Int)) (by rw [List.length_map])) (dv 3) ⟨by omega, by omega⟩)) ⟨by rw [ed]; exact Int.le_trans (by decide) (Int.natCast_nonneg _), by rw [ed]; show ((1 + xs.length / hs.length : Nat) : Int) ≤ ((100000 : Nat) : Int); exact Int.ofNat_le.mpr (Nat.le_trans (Nat.add_le_add_left dle 1) (by decide))⟩ (by rw [ed]; rfl)) ⟨[], by simp, (fun o h => by cases h), fun h => absurd rfl h, _, _, rfl⟩ (fun pre turn post ρ1 hx ⟨os, ol, om, of, x7, x8, e⟩ => ?_) fun ρ1 ⟨os, ol, om, of, x7, x8, e⟩ => ?_
  · subst e
    have hturn : turn = pre.length := by
      have h1 : (List.range (1 + xs.length / hs.length))[pre.length]? = some turn := by rw [hx]; simp
      obtain ⟨h2, h3⟩ := List.getElem?_eq_some_iff.mp h1
      rw [List.getElem_range] at h3
      exact h3.symm
    have plt : pre.length < 1 + xs.length / hs.length := by
      have := congrArg List.length hx
      rw [List.length_range, List.length_append, List.length_cons] at this
      omega
    have ob : os.length ≤ 41 * 6 := by rw [ol]; exact Nat.mul_le_mul (by omega) p2
    refine ⟨_, gn 7 c84.nd, ?_⟩
    refine sset (t := tyB fun b => turn = 0 → b = true) 8 c84.nd (dorX (k := decide ((turn : Int) = 0)) (deqI (dv 7) dint) (fun hk => dorX (k := decide ((kind : Int) = 1)) (deqI (dv 4) dint) (fun _ => pe_one (exM (deqX (dclQ 0 hr C80 2 ⟨by decide, by decide⟩ (pac dint pa0)) dint) fun b _ z => absurd (of_decide_eq_false hk) (by omega))) fun _ _ => rfl) fun _ _ => rfl) ?_
    refine sopen 8 rfl fun fair hfair => ?_
    refine sset (t := Ty.ex (fun es : List PyData => ∃ us, (∃ ys : List Str, us = ys.map .str ∧ ys.length = hs.length ∧ (∀ y ∈ ys, y ∈ hs) ∧ (fair = true → ∀ h ∈ hs, h ∈ ys)) ∧ es = os.map .str ++ us) fun es => Dt (.list es)) 5 c84.nd
      (dcatLX (q := fun us => ∃ ys : List Str, us = ys.map .str ∧ ys.length = hs.length ∧ (∀ y ∈ ys, y ∈ hs) ∧ (fair = true → ∀ h ∈ hs, h ∈ ys)) (vL (dv 5)) (dife (p := (· = fair)) (ptv (dv 8))
        (fun _ => exLx (α := List Str) (q := fun ys => ys.Perm hs) (g := fun ys : List Str => ys.map .str) (dclQ 0 hr C82 (true, hs) ⟨show hs.length ≤ 1000 by omega, p3⟩ (pac (dv 1) pa0)) fun ys hy => ⟨ys, rfl, hy.length_eq, fun y hyy => hy.mem_iff.mp hyy, fun _ h hh => hy.mem_iff.mpr hh⟩)
        (fun hb => exLx (g := fun l => l) (neX _ (lcE (dlcJ (own := [("_law_hand", 9)]) (xs := hs) (enc := fun h => Dt (.str h)) (pb := fun _ b => b = true) (qd := fun _ d => ∃ y ∈ hs, d = .str y) (fun pre acc => ∃ ys : List Str, acc = ys.map .str ∧ ys.length = pre.length ∧ ∀ y ∈ ys, y ∈ hs) rfl c84.nd (itLs (xs := hs) (f := PyData.str) (dv 1)) (blkOk_by (N := n84) (sc := defScope s84) (by decide +kernel))
          (fun _ _ _ _ _ x _ => gn 9 c84.nd) (fun _ _ _ _ _ x _ => pt0) (fun _ _ _ _ _ x _ _ => ?_)
          ⟨[], rfl, rfl, fun y h => by cases h⟩ (fun pre i acc _ h => by cases h) (fun pre i acc d _ _ ⟨y, h1, h2⟩ ⟨ys, h3, h4, h5⟩ => ⟨ys ++ [y], by rw [h3, h2, List.map_append]; rfl, by rw [List.length_append, List.length_append, h4]; rfl, fun z hz => by
            rcases List.mem_append.mp hz with k | k
            · exact h5 z k
            · rw [List.mem_singleton.mp k]; exact h1⟩) (by omega)))) fun acc ⟨ys, h1, h2, h3⟩ => ⟨ys, h1, h2, h3, fun z => by rw [← hb] at z; cases z⟩)) ?_) ?_
    · refine od.imp (w := (Ty.ex (· ∈ hs) fun x => Dt (.str x)).od) (w' := (Ty.ex (fun d => ∃ y ∈ hs, d = .str y) Dt).od) (fun F H v fh zo ⟨y, h1, h2⟩ => ⟨.str y, ⟨y, h1, rfl⟩, h2⟩) ?_
      refine exT (xs := hs) ?_
      exact dclQ 0 hr C81 (· = hs.map PyData.str) (fun ds e => by subst e; exact ⟨fun z => hne (List.map_eq_nil_iff.mp z), by rw [List.length_map]; omega⟩) (pac (exO (t := fun ds : List PyData => Dt (.list ds)) (hs.map PyData.str) (dv 1) rfl) pa0)
    · rintro us ⟨ys, rfl, h1, h2, h3⟩
      rw [List.length_map, List.length_map, h1]
      omega
    refine sopen 5 rfl fun es ⟨us, ⟨ys, h1, h2, h3, h4⟩, h5⟩ => s0 ⟨os ++ ys, ?_, fun o ho => ?_, fun _ h hh => ?_, ?_⟩
    · rw [List.length_append, List.length_append, ol, h2, List.length_singleton, Nat.succ_mul]
    · rcases List.mem_append.mp ho with k | k
      · exact om o k
      · exact h3 o k
    · by_cases hz : pre = []
      · have o0 : os = [] := List.eq_nil_of_length_eq_zero (by rw [ol, hz]; simp)
        rw [o0, List.nil_append, ← h2, List.take_length]
        exact h4 (hfair (by rw [hturn, hz]; rfl)) h hh
      · have h6 := of hz h hh
        have h7 : hs.length ≤ os.length := by
          rw [ol]
          have : 1 ≤ pre.length := List.length_pos_iff.mpr hz
          calc hs.length = 1 * hs.length := (Nat.one_mul _).symm
            _ ≤ pre.length * hs.length := Nat.mul_le_mul this (Nat.le_refl _)
        rw [List.take_append_of_le_length h7]
        exact h6
    · rw [h5, h1, ← List.map_append]
      exact ⟨_, _, rfl⟩
  subst e
  rw [List.length_range] at ol
  have of := of (fun z => by have := congrArg List.length z; rw [List.length_range] at this; simp at this)
  have oll : xs.length < os.length := by
    rw [ol, Nat.add_mul, Nat.one_mul, Nat.mul_comm (xs.length / hs.length)]
    omega
  have osb : os.length ≤ 41 * 6 := by rw [ol]; exact Nat.mul_le_mul (by omega) p2
  refine sforN (xs := xs.zipIdx) (fun pre ρ1 => ∃ ns : List Nt, names ns = pre.map (·.1) ∧ (∀ (i : Nat) (n : Nt), ns[i]? = some n → os[i]? = some n.hd) ∧ (∀ p' n q', ns = p' ++ n :: q' → Lot n.ws ∧ ∀ o ∈ n.ws, o ∈ names p') ∧ ∃ x10 x11 x12, ρ1 = [some .dl, some (.im (Dt (.list (hs.map .str)))), some (.im (Dt (.list (xs.map .str)))), some (.im (Dt (.int (hs.length : Int)))), some (.im (Dt (.int (kind : Int)))), some (.im (Dt (.list (os.map .str)))), some (.mu (mL (ns.map eN))), x7, x8, none, x10, x11, x12, none])
    PassesOwn.never rfl (itEs V.bi (f := PyData.str) (xs := xs) (dv 2)) ⟨[], rfl, fun i n h => (by simp at h), fun p' n q' h => (by simp at h), _, _, _, rfl⟩ (fun pre x post ρ1 hx ⟨ns, n1, n2, n3, x10, x11, x12, e⟩ => ?_) fun ρ1 ⟨ns, n1, n2, n3, x10, x11, x12, e⟩ => ?_
  · subst e
    obtain ⟨x, at_⟩ := x
    obtain ⟨z1, z2⟩ := zipIdx_split hx
    have z2 : at_ = (pre.map (·.1)).length := by rw [List.length_map]; exact z2
    rw [List.map_append]
    generalize pre.map (·.1) = pr at z1 z2 n1 ⊢
    generalize post.map (·.1) = po at z1
    have atl : at_ < xs.length := by
      have := congrArg List.length z1
      rw [List.length_append, List.length_cons] at this
      omega
    have tk : xs.take at_ = pr := by rw [z1, z2, List.take_left]
    have prn : pr.Nodup := by
      rw [z1] at p6
      exact (List.nodup_append.mp p6).1
    have prm : ∀ y ∈ pr, y ∈ xs := fun y hy => by rw [z1]; exact List.mem_append_left _ hy
    have e1 : cutA (xs.map PyData.str) none (some (at_ : Int)) = pr.map .str := by rw [cutA_tk, tk]
    refine ⟨_, gt rfl (gsc (gn 10 c84.nd) (gsc (gn 11 c84.nd) gs0)), ?_⟩
    refine sset (t := Dt (.list (pr.map .str))) 12 c84.nd (dis (nL (dslL (vL (dv 2)) po0 (po1 (dv 10)))) (congrArg PyData.list e1)) ?_
    have one_ : ∀ (pb : Expr → Prop), True := fun _ => trivial
    refine sif (Ψ := ⟨fun ρ' => ∃ ws : List Str, ws.Sublist pr ∧ ρ' = [some .dl, some (.im (Dt (.list (hs.map .str)))), some (.im (Dt (.list (xs.map .str)))), some (.im (Dt (.int (hs.length : Int)))), some (.im (Dt (.int (kind : Int)))), some (.im (Dt (.list (os.map .str)))), some (.mu (mL (ns.map eN))), x7, x8, none, some (.im (Dt (.int (at_ : Int)))), some (.im (Dt (.str x))), some (.im (Dt (.list (ws.map .str)))), none], _, _, _⟩)
      (peqI (dv 4) dint) (fun _ => ?_) (fun _ => ?_) fun ρ' ⟨ws, hws, e⟩ => ?_
    · have e2 : (hs.length : Int) * ((at_ : Int) / (hs.length : Int)) = ((hs.length * (at_ / hs.length) : Nat) : Int) := by
        rw [Int.natCast_mul, Int.natCast_ediv]
      have e3 : cutA (xs.map PyData.str) none (some ((hs.length : Int) * ((at_ : Int) / (hs.length : Int)))) = (pr.take (hs.length * (at_ / hs.length))).map .str := by
        rw [e2, cutA_tk]
        have : hs.length * (at_ / hs.length) ≤ at_ := Nat.mul_div_le _ _
        rw [← tk, List.take_take, Nat.min_eq_left this]
      exact sset (t := Dt (.list ((pr.take (hs.length * (at_ / hs.length))).map .str))) 12 c84.nd (dis (nL (dslL (vL (dv 2)) po0 (po1 (dmul (dv 3) (ddiv (dv 10) (dv 3) ⟨by omega, by omega⟩) (.inl ⟨by omega, by omega⟩))))) (congrArg PyData.list e3)) (s0 ⟨_, List.take_sublist _ _, rfl⟩)
    · refine sif (Ψ := ⟨fun ρ' => ∃ ws : List Str, ws.Sublist pr ∧ ρ' = [some .dl, some (.im (Dt (.list (hs.map .str)))), some (.im (Dt (.list (xs.map .str)))), some (.im (Dt (.int (hs.length : Int)))), some (.im (Dt (.int (kind : Int)))), some (.im (Dt (.list (os.map .str)))), some (.mu (mL (ns.map eN))), x7, x8, none, some (.im (Dt (.int (at_ : Int)))), some (.im (Dt (.str x))), some (.im (Dt (.list (ws.map .str)))), none], _, _, _⟩)
        (peqI (dv 4) dint) (fun _ => ?_) (fun _ => ?_) fun ρ' h => s0 h
      · refine ssetLc 12 (own := [("_law_one", 13)]) (dlcJ (xs := pr) (enc := fun h => Dt (.str h)) (pb := fun _ _ => True) (qd := fun y d => d = .str y) (fun pre acc => ∃ ws : List Str, acc = ws.map .str ∧ ws.Sublist pre) rfl c84.nd (itLs (xs := pr) (f := PyData.str) (dis (nL (dslL (vL (dv 2)) po0 (po1 (dv 10)))) (congrArg PyData.list e1))) (blkOk_by (N := n84) (sc := defScope s84) (by decide +kernel))
          (fun _ _ _ _ _ y _ => gn 13 c84.nd) (fun _ _ _ _ _ y _ => pt1 (peqX (dclQ 0 hr C80 3 ⟨by decide, by decide⟩ (pac dint pa0)) dint)) (fun _ _ _ _ _ y _ _ => od_ex (dv 13) rfl)
          ⟨[], rfl, List.Sublist.refl _⟩ (fun pre y acc _ _ ⟨ws, h1, h2⟩ => ⟨ws, h1, h2.trans (List.sublist_append_left _ _)⟩) (fun pre y acc d _ _ hd ⟨ws, h1, h2⟩ => ⟨ws ++ [y], by rw [h1, hd, List.map_append]; rfl, h2.append (List.Sublist.refl _)⟩) (by have := congrArg List.length z1; rw [List.length_append] at this; omega)) (fun acc ⟨ws, ha, hw⟩ => s0 ⟨ws, hw, ?_⟩)
        subst ha
        rfl
      · refine sif (Ψ := ⟨fun ρ' => ∃ ws : List Str, ws.Sublist pr ∧ ρ' = [some .dl, some (.im (Dt (.list (hs.map .str)))), some (.im (Dt (.list (xs.map .str)))), some (.im (Dt (.int (hs.length : Int)))), some (.im (Dt (.int (kind : Int)))), some (.im (Dt (.list (os.map .str)))), some (.mu (mL (ns.map eN))), x7, x8, none, some (.im (Dt (.int (at_ : Int)))), some (.im (Dt (.str x))), some (.im (Dt (.list (ws.map .str)))), none], _, _, _⟩)
          (peqI (dv 4) dint) (fun _ => ?_) (fun _ => s0 ⟨_, List.Sublist.refl _, rfl⟩) fun ρ' h => s0 h
        refine ssetLc 12 (own := [("_law_one", 13)]) (dlcJ (xs := pr) (enc := fun h => Dt (.str h)) (pb := fun _ _ => True) (qd := fun y d => d = .str y) (fun pre acc => ∃ ws : List Str, acc = ws.map .str ∧ ws.Sublist pre) rfl c84.nd (itLs (xs := pr) (f := PyData.str) (dis (nL (dslL (vL (dv 2)) po0 (po1 (dv 10)))) (congrArg PyData.list e1))) (blkOk_by (N := n84) (sc := defScope s84) (by decide +kernel))
          (fun _ _ _ _ _ y _ => gn 13 c84.nd) (fun _ _ _ _ _ y _ => pt1 (pgtX (dclQ 0 hr C80 6 ⟨by decide, by decide⟩ (pac dint pa0)) dint)) (fun _ _ _ _ _ y _ _ => od_ex (dv 13) rfl)
          ⟨[], rfl, List.Sublist.refl _⟩ (fun pre y acc _ _ ⟨ws, h1, h2⟩ => ⟨ws, h1, h2.trans (List.sublist_append_left _ _)⟩) (fun pre y acc d _ _ hd ⟨ws, h1, h2⟩ => ⟨ws ++ [y], by rw [h1, hd, List.map_append]; rfl, h2.append (List.Sublist.refl _)⟩) (by have := congrArg List.length z1; rw [List.length_append] at this; omega)) (fun acc ⟨ws, ha, hw⟩ => s0 ⟨ws, hw, ?_⟩)
        subst ha
        rfl
    · subst e
      have hoa : at_ < os.length := by omega
      have wsl : ws.length ≤ 40 := by
        have h1 := hws.length_le
        have := congrArg List.length z1
        rw [List.length_append] at this
        omega
      refine sapp 6 (d := eN ⟨x, os[at_], srt ws⟩) (dtup (ds := [.str x, .str os[at_], eL (srt ws)]) (pac (dv 11) (pac (dixL (vL (dv 5)) (dv 10) (atI_nat ?_)) (pac (dis (dtupL V.bi (nV (dsort V.bi hr.u64 (ds := ws.map .str) sqL (vL (dv 12)) (sortOk_strs _) ?_ ?_))) (congrArg PyData.tuple (sortB_map .str ws))) pa0))) (Nat.le_of_ble_eq_true rfl)) (s0 ?_) ?_
      · rw [List.getElem?_map, List.getElem?_eq_getElem hoa]
        rfl
      · rw [List.length_map]
        omega
      · intro d hd
        obtain ⟨y, _, rfl⟩ := List.mem_map.mp hd
        exact Nat.zero_le _
      · have nl : ns.length = at_ := by rw [← names_len, n1, z2]
        refine ⟨ns ++ [⟨x, os[at_], srt ws⟩], ?_, fun i n hi => ?_, fun p' n q' hq => ?_, ?_⟩
        · rw [names_snoc, n1]
          rfl
        · by_cases hlt : i < ns.length
          · rw [List.getElem?_append_left hlt] at hi
            exact n2 i n hi
          · rw [List.getElem?_append_right (by omega)] at hi
            have hi0 : i - ns.length = 0 := by
              cases hk : i - ns.length with
              | zero => rfl
              | succ k => rw [hk] at hi; simp at hi
            rw [hi0] at hi
            cases hi
            have ei : i = at_ := by omega
            rw [ei]
            exact List.getElem?_eq_getElem hoa
        · rcases List.eq_nil_or_concat q' with z | ⟨q'', m, z⟩
          · subst z
            have h1 := List.append_inj_left' hq rfl
            have h2 := (List.append_inj_right' hq rfl)
            have h3 : n = ⟨x, os[at_], srt ws⟩ := (List.cons.inj h2).1.symm
            rw [h3, ← h1]
            refine ⟨srt_lot (prn.sublist hws) (fun y hy => p7 y (prm y (hws.subset hy))) (by omega), fun o ho => ?_⟩
            rw [n1]
            exact hws.subset ((mem_sortB PyData.str).mp ho)
          · rw [List.concat_eq_append] at z
            subst z
            have h1 : ns = p' ++ n :: q'' := by
              have : ns ++ [⟨x, os[at_], srt ws⟩] = (p' ++ n :: q'') ++ [m] := by rw [hq, List.append_assoc]; rfl
              exact List.append_inj_left' this rfl
            exact n3 p' n q'' h1
        · rw [List.map_append]
          exact ⟨_, _, _, rfl⟩
      · rw [List.length_map]
        have nl : ns.length = at_ := by rw [← names_len, n1, z2]
        omega
  subst e
  rw [List.zipIdx_map_fst] at n1
  have nl : ns.length = xs.length := by rw [← names_len, n1]
  refine sfrz 6 rfl (frzL _) (sret (t := Ty.ex (NtsOk hs xs) fun ns => Dt (.list (ns.map eN))) (exO ns (dv 6) ⟨n1, fun n hn => ?_, n3, fun h hh => ?_⟩) rfl)
  · obtain ⟨i, hi⟩ := List.getElem?_of_mem hn
    exact om _ (List.mem_of_getElem? (n2 i n hi))
  · obtain ⟨i, hi, ei⟩ := List.getElem_of_mem (of h hh)
    rw [List.length_take] at hi
    have hin : i < ns.length := by omega
    refine ⟨ns[i], List.getElem_mem hin, ?_⟩
    have h1 := n2 i ns[i] (List.getElem?_eq_getElem hin)
    rw [List.getElem_take] at ei
    obtain ⟨h2, h3⟩ := List.getElem?_eq_some_iff.mp h1
    rw [← h3, ei]
end
end Kb
end TXb
section TPy
set_option Elab.async false
set_option autoImplicit false
set_option linter.all false
set_option maxRecDepth 100000
/-! Py: what is drawn is a pact and a family, plain. -/
namespace Kb
open PySem PySem.Spec PyProof.Rows L2 PySem.W
theorem zip_row {ns : List Nt} {rd hs : List Str} (hl : rd.length = hs.length) (h : ∀ p ∈ rd.zip hs, p.1 ∈ row ns p.2) {i : Nat} (hi : i < hs.length) : ∃ hr : i < rd.length, rd[i] ∈ row ns hs[i] := by
  have hr : i < rd.length := by omega
  have hz : i < (rd.zip hs).length := by rw [List.length_zip]; omega
  have := h _ (List.getElem_mem hz)
  rw [List.getElem_zip] at this
  exact ⟨hr, this⟩
theorem pact_ok {hs xs rd td : List Str} {ns : List Nt} (h1 : 2 ≤ hs.length) (h2 : hs.length ≤ 6) (h3 : hs.Nodup) (h4 : ∀ x ∈ hs, Nm x) (h5 : xs.Nodup) (h6 : ∀ x ∈ xs, Nm x) (h7 : xs.length ≤ 40) (h8 : hs.length ≤ xs.length) (h9 : NtsOk hs xs ns)
    (r1 : rd.length = hs.length) (r2 : ∀ p ∈ rd.zip hs, p.1 ∈ row ns p.2) (t1 : td.length = hs.length) (t2 : ∀ p ∈ td.zip hs, p.1 ∈ row ns p.2) : PcOk ⟨hs, ns, rd, srt td⟩ := by
  have nd : (names ns).Nodup := by rw [h9.nm]; exact h5
  have wo : WsOk ns := fun pre n post e => (h9.ws pre n post e).2
  have nl : ns.length = xs.length := by rw [← names_len, h9.nm]
  have nmx : ∀ {x h : Str}, x ∈ row ns h → Nm x ∧ x ∈ names ns := fun {x h} hx => by
    have := row_names hx
    exact ⟨h6 x (by rw [← h9.nm]; exact this), this⟩
  have tdn : td.Nodup := List.pairwise_iff_getElem.mpr fun i j hi hj hij e => by
    obtain ⟨_, a⟩ := zip_row t1 t2 (i := i) (by omega)
    obtain ⟨_, b⟩ := zip_row t1 t2 (i := j) (by omega)
    rw [← e] at b
    have e1 := ((row_iff nd).mp a).2
    have e2 := ((row_iff nd).mp b).2
    have := (List.getElem_inj h3).mp (e1.symm.trans e2)
    omega
  have tdm : ∀ x ∈ td, ∃ h ∈ hs, x ∈ row ns h := fun x hx => by
    obtain ⟨i, hi, e⟩ := List.getElem_of_mem hx
    obtain ⟨_, a⟩ := zip_row t1 t2 (i := i) (by omega)
    rw [e] at a
    exact ⟨_, List.getElem_mem (by omega), a⟩
  refine ⟨⟨h1, h2, h4, h3⟩, ⟨nd, wo, by show ns.length ≤ 40; omega, fun n hn => ?_⟩, by show 2 ≤ ns.length; omega, fun pre n post e => ?_, ⟨r1, fun p hp => ?_⟩, ⟨?_, fun x hx => ?_, fun h hh => ?_⟩⟩
  · obtain ⟨s, t, e⟩ := List.append_of_mem hn
    exact (h9.ws s n t e).1.2.2
  · have e : ns = pre ++ n :: post := e
    have hn : n ∈ ns := by rw [e]; simp
    have hx : n.nm ∈ xs := by rw [← h9.nm]; exact mem_names.mpr ⟨n, hn, rfl⟩
    refine ⟨h6 _ hx, fun z => ?_, h4 _ (h9.hd n hn), h9.hd n hn, (h9.ws pre n post e).1, (h9.ws pre n post e).2⟩
    rw [e, names_app] at nd
    exact (List.nodup_append.mp nd).2.2 _ z n.nm List.mem_cons_self rfl
  · have a := r2 p hp
    obtain ⟨n, n1, n2, n3⟩ := mem_row.mp a
    exact ⟨(nmx a).1, n, n1, n3, n2⟩
  · exact srt_lot tdn (fun x hx => by obtain ⟨h, _, a⟩ := tdm x hx; exact (nmx a).1) (by omega)
  · obtain ⟨h, _, a⟩ := tdm x ((mem_sortB PyData.str).mp hx)
    exact (nmx a).2
  · obtain ⟨i, hi, e⟩ := List.getElem_of_mem hh
    obtain ⟨hr, a⟩ := zip_row t1 t2 hi
    rw [e] at a
    obtain ⟨n, n1, n2, n3⟩ := mem_row.mp a
    have xn := (nmx a).2
    have hpl := pl_lt xn
    have e1 : ns[pl ns td[i]] = n := by
      obtain ⟨k, hk, ek⟩ := List.getElem_of_mem n1
      have hkn : k < (names ns).length := by rw [names_len]; exact hk
      have hjn : pl ns td[i] < (names ns).length := by rw [names_len]; exact hpl
      have a1 : (names ns)[pl ns td[i]] = td[i] := (List.getElem?_eq_some_iff.mp (pl_at xn)).2
      have a2 : (names ns)[k] = ns[k].nm := by unfold names; exact List.getElem_map _
      have e2 : (names ns)[pl ns td[i]] = (names ns)[k] := by rw [a1, a2, ek, n3]
      have e3 := (List.getElem_inj nd).mp e2
      simp only [e3, ek]
    refine ⟨pl ns td[i], n, ?_, n2, ?_⟩
    · show ns[pl ns td[i]]? = some n
      rw [List.getElem?_eq_getElem hpl, e1]
    · show (bitsOf (srt td) ns).testBit (pl ns td[i]) = true
      rw [bitsOf_bit nd]
      exact ⟨td[i], xn, (mem_sortB PyData.str).mpr (List.getElem_mem hr), isU_refl nd wo xn⟩
/-! families -/
theorem parts_len64 {l : List Str} (h : l.length ≤ 6) : (parts l).length ≤ 64 := by
  rw [parts_len]
  exact Nat.pow_le_pow_right (n := 2) (by decide) h
theorem part_lot {hs q : List Str} (h1 : hs.Pairwise sLt) (h2 : ∀ x ∈ hs, Nm x) (h3 : hs.length ≤ 6) (hq : q.Sublist hs) : Lot q := ⟨fun x hx => h2 x (hq.subset hx), h1.sublist hq, by have := hq.length_le; omega⟩
/-- sorted lots with the same size, one in the other, are one -/
theorem sub_eq {a b : List Str} (ha : a.Pairwise sLt) (hb : b.Pairwise sLt) (hl : b.length ≤ a.length) (h : wiB a b = true) : a = b := by
  have hs := wiB_iff.mp h
  have pm := perm_of_sub (sLt_nodup ha) hs hl
  exact sorted_ext ha hb fun x => pm.mem_iff
theorem anti_mid {F pre post : List (List Str)} {l o : List Str} (nd : F.Nodup) (e : F = pre ++ l :: post) (ho : o ∈ pre ++ post) : o ∈ F ∧ o ≠ l := by
  rw [e] at nd ⊢
  rcases List.mem_append.mp ho with k | k
  · exact ⟨List.mem_append_left _ k, fun z => (List.nodup_append.mp nd).2.2 _ k l List.mem_cons_self z⟩
  · refine ⟨List.mem_append_right _ (List.mem_cons_of_mem _ k), fun z => ?_⟩
    have := List.nodup_cons.mp (List.nodup_append.mp nd).2.1
    rw [z] at k
    exact this.1 k
theorem lLt_lsrt {ls : List (List Str)} (nd : ls.Nodup) : (lsrt ls).Pairwise lLt := sortB_lt (fun a b => toks_lot) nd
/-- lots of which none is in another one are a family -/
theorem fam_of {hs : List Str} {ls : List (List Str)} (h1 : hs.Pairwise sLt) (h2 : ∀ x ∈ hs, Nm x) (h3 : hs.length ≤ 6) (ne : ls ≠ []) (nd : ls.Nodup) (sub : ∀ l ∈ ls, l.Sublist hs) (an : ∀ a ∈ ls, ∀ b ∈ ls, a ≠ b → wiB a b = false) (hl : ls.length ≤ 63) : FamOk hs (lsrt ls) := by
  have pm : (lsrt ls).Perm ls := sortB_perm eL ls
  refine ⟨fun z => ne ?_, fun l hl => part_lot h1 h2 h3 (sub l (mem_lsrt.mp hl)), fun l hl x hx => (sub l (mem_lsrt.mp hl)).subset hx, lLt_lsrt nd, fun pre l post e o ho => ?_, by rw [pm.length_eq]; exact hl⟩
  · rw [z] at pm
    exact pm.symm.eq_nil
  · obtain ⟨k1, k2⟩ := anti_mid (pm.nodup_iff.mpr nd) e ho
    have hlm : l ∈ lsrt ls := by rw [e]; simp
    exact an l (mem_lsrt.mp hlm) o (mem_lsrt.mp k1) (Ne.symm k2)
theorem sized_fam {hs : List Str} {k : Nat} (h1 : hs.Pairwise sLt) (h2 : ∀ x ∈ hs, Nm x) (h3 : hs.length ≤ 6) (hk : k < hs.length) : FamOk hs (lsrt ((ksrt (parts hs)).filter fun l => decide (l.length = k))) := by
  have nd : (ksrt (parts hs)).Nodup := (ksrt_perm _).nodup_iff.mpr (parts_nodup (sLt_nodup h1))
  have sub : ∀ l ∈ (ksrt (parts hs)).filter fun l => decide (l.length = k), l.Sublist hs := fun l hl => parts_sub hs l (mem_ksrt.mp (List.mem_filter.mp hl).1)
  refine fam_of h1 h2 h3 ?_ (nd.sublist List.filter_sublist) sub (fun a ha b hb hab => ?_) ?_
  · refine List.ne_nil_of_mem (a := hs.take k) (List.mem_filter.mpr ⟨mem_ksrt.mpr (sub_parts hs _ (List.take_sublist _ _)), decide_eq_true ?_⟩)
    rw [List.length_take]
    omega
  · refine Bool.eq_false_iff.mpr fun z => hab ?_
    have ea := of_decide_eq_true (List.mem_filter.mp ha).2
    have eb := of_decide_eq_true (List.mem_filter.mp hb).2
    exact sub_eq (h1.sublist (sub a ha)) (h1.sublist (sub b hb)) (by omega) z
  · have e := len_filt (fun l : List Str => decide (l.length = k)) (ksrt (parts hs))
    have e2 := parts_len64 h3
    rw [len_ksrt] at e
    have hm : hs ∈ (ksrt (parts hs)).filter fun x => !decide (x.length = k) := List.mem_filter.mpr ⟨mem_ksrt.mpr (sub_parts hs hs (List.Sublist.refl _)), by
      have : ¬ hs.length = k := by omega
      simp [this]⟩
    have := List.length_pos_of_mem hm
    omega
/-- what grows: none within another one -/
theorem grow_anti {hs : List Str} (h1 : hs.Pairwise sLt) : ∀ (ls s : List (List Str)), (∀ l ∈ ls, l.Sublist hs) → (∀ l ∈ s, l.Sublist hs) → (s.Pairwise fun a b => b.length ≤ a.length) → (∀ a ∈ s, ∀ b ∈ ls, b.length ≤ a.length) → (ls.Pairwise fun a b => b.length ≤ a.length) →
    s.Nodup → (∀ a ∈ s, ∀ b ∈ s, a ≠ b → wiB a b = false) → (ls.foldl grow1 s).Nodup ∧ ∀ a ∈ ls.foldl grow1 s, ∀ b ∈ ls.foldl grow1 s, a ≠ b → wiB a b = false
  | [], s, _, _, _, _, _, nd, an => ⟨nd, an⟩
  | l :: ls, s, hl, hss, ps, hsl, pl_, nd, an => by
    obtain ⟨p1, p2⟩ := List.pairwise_cons.mp pl_
    have hl' : ∀ x ∈ ls, x.Sublist hs := fun x hx => hl x (List.mem_cons_of_mem _ hx)
    have hsl' : ∀ a ∈ s, ∀ b ∈ ls, b.length ≤ a.length := fun a ha b hb => hsl a ha b (List.mem_cons_of_mem _ hb)
    rw [List.foldl_cons]
    unfold grow1
    by_cases c : inFam s l = true
    · rw [if_pos c]
      exact grow_anti h1 ls s hl' hss ps hsl' p2 nd an
    · rw [if_neg c]
      have nin : ∀ o ∈ s, wiB l o = false := fun o ho => Bool.eq_false_iff.mpr fun z => c (List.any_eq_true.mpr ⟨o, ho, z⟩)
      have wll : wiB l l = true := wiB_iff.mpr fun x hx => hx
      have nls : l ∉ s := fun z => by
        have := nin l z
        rw [wll] at this
        cases this
      have lh := hl l List.mem_cons_self
      refine grow_anti h1 ls (s ++ [l]) hl' (fun x hx => ?_) (List.pairwise_append.mpr ⟨ps, List.pairwise_singleton _ _, fun a ha b hb => ?_⟩) (fun a ha b hb => ?_) p2 (List.nodup_append.mpr ⟨nd, by simp, fun a ha b hb e => nls ?_⟩) fun a ha b hb hab => ?_
      · rcases List.mem_append.mp hx with k | k
        · exact hss x k
        · rw [List.mem_singleton.mp k]; exact lh
      · rw [List.mem_singleton.mp hb]
        exact hsl a ha l List.mem_cons_self
      · rcases List.mem_append.mp ha with k | k
        · exact hsl' a k b hb
        · rw [List.mem_singleton.mp k]
          exact p1 b hb
      · rw [← List.mem_singleton.mp hb, ← e]
        exact ha
      · rcases List.mem_append.mp ha with k | k
        · rcases List.mem_append.mp hb with k2 | k2
          · exact an a k b k2 hab
          · have e := List.mem_singleton.mp k2
            subst e
            refine Bool.eq_false_iff.mpr fun z => nls ?_
            have := sub_eq (h1.sublist (hss a k)) (h1.sublist lh) (hsl a k b List.mem_cons_self) z
            rw [← this]
            exact k
        · have e := List.mem_singleton.mp k
          subst e
          rcases List.mem_append.mp hb with k2 | k2
          · exact nin b k2
          · exact absurd (List.mem_singleton.mp k2).symm hab
theorem grow_ne : ∀ (ls s : List (List Str)), (ls ≠ [] ∨ s ≠ []) → ls.foldl grow1 s ≠ []
  | [], s, h => by
    rcases h with h | h
    · exact absurd rfl h
    · exact h
  | l :: ls, s, _ => by
    rw [List.foldl_cons]
    refine grow_ne ls _ (.inr ?_)
    unfold grow1
    by_cases c : inFam s l = true
    · rw [if_pos c]
      intro z
      rw [z] at c
      cases c
    · rw [if_neg c]
      simp
theorem great_fam {hs : List Str} {ls : List (List Str)} (h1 : hs.Pairwise sLt) (h2 : ∀ x ∈ hs, Nm x) (h3 : hs.length ≤ 6) (ne : ls ≠ []) (hl : ls.length ≤ 63) (sub : ∀ l ∈ ls, l.Sublist hs) : FamOk hs (lsrt (greatest ls)) := by
  have gm : ∀ l ∈ (ksrt ls).reverse, l ∈ ls := fun l hl => mem_ksrt.mp (List.mem_reverse.mp hl)
  have pw : (ksrt ls).reverse.Pairwise fun a b => b.length ≤ a.length := by
    rw [List.pairwise_reverse]
    exact (ksrt_le ls).imp fun h => kOf_len h
  obtain ⟨a, b⟩ := grow_anti h1 (ksrt ls).reverse [] (fun l hl => sub l (gm l hl)) (fun l h => by cases h) List.Pairwise.nil (fun a h => by cases h) pw List.nodup_nil (fun a h => by cases h)
  have gs : ∀ l ∈ greatest ls, l ∈ ls := fun l hl => by
    rcases grow_sub (ksrt ls).reverse [] l hl with k | k
    · cases k
    · exact gm l k
  have gl := grow_len (ksrt ls).reverse []
  rw [List.length_nil, List.length_reverse, len_ksrt] at gl
  refine fam_of h1 h2 h3 (grow_ne _ _ (.inl fun z => ne ?_)) a (fun l hl => sub l (gs l hl)) b (by unfold greatest; omega)
  have z := List.reverse_eq_nil_iff.mp z
  have pm := ksrt_perm ls
  rw [z] at pm
  exact pm.symm.eq_nil
end Kb
end TPy
section TXc
set_option Elab.async false
set_option autoImplicit false
set_option linter.all false
set_option maxRecDepth 100000
set_option maxHeartbeats 4000000
/-! Xc: the world, a family, the size are drawn. -/
namespace Kb
open PySem PySem.Spec PyProof.Rows L2 PySem.W
section
variable {X : Cx} {Z : Zn} {F0 G : Hp} {ρ : En} {e a b c tg : Expr} {es : List Expr} {pos : Pos} {t : Ty} {d : PyData} {Φ : Po} {rest : List Stmt}
/-- a pair, its second thing not known -/
theorem dtupX {β : Type} {q : β → Prop} {g : β → PyData} {k0 : Nat} (ha : PE X a (tD Z ρ d)) (hb : PE X b (tO Z ρ (Ty.ex q fun x => Dt (g x)).od)) (hs : starEach [a, b] X.env = (false, eval a X.env) :: starEach [b] X.env := by rfl) (hs2 : starEach [b] X.env = (false, eval b X.env) :: starEach [] X.env := by rfl) :
    PE X (.Tuple [a, b] k0 pos) (tO Z ρ (Ty.ex q fun x => Dt (.tuple [d, g x])).od) :=
  (pe_tup (pac ha (pac hb pa0 hs2) hs)).imp fun σ H Q ⟨F0, G, F, s, k⟩ => ⟨F0, G, F, s, fun vs F1 H1 g1 ok => by
    cases ok with
    | @cons v _ _ _ r1 r2 =>
      cases r2 with
      | @cons u _ _ _ r3 r4 =>
        cases r4
        obtain ⟨x, hx, r3⟩ := r3
        refine ⟨by show 2 ≤ sizeLine; decide, fun p hp => ?_⟩
        exact k (.ref p) (upd F1 p (.tup [v, u])) _ (g1.tr (Go.put g1.fh g1.zk hp)) ⟨x, hx, .tup upd_same .t (.cons (Rp.mono (same_new (g1.fh.free hp)) _ _ r1) (.cons (Rp.mono (same_new (g1.fh.free hp)) _ _ r3) .nil))⟩⟩
/-- four things, the last not known -/
theorem dlstX4 {β : Type} {q : β → Prop} {g : β → PyData} {a1 a2 a3 : Expr} {d1 d2 d3 : PyData} (h1 : PE X a1 (tD Z ρ d1)) (h2 : PE X a2 (tD Z ρ d2)) (h3 : PE X a3 (tD Z ρ d3)) (hb : PE X b (tO Z ρ (Ty.ex q fun x => Dt (g x)).od)) (hs1 : starEach [a1, a2, a3, b] X.env = (false, eval a1 X.env) :: starEach [a2, a3, b] X.env := by rfl)
    (hs2 : starEach [a2, a3, b] X.env = (false, eval a2 X.env) :: starEach [a3, b] X.env := by rfl) (hs3 : starEach [a3, b] X.env = (false, eval a3 X.env) :: starEach [b] X.env := by rfl) (hs4 : starEach [b] X.env = (false, eval b X.env) :: starEach [] X.env := by rfl) :
    PE X (.List [a1, a2, a3, b] pos) (tO Z ρ (Ty.ex (fun ds : List PyData => ∃ x, q x ∧ ds = [d1, d2, d3, g x]) fun ds => Dt (.list ds)).od) :=
  (pe_lst (pac h1 (pac h2 (pac h3 (pac hb pa0 hs4) hs3) hs2) hs1)).imp fun σ H Q ⟨F0, G, F, s, k⟩ => ⟨F0, G, F, s, fun vs F1 H1 g1 ok => by
    cases ok with
    | @cons v1 _ _ _ r1 ok =>
      cases ok with
      | @cons v2 _ _ _ r2 ok =>
        cases ok with
        | @cons v3 _ _ _ r3 ok =>
          cases ok with
          | @cons v4 _ _ _ r4 ok =>
            cases ok
            obtain ⟨x, hx, r4⟩ := r4
            refine ⟨by show 4 ≤ sizeLine; decide, fun p hp => ?_⟩
            have m := fun d v => Rp.mono (same_new (o := .lst [v1, v2, v3, v4]) (g1.fh.free hp)) d v
            exact k (.ref p) (upd F1 p (.lst [v1, v2, v3, v4])) _ (g1.tr (Go.put g1.fh g1.zk hp)) ⟨_, ⟨x, hx, rfl⟩, .lst upd_same (.cons (m _ _ r1) (.cons (m _ _ r2) (.cons (m _ _ r3) (.cons (m _ _ r4) .nil))))⟩⟩
/-- a, b = e, e a tuple, one of several -/
theorem sunpX {β : Type} {q : β → Prop} {tt : β → Ty} {ρ1 : β → En} {kt : Nat} {pt : Pos} (he : PE X e (tO Z ρ (Ty.ex q tt).od)) (hg : ∀ x, q x → PG X (.Tuple es kt pt) (tGt none Z ρ (tt x) (ρ1 x))) (h2 : ∀ x, q x → PSs X rest (tS Z F0 G (ρ1 x) Φ))
    (hs : swapsWithSole [.Tuple es kt pt] e pos.line X.env = pure false := by rfl) (hw : swappedStores [.Tuple es kt pt] e X.env = pure none := by rfl) : PSs X (.Assign [.Tuple es kt pt] e pos :: rest) (tS Z F0 G ρ Φ) :=
  scons (Ψ := { Φ with nx := fun ρ' => ∃ x, q x ∧ ρ' = ρ1 x }) (ps_asg (g := fun v σ H Q => ∃ x, q x ∧ tGt none Z ρ (tt x) (ρ1 x) v σ H Q) he ⟨fun pins s σ H v u Q Iv r ⟨x, h1, h3⟩ => (hg x h1).run pins s σ H v u Q Iv r h3⟩ hs hw) (fun ρ' ⟨x, h, e'⟩ => by
      subst e'
      exact h2 x h) fun D σ H ⟨F, s, k1, k2, _⟩ => ⟨F0, G, F, s, fun v F1 H1 g1 ⟨x, hx, ok⟩ => ⟨x, hx, F0, G, F1, s.mv g1, ok, fun σ' s' _ => k1 _ _ F1 H1 ⟨x, hx, rfl⟩ g1.f s'⟩⟩
end
section
variable {P : Program} {w : World} {K : PySem.W.Frag} {mg : Str → Option Value} {base : Heap} {tb : Addr}
abbrev q86 (P : Program) (w : World) (Z : Zn) : Sp := spQ Z (fun a : Nat × Nat => [Dt (.int (a.1 : Int)), Dt (.int (a.2 : Int))]) (fun a => 2 ≤ a.1 ∧ a.1 ≤ 6 ∧ a.1 + a.2 ≤ 40) fun a => Ty.ex WdOk (tyWd P w)
theorem ok86 (V : Gv mg) (D : Dn K mg "_law_world" s86 ["_law_deal_here", "_law_many", "_law_extra"]) (C80 : Okd P w K mg base "_law_any" 1 (q80 ⟨tb, lamN, none⟩)) (C81 : Okd P w K mg base "_law_of" 2 (q81 ⟨tb, lamN, none⟩)) (C83 : Okd P w K mg base "_law_names" 3 (q83 ⟨tb, lamN, none⟩))
    (C84 : Okd P w K mg base "_law_notes" 3 (q84 ⟨tb, lamN, none⟩)) (C85 : Okd P w K mg base "_law_web" 1 (q85 P w ⟨tb, lamN, none⟩)) : Okd P w K mg base "_law_world" 4 (q86 P w ⟨tb, lamN, none⟩) := by
  refine okQ D c86 (fun _ => rfl) (by decide) fun f cdv A outer s H E a F0 G q l hr hp => ?_
  obtain ⟨many, extra⟩ := a
  obtain ⟨p1, p2, p3⟩ := hp
  have p1 : 2 ≤ many := p1
  have p2 : many ≤ 6 := p2
  have p3 : many + extra ≤ 40 := p3
  refine spar2 3 4 rfl c86.nd (kav (t := Ty.ex (fun xs : List Str => xs.length = many ∧ xs.Nodup ∧ ∀ x ∈ xs, Nm x) fun xs => Dt (.list (xs.map .str))) (dclQ 0 hr C83 many (show many ≤ 40 by omega) (pac (dv 1) pa0)) (kav (t := Ty.ex (fun xs : List Str => xs.length = many + extra ∧ xs.Nodup ∧ ∀ x ∈ xs, Nm x) fun xs => Dt (.list (xs.map .str))) (dclQ 0 hr C83 (many + extra) p3 (pac (dis (dadd (dv 1) (dv 2)) (congrArg PyData.int (Int.natCast_add many extra).symm)) pa0)) ka0)) ?_
  refine sopen 3 rfl fun hs ⟨a1, a2, a3⟩ => sopen 4 rfl fun xs ⟨b1, b2, b3⟩ => ?_
  have hok : SOk hs := fun x hx => (a3 x hx).ok
  refine spar [5, 6, 7, 8] (ks := [.v (Ty.ex (NtsOk hs xs) fun ns => Dt (.list (ns.map eN))), .v (tyB fun _ => True), .n (mL (([] : List Str).map .str)), .n (mL (([] : List Str).map .str))]) rfl
    (kav (dclQ 0 hr C84 (hs, xs) ⟨show 2 ≤ hs.length by omega, show hs.length ≤ 6 by omega, hok, show hs.length ≤ xs.length by omega, show xs.length ≤ 40 by omega, b2, b3⟩ (pac (dv 3) (pac (dv 4) pa0))) (kav (dgtX (dclQ 0 hr C80 4 ⟨by decide, by decide⟩ (pac dint pa0)) dint) (kan (dlst (ds := []) pa0) (kan (dlst (ds := []) pa0) ka0 (by simp)) (by simp [AK.held]))))
    (gac 5 c86.nd (gac 6 c86.nd (gac 7 c86.nd (gac 8 c86.nd ga0)))) ?_ (hz := Nat.le_of_ble_eq_true rfl)
  refine sopen 5 rfl fun ns hns => sopen 6 rfl fun plain _ => ?_
  have nl : ns.length = xs.length := by rw [← names_len, hns.nm]
  refine sforN (xs := hs) (fun pre ρ1 => ∃ rd td : List Str, rd.length = pre.length ∧ td.length = pre.length ∧ (∀ p ∈ rd.zip pre, p.1 ∈ row ns p.2) ∧ (∀ p ∈ td.zip pre, p.1 ∈ row ns p.2) ∧ ∃ x9 x10, ρ1 = [some .dl, some (.im (Dt (.int (many : Int)))), some (.im (Dt (.int (extra : Int)))), some (.im (Dt (.list (hs.map .str)))), some (.im (Dt (.list (xs.map .str)))), some (.im (Dt (.list (ns.map eN)))), some (.im (Dt (.bool plain))), some (.mu (mL (rd.map .str))), some (.mu (mL (td.map .str))), x9, x10, none])
    PassesOwn.never rfl (itLs (xs := hs) (f := PyData.str) (dv 3)) ⟨[], [], rfl, rfl, (fun p h => by cases h), (fun p h => by cases h), _, _, rfl⟩ (fun pre h post ρ1 hx ⟨rd, td, r1, t1, r2, t2, x9, x10, e⟩ => ?_) fun ρ1 ⟨rd, td, r1, t1, r2, t2, x9, x10, e⟩ => ?_
  · subst e
    have hm : h ∈ hs := by rw [hx]; simp
    have rne : row ns h ≠ [] := by
      obtain ⟨n, n1, n2⟩ := hns.all h hm
      exact List.ne_nil_of_mem (mem_row.mpr ⟨n, n1, n2, rfl⟩)
    have rl := row_len ns h
    have pl1 : pre.length < hs.length := by
      have := congrArg List.length hx
      rw [List.length_append, List.length_cons] at this
      omega
    have rhd : (row ns h).headD "" ∈ row ns h := by
      cases hr : row ns h with
      | nil => exact absurd hr rne
      | cons a b => exact List.mem_cons_self
    refine ⟨_, gn 9 c86.nd, ?_⟩
    refine ssetLc 10 (own := [("_law_note", 11)]) (dlc (xs := ns) (f := fun n : Nt => decide (n.hd = h)) (g := fun n : Nt => .str n.nm) rfl c86.nd (itLs (xs := ns) (f := eN) (dv 5)) (blkOk_by (N := n86) (sc := defScope s86) (by decide +kernel))
      (fun _ _ _ _ _ x _ => gn 11 c86.nd) (fun _ _ _ _ _ n _ => pt1 (peqS (dixT (d := .str n.hd) (vT (dv 11)) dint rfl) (dv 9))) (fun _ _ _ _ _ n _ _ => dixT (d := .str n.nm) (vT (dv 11)) dint rfl) (by omega)) (fun acc ha => ?_)
    have ea : acc = (row ns h).map .str := by
      rw [ha]
      unfold row
      rw [List.map_map]
      rfl
    subst ea
    refine sappX 7 (q := (· ∈ row ns h)) (g := PyData.str) (dife (p := fun _ => True) (ppt (pworX (k := plain) (ptv (dv 6)) (fun _ => pwor1X (peqX (dclQ 0 hr C80 2 ⟨by decide, by decide⟩ (pac dint pa0)) dint)) fun _ => trivial)) (fun _ => exO ((row ns h).headD "") (dixL (vL (dv 10)) dint (atI_hd rne)) rhd) (fun _ => ?_)) (fun x hxr => ?_) ?_
    · refine exT (xs := row ns h) ?_
      exact dclQ 0 hr C81 (· = (row ns h).map PyData.str) (fun ds e => by subst e; exact ⟨fun z => rne (List.map_eq_nil_iff.mp z), by rw [List.length_map]; omega⟩) (pac (exO (t := fun ds : List PyData => Dt (.list ds)) ((row ns h).map PyData.str) (dv 10) rfl) pa0)
    · refine sappX 8 (q := (· ∈ row ns h)) (g := PyData.str) (dife (p := fun _ => True) (ppt (pworX (k := plain) (ptv (dv 6)) (fun _ => pwor1X (peqX (dclQ 0 hr C80 2 ⟨by decide, by decide⟩ (pac dint pa0)) dint)) fun _ => trivial)) (fun _ => exO ((row ns h).getLastD "") (dixL (vL (dv 10)) (dneg dint) (atI_last rne)) (getLastD_mem rne)) (fun _ => ?_)) (fun y hyr => s0 ?_) ?_
      · refine exT (xs := row ns h) ?_
        exact dclQ 0 hr C81 (· = (row ns h).map PyData.str) (fun ds e => by subst e; exact ⟨fun z => rne (List.map_eq_nil_iff.mp z), by rw [List.length_map]; omega⟩) (pac (exO (t := fun ds : List PyData => Dt (.list ds)) ((row ns h).map PyData.str) (dv 10) rfl) pa0)
      · have e1 : rd.map PyData.str ++ [.str x] = (rd ++ [x]).map .str := by rw [List.map_append]; rfl
        have e2 : td.map PyData.str ++ [.str y] = (td ++ [y]).map .str := by rw [List.map_append]; rfl
        rw [e1, e2]
        refine ⟨rd ++ [x], td ++ [y], by rw [List.length_append, List.length_append, r1]; rfl, by rw [List.length_append, List.length_append, t1]; rfl, fun p hp => ?_, fun p hp => ?_, _, _, rfl⟩
        · rw [List.zip_append r1] at hp
          rcases List.mem_append.mp hp with k | k
          · exact r2 p k
          · rw [List.mem_singleton.mp k]
            exact hxr
        · rw [List.zip_append t1] at hp
          rcases List.mem_append.mp hp with k | k
          · exact t2 p k
          · rw [List.mem_singleton.mp k]
            exact hyr
      · rw [List.length_map]
        omega
    · rw [List.length_map]
      omega
  subst e
  refine sfrz 7 rfl (frzL _) ?_
  have pk := pact_ok (by omega) (by omega) a2 a3 b2 b3 (by omega) (by omega) hns r1 r2 t1 t2
  refine sret (t := Ty.ex WdOk (tyWd P w)) (exM (q := fun W : Wd => W.p = ⟨hs, ns, rd, srt td⟩ ∧ WdOk W) (dcl hr C85 ⟨hs, ns, rd, srt td⟩ pk (pac (dv 3) (pac (dv 5) (pac (dv 7) (pac (dis (dtupL V.bi (nV (dsort V.bi hr.u64 (ds := td.map .str) sqL (dvm 8) (sortOk_strs _) ?_ ?_))) (congrArg PyData.tuple (sortB_map .str td))) pa0))))) fun W h => h.2) rfl
  · rw [List.length_map]
    omega
  · intro d hd
    obtain ⟨x, _, rfl⟩ := List.mem_map.mp hd
    exact Nat.zero_le _
/-- the greatest of lots that are not known -/
abbrev q96X (Z : Zn) : Sp := spD Z (fun p : List (List Str) → Prop => [Ty.ex p fun ls => Dt (.list (ls.map eL))]) (fun p => ∀ ls, p ls → ls.length ≤ 63 ∧ ∀ l ∈ ls, l.length ≤ 1000 ∧ SOk l) fun p => Ty.ex (fun F : List (List Str) => ∃ ls, p ls ∧ F = lsrt (greatest ls)) fun F => Dt (.tuple (F.map eL))
theorem ok96X (C : Okd P w K mg base "_law_greatest" 3 (q96 ⟨tb, lamN, none⟩)) : Okd P w K mg base "_law_greatest" 3 (q96X ⟨tb, lamN, none⟩) := by
  obtain ⟨k, f, fd, ps, F, hk, hm, kp, hb⟩ := C
  refine ⟨k, f, fd, ps, F.imp fun vs H Q E h => ?_, hk, hm, kp, hb⟩
  obtain ⟨p, F, hp, fh, zo, zk, ok, q⟩ := h
  cases ok with
  | cons r1 r2 =>
    cases r2
    obtain ⟨ls, h1, h2⟩ := r1
    exact ⟨ls, F, hp ls h1, fh, zo, zk, .cons h2 .nil, fun v F' H' g h => q v F' H' g ⟨_, ⟨ls, h1, rfl⟩, h⟩⟩
theorem lots_of {ls0 : List (List Str)} : ∀ {ds : List PyData}, (∀ d ∈ ds, d ∈ ls0.map eL) → ∃ ls : List (List Str), ds = ls.map eL ∧ ∀ l ∈ ls, l ∈ ls0
  | [], _ => ⟨[], rfl, fun l h => by cases h⟩
  | d :: ds, h => by
    obtain ⟨ls, e, hl⟩ := lots_of fun d hd => h d (List.mem_cons_of_mem _ hd)
    obtain ⟨l, h1, rfl⟩ := List.mem_map.mp (h d List.mem_cons_self)
    refine ⟨l :: ls, by rw [e]; rfl, fun x hx => ?_⟩
    rcases List.mem_cons.mp hx with z | z
    · rw [z]; exact h1
    · exact hl x z
abbrev q97 (Z : Zn) : Sp := spQ Z (fun hs : List Str => [Dt (eL hs)]) (fun hs => hs.Pairwise sLt ∧ (∀ x ∈ hs, Nm x) ∧ 2 ≤ hs.length ∧ hs.length ≤ 6) fun hs => Ty.ex (FamOk hs) fun F => Dt (.tuple (F.map eL))
theorem ok97 (V : Gv mg) (D : Dn K mg "_law_family" s97 ["_law_deal_here", "_law_hands"]) (C80 : Okd P w K mg base "_law_any" 1 (q80 ⟨tb, lamN, none⟩)) (C81 : Okd P w K mg base "_law_of" 2 (q81 ⟨tb, lamN, none⟩)) (C93 : Okd P w K mg base "_law_parts" 1 (q93 ⟨tb, lamN, none⟩)) (C96 : Okd P w K mg base "_law_greatest" 3 (q96X ⟨tb, lamN, none⟩)) : Okd P w K mg base "_law_family" 4 (q97 ⟨tb, lamN, none⟩) := by
  refine okQ D c97 (fun _ => rfl) (by decide) fun f cdv A outer s H E hs F0 G q l hr hp => ?_
  obtain ⟨p1, p2, p3, p4⟩ := hp
  have p1 : hs.Pairwise sLt := p1
  have p2 : ∀ x ∈ hs, Nm x := p2
  have p3 : 2 ≤ hs.length := p3
  have p4 : hs.length ≤ 6 := p4
  have es : srt hs = hs := sortB_id (fun a b => toks_str) (p1.imp fun h => dLt_le h)
  have kl : (ksrt (parts hs)).length ≤ 64 := by rw [len_ksrt]; exact parts_len64 p4
  have sub : ∀ l ∈ ksrt (parts hs), l.Sublist hs := fun l hl => parts_sub hs l (mem_ksrt.mp hl)
  refine spar [2, 3] (ks := [.v (Dt (.list ((ksrt (parts hs)).map eL))), .v (tyN (· < 4))]) rfl (kav (t := Dt (.list ((ksrt (parts hs)).map eL))) (dcl hr C93 hs (show hs.length ≤ 8 by omega) (pac (dis (dtupL V.bi (nV (dsort V.bi hr.u64 (ds := hs.map .str) sqT (vT (dv 1)) (sortOk_strs _) (by rw [List.length_map]; omega) (fun d hd => by obtain ⟨x, _, rfl⟩ := List.mem_map.mp hd; exact Nat.zero_le _)))) (congrArg PyData.tuple ((sortB_map .str hs).trans (congrArg _ es)))) pa0)) (kav (t := tyN (· < 4)) (dclQ 0 hr C80 4 ⟨by decide, by decide⟩ (pac dint pa0)) ka0)) (gac 2 c97.nd (gac 3 c97.nd ga0)) ?_ (hz := Nat.le_of_ble_eq_true rfl)
  refine sopen 3 rfl fun kind _ => ?_
  refine sif (Ψ := ⟨fun ρ' => ∃ x4, ρ' = [some .dl, some (.im (Dt (eL hs))), some (.im (Dt (.list ((ksrt (parts hs)).map eL)))), some (.im (Dt (.int (kind : Int)))), x4, none, none], _, _, _⟩) (plt (dv 3) dint) (fun _ => ?_) (fun _ => s0 ⟨_, rfl⟩) fun ρ' ⟨x4, e⟩ => ?_
  · refine sset (t := tyN (· < hs.length)) 4 c97.nd (dife (peqI (dv 3) dint) (fun _ => dclQ 0 hr C80 hs.length ⟨by omega, by omega⟩ (pac (dis (dlen V.bi (ds := hs.map .str) sqT (vT (dv 1))) (by rw [List.length_map])) pa0)) (fun _ => exO 1 dint (by omega))) ?_
    refine sopen 4 rfl fun size hsize => ?_
    refine sret (t := Ty.ex (FamOk hs) fun F => Dt (.tuple (F.map eL))) (exO (lsrt ((ksrt (parts hs)).filter fun l => decide (l.length = size))) (dis (dtupL V.bi (nV (dsort V.bi hr.u64 (ds := ((ksrt (parts hs)).filter fun l => decide (l.length = size)).map eL) sqL (nV (lcD (dlc (own := [("_law_part", 5)]) (xs := ksrt (parts hs)) (f := fun l => decide (l.length = size)) (g := eL) rfl c97.nd (itLs (xs := ksrt (parts hs)) (f := eL) (dv 2)) (blkOk_by (N := n97) (sc := defScope s97) (by decide +kernel))
      (fun _ _ _ _ _ x _ => gn 5 c97.nd) (fun _ _ _ _ _ l _ => pt1 (ptis (peqI (dlen V.bi (ds := l.map .str) sqT (vT (dv 5))) (dv 4)) (by rw [List.length_map]; simp only [decide_eq_decide]; omega))) (fun _ _ _ _ _ l _ _ => dv 5) (by omega)))) (sortOk_lots _) ?_ ?_))) (congrArg PyData.tuple (sortB_map eL _))) (sized_fam p1 p2 p4 hsize)) rfl
    · rw [List.length_map]
      have := List.length_filter_le (fun l : List Str => decide (l.length = size)) (ksrt (parts hs))
      omega
    · intro d hd
      obtain ⟨x, _, rfl⟩ := List.mem_map.mp hd
      rw [depth_lot]
      omega
  · subst e
    refine sret (t := Ty.ex (FamOk hs) fun F => Dt (.tuple (F.map eL))) (exM (q := fun F => ∃ ls : List (List Str), (ls ≠ [] ∧ ls.length ≤ 3 ∧ ∀ l ∈ ls, l ∈ ksrt (parts hs)) ∧ F = lsrt (greatest ls)) (dcl hr C96 (fun ls : List (List Str) => ls ≠ [] ∧ ls.length ≤ 3 ∧ ∀ l ∈ ls, l ∈ ksrt (parts hs)) (fun ls ⟨h1, h2, h3⟩ => ⟨by omega, fun l hl => ?_⟩) (pac (od.imp (w := (Ty.ex (fun acc : List PyData => (1 ≤ acc.length ∧ acc.length ≤ 3) ∧ ∀ d ∈ acc, d ∈ (ksrt (parts hs)).map eL) fun acc => Dt (.list acc)).od) (w' := (Ty.ex (fun ls : List (List Str) => ls ≠ [] ∧ ls.length ≤ 3 ∧ ∀ l ∈ ls, l ∈ ksrt (parts hs)) fun ls => Dt (.list (ls.map eL))).od) (fun F H v fh zo ⟨acc, ⟨h1, h2⟩, h3⟩ => ?_)
      (neX _ (lcE (dlcRX (own := [("_law_turn", 6)]) (pn := fun n => 1 ≤ n ∧ n ≤ 3) (q := fun d => d ∈ (ksrt (parts hs)).map eL) rfl c97.nd (itRX V.bi (exM (q := fun m => ∃ k, k < 3 ∧ m = 1 + k) (daddX 1 dint (dclQ 0 hr C80 3 ⟨by decide, by decide⟩ (pac dint pa0))) fun m ⟨k, h1, h2⟩ => ⟨by omega, by omega⟩) (fun n h => by omega)) (blkOk_by (N := n97) (sc := defScope s97) (by decide +kernel)) (fun _ _ _ _ _ i => gn 6 c97.nd) (fun _ _ _ _ _ i => ?_) (fun n h => by omega))))) pa0)) fun F ⟨ls, ⟨h1, h2, h3⟩, h4⟩ => ?_) rfl
    · have := (sub l (h3 l hl)).length_le
      exact ⟨by omega, fun x hx => (p2 x ((sub l (h3 l hl)).subset hx)).ok⟩
    · obtain ⟨ls, e1, e2⟩ := lots_of h2
      subst e1
      rw [List.length_map] at h1
      exact ⟨ls, ⟨fun z => by rw [z] at h1; simp at h1, h1.2, e2⟩, h3⟩
    · refine exM (q := fun d => ∃ ds, ds = (ksrt (parts hs)).map eL ∧ d ∈ ds) ?_ fun d ⟨ds, e, h⟩ => by rw [← e]; exact h
      have kne : (ksrt (parts hs)).map eL ≠ [] := List.ne_nil_of_mem (List.mem_map.mpr ⟨hs, mem_ksrt.mpr (sub_parts hs hs (List.Sublist.refl _)), rfl⟩)
      exact dclQ 0 hr C81 (· = (ksrt (parts hs)).map eL) (fun ds e => by subst e; exact ⟨kne, by rw [List.length_map]; omega⟩) (pac (exO (t := fun ds : List PyData => Dt (.list ds)) ((ksrt (parts hs)).map eL) (dv 2) rfl) pa0)
    · rw [h4]
      exact great_fam p1 p2 p4 h1 (by omega) fun l hl => sub l (h3 l hl)
abbrev q98 (Z : Zn) : Sp := spQ Z (fun _ : Unit => []) (fun _ => True) fun _ => Ty.ex (fun p : Nat × Nat => 2 ≤ p.1 ∧ p.1 ≤ 6 ∧ p.1 + p.2 ≤ 40) fun p => Dt (.tuple [.int (p.1 : Int), .int (p.2 : Int)])
/-- one of four numbers -/
theorem exN4 {X : Cx} {Z : Zn} {ρ : En} {e : Expr} {q r : Nat → Prop} {a b c : Nat} (h : PE X e (tO Z ρ (Ty.ex (fun d => ∃ ds, (∃ k : Nat, q k ∧ ds = [PyData.int (a : Int), .int (b : Int), .int (c : Int), .int (k : Int)]) ∧ d ∈ ds) Dt).od)) (h1 : r a) (h2 : r b) (h3 : r c) (h4 : ∀ k, q k → r k) : PE X e (tO Z ρ (tyN r).od) :=
  od.imp (w := (Ty.ex (fun d => ∃ ds, (∃ k : Nat, q k ∧ ds = [PyData.int (a : Int), .int (b : Int), .int (c : Int), .int (k : Int)]) ∧ d ∈ ds) Dt).od) (w' := (tyN r).od) (fun F H v fh zo ⟨d, ⟨ds, ⟨k, k1, k2⟩, k3⟩, k4⟩ => by
    subst k2
    simp only [List.mem_cons, List.not_mem_nil, or_false] at k3
    rcases k3 with z | z | z | z <;> subst z
    · exact ⟨a, h1, k4⟩
    · exact ⟨b, h2, k4⟩
    · exact ⟨c, h3, k4⟩
    · exact ⟨k, h4 k k1, k4⟩) h
theorem ok98 (V : Gv mg) (D : Dn K mg "_law_size" s98 ["_law_deal_here"]) (C80 : Okd P w K mg base "_law_any" 1 (q80 ⟨tb, lamN, none⟩)) (C81 : Okd P w K mg base "_law_of" 2 (q81 ⟨tb, lamN, none⟩)) : Okd P w K mg base "_law_size" 3 (q98 ⟨tb, lamN, none⟩) := by
  refine okQ D c98 (fun _ => rfl) (by decide) fun f cdv A outer s H E a F0 G q l hr hp => ?_
  refine sif (Ψ := ⟨fun ρ' => ρ' = [some .dl, none], _, _, _⟩) (peqX (dclQ 0 hr C80 14 ⟨by decide, by decide⟩ (pac dint pa0)) dint) (fun _ => ?_) (fun _ => s0 rfl) fun ρ' e => ?_
  · refine sset (t := tyN (· ∈ [5, 5, 6])) 1 c98.nd (exN (ns := [5, 5, 6]) (dclQ 0 hr C81 (· = iL [5, 5, 6]) (fun ds e => by subst e; exact ⟨by decide, by decide⟩) (pac (exO (iL [5, 5, 6]) (nL (dlst (ds := iL [5, 5, 6]) (pac dint (pac dint (pac dint pa0))) (by decide))) rfl) pa0))) ?_
    refine sopen 1 rfl fun many hmany => ?_
    have hm : 5 ≤ many ∧ many ≤ 6 := by
      have hmany : many ∈ [5, 5, 6] := hmany
      simp only [List.mem_cons, List.not_mem_nil, or_false] at hmany
      omega
    have e2 : (2 : Int) * (many : Int) = ((2 * many : Nat) : Int) := by omega
    have e3 : (40 : Int) - (many : Int) = ((40 - many : Nat) : Int) := by omega
    have e4 : (41 : Int) - (many : Int) = ((41 - many : Nat) : Int) := by omega
    refine sret (t := Ty.ex (fun p : Nat × Nat => 2 ≤ p.1 ∧ p.1 ≤ 6 ∧ p.1 + p.2 ≤ 40) fun p => Dt (.tuple [.int (p.1 : Int), .int (p.2 : Int)])) (od.imp (w := (Ty.ex (fun k : Nat => many + k ≤ 40) fun k : Nat => Dt (.tuple [.int (many : Int), .int (k : Int)])).od) (w' := (Ty.ex (fun p : Nat × Nat => 2 ≤ p.1 ∧ p.1 ≤ 6 ∧ p.1 + p.2 ≤ 40) fun p => Dt (.tuple [.int (p.1 : Int), .int (p.2 : Int)])).od) (fun F H v fh zo ⟨k, h1, h2⟩ => ⟨(many, k), ⟨by show 2 ≤ many; omega, hm.2, h1⟩, h2⟩)
      (dtupX (g := fun k : Nat => .int (k : Int)) (dv 1) ?_)) rfl
    refine exN4 (a := many) (b := 2 * many) (c := 40 - many) (q := fun k => k < 41 - many) ?_ (by omega) (by omega) (by omega) (fun k hk => by omega)
    exact dclQ 0 hr C81 (fun ds => ∃ k : Nat, k < 41 - many ∧ ds = [PyData.int (many : Int), .int ((2 * many : Nat) : Int), .int ((40 - many : Nat) : Int), .int (k : Int)]) (fun ds ⟨k, _, e⟩ => by subst e; exact ⟨by simp, by simp⟩) (pac (dlstX4 (g := fun k : Nat => .int (k : Int)) (q := fun k => k < 41 - many) (dv 1) (dis (dmul dint (dv 1) (.inl ⟨by decide, by decide⟩)) (congrArg PyData.int e2)) (dis (dsub dint (dv 1)) (congrArg PyData.int e3)) (dclQ 0 hr C80 (41 - many) ⟨by omega, by omega⟩ (pac (dis (dsub dint (dv 1)) (congrArg PyData.int e4)) pa0))) pa0)
  · subst e
    refine sset (t := tyN (· ∈ [2, 3, 3, 4])) 1 c98.nd (exN (ns := [2, 3, 3, 4]) (dclQ 0 hr C81 (· = iL [2, 3, 3, 4]) (fun ds e => by subst e; exact ⟨by decide, by decide⟩) (pac (exO (iL [2, 3, 3, 4]) (nL (dlst (ds := iL [2, 3, 3, 4]) (pac dint (pac dint (pac dint (pac dint pa0)))) (by decide))) rfl) pa0))) ?_
    refine sopen 1 rfl fun many hmany => ?_
    have hm : 2 ≤ many ∧ many ≤ 4 := by
      have hmany : many ∈ [2, 3, 3, 4] := hmany
      simp only [List.mem_cons, List.not_mem_nil, or_false] at hmany
      omega
    have e2 : (2 : Int) * (many : Int) = ((2 * many : Nat) : Int) := by omega
    have e4 : (3 : Int) * (many : Int) = ((3 * many : Nat) : Int) := by omega
    refine sret (t := Ty.ex (fun p : Nat × Nat => 2 ≤ p.1 ∧ p.1 ≤ 6 ∧ p.1 + p.2 ≤ 40) fun p => Dt (.tuple [.int (p.1 : Int), .int (p.2 : Int)])) (od.imp (w := (Ty.ex (fun k : Nat => many + k ≤ 40) fun k : Nat => Dt (.tuple [.int (many : Int), .int (k : Int)])).od) (w' := (Ty.ex (fun p : Nat × Nat => 2 ≤ p.1 ∧ p.1 ≤ 6 ∧ p.1 + p.2 ≤ 40) fun p => Dt (.tuple [.int (p.1 : Int), .int (p.2 : Int)])).od) (fun F H v fh zo ⟨k, h1, h2⟩ => ⟨(many, k), ⟨hm.1, by show many ≤ 6; omega, h1⟩, h2⟩)
      (dtupX (g := fun k : Nat => .int (k : Int)) (dv 1) ?_)) rfl
    refine exN4 (a := many) (b := many) (c := 2 * many) (q := fun k => k < 3 * many) ?_ (by omega) (by omega) (by omega) (fun k hk => by omega)
    exact dclQ 0 hr C81 (fun ds => ∃ k : Nat, k < 3 * many ∧ ds = [PyData.int (many : Int), .int (many : Int), .int ((2 * many : Nat) : Int), .int (k : Int)]) (fun ds ⟨k, _, e⟩ => by subst e; exact ⟨by simp, by simp⟩) (pac (dlstX4 (g := fun k : Nat => .int (k : Int)) (q := fun k => k < 3 * many) (dv 1) (dv 1) (dis (dmul dint (dv 1) (.inl ⟨by decide, by decide⟩)) (congrArg PyData.int e2)) (dclQ 0 hr C80 (3 * many) ⟨by omega, by omega⟩ (pac (dis (dmul dint (dv 1) (.inl ⟨by decide, by decide⟩)) (congrArg PyData.int e4)) pa0))) pa0)
end
end Kb
end TXc
section TQa
set_option Elab.async false
set_option autoImplicit false
set_option linter.all false
set_option maxRecDepth 100000
/-! Qa: levels of rows, plain: a row that fails is told by the highest levels. -/
namespace Kb
open PySem PySem.Spec PyProof.Rows L2 PySem.W
section
variable {ns : List Nt}
theorem nextLevel_le (h x : Str) : nextLevel ns h x ≤ (row ns h).length := List.length_filter_le _ _
theorem filt_mono {α : Type} {f g : α → Bool} : ∀ {l : List α}, (∀ x ∈ l, f x = true → g x = true) → (l.filter f).length ≤ (l.filter g).length
  | [], _ => Nat.le_refl _
  | x :: l, h => by
    have ih := filt_mono (l := l) fun y hy => h y (List.mem_cons_of_mem _ hy)
    rw [List.filter_cons, List.filter_cons]
    cases e : f x with
    | true =>
      rw [if_pos rfl, if_pos (h x List.mem_cons_self e), List.length_cons, List.length_cons]
      omega
    | false =>
      rw [if_neg (by decide)]
      by_cases c : g x = true
      · rw [if_pos c, List.length_cons]
        omega
      · rw [if_neg c]
        exact ih
theorem nextLevel_mono (nd : (names ns).Nodup) (hw : WsOk ns) {h x y : Str} (hx : x ∈ names ns) (hy : y ∈ names ns) (u : isU ns x y = true) : nextLevel ns h x ≤ nextLevel ns h y := by
  unfold nextLevel
  refine filt_mono fun o ho k => ?_
  cases e : isU ns y o with
  | false => rfl
  | true =>
    rw [isU_trans nd hw hx hy (row_names ho) u e] at k
    cases k
theorem lvAfter_le (h o : Str) (lv : Nat) : lvAfter ns h o lv ≤ (row ns h).length := by
  unfold lvAfter
  cases (row ns o)[lv]? with
  | none => exact Nat.le_refl _
  | some x => exact nextLevel_le h x
theorem lvAfter_mono (nd : (names ns).Nodup) (hw : WsOk ns) (h o : Str) {a b : Nat} (hab : a ≤ b) : lvAfter ns h o a ≤ lvAfter ns h o b := by
  by_cases hb : b < (row ns o).length
  · have ha : a < (row ns o).length := by omega
    unfold lvAfter
    rw [List.getElem?_eq_getElem hb, List.getElem?_eq_getElem ha]
    have ma := List.getElem_mem ha
    have mb := List.getElem_mem hb
    refine nextLevel_mono nd hw (row_names ma) (row_names mb) ?_
    by_cases e : a = b
    · subst e
      exact isU_refl nd hw (row_names ma)
    · exact List.pairwise_iff_getElem.mp (row_chain nd hw o) a b ha hb (by omega)
  · have e : lvAfter ns h o b = (row ns h).length := by
      unfold lvAfter
      rw [List.getElem?_eq_none (by omega)]
    rw [e]
    exact lvAfter_le h o a
/-- the level to which a row comes: the last hand, its level -/
def lvS (ns : List Nt) (x : Str) : List Str → Str × Nat
  | [] => ("", 0)
  | a :: r => r.foldl (fun s b => (b, lvAfter ns b s.1 s.2)) (a, nextLevel ns a x)
theorem lvS_snoc (x a b : Str) (r : List Str) : lvS ns x (a :: r ++ [b]) = (b, lvAfter ns b (lvS ns x (a :: r)).1 (lvS ns x (a :: r)).2) := by
  show (r ++ [b]).foldl _ _ = _
  rw [List.foldl_append]
  rfl
theorem lvS_last (x : Str) (r : List Str) (b : Str) : (lvS ns x (r ++ [b])).1 = b := by
  cases r with
  | nil => rfl
  | cons a r => rw [lvS_snoc]
theorem climbN_snoc (b : Str) : ∀ (r : List Str) (x : Str), climbN ns x (r ++ [b]) = if (climbN ns x r).length = r.length then climbN ns x r ++ climbN ns ((climbN ns x r).getLastD x) [b] else climbN ns x r
  | [], x => by
    exact (if_pos rfl).symm
  | a :: r, x => by
    rw [List.cons_append, climbN]
    conv => rhs; rw [climbN]
    cases e : nextNote ns a x with
    | none =>
      show [] = if ([] : List Str).length = (a :: r).length then _ else []
      rw [if_neg (by simp)]
    | some y =>
      show y :: climbN ns y (r ++ [b]) = if (y :: climbN ns y r).length = (a :: r).length then (y :: climbN ns y r) ++ climbN ns ((y :: climbN ns y r).getLastD x) [b] else y :: climbN ns y r
      rw [climbN_snoc b r y, List.length_cons, List.length_cons]
      by_cases c : (climbN ns y r).length = r.length
      · rw [if_pos c, if_pos (by omega)]
        have e2 : (y :: climbN ns y r).getLastD x = (climbN ns y r).getLastD y := by
          cases climbN ns y r with
          | nil => rfl
          | cons p q => rfl
        rw [e2]
        rfl
      · rw [if_neg c, if_neg (by omega)]
/-- whole: its last note stands at the level; not whole: the level is the top -/
def LvOk (ns : List Nt) (x : Str) (r : List Str) : Prop :=
  ((climbN ns x r).length = r.length ∧ (row ns (lvS ns x r).1)[(lvS ns x r).2]? = some ((climbN ns x r).getLastD x)) ∨ ((climbN ns x r).length ≠ r.length ∧ (lvS ns x r).2 = (row ns (lvS ns x r).1).length)
theorem climb_one (y b : Str) : climbN ns y [b] = (nextNote ns b y).toList := by
  rw [climbN]
  cases nextNote ns b y with
  | none => rfl
  | some z => rfl
theorem lv_ok (x : Str) (r : List Str) (ne : r ≠ []) : LvOk ns x r := by
  revert ne
  refine snocInd (p := fun r => r ≠ [] → LvOk ns x r) (fun h => absurd rfl h) (fun r b ih _ => ?_) r
  cases r with
  | nil =>
    unfold LvOk
    show ((climbN ns x [b]).length = 1 ∧ (row ns b)[nextLevel ns b x]? = some ((climbN ns x [b]).getLastD x)) ∨ ((climbN ns x [b]).length ≠ 1 ∧ nextLevel ns b x = (row ns b).length)
    rw [climb_one]
    cases e : nextNote ns b x with
    | none =>
      refine .inr ⟨by simp, ?_⟩
      have h1 := nextLevel_le (ns := ns) b x
      have h2 := List.getElem?_eq_none_iff.mp e
      omega
    | some z => exact .inl ⟨rfl, e⟩
  | cons a r =>
    have i := ih (by simp)
    unfold LvOk
    rw [lvS_snoc, climbN_snoc]
    rcases i with ⟨h1, h2⟩ | ⟨h1, h2⟩
    · rw [if_pos h1, climb_one]
      have e1 : lvAfter ns b (lvS ns x (a :: r)).1 (lvS ns x (a :: r)).2 = nextLevel ns b ((climbN ns x (a :: r)).getLastD x) := by
        unfold lvAfter
        rw [h2]
      show (_ ∧ (row ns b)[lvAfter ns b (lvS ns x (a :: r)).1 (lvS ns x (a :: r)).2]? = _) ∨ (_ ∧ lvAfter ns b (lvS ns x (a :: r)).1 (lvS ns x (a :: r)).2 = (row ns b).length)
      rw [e1, List.length_append, List.length_append, h1]
      cases e : nextNote ns b ((climbN ns x (a :: r)).getLastD x) with
      | none =>
        refine .inr ⟨by simp, ?_⟩
        have h3 := nextLevel_le (ns := ns) b ((climbN ns x (a :: r)).getLastD x)
        have h4 := List.getElem?_eq_none_iff.mp e
        omega
      | some z =>
        refine .inl ⟨rfl, ?_⟩
        have e2 : (climbN ns x (a :: r) ++ (some z).toList).getLastD x = z := by simp
        rw [e2]
        exact e
    · rw [if_neg h1]
      refine .inr ⟨?_, ?_⟩
      · have := climbN_len (ns := ns) (r := a :: r) (x := x)
        rw [List.length_append, List.length_singleton]
        omega
      · show lvAfter ns b (lvS ns x (a :: r)).1 (lvS ns x (a :: r)).2 = _
        unfold lvAfter
        rw [h2, List.getElem?_eq_none (Nat.le_refl _)]
end
section
variable {p : Pc}
theorem key_at (hp : PcOk p) {h : Str} (hh : h ∈ p.hands) : (row p.ns h)[keyLevel p h]? = some (keyNote p.ns p.paper h) := by
  have hm : keyNote p.ns p.paper h ∈ row p.ns h := (List.mem_filter.mp (getLastD_mem (d := ("" : Str)) (hp.keyed hh))).1
  have e := ((row_iff hp.nd).mp hm).2
  unfold keyLevel
  rw [e]
  have hi := List.idxOf_lt_length_of_mem hm
  rw [List.getElem?_eq_getElem hi, List.getElem_idxOf hi]
/-- a row that fails comes above the key note -/
theorem fail_high (hp : PcOk p) {h : Str} {r : List Str} (hh : h ∈ p.hands) (ro : RowOk p.hands r) (hf : rowHolds p h r = false) : keyLevel p (r.getLastD "") < (lvS p.ns (p.rdy h) r).2 := by
  have hl : r.getLastD "" ∈ p.hands := ro.sub _ (getLastD_mem (d := ("" : Str)) ro.ne)
  obtain ⟨r', b, e⟩ : ∃ r' b, r = r' ++ [b] := by
    rcases List.eq_nil_or_concat r with z | ⟨ys, y, z⟩
    · exact absurd z ro.ne
    · exact ⟨ys, y, by rw [z, List.concat_eq_append]⟩
  have el : r.getLastD "" = b := by rw [e]; simp
  have el2 : (lvS p.ns (p.rdy h) r).1 = b := by rw [e]; exact lvS_last _ _ _
  have key := key_at hp hl
  rw [el] at hl key ⊢
  obtain ⟨k1, k2⟩ := List.getElem?_eq_some_iff.mp key
  rcases lv_ok (ns := p.ns) (p.rdy h) r ro.ne with ⟨h1, h2⟩ | ⟨h1, h2⟩
  · rw [el2] at h2
    obtain ⟨m1, m2⟩ := List.getElem?_eq_some_iff.mp h2
    refine Nat.lt_of_not_le fun hle => ?_
    have u : isU p.ns ((climbN p.ns (p.rdy h) r).getLastD (p.rdy h)) (keyNote p.ns p.paper b) = true := by
      rw [← k2, ← m2]
      by_cases z : (lvS p.ns (p.rdy h) r).2 = keyLevel p b
      · have : (row p.ns b)[(lvS p.ns (p.rdy h) r).2] = (row p.ns b)[keyLevel p b] := by simp only [z]
        rw [this]
        exact isU_refl hp.nd hp.wo (row_names (List.getElem_mem k1))
      · exact List.pairwise_iff_getElem.mp (row_chain hp.nd hp.wo b) _ _ m1 k1 (by omega)
    have ne2 : climbN p.ns (p.rdy h) r ≠ [] := fun z => by
      rw [z] at h1
      exact ro.ne (List.eq_nil_of_length_eq_zero h1.symm)
    have e3 : (climbN p.ns (p.rdy h) r).getLastD (p.rdy h) = (climbN p.ns (p.rdy h) r).getLastD "" := by
      cases hc : climbN p.ns (p.rdy h) r with
      | nil => exact absurd hc ne2
      | cons y z => rfl
    rw [e3] at u
    unfold rowHolds at hf
    rw [el, decide_eq_true h1, u] at hf
    cases hf
  · rw [h2, el2]
    exact k1
/-- the highest level is above each row's -/
theorem high_ge (hp : PcOk p) {x : Str} (hx : x ∈ p.ready) (r : List Str) : ∀ (b : Str) (l : List Str), (r ++ [b]).Nodup → l.Nodup → (∀ y, y ∈ l ↔ y ∈ r ++ [b]) → (lvS p.ns x (r ++ [b])).2 ≤ levB p l b := by
  refine snocInd (p := fun r => ∀ (b : Str) (l : List Str), (r ++ [b]).Nodup → l.Nodup → (∀ y, y ∈ l ↔ y ∈ r ++ [b]) → (lvS p.ns x (r ++ [b])).2 ≤ levB p l b) (fun b l nr nl hm => ?_) (fun r a ih b l nr nl hm => ?_) r
  · have hb : b ∈ l := (hm b).mpr (by simp)
    rw [levB_eq nl hb]
    have e : lessH l b = [] := List.filter_eq_nil_iff.mpr fun y hy => by
      have := (hm y).mp hy
      simp at this
      simp [this]
    rw [if_pos e]
    exact mx_le (List.mem_map.mpr ⟨x, hx, rfl⟩)
  · have hb : b ∈ l := (hm b).mpr (by simp)
    have hba : b ∉ r ++ [a] := fun z => (List.nodup_append.mp nr).2.2 _ z b (List.mem_singleton.mpr rfl) rfl
    have hml : ∀ y, y ∈ lessH l b ↔ y ∈ r ++ [a] := fun y => by
      unfold lessH
      rw [List.mem_filter, hm]
      constructor
      · rintro ⟨h1, h2⟩
        rcases List.mem_append.mp h1 with k | k
        · exact k
        · simp [List.mem_singleton.mp k] at h2
      · intro h
        refine ⟨List.mem_append_left _ h, ?_⟩
        have : y ≠ b := fun z => hba (by rw [← z]; exact h)
        simp [this]
    have ne : lessH l b ≠ [] := List.ne_nil_of_mem ((hml a).mpr (by simp))
    have i := ih a (lessH l b) (List.nodup_append.mp nr).1 (List.Nodup.sublist List.filter_sublist nl) hml
    rw [levB_eq nl hb, if_neg ne]
    have e : lvS p.ns x (r ++ [a] ++ [b]) = (b, lvAfter p.ns b a (lvS p.ns x (r ++ [a])).2) := by
      cases hr : r ++ [a] with
      | nil => simp at hr
      | cons c d =>
        rw [lvS_snoc, ← hr, lvS_last]
    rw [e]
    exact Nat.le_trans (lvAfter_mono hp.nd hp.wo b a i) (mx_le (List.mem_map.mpr ⟨a, (hml a).mpr (by simp), rfl⟩))
end
end Kb
end TQa
section TQb
set_option Elab.async false
set_option autoImplicit false
set_option linter.all false
set_option maxRecDepth 100000
/-! Qb: what fails within a lot, by the court, by the cut, by small parts; plain. -/
namespace Kb
open PySem PySem.Spec PyProof.Rows L2 PySem.W
/-- some row of hands of l, asked by F, fails from a hand of l -/
def Due (p : Pc) (F : List (List Str)) (l : List Str) : Prop := ∃ q a h, q.Nodup ∧ (∀ x ∈ q, x ∈ l) ∧ a ∈ l ∧ a ∉ q ∧ inFam F q = true ∧ h ∈ l ∧ rowHolds p h (q ++ [a]) = false
theorem inFam_iff {F : List (List Str)} {q : List Str} : inFam F q = true ↔ ∃ o ∈ F, ∀ x ∈ q, x ∈ o := by
  unfold inFam
  rw [List.any_eq_true]
  constructor
  · rintro ⟨o, h1, h2⟩
    exact ⟨o, h1, wiB_iff.mp h2⟩
  · rintro ⟨o, h1, h2⟩
    exact ⟨o, h1, wiB_iff.mpr h2⟩
theorem inFam_sub {F : List (List Str)} {q r : List Str} (h : inFam F r = true) (s : ∀ x ∈ q, x ∈ r) : inFam F q = true := by
  obtain ⟨o, h1, h2⟩ := inFam_iff.mp h
  exact inFam_iff.mpr ⟨o, h1, fun x hx => h2 x (s x hx)⟩
theorem filt_in {l q : List Str} (nl : l.Nodup) (nq : q.Nodup) (h : ∀ x ∈ q, x ∈ l) : (l.filter fun x => decide (x ∈ q)).Perm q := perm_of_mem (List.Nodup.sublist List.filter_sublist nl) nq fun x => by
  rw [List.mem_filter, decide_eq_true_eq]
  exact ⟨fun z => z.2, fun z => ⟨h x z, z⟩⟩
section
variable {p : Pc} {F : List (List Str)} {l : List Str}
theorem torn_due (nl : l.Nodup) : tornB p F l = true ↔ Due p F l := by
  unfold tornB
  rw [List.any_eq_true]
  constructor
  · rintro ⟨r, h1, h2⟩
    obtain ⟨q, a, rfl, b, b2, d1, d2, o, o1, o2, o3, o4⟩ := mem_tornRows.mp h1
    obtain ⟨h, h3, h4⟩ := List.any_eq_true.mp h2
    exact ⟨q, a, h, b, b2, d1, d2, inFam_sub o2 o4, h3, by simpa using h4⟩
  · rintro ⟨q, a, h, b, b2, d1, d2, e, h3, h4⟩
    have pm := filt_in nl b b2
    refine ⟨q ++ [a], mem_tornRows.mpr ⟨q, a, rfl, b, b2, d1, d2, l.filter fun x => decide (x ∈ q), sub_parts l _ List.filter_sublist, inFam_sub e fun x hx => pm.mem_iff.mp hx, pm.length_eq.symm, fun x hx => pm.mem_iff.mpr hx⟩, List.any_eq_true.mpr ⟨h, h3, by rw [h4]; rfl⟩⟩
theorem law_due (nl : l.Nodup) : lawTorn p F l = true ↔ Due p F l := by
  unfold lawTorn
  rw [List.any_eq_true]
  constructor
  · rintro ⟨r, h1, h2⟩
    obtain ⟨r1, r2, r3, r4⟩ := mem_rowsR.mp h1
    obtain ⟨q, a, rfl⟩ : ∃ q a, r = q ++ [a] := by
      rcases List.eq_nil_or_concat r with z | ⟨ys, y, z⟩
      · exact absurd z r1
      · exact ⟨ys, y, by rw [z, List.concat_eq_append]⟩
    obtain ⟨h3, h4⟩ := (Bool.and_eq_true _ _).mp h2
    obtain ⟨h, h5, h6⟩ := List.any_eq_true.mp h4
    rw [List.dropLast_concat] at h3
    have nd := List.nodup_append.mp r3
    exact ⟨q, a, h, nd.1, fun x hx => r4 x (List.mem_append_left _ hx), r4 a (by simp), fun z => nd.2.2 _ z a (List.mem_singleton.mpr rfl) rfl, h3, h5, by simpa using h6⟩
  · rintro ⟨q, a, h, b, b2, d1, d2, e, h3, h4⟩
    have rn : (q ++ [a]).Nodup := List.nodup_append.mpr ⟨b, by simp, fun x hx y hy z => d2 (by rw [← List.mem_singleton.mp hy, ← z]; exact hx)⟩
    have rs : ∀ x ∈ q ++ [a], x ∈ l := fun x hx => by
      rcases List.mem_append.mp hx with k | k
      · exact b2 x k
      · rw [List.mem_singleton.mp k]; exact d1
    refine ⟨q ++ [a], mem_rowsR.mpr ⟨by simp, nodup_sub_len rn rs, rn, rs⟩, ?_⟩
    rw [List.dropLast_concat, e, Bool.true_and]
    exact List.any_eq_true.mpr ⟨h, h3, by rw [h4]; rfl⟩
/-- A -/
theorem torn_law (nl : l.Nodup) : tornB p F l = lawTorn p F l := Bool.eq_iff_iff.mpr ((torn_due nl).trans (law_due nl).symm)
/-- the court -/
theorem court_due (hp : PcOk p) (hf : FamOk p.hands F) : courtB p F = false ↔ Due p F p.hands := by
  have c := hp.ct hf
  unfold courtB
  rw [Bool.not_eq_false', List.any_eq_true]
  constructor
  · rintro ⟨r, h1, h2⟩
    obtain ⟨_, h3⟩ := (Bool.and_eq_true _ _).mp h2
    have h3 : failing p r ≠ [] := by simpa using h3
    obtain ⟨h, hm⟩ := List.exists_mem_of_ne_nil _ h3
    obtain ⟨h5, h6⟩ := List.mem_filter.mp hm
    unfold courtRows at h1
    rw [mem_ksrt, List.mem_flatMap] at h1
    obtain ⟨l0, l1, l2⟩ := h1
    obtain ⟨q, a, rfl, a1, a2, a3, a4⟩ := mem_rowsOf.mp l2
    obtain ⟨b1, b2⟩ := List.mem_filter.mp a4
    have b2 : a ∉ l0 := by simpa using b2
    obtain ⟨o, o1, o2⟩ := mem_allLots.mp l1
    exact ⟨q, a, h, a2, fun x hx => c.sub l1 x (a3 x hx), b1, fun z => b2 (a3 a z), inFam_iff.mpr ⟨o, o1, fun x hx => o2.subset (a3 x hx)⟩, h5, by simpa using h6⟩
  · rintro ⟨q, a, h, b, b2, d1, d2, e, h3, h4⟩
    obtain ⟨o, o1, o2⟩ := inFam_iff.mp e
    have on : o.Nodup := sLt_nodup (hf.lot o o1).2.1
    have pm := filt_in on b o2
    have l0 : (o.filter fun x => decide (x ∈ q)) ∈ allLots F := mem_allLots.mpr ⟨o, o1, List.filter_sublist⟩
    have ao : a ∉ o.filter fun x => decide (x ∈ q) := fun z => d2 (pm.mem_iff.mp z)
    have rn : (q ++ [a]).Nodup := List.nodup_append.mpr ⟨b, by simp, fun x hx y hy z => d2 (by rw [← List.mem_singleton.mp hy, ← z]; exact hx)⟩
    have ro : RowOk p.hands (q ++ [a]) := ⟨by simp, fun x hx => by
      rcases List.mem_append.mp hx with k | k
      · exact b2 x k
      · rw [List.mem_singleton.mp k]; exact d1, rn⟩
    have hr : (q ++ [a]) ∈ courtRows p F := by
      unfold courtRows
      rw [mem_ksrt, List.mem_flatMap]
      exact ⟨_, l0, mem_rowsOf.mpr ⟨q, a, rfl, pm.length_eq.symm, b, fun x hx => pm.mem_iff.mpr hx, List.mem_filter.mpr ⟨d1, by rw [decide_eq_false ao]; rfl⟩⟩⟩
    refine ⟨q ++ [a], hr, (Bool.and_eq_true _ _).mpr ⟨?_, ?_⟩⟩
    · have el : (q ++ [a]).getLastD "" = a := by simp
      unfold isHigh
      rw [el, decide_eq_true_eq]
      have e1 : lotOf ((o.filter fun x => decide (x ∈ q)) ++ [a]) = lotOf (q ++ [a]) := sorted_ext (lotOf_sLt _) (lotOf_sLt _) fun x => by
        rw [mem_lotOf, mem_lotOf, List.mem_append, List.mem_append, pm.mem_iff]
      refine List.mem_map.mpr ⟨(lotOf (q ++ [a]), a), List.mem_filter.mpr ⟨List.mem_flatMap.mpr ⟨_, l0, List.mem_map.mpr ⟨a, List.mem_filter.mpr ⟨mem_lotOf.mpr d1, by rw [decide_eq_false ao]; rfl⟩, by rw [e1]⟩⟩, ?_⟩, rfl⟩
      have h5 := fail_high hp h3 ro h4
      rw [el] at h5
      have hx : p.rdy h ∈ p.ready := by
        unfold Pc.rdy
        have hi : p.hands.idxOf h < p.ready.length := by rw [hp.ready.len]; exact List.idxOf_lt_length_of_mem h3
        rw [getD_at hi]
        exact List.getElem_mem hi
      have h6 := high_ge hp hx q a (lotOf (q ++ [a])) rn (nodup_lotOf _) fun y => mem_lotOf
      rw [decide_eq_true_eq]
      show (keyLevel p a : Int) < (levB p (lotOf (q ++ [a])) a : Int)
      omega
    · have : failing p (q ++ [a]) ≠ [] := List.ne_nil_of_mem (List.mem_filter.mpr ⟨h3, by rw [h4]; rfl⟩)
      simpa using this
theorem due_ext {l' : List Str} (h : ∀ x, x ∈ l ↔ x ∈ l') : Due p F l ↔ Due p F l' := by
  constructor
  · rintro ⟨q, a, c, b, b2, d1, d2, e, h3, h4⟩
    exact ⟨q, a, c, b, fun x hx => (h x).mp (b2 x hx), (h a).mp d1, d2, e, (h c).mp h3, h4⟩
  · rintro ⟨q, a, c, b, b2, d1, d2, e, h3, h4⟩
    exact ⟨q, a, c, b, fun x hx => (h x).mpr (b2 x hx), (h a).mpr d1, d2, e, (h c).mpr h3, h4⟩
theorem due_mono {l' : List Str} (h : ∀ x ∈ l, x ∈ l') : Due p F l → Due p F l' := by
  rintro ⟨q, a, c, b, b2, d1, d2, e, h3, h4⟩
  exact ⟨q, a, c, b, fun x hx => h x (b2 x hx), h a d1, d2, e, h c h3, h4⟩
/-- E: small parts -/
theorem due_small {most : Nat} (nl : l.Nodup) (hm : ∀ o ∈ F, o.length ≤ most) : Due p F l ↔ ∃ q ∈ parts l, q.length ≤ most + 2 ∧ Due p F q := by
  constructor
  · rintro ⟨q, a, c, b, b2, d1, d2, e, h3, h4⟩
    obtain ⟨o, o1, o2⟩ := inFam_iff.mp e
    have ql : q.length ≤ most := Nat.le_trans (nodup_sub_len b o2) (hm o o1)
    refine ⟨l.filter fun x => decide (x ∈ q ++ [a, c]), sub_parts l _ List.filter_sublist, ?_, q, a, c, b, fun x hx => List.mem_filter.mpr ⟨b2 x hx, decide_eq_true (List.mem_append_left _ hx)⟩, List.mem_filter.mpr ⟨d1, decide_eq_true (by simp)⟩, d2, e, List.mem_filter.mpr ⟨h3, decide_eq_true (by simp)⟩, h4⟩
    have h5 : (l.filter fun x => decide (x ∈ q ++ [a, c])).length ≤ (q ++ [a, c]).length := nodup_sub_len (List.Nodup.sublist List.filter_sublist nl) fun x hx => of_decide_eq_true (List.mem_filter.mp hx).2
    have h6 : (q ++ [a, c]).length = q.length + 2 := by simp
    omega
  · rintro ⟨q, h1, _, h2⟩
    exact due_mono (fun x hx => (parts_sub l q h1).subset hx) h2
end
/-! the cut family -/
theorem up_top {ls : List (List Str)} (hs : ∀ l ∈ ls, l.Pairwise sLt) (h6 : ∀ l ∈ ls, l.length ≤ 6) : ∀ (n : Nat) (o : List Str), o ∈ ls → 6 - o.length ≤ n → ∃ t ∈ tops ls, ∀ x ∈ o, x ∈ t
  | n, o, ho, hn => by
    by_cases c : o ∈ tops ls
    · exact ⟨o, c, fun x hx => hx⟩
    · unfold tops at c
      rw [List.mem_filter] at c
      have c : (ls.any fun o' => !decide (o = o') && wiB o o') = true := Classical.byContradiction fun z => c ⟨ho, by simpa using z⟩
      obtain ⟨o2, h2, h3⟩ := List.any_eq_true.mp c
      obtain ⟨h4, h5⟩ := (Bool.and_eq_true _ _).mp h3
      have h4 : o ≠ o2 := by simpa using h4
      have lt : o.length < o2.length := Nat.lt_of_not_le fun z => h4 (sub_eq (hs o ho) (hs o2 h2) z h5)
      have := h6 o2 h2
      match n, hn with
      | 0, hn => omega
      | n + 1, hn =>
        obtain ⟨t, t1, t2⟩ := up_top hs h6 n o2 h2 (by omega)
        exact ⟨t, t1, fun x hx => t2 x (wiB_iff.mp h5 x hx)⟩
theorem famOf_in {ls : List (List Str)} (ne : ls ≠ []) (hs : ∀ l ∈ ls, l.Pairwise sLt) (h6 : ∀ l ∈ ls, l.length ≤ 6) (q : List Str) : inFam (famOf ls) q = true ↔ inFam ls q = true := by
  have hs' : ∀ l ∈ lotsOf ls, l.Pairwise sLt := fun l hl => hs l (mem_lotsOf.mp hl)
  have h6' : ∀ l ∈ lotsOf ls, l.length ≤ 6 := fun l hl => h6 l (mem_lotsOf.mp hl)
  have tne : tops (lotsOf ls) ≠ [] := by
    obtain ⟨o, ho⟩ := List.exists_mem_of_ne_nil _ ne
    obtain ⟨t, ht, _⟩ := up_top hs' h6' 6 o (mem_lotsOf.mpr ho) (by omega)
    exact List.ne_nil_of_mem ht
  have e : famOf ls = tops (lotsOf ls) := if_neg tne
  rw [e, inFam_iff, inFam_iff]
  constructor
  · rintro ⟨o, h1, h2⟩
    exact ⟨o, mem_lotsOf.mp (List.mem_filter.mp h1).1, h2⟩
  · rintro ⟨o, h1, h2⟩
    obtain ⟨t, ht, h3⟩ := up_top hs' h6' 6 o (mem_lotsOf.mpr h1) (by omega)
    exact ⟨t, ht, fun x hx => h3 x (h2 x hx)⟩
section
variable {p : Pc} {F : List (List Str)} {l : List Str}
theorem cutF_mem (hf : FamOk p.hands F) (h6 : p.hands.length ≤ 6) : ∀ o ∈ F.map (fun o => o.filter fun x => decide (x ∈ l)), Lot o ∧ o.length ≤ 6 ∧ ∀ x ∈ o, x ∈ p.hands ∧ x ∈ l := fun o ho => by
  obtain ⟨o', h1, rfl⟩ := List.mem_map.mp ho
  have hl := hf.lot o' h1
  have l1 : o'.length ≤ 6 := Nat.le_trans (nodup_sub_len (sLt_nodup hl.2.1) (hf.sub o' h1)) h6
  have l2 := List.length_filter_le (fun x => decide (x ∈ l)) o'
  exact ⟨⟨fun x hx => hl.1 x (List.mem_filter.mp hx).1, hl.2.1.sublist List.filter_sublist, by omega⟩, by omega, fun x hx => ⟨hf.sub o' h1 x (List.mem_filter.mp hx).1, of_decide_eq_true (List.mem_filter.mp hx).2⟩⟩
theorem cutF_in (hf : FamOk p.hands F) (h6 : p.hands.length ≤ 6) {q : List Str} (hq : ∀ x ∈ q, x ∈ l) : inFam (cutFam l F) q = true ↔ inFam F q = true := by
  have m := cutF_mem (l := l) hf h6
  unfold cutFam
  rw [famOf_in (fun z => hf.ne (List.map_eq_nil_iff.mp z)) (fun o ho => (m o ho).1.2.1) (fun o ho => (m o ho).2.1), inFam_iff, inFam_iff]
  constructor
  · rintro ⟨o, h1, h2⟩
    obtain ⟨o', h3, rfl⟩ := List.mem_map.mp h1
    exact ⟨o', h3, fun x hx => (List.mem_filter.mp (h2 x hx)).1⟩
  · rintro ⟨o, h1, h2⟩
    exact ⟨_, List.mem_map.mpr ⟨o, h1, rfl⟩, fun x hx => List.mem_filter.mpr ⟨h2 x hx, decide_eq_true (hq x hx)⟩⟩
theorem cutF_ok (hf : FamOk p.hands F) (h6 : p.hands.length ≤ 6) : FamOk (cutH p l) (cutFam l F) := by
  have m := cutF_mem (l := l) hf h6
  have nd := nodup_lotsOf (F.map fun o => o.filter fun x => decide (x ∈ l))
  have lt := lotsOf_lt (F.map fun o => o.filter fun x => decide (x ∈ l))
  have ll := len_lotsOf (F.map fun o => o.filter fun x => decide (x ∈ l))
  rw [List.length_map] at ll
  have f63 := hf.len
  unfold cutFam famOf
  by_cases c : tops (lotsOf (F.map fun o => o.filter fun x => decide (x ∈ l))) = []
  · rw [if_pos c]
    refine ⟨by simp, fun o ho => ?_, fun o ho x hx => ?_, List.pairwise_singleton _ _, fun pre o post e o' ho' => ?_, by simp⟩
    · rw [List.mem_singleton.mp ho]
      exact ⟨fun x h => (by cases h), List.Pairwise.nil, by simp⟩
    · rw [List.mem_singleton.mp ho] at hx
      cases hx
    · have := congrArg List.length e
      rw [List.length_append, List.length_cons] at this
      have hpre : pre = [] := List.eq_nil_of_length_eq_zero (by simp at this; omega)
      have hpost : post = [] := List.eq_nil_of_length_eq_zero (by simp at this; omega)
      rw [hpre, hpost] at ho'
      cases ho'
  · rw [if_neg c]
    have tm : ∀ o ∈ tops (lotsOf (F.map fun o => o.filter fun x => decide (x ∈ l))), o ∈ F.map (fun o => o.filter fun x => decide (x ∈ l)) := fun o ho => mem_lotsOf.mp (List.mem_filter.mp ho).1
    have ts : (tops (lotsOf (F.map fun o => o.filter fun x => decide (x ∈ l)))).Sublist (lotsOf (F.map fun o => o.filter fun x => decide (x ∈ l))) := List.filter_sublist
    refine ⟨c, fun o ho => (m o (tm o ho)).1, fun o ho x hx => mem_cutH.mpr ((m o (tm o ho)).2.2 x hx), lt.sublist ts, fun pre o post e o' ho' => ?_, by have := ts.length_le; omega⟩
    obtain ⟨k1, k2⟩ := anti_mid (nd.sublist ts) e ho'
    have ho : o ∈ tops (lotsOf (F.map fun o => o.filter fun x => decide (x ∈ l))) := by rw [e]; simp
    have h1 := (List.mem_filter.mp ho).2
    have h1 : ((lotsOf (F.map fun o => o.filter fun x => decide (x ∈ l))).any fun o' => !decide (o = o') && wiB o o') = false := by simpa using h1
    have h2 := List.any_eq_false.mp h1 o' (List.mem_filter.mp k1).1
    refine Bool.eq_false_iff.mpr fun z => h2 ?_
    rw [z, decide_eq_false (Ne.symm k2)]
    rfl
theorem zip_map {f : Str → Str} : ∀ {hs : List Str} {q : Str × Str}, q ∈ (hs.map f).zip hs → ∃ h ∈ hs, q = (f h, h)
  | [], q, h => by cases h
  | x :: hs, q, h => by
    rw [List.map_cons, List.zip_cons_cons] at h
    rcases List.mem_cons.mp h with z | z
    · exact ⟨x, List.mem_cons_self, z⟩
    · obtain ⟨y, h1, h2⟩ := zip_map z
      exact ⟨y, List.mem_cons_of_mem _ h1, h2⟩
/-- the cut pact is well told -/
theorem cut_ok (hp : PcOk p) (hl : LotIn p.hands l) (h2 : 2 ≤ l.length) : PcOk (cutP p l) := by
  have nd := hp.nd
  have wo := hp.wo
  have hmem : ∀ x, x ∈ cutH p l ↔ x ∈ l := fun x => mem_cutH.trans ⟨fun z => z.2, fun z => ⟨hl.sub x z, z⟩⟩
  have hnd : (cutH p l).Nodup := List.Nodup.sublist List.filter_sublist hp.hands.nd
  have hpm := perm_of_mem hnd hl.nd hmem
  have cl : (cutNs p l).length ≤ 40 := by
    have h1 := (cutN_sub (p := p) (l := l)).length_le
    rw [names_len] at h1
    have h3 := hp.ns.len
    unfold cutNs
    rw [List.length_map]
    omega
  have nmn : ∀ x ∈ names p.ns, Nm x := fun x hx => by
    obtain ⟨n, h1, rfl⟩ := mem_names.mp hx
    exact (hp.note h1).1
  have wsl : ∀ x, Lot (cutWs p l x) := fun x => by
    have h1 : (underOf p.ns x).Pairwise sLt := lotOf_sLt _
    have h3 : (cutWs p l x).length ≤ 40 := sub40 hp.ns.len (sLt_nodup (h1.sublist List.filter_sublist)) fun y hy => cutN_sub.subset ((mem_cutWs nd).mp hy).1
    exact ⟨fun y hy => nmn y (cutN_sub.subset ((mem_cutWs nd).mp hy).1), h1.sublist List.filter_sublist, by omega⟩
  have two : 2 ≤ (cutNs p l).length := by
    have h1 : (cutH p l).length ≤ (cutN p l).length := by
      have h3 : ((cutH p l).map p.rdy).Nodup := List.pairwise_iff_getElem.mpr fun i j hi hj hij e => by
        rw [List.getElem_map, List.getElem_map] at e
        rw [List.length_map] at hi hj
        have a := (hp.rdy (mem_cutH.mp (List.getElem_mem hi)).1).2
        have b := (hp.rdy (mem_cutH.mp (List.getElem_mem hj)).1).2
        rw [← e] at b
        have := (List.getElem_inj hnd).mp (((row_iff nd).mp a).2.symm.trans ((row_iff nd).mp b).2)
        omega
      have h4 := nodup_sub_len h3 (ys := cutN p l) fun x hx => by
        obtain ⟨h, h5, rfl⟩ := List.mem_map.mp hx
        obtain ⟨h6, h7⟩ := mem_cutH.mp h5
        exact cut_rowN nd h7 (hp.rdy h6).2
      rw [List.length_map] at h4
      exact h4
    have h3 := hpm.length_eq
    unfold cutNs
    rw [List.length_map]
    omega
  refine ⟨⟨by show 2 ≤ (cutH p l).length; rw [hpm.length_eq]; exact h2, ?_, fun x hx => hp.hands.nm x (mem_cutH.mp hx).1, hnd⟩, ⟨cut_nd nd, cut_wo nd wo, cl, fun n hn => ?_⟩, two, fun pre n post e => ?_, ⟨List.length_map _, fun q hq => ?_⟩, ⟨?_, fun x hx => ?_, fun h hh => ?_⟩⟩
  · have := List.length_filter_le (fun h => decide (h ∈ l)) p.hands
    have := hp.hands.hi
    show (cutH p l).length ≤ 6
    unfold cutH
    omega
  · obtain ⟨x, _, rfl⟩ := List.mem_map.mp hn
    exact (wsl x).2.2
  · have e : cutNs p l = pre ++ n :: post := e
    obtain ⟨e1, e2, e3, e4⟩ := cut_split nd e
    have hx := (mem_cutN nd).mp e2
    have ehd : n.hd = hdOf p.ns n.nm := by
      conv => lhs; rw [e1]
      rfl
    obtain ⟨m, m1, m2⟩ := mem_names.mp hx.1
    have hph : n.hd ∈ p.hands := by rw [ehd, ← m2, hdOf_mem nd m1]; exact (hp.note m1).2
    refine ⟨nmn _ hx.1, fun z => ?_, hp.hands.nm _ hph, mem_cutH.mpr ⟨hph, by rw [ehd]; exact hx.2⟩, ?_, cut_wo nd wo pre n post e⟩
    · have := e3 _ z
      omega
    · rw [e1]
      exact wsl n.nm
  · obtain ⟨h, h1, rfl⟩ := zip_map (f := p.rdy) hq
    have hm := mem_cutH.mp h1
    have r := hp.rdy hm.1
    exact ⟨r.1, cutNt p l (p.rdy h), List.mem_map.mpr ⟨_, cut_rowN nd hm.2 r.2, rfl⟩, rfl, ((row_iff nd).mp r.2).2⟩
  · have h1 : (whole p).Pairwise sLt := lotOf_sLt _
    have h3 : ((whole p).filter fun x => decide (x ∈ cutN p l)).length ≤ 40 := sub40 hp.ns.len (sLt_nodup (h1.sublist List.filter_sublist)) fun y hy => ((mem_whole nd).mp (List.mem_filter.mp hy).1).1
    exact ⟨fun y hy => nmn y ((mem_whole nd).mp (List.mem_filter.mp hy).1).1, h1.sublist List.filter_sublist, Nat.le_trans h3 (by decide)⟩
  · rw [show names (cutP p l).ns = cutN p l from names_cut]
    exact of_decide_eq_true (List.mem_filter.mp hx).2
  · obtain ⟨hh1, hh2⟩ := mem_cutH.mp hh
    have ke := cut_key nd wo (p := p) hh2
    have kne := hp.keyed hh1
    rw [← ke] at kne
    obtain ⟨x, hx⟩ := List.exists_mem_of_ne_nil _ kne
    obtain ⟨x1, x2⟩ := List.mem_filter.mp hx
    have xn := row_names x1
    obtain ⟨m, m1, m2, m3⟩ := mem_row.mp x1
    have hpl := pl_lt xn
    obtain ⟨k, hk, ek⟩ := List.getElem_of_mem m1
    have hkn : k < (names (cutNs p l)).length := by rw [names_len]; exact hk
    have hjn : pl (cutNs p l) x < (names (cutNs p l)).length := by rw [names_len]; exact hpl
    have a1 : (names (cutNs p l))[pl (cutNs p l) x] = x := (List.getElem?_eq_some_iff.mp (pl_at xn)).2
    have a2 : (names (cutNs p l))[k] = (cutNs p l)[k].nm := by unfold names; exact List.getElem_map _
    have e3 := (List.getElem_inj (cut_nd nd)).mp (a1.trans (m3.symm.trans (by rw [a2, ek])))
    refine ⟨pl (cutNs p l) x, m, ?_, m2, x2⟩
    show (cutNs p l)[pl (cutNs p l) x]? = some m
    rw [List.getElem?_eq_getElem hpl]
    simp only [e3, ek]
/-- B -/
theorem cut_due (hp : PcOk p) (hf : FamOk p.hands F) (hl : LotIn p.hands l) (h2 : 2 ≤ l.length) : courtB (cutP p l) (cutFam l F) = !lawTorn p F l := by
  have h6 := hp.hands.hi
  have key : courtB (cutP p l) (cutFam l F) = false ↔ lawTorn p F l = true := by
    rw [court_due (cut_ok hp hl h2) (cutF_ok hf h6), law_due hl.nd]
    have hmem : ∀ x, x ∈ (cutP p l).hands ↔ x ∈ l := fun x => mem_cutH.trans ⟨fun z => z.2, fun z => ⟨hl.sub x z, z⟩⟩
    rw [due_ext hmem]
    constructor
    · rintro ⟨q, a, c, b, b2, d1, d2, e, h3, h4⟩
      have rs : ∀ x ∈ q ++ [a], x ∈ l := fun x hx => by
        rcases List.mem_append.mp hx with k | k
        · exact b2 x k
        · rw [List.mem_singleton.mp k]; exact d1
      rw [cut_holds hp h3 (hl.sub c h3) rs (fun x hx => hl.sub x (rs x hx)) (by simp)] at h4
      exact ⟨q, a, c, b, b2, d1, d2, (cutF_in hf h6 b2).mp e, h3, h4⟩
    · rintro ⟨q, a, c, b, b2, d1, d2, e, h3, h4⟩
      have rs : ∀ x ∈ q ++ [a], x ∈ l := fun x hx => by
        rcases List.mem_append.mp hx with k | k
        · exact b2 x k
        · rw [List.mem_singleton.mp k]; exact d1
      rw [← cut_holds hp h3 (hl.sub c h3) rs (fun x hx => hl.sub x (rs x hx)) (by simp)] at h4
      exact ⟨q, a, c, b, b2, d1, d2, (cutF_in hf h6 b2).mpr e, h3, h4⟩
  cases h : lawTorn p F l with
  | true => exact key.mpr h
  | false =>
    cases c : courtB (cutP p l) (cutFam l F) with
    | true => rfl
    | false =>
      rw [key.mp c] at h
      cases h
/-- D -/
theorem whole_due (hp : PcOk p) (hf : FamOk p.hands F) (nl : l.Nodup) (hm : ∀ x, x ∈ l ↔ x ∈ p.hands) : courtB p F = !tornB p F l := by
  have key : courtB p F = false ↔ tornB p F l = true := by
    rw [court_due hp hf, torn_due nl, due_ext hm]
  cases h : tornB p F l with
  | true => exact key.mpr h
  | false =>
    cases c : courtB p F with
    | true => rfl
    | false =>
      rw [key.mp c] at h
      cases h
end
end Kb
end TQb
section TXd
set_option Elab.async false
set_option autoImplicit false
set_option linter.all false
set_option maxRecDepth 100000
set_option maxHeartbeats 4000000
/-! Xd: the law's own def, helpers: a lot of drawn hands; the deal taken over. -/
namespace Kb
open PySem PySem.Spec PyProof.Rows L2 PySem.W
section
variable {X : Cx} {Z : Zn} {F0 G : Hp} {ρ : En} {e a b : Expr} {es : List Expr} {pos p p2 : Pos} {Φ : Po} {rest : List Stmt}
theorem mLx_new {q : List PyData → Prop} {H F' H' : Hp} {l : Addr} {vs : List V} {ds : List PyData} (zk : Z.ok H) (hn : H l = none) (ho : H' l = some (.lst vs)) (r : RpL F' vs ds) (hq : q ds) : (mLx (Z := Z) q).ok F' H' (.ref l) := ⟨ds, hq, l, _, rfl, ho, ⟨vs, rfl, r⟩, fun z => zk.there z hn⟩
/-- xs[:n], xs one of several -/
theorem dslX {α : Type} {q : α → Prop} {g_ : α → List PyData} {hi : Option Expr} {n : Nat} (ha : PE X a (tO Z ρ (Ty.ex q fun x => Dt (.list (g_ x))).od)) (hh : PO X hi (tPo Z ρ (some (n : Int)))) : PE X (.Subscript a (.Slice none hi none p2) pos) (tO Z ρ (mLx fun ds => ∃ x, q x ∧ ds = (g_ x).take n)) :=
  (pe_slice sl_list ha po0 hh).imp fun σ H Q h => tO.use h fun F0 G F H1 v s k1 k => ⟨F0, G, F, s, fun F2 H2 g2 => ⟨F0, G, F2, s.mv g2, fun F3 H3 g3 => by
    have g := g2.tr g3
    obtain ⟨x, hx, k1⟩ := k1
    cases (show Rp F v _ from k1) with
    | @lst p us _ h1 h2 =>
      refine ⟨p, us, rfl, SqL.of (g.fh _ _ (g.f _ _ h1)), fun l hl => ?_⟩
      have h2' := (RpL.mono g.f _ _ h2).cut none (some (n : Int))
      have e : cutA (g_ x) none (some (n : Int)) = (g_ x).take n := by rw [cutA_to _ (by omega)]; rfl
      rw [e] at h2'
      have gn := Go.new (o := .lst (cutV us none (some (n : Int)))) g.fh g.zk hl
      exact k (.ref l) F3 _ (g.tr gn) (mLx_new g.zk hl upd_same h2' ⟨x, hx, rfl⟩)⟩⟩
/-- sorted(xs), xs one of several -/
theorem dsortX (T : Bi X.mg) {q : List PyData → Prop} (hu : X.A.units + 64 < cLine) (ha : PE X a (tO Z ρ (mLx q))) (ok : ∀ ds, q ds → SortOk ds ∧ ds.length ≤ 100000 ∧ ∀ d ∈ ds, d.depth ≤ 60) (hg : Gl X "sorted" := by rfl) (hs : starEach [a] X.env = (false, eval a X.env) :: starEach [] X.env := by rfl) :
    PE X (.Call (.Name "sorted" p) [a] [] pos) (tO Z ρ (mLx fun ds => ∃ ds', q ds' ∧ ds = ds'.mergeSort (dataLe false id))) :=
  (pe_callB (cr_sortD hu) hg T.sorted (by decide +kernel) (pa1 ha hs) (he := hs)).imp (cb_imp (X := X) fun F0 G F H σ vs Q s k1 k => by
    cases k1 with
    | cons h1 h2 =>
      cases h2
      obtain ⟨ds, hds, h1⟩ := h1
      obtain ⟨p, us, rfl, h3, h4⟩ := mL_at h1
      obtain ⟨o1, o2, o3⟩ := ok ds hds
      exact ⟨p, us, F, ds, rfl, .inl (SqL.of h3), s.fh, h4, o1, o2, o3, fun ys l r hl => k (.ref l) F _ (Go.new s.fh s.zk hl) (mLx_new s.zk hl upd_same r ⟨ds, hds, rfl⟩)⟩)
/-- tuple(xs), xs one of several -/
theorem dtupLX (T : Bi X.mg) {q : List PyData → Prop} (ha : PE X a (tO Z ρ (mLx q))) (hg : Gl X "tuple" := by rfl) (hs : starEach [a] X.env = (false, eval a X.env) :: starEach [] X.env := by rfl) : PE X (.Call (.Name "tuple" p) [a] [] pos) (tO Z ρ (Ty.ex q fun ds => Dt (.tuple ds)).od) :=
  (pe_callTy call_tuple_of hg T.tuple (by decide +kernel) (pa1 ha hs) (he := hs)).imp (cb_imp (X := X) fun F0 G F H σ vs Q s k1 k => by
    cases k1 with
    | cons h1 h2 =>
      cases h2
      obtain ⟨ds, hds, h1⟩ := h1
      obtain ⟨p, us, rfl, h3, h4⟩ := mL_at h1
      refine ⟨p, us, rfl, .inl ⟨SqL.of h3, fun l hl => ?_⟩⟩
      exact k _ _ _ (Go.put s.fh s.zk hl) ⟨ds, hds, .tup upd_same .t (RpL.mono (same_new (s.fh.free hl)) _ _ h4)⟩)
/-- isinstance(a, Just), a a Just or a Torn -/
structure JT (mg : Str → Option Value) (K : PySem.W.Frag) (CJ CT : Addr) : Prop where
  mj : mg "Just" = some (.ref CJ)
  ij : Isc K CJ
  it : Isc K CT
  jj : PySem.W.kitOne K (.ref CJ) (.ref CJ) = some true
  tj : PySem.W.kitOne K (.ref CT) (.ref CJ) = some false
theorem dJust (T : Bi X.mg) {CJ CT : Addr} (J : JT X.mg X.K CJ CT) {k : Bool} {p1 : Pos} (ha : PE X a (tO Z ρ (tyW CJ CT k).od)) (hgy : Gl X "Just" := by rfl)
    (hg : Gl X "isinstance" := by rfl) (hs : starEach [a, .Name "Just" p1] X.env = (false, eval a X.env) :: starEach [.Name "Just" p1] X.env := by rfl) (hs2 : starEach [.Name "Just" p1] X.env = (false, eval (.Name "Just" p1) X.env) :: starEach [] X.env := by rfl) (hpl : (backTo pos (starEach [.Name "Just" p1] X.env)).any (·.1) = false := by rfl) :
    PE X (.Call (.Name "isinstance" p) [a, .Name "Just" p1] [] pos) (tD Z ρ (.bool k)) := by
  cases k with
  | true => exact disI T J.ij ha J.mj J.jj hgy (by decide) hg hs hs2 hpl
  | false => exact disI T J.it ha J.mj J.tj hgy (by decide) hg hs hs2 hpl
/-- the deal is made and taken over -/
theorem sdeal {tb : Addr} {qn : Str} {ns : List Int} {n j : Nat} (i : Nat) {x : Str} {pn pd cpos : Pos} {y : Str} (hN : X.N.Nodup) (hr : Room n X.A) (C : Can X y j (spDeal X.K ⟨tb, qn, none⟩)) (ha : PA X (e :: es) (tOs ⟨tb, qn, none⟩ ρ ([tyScr X.K ns, Dt (.int 43)].map Ty.od))) (hns : ns.length ≤ 63)
    (hG : Same F0 G) (him : ∀ (k : Nat) (a : AV), ρ[k]? = some (some a) → ∃ t, a = AV.im t) (hil : i < ρ.length)
    (h2 : ∀ q l, PSs X rest (tS ⟨tb, qn, some (q, l)⟩ F0 G (ρ.set i (some .dl)) Φ)) (hnx : ∀ ρ', ¬ Φ.nx ρ') (hbk : ∀ ρ', ¬ Φ.bk ρ') (hct : ∀ ρ', ¬ Φ.ct ρ') (hi : X.N[i]? = some x := by rfl) (hx : Loc X.env.scope x := by first | exact Or.inl rfl | exact Or.inr rfl) (hg : Gl X y := by rfl) (hj : j ≤ n := by decide) (hdb : (y == ("__debug__" : Str)) = false := by decide)
    (he : starEach (e :: es) X.env = (false, eval e X.env) :: starEach es X.env := by rfl) (hpl : (backTo cpos (starEach es X.env)).any (·.1) = false := by rfl) (hs : swapsWith (.Call (.Name y pn) (e :: es) [] cpos) (some (.Name x pd)) pos.line X.env = pure false := by rfl) (hf : X.fn x = true ∨ X.env.scope.names.lookup x = some .local := by first | exact .inl rfl | exact .inr rfl) :
    PSs X (.Assign [.Name x pd] (.Call (.Name y pn) (e :: es) [] cpos) pos :: rest) (tS ⟨tb, qn, none⟩ F0 G ρ Φ) := by
  obtain ⟨k, f, fd, ps, F, hk, hm, kp, hb⟩ := C
  refine (pss_cons (u := fun D σ H => ∃ q l, tS ⟨tb, qn, some (q, l)⟩ F0 G (ρ.set i (some .dl)) Φ D σ H) (ps_set hN hi hx (pe_call F (hr.mono (Nat.le_trans hk hj)) hg hm kp hb .nil pass0 ha hdb he hpl) hs hf) ⟨?_⟩).imp fun D σ H ⟨F, s, k1, k2, k3, k4⟩ => ⟨F0, G, F, s, fun vs F1 H1 g1 ok => ?_⟩
  · rintro pins s σ H D Iv ⟨q, l, h⟩
    exact (h2 q l).run pins s σ H D Iv h
  · have s1 := s.mv g1
    show spDeal X.K ⟨tb, qn, none⟩ (vs ++ []) H1 _ E0
    rw [List.append_nil]
    refine ⟨ns, F1, ok, hns, s1.fh, s1.zo, s1.zk, fun q l cs b F' H' g hq hl fq fl h3 h4 h5 h6 h7 h8 => ?_⟩
    have s2 := s1.mv g
    have gn : ∀ a, H1 a = none → G a = none := fun a ha => by
      cases e : G a with
      | none => rfl
      | some u =>
        have := s1.go.h a u (fun z => s1.zk.there z ha) e
        rw [ha] at this
        cases this
    have gq := gn q hq
    have gl := gn l hl
    refine ⟨q, l, F', ⟨⟨s2.go.f, s2.go.fh, fun a o n e => s2.go.h a o (fun z => n (Zn.no_out (Z := ⟨tb, qn, some (q, l)⟩) z)) e, s2.go.nw, ⟨s2.zk.tab, fun pr e => ?_⟩⟩, fun a z => ?_, ?_, fun c t h => ?_, fun c m h => ?_, fun c d m m' p1 p2 _ h _ _ _ => ?_, fun c h => ?_⟩, fun ρ' σ' F2 H2 hn _ _ => absurd hn (hnx ρ'), fun t v F2 H2 ht g2 hv => ?_, fun ρ' σ' F2 H2 hn _ _ => absurd hn (hbk ρ'), fun ρ' σ' F2 H2 hn _ _ => absurd hn (hct ρ')⟩
    · cases e
      exact ⟨cs, b, h3, h4, h5, h6, h7, h8⟩
    · rcases z with z | ⟨pr, e, z⟩
      · exact s2.zo a (.inl z)
      · cases e
        rcases z with z | z
        · rw [z]; exact fq
        · rw [z]; exact fl
    · rw [List.length_set, List.length_set, s2.len]
    · rcases gt_set h with ⟨e, hu⟩ | ⟨e, hu⟩
      · cases hu
      · obtain ⟨w, a1, a2⟩ := s2.im c t hu
        exact ⟨w, by rw [List.getElem?_set_ne (Ne.symm e)]; exact a1, a2⟩
    · rcases gt_set h with ⟨e, hu⟩ | ⟨e, hu⟩
      · cases hu
      · obtain ⟨t, e2⟩ := him c _ hu
        cases e2
    · rcases gt_set h with ⟨e, hu⟩ | ⟨e, hu⟩
      · cases hu
      · obtain ⟨t, e2⟩ := him c _ hu
        cases e2
    · rcases gt_set h with ⟨e, hu⟩ | ⟨e, hu⟩
      · refine ⟨(q, l), rfl, ?_⟩
        rw [e, List.getElem?_set_self (s2.lt hil)]
      · obtain ⟨t, e2⟩ := him c _ hu
        cases e2
    · refine k2 t v F2 H2 ht ⟨g2.f, g2.fh, fun a o n e => g2.h a o (fun z => ?_) e, g2.nw, ⟨g2.zk.tab, fun pr e => by cases e⟩⟩ hv
      rcases z with z | ⟨pr, e2, z⟩
      · exact n (.inl z)
      · cases e2
        rcases z with z | z
        · rw [z, gq] at e
          cases e
        · rw [z, gl] at e
          cases e
end
end Kb
end TXd
section TXe
set_option Elab.async false
set_option autoImplicit false
set_option linter.all false
set_option maxRecDepth 100000
set_option maxHeartbeats 4000000
/-! Xe: the law. -/
namespace Kb
open PySem PySem.Spec PyProof.Rows L2 PySem.W
/-- what the law promises: True -/
def spLaw (K : PySem.W.Frag) (tb : Addr) (qn : Str) : Sp := fun vs H Q _ => ∃ (ns : List Int) (a : Addr), vs = [.ref a] ∧ SqL K H a (ns.map V.int) ∧ ns.length ≤ 63 ∧ H tb = some (.tbl #[]) ∧ K.lookup tb = none ∧ ∀ H', Q (.bl true) H'
theorem FamOk.of {hs hs' : List Str} {F : List (List Str)} (h : FamOk hs F) (m : ∀ x ∈ hs, x ∈ hs') : FamOk hs' F := ⟨h.ne, h.lot, fun l hl x hx => m x (h.sub l hl x hx), h.lt, h.anti, h.len⟩
/-- the lots so far that do not fail -/
def keptL (p : Pc) (F : List (List Str)) (ls : List (List Str)) : List (List Str) := ls.filter fun q => !lawTorn p F q
theorem ksrt_hd {l : List Str} : ∃ r, ksrt (parts l) = [] :: r := by
  have hm : ([] : List Str) ∈ ksrt (parts l) := mem_ksrt.mpr (sub_parts l [] (List.nil_sublist l))
  cases h : ksrt (parts l) with
  | nil => rw [h] at hm; cases hm
  | cons a r =>
    by_cases c : a = []
    · exact ⟨r, by rw [c]⟩
    · have := ksrt_ahead (pre := []) (post := r) (q := a) (r := []) h (sub_parts l [] (List.nil_sublist l)) (List.length_pos_iff.mpr c)
      cases this
theorem kept_iff {p : Pc} {F : List (List Str)} {so l q : List Str} {pre post : List (List Str)} (e : ksrt (parts so) = pre ++ l :: post) (hq : q ∈ parts l) : q ∈ keptL p F (pre ++ [l]) ↔ lawTorn p F q = false := by
  have hl : l ∈ parts so := mem_ksrt.mp (by rw [e]; simp)
  have qs := parts_sub l q hq
  have qp : q ∈ parts so := sub_parts so q (qs.trans (parts_sub so l hl))
  unfold keptL
  rw [List.mem_filter, Bool.not_eq_true']
  refine ⟨fun z => z.2, fun z => ⟨?_, z⟩⟩
  by_cases c : q.length < l.length
  · exact List.mem_append_left _ (ksrt_ahead e qp c)
  · have : q = l := qs.eq_of_length_le (by omega)
    rw [this]
    simp
theorem eqv_lots (a b : List (List Str)) : PyData.eqv (.list (a.map eL)) (.list (b.map eL)) = decide (a = b) := by
  have key : ∀ a b : List (List Str), PyData.eqvAll (a.map eL) (b.map eL) = decide (a = b) := fun a => by
    induction a with
    | nil =>
      intro b
      cases b with
      | nil => rfl
      | cons x y => rfl
    | cons x y ih =>
      intro b
      cases b with
      | nil => rfl
      | cons u v =>
        show (PyData.eqv (eL x) (eL u) && PyData.eqvAll (y.map eL) (v.map eL)) = _
        rw [eqv_lot, ih v]
        by_cases h1 : x = u
        · by_cases h2 : y = v
          · rw [h1, h2]
            simp
          · rw [decide_eq_false h2, Bool.and_false]
            exact (decide_eq_false fun z => h2 (List.cons.inj z).2).symm
        · rw [decide_eq_false h1, Bool.false_and]
          exact (decide_eq_false fun z => h1 (List.cons.inj z).1).symm
  exact key a b
theorem filt_all {α : Type} [DecidableEq α] {f : α → Bool} {l : List α} : decide (l = l.filter f) = l.all f := by
  rw [Bool.eq_iff_iff, decide_eq_true_eq, List.all_eq_true]
  exact ⟨fun h => List.filter_eq_self.mp h.symm, fun h => (List.filter_eq_self.mpr h).symm⟩
section
variable {P : Program} {w : World} {K : PySem.W.Frag} {mg : Str → Option Value} {base : Heap} {tb : Addr} {C CJ CT : Addr}
theorem okLaw {x : Str} {st : Stmt} {N ps : List Str} {k : Nat} {f : Addr} {fd : FuncData} (F : Fun K x x st f fd) (S : FnScope N ps (defScope st)) (hl : ps.length = 1) (hn : ps.length ≤ N.length)
    (body : ∀ (f : Addr) (cdv : Value) (A : Around) (outer : List Env) (s : Shared) (H : Hp) (E : XK) (ns : List Int) (F0 G : Hp), Room k (A.deeper (envOfC x (defScope st) s.heap.objs.size f cdv)) → ns.length ≤ 63 → Same F0 G →
      PSs (cxOf CX0 P w K mg base N x (defScope st) f cdv A outer s H E).nox (defBody st) (tS ⟨tb, lamN, none⟩ F0 G (en0 [tyScr K ns] (N.length - ps.length)) ⟨fun _ => False, (· = Dt (.bool true)), fun _ => False, fun _ => False⟩)) : FnOk P w K mg base CX0 (k + 1) f fd ps (spLaw K tb lamN) := by
  refine F.ok S (fun vs H Q E h => ?_) (fun cdv A outer s H vs Q E hr h => ?_)
  · obtain ⟨ns, a, rfl, _⟩ := h
    exact hl.symm
  · obtain ⟨ns, a, rfl, ha, hns, ht, kt, q⟩ := h
    have key : ∃ F : Hp, Same F H ∧ F tb = none ∧ SqL K F a (ns.map V.int) := by
      have kk : ∀ o, H a = some o → (∀ ps, o ≠ .tbl ps) → (fun b => if b = a then H b else none) tb = none := fun o ho hno => by
        show (if tb = a then H tb else none) = none
        by_cases z : tb = a
        · rw [z, ho] at ht
          cases ht
          exact absurd rfl (hno #[])
        · rw [if_neg z]
      have sm : Same (fun b => if b = a then H b else none) H := fun b o e => by
        have e : (if b = a then H b else none) = some o := e
        by_cases z : b = a
        · rw [if_pos z] at e
          exact e
        · rw [if_neg z] at e
          cases e
      rcases ha with (ha | ⟨ob, ha⟩) | ha
      · exact ⟨_, sm, kk _ ha (fun ps z => by cases z), .inl (.inl (by show (if a = a then H a else none) = _; rw [if_pos rfl]; exact ha))⟩
      · exact ⟨_, sm, kk _ ha (fun ps z => by cases z), .inl (.inr ⟨ob, by show (if a = a then H a else none) = _; rw [if_pos rfl]; exact ha⟩)⟩
      · exact ⟨fun _ => none, (fun b o e => by cases e), rfl, .inr ha⟩
    obtain ⟨F, fh, ft, fa⟩ := key
    have zk : (⟨tb, lamN, none⟩ : Zn).ok H := ⟨⟨#[], ht, trivial, fun pos cv hc => by cases hc⟩, fun pr e => by cases e⟩
    refine ⟨_, body f cdv A outer s H E ns F H hr hns fh, F, ?_, fun ρ' σ' F' H' hnx _ s' => hnx.elim, fun t v F' H' ht g hv => ?_, fun _ _ _ _ h => h.elim, fun _ _ _ _ h => h.elim⟩
    · have ok : OkL (Z := ⟨tb, lamN, none⟩) F H [.ref a] ([tyScr K ns].map Ty.od) := .cons ⟨a, rfl, fa⟩ .nil
      have s1 := St.first (N := N) fh (fun b hb => by
        rcases hb with z | ⟨pr, e, _⟩
        · rw [z]; exact ft
        · cases e) zk ok (by show 1 ≤ _; rw [← hl]; exact hn)
      have e : ([tyScr K ns] : List Ty).length = ps.length := by rw [hl]; rfl
      rw [e] at s1
      exact s1
    · have ht' : t = Dt (.bool true) := ht
      subst ht'
      rw [Rp.inj_bl hv]
      exact q H'
end
end Kb
end TXe
section TXf
set_option Elab.async false
set_option autoImplicit false
set_option linter.all false
set_option maxRecDepth 100000
set_option maxHeartbeats 4000000
/-! Xf: the law walked. -/
namespace Kb
open PySem PySem.Spec PyProof.Rows L2 PySem.W
section
variable {P : Program} {w : World} {K : PySem.W.Frag} {mg : Str → Option Value} {base : Heap} {tb : Addr} {C CJ CT : Addr}
theorem ok100 (V : Gv mg) (J : JT mg K CJ CT) {f : Addr} {fd : FuncData} (D : Fun K "law" "law" s100 f fd) (C71 : Okd P w K mg base "court" 8 (q71 C CJ CT ⟨tb, lamN, none⟩)) (C75 : Okd P w K mg base "torn_in" 8 (q75 C CT ⟨tb, lamN, none⟩)) (C76 : Okd P w K mg base "cut_pact" 7 (q76 C ⟨tb, lamN, none⟩)) (C77 : Okd P w K mg base "cut_family" 3 (q77 ⟨tb, lamN, none⟩))
    (C79 : Okd P w K mg base "_law_deal" 1 (spDeal K ⟨tb, lamN, none⟩)) (C82 : Okd P w K mg base "_law_mixed" 2 (q82 ⟨tb, lamN, none⟩)) (C86 : Okd P w K mg base "_law_world" 4 (q86 P w ⟨tb, lamN, none⟩)) (C87 : Okd P w K mg base "_law_pact" 7 (q87 P w C ⟨tb, lamN, none⟩)) (C93 : Okd P w K mg base "_law_parts" 1 (q93 ⟨tb, lamN, none⟩))
    (C97 : Okd P w K mg base "_law_family" 4 (q97 ⟨tb, lamN, none⟩)) (C98 : Okd P w K mg base "_law_size" 3 (q98 ⟨tb, lamN, none⟩)) (C99 : Okd P w K mg base "_law_torn" 3 (q99 P w ⟨tb, lamN, none⟩)) : FnOk P w K mg base CX0 9 f fd ["_law_script"] (spLaw K tb lamN) := by
  refine okLaw D c100 rfl (by decide) fun f cdv A outer s H E ns F0 G hr hns hG => ?_
  refine sdeal (ns := ns) 1 c100.nd hr C79 (pac (dv 0) (pac dint pa0)) hns hG (fun k a h => by obtain ⟨t, _, e⟩ := en0_at h; exact ⟨t, e⟩) (by show 1 < 17; decide) (fun q l => ?_) (fun _ h => h) (fun _ h => h) (fun _ h => h)
  refine sunpX (ρ1 := fun p : Nat × Nat => [some (.im (tyScr K ns)), some .dl, some (.im (Dt (.int (p.1 : Int)))), some (.im (Dt (.int (p.2 : Int)))), none, none, none, none, none, none, none, none, none, none, none, none, none]) (q := fun p : Nat × Nat => 2 ≤ p.1 ∧ p.1 ≤ 6 ∧ p.1 + p.2 ≤ 40) (tt := fun p => Dt (.tuple [.int (p.1 : Int), .int (p.2 : Int)]))
    (dclQ 1 hr C98 () trivial pa0) (fun p _ => gt rfl (gsc (gn 2 c100.nd) (gsc (gn 3 c100.nd) gs0))) fun p hp => ?_
  obtain ⟨many, extra⟩ := p
  refine sset (t := Ty.ex WdOk (tyWd P w)) 4 c100.nd (dclQ 1 hr C86 (many, extra) hp (pac (dv 2) (pac (dv 3) pa0))) ?_
  refine sopen 4 rfl fun W hW => ?_
  have hP := hW.pok
  have hh6 := hP.hands.hi
  have hh2 := hP.hands.lo
  have hnm := hP.hands.nm
  have pm : (srt W.p.hands).Perm W.p.hands := sortB_perm PyData.str _
  have sl : (srt W.p.hands).length = W.p.hands.length := pm.length_eq
  have slt : (srt W.p.hands).Pairwise sLt := sortB_lt (fun a b => toks_str) hP.hands.nd
  have snm : ∀ x ∈ srt W.p.hands, Nm x := fun x hx => hnm x (pm.mem_iff.mp hx)
  have ssok : SOk (srt W.p.hands) := fun x hx => (snm x hx).ok
  refine spar2 5 6 rfl c100.nd (kav (t := tyP C W.p) (dcl hr C87 W hW (pac (dv 4) pa0)) (kav (t := Dt (eL (srt W.p.hands))) (dis (dtupL V.bi (nV (dsort V.bi hr.u64 (ds := W.p.hands.map .str) sqL (vL (dgetK (t := Dt (.list (W.p.hands.map .str))) hr.u1 (vK (dv 4)) dstr rfl)) (sortOk_strs _) (by rw [List.length_map]; omega) (fun d hd => by obtain ⟨x, _, rfl⟩ := List.mem_map.mp hd; exact Nat.zero_le _)))) (congrArg PyData.tuple (sortB_map .str W.p.hands))) ka0)) ?_
  refine spar2 7 8 rfl c100.nd (kav (t := Ty.ex (FamOk (srt W.p.hands)) fun F => Dt (.tuple (F.map eL))) (dclQ 1 hr C97 (srt W.p.hands) ⟨slt, snm, by show 2 ≤ (srt W.p.hands).length; omega, by show (srt W.p.hands).length ≤ 6; omega⟩ (pac (dv 6) pa0)) (kav (t := Ty.ex (fun so : List Str => LotIn W.p.hands so ∧ so.length ≤ 4) fun so => Dt (eL so)) (od.imp (w := (Ty.ex (fun ds : List PyData => ∃ ds', (∃ ys : List Str, ys.Perm (srt W.p.hands) ∧ ds' = (ys.map PyData.str).take 4) ∧ ds = ds'.mergeSort (dataLe false id)) fun ds => Dt (.tuple ds)).od) (w' := (Ty.ex (fun so : List Str => LotIn W.p.hands so ∧ so.length ≤ 4) fun so => Dt (eL so)).od) (fun F H v fh zo ⟨ds, ⟨ds', ⟨ys, h1, h2⟩, h3⟩, h4⟩ => ?_)
    (dtupLX V.bi (dsortX V.bi hr.u64 (dslX (g_ := fun ys : List Str => ys.map PyData.str) (n := 4) (dclQ 1 hr C82 (false, srt W.p.hands) ⟨by show (srt W.p.hands).length ≤ 1000; omega, ssok⟩ (pac (dv 6) pa0)) (po1 dint)) (fun ds ⟨ys, h1, h2⟩ => ?_)))) ka0)) ?_
  · subst h3
    have hyl : ys.length = (srt W.p.hands).length := h1.length_eq
    have e1 : ds' = (ys.take 4).map .str := by rw [h2, List.map_take]
    refine ⟨srt (ys.take 4), ⟨⟨sortB_lt (fun a b => toks_str) ((h1.nodup_iff.mpr (sLt_nodup slt)).sublist (List.take_sublist _ _)), fun x hx => pm.mem_iff.mp (h1.mem_iff.mp (List.mem_of_mem_take ((mem_sortB PyData.str).mp hx)))⟩, ?_⟩, ?_⟩
    · have : (srt (ys.take 4)).length = (ys.take 4).length := len_sortB PyData.str _
      rw [this, List.length_take]
      omega
    · have e2 : ds'.mergeSort (dataLe false id) = (srt (ys.take 4)).map .str := by rw [e1]; exact sortB_map PyData.str _
      rw [e2] at h4
      exact h4
  · have hyl : ys.length = (srt W.p.hands).length := h1.length_eq
    have e1 : ds = (ys.take 4).map .str := by rw [h2, List.map_take]
    subst e1
    refine ⟨sortOk_strs _, by rw [List.length_map, List.length_take]; omega, fun d hd => ?_⟩
    obtain ⟨x, _, rfl⟩ := List.mem_map.mp hd
    exact Nat.zero_le _
  refine sopen 7 rfl fun F hF' => sopen 8 rfl fun so ⟨hso, hso4⟩ => ?_
  have hF : FamOk W.p.hands F := hF'.of fun x hx => pm.mem_iff.mp hx
  have hCt := hP.ct hF
  have F63 := hF.len
  have Fne := hF.ne
  have hmost : ∀ o ∈ F, o.length ≤ mx (F.map List.length) := fun o ho => mx_le (List.mem_map.mpr ⟨o, ho, rfl⟩)
  have sonm : ∀ x ∈ so, Nm x := fun x hx => hnm x (hso.sub x hx)
  have so64 : (ksrt (parts so)).length ≤ 64 := by rw [len_ksrt]; exact parts_len64 (by omega)
  have psub : ∀ l ∈ ksrt (parts so), l.Sublist so := fun l hl => parts_sub so l (mem_ksrt.mp hl)
  have psok : ∀ l ∈ ksrt (parts so), SOk l := fun l hl x hx => (sonm x ((psub l hl).subset hx)).ok
  have e0 : (F.filter fun _ => true).map (fun o => PyData.int (o.length : Int)) = iL (F.map List.length) := by
    rw [filt]
    unfold iL
    rw [List.map_map]
    rfl
  refine spar [9, 10] (ks := [.v (Dt (.int (mx (F.map List.length) : Nat))), .n (mL ((keptL W.p F []).map eL))]) rfl
    (kav (dmaxN V.bi rfl (fun z => Fne (List.map_eq_nil_iff.mp z)) (nV (disL (lcD (dlc (own := [("_law_lot", 11)]) (xs := F) (f := fun _ => true) (g := fun o => .int (o.length : Int)) rfl c100.nd (itTs (xs := F) (f := eL) (dv 7)) (blkOk_by (N := n100) (sc := defScope s100) (by decide +kernel))
      (fun _ _ _ _ _ x _ => gn 11 c100.nd) (fun _ _ _ _ _ x _ => pt0) (fun _ _ _ _ _ o _ _ => dis (dlen V.bi (ds := o.map .str) sqT (vT (dv 11))) (by rw [List.length_map])) (by omega))) e0))) (kan (dlst (ds := []) pa0) ka0 (by simp)))
    (gac 9 c100.nd (gac 10 c100.nd ga0)) ?_ (hz := Nat.le_of_ble_eq_true rfl)
  refine sforN (xs := ksrt (parts so)) (fun pre ρ1 => ∃ x11 x12 x13 x14 x15 x16, ρ1 = [some (.im (tyScr K ns)), some .dl, some (.im (Dt (.int (many : Int)))), some (.im (Dt (.int (extra : Int)))), some (.im (tyWd P w W)), some (.im (tyP C W.p)), some (.im (Dt (eL (srt W.p.hands)))), some (.im (Dt (.tuple (F.map eL)))), some (.im (Dt (eL so))), some (.im (Dt (.int (mx (F.map List.length) : Nat)))), some (.mu (mL ((keptL W.p F pre).map eL))), x11, x12, x13, x14, x15, x16])
    PassesOwn.never rfl (itLs (xs := ksrt (parts so)) (f := eL) (dcl hr C93 so (show so.length ≤ 8 by omega) (pac (dv 8) pa0))) ⟨_, _, _, _, _, _, rfl⟩ (fun pre lot post ρ1 hx ⟨x11, x12, x13, x14, x15, x16, e⟩ => ?_) fun ρ1 ⟨x11, x12, x13, x14, x15, x16, e⟩ => ?_
  · subst e
    have hlm : lot ∈ ksrt (parts so) := by rw [hx]; simp
    have ls := psub lot hlm
    have hl : LotIn W.p.hands lot := ⟨hso.lt.sublist ls, fun x hx => hso.sub x (ls.subset hx)⟩
    have l4 : lot.length ≤ 4 := Nat.le_trans ls.length_le hso4
    have lsok := psok lot hlm
    have pl1 : pre.length < 64 := by
      have := congrArg List.length hx
      rw [List.length_append, List.length_cons] at this
      omega
    have kl : (keptL W.p F pre).length ≤ 64 := Nat.le_trans (List.length_filter_le _ _) (by omega)
    refine ⟨_, gn 11 c100.nd, ?_⟩
    refine spar2 12 13 rfl c100.nd (kav (t := Dt (.bool (lawTorn W.p F lot))) (dcl hr C99 (W, F, lot) ⟨hW, hF, hl, l4⟩ (pac (dv 4) (pac (dv 7) (pac (dv 11) pa0)))) (kav (t := tyO CT (tornB W.p F lot)) (dcl hr C75 (W.p, F, lot) ⟨hCt, hl⟩ (pac (dv 5) (pac (dv 7) (pac (dv 11) pa0)))) ka0)) ?_
    refine sifF (ptis (pneB (dnoI (dv 13)) (dv 12)) (by rw [torn_law hl.nd]; simp)) (s0 rfl) ?_
    refine sifF (ppt (pwis (pwand (k := decide ((1 : Int) < ((lot.map PyData.str).length : Int))) (l := false) (pgt (dlen V.bi (ds := lot.map .str) sqT (vT (dv 11))) dint) fun hb => pwand1 (ptis (peqB (dJust V.bi J (dcl hr C71 (cutP W.p lot, cutFam lot F) ?_ (pac (dcl hr C76 (W.p, lot) ?_ (pac (dv 5) (pac (dv 11) pa0))) (pac (dcl hr C77 (lot, F) ?_ (pac (dv 11) (pac (dv 7) pa0))) pa0)))) (dv 12)) ?_)) (Bool.and_false _))) (s0 rfl) ?_
    · have h2 : 2 ≤ lot.length := by have := of_decide_eq_true hb; rw [List.length_map] at this; omega
      exact (cut_ok hP hl h2).ct (cutF_ok hF hh6)
    · have h2 : 2 ≤ lot.length := by have := of_decide_eq_true hb; rw [List.length_map] at this; omega
      exact ⟨hP, hl, h2, cut_ok hP hl h2⟩
    · exact ⟨F63, fun o ho => ⟨by have := (hF.lot o ho).2.2; omega, fun x hx => ((hF.lot o ho).1 x hx).ok⟩⟩
    · have h2 : 2 ≤ lot.length := by have := of_decide_eq_true hb; rw [List.length_map] at this; omega
      rw [cut_due hP hF hl h2]
      cases lawTorn W.p F lot <;> rfl
    refine sif (Ψ := ⟨fun ρ' => ρ' = [some (.im (tyScr K ns)), some .dl, some (.im (Dt (.int (many : Int)))), some (.im (Dt (.int (extra : Int)))), some (.im (tyWd P w W)), some (.im (tyP C W.p)), some (.im (Dt (eL (srt W.p.hands)))), some (.im (Dt (.tuple (F.map eL)))), some (.im (Dt (eL so))), some (.im (Dt (.int (mx (F.map List.length) : Nat)))), some (.mu (mL ((keptL W.p F (pre ++ [lot])).map eL))), some (.im (Dt (eL lot))), some (.im (Dt (.bool (lawTorn W.p F lot)))), some (.im (tyO CT (tornB W.p F lot))), x14, x15, x16], _, _, _⟩)
      (ptnot (ptv (dv 12))) (fun hb => ?_) (fun hb => ?_) fun ρ' e => ?_
    · have hb : (!lawTorn W.p F lot) = true := hb.symm
      have e1 : (keptL W.p F pre).map eL ++ [eL lot] = (keptL W.p F (pre ++ [lot])).map eL := by
        unfold keptL
        rw [List.filter_append, List.filter_cons, if_pos hb, List.map_append]
        rfl
      refine sapp 10 (d := eL lot) (dv 11) (s0 ?_) ?_
      · rw [e1]
        rfl
      · rw [List.length_map]
        omega
    · have hb : (!lawTorn W.p F lot) = false := hb.symm
      have e1 : keptL W.p F (pre ++ [lot]) = keptL W.p F pre := by
        unfold keptL
        rw [List.filter_append, List.filter_cons, if_neg (by rw [hb]; decide), List.filter_nil, List.append_nil]
      refine s0 ?_
      rw [e1]
      rfl
    subst e
    have kpl : (ksrt (parts lot)).length ≤ 64 := by rw [len_ksrt]; exact parts_len64 (by omega)
    have ksok : ∀ q ∈ ksrt (parts lot), SOk q := fun q hq x hx => lsok x ((parts_sub lot q (mem_ksrt.mp hq)).subset hx)
    have kso2 : ∀ q ∈ keptL W.p F (pre ++ [lot]), SOk q := fun q hq => psok q (by
      have := (List.mem_filter.mp hq).1
      rw [hx]
      rcases List.mem_append.mp this with z | z
      · exact List.mem_append_left _ z
      · rw [List.mem_singleton.mp z]; simp)
    refine ssetLc 14 (own := [("_law_part", 15)]) (dlc (xs := ksrt (parts lot)) (f := fun q => decide ((q.length : Int) ≤ (mx (F.map List.length) : Nat) + 2)) (g := eL) rfl c100.nd (itLs (xs := ksrt (parts lot)) (f := eL) (dcl hr C93 lot (show lot.length ≤ 8 by omega) (pac (dv 11) pa0))) (blkOk_by (N := n100) (sc := defScope s100) (by decide +kernel))
      (fun _ _ _ _ _ x _ => gn 15 c100.nd) (fun _ _ _ _ _ q _ => pt1 (ptis (ple (dlen V.bi (ds := q.map .str) sqT (vT (dv 15))) (dadd (dv 9) dint)) (by rw [List.length_map]))) (fun _ _ _ _ _ q _ _ => dv 15) (by omega)) (fun acc ha => ?_)
    subst ha
    have fl := List.length_filter_le (fun q : List Str => decide ((q.length : Int) ≤ (mx (F.map List.length) : Nat) + 2)) (ksrt (parts lot))
    have hC : decide (((ksrt (parts lot)).filter fun q => decide ((q.length : Int) ≤ (mx (F.map List.length) : Nat) + 2)) = ((ksrt (parts lot)).filter fun q => decide ((q.length : Int) ≤ (mx (F.map List.length) : Nat) + 2)).filter fun q => decide (q ∈ keptL W.p F (pre ++ [lot]))) = !lawTorn W.p F lot := by
      rw [filt_all]
      rw [Bool.eq_iff_iff, List.all_eq_true, Bool.not_eq_true']
      constructor
      · intro h
        refine Bool.eq_false_iff.mpr fun z => ?_
        obtain ⟨q, q1, q2, q3⟩ := (due_small hl.nd hmost).mp ((law_due hl.nd).mp z)
        have := h q (List.mem_filter.mpr ⟨mem_ksrt.mpr q1, decide_eq_true (by omega)⟩)
        have := (kept_iff hx q1).mp (of_decide_eq_true this)
        rw [(law_due ((parts_sub lot q q1).nodup hl.nd)).mpr q3] at this
        cases this
      · intro h q hq
        have q1 := mem_ksrt.mp (List.mem_filter.mp hq).1
        refine decide_eq_true ((kept_iff hx q1).mpr (Bool.eq_false_iff.mpr fun z => ?_))
        have := (law_due hl.nd).mpr (due_mono (fun x hx => (parts_sub lot q q1).subset hx) ((law_due ((parts_sub lot q q1).nodup hl.nd)).mp z))
        rw [h] at this
        cases this
    refine sifF (ptis (peqB (dis (deqD (d := .list (((ksrt (parts lot)).filter fun q => decide ((q.length : Int) ≤ (mx (F.map List.length) : Nat) + 2)).map eL)) (d' := .list ((((ksrt (parts lot)).filter fun q => decide ((q.length : Int) ≤ (mx (F.map List.length) : Nat) + 2)).filter fun q => decide (q ∈ keptL W.p F (pre ++ [lot]))).map eL)) hr.u64
        (shaped_lots fun q hq => ksok q (List.mem_filter.mp hq).1) (shaped_lots fun q hq => ksok q (List.mem_filter.mp (List.mem_filter.mp hq).1).1) (bo (dv 14)) (bo (nL (lcD (dlc (own := [("_law_part", 15)]) (xs := (ksrt (parts lot)).filter fun q => decide ((q.length : Int) ≤ (mx (F.map List.length) : Nat) + 2)) (f := fun q => decide (q ∈ keptL W.p F (pre ++ [lot]))) (g := eL) rfl c100.nd (itLs (xs := (ksrt (parts lot)).filter fun q => decide ((q.length : Int) ≤ (mx (F.map List.length) : Nat) + 2)) (f := eL) (dv 14)) (blkOk_by (N := n100) (sc := defScope s100) (by decide +kernel))
          (fun _ _ _ _ _ x _ => gn 15 c100.nd) (fun _ _ _ _ _ q hq => pt1 (ptis (pinD hr.u65 (d := eL q) (shaped_lot (ksok q (List.mem_filter.mp hq).1)) (shaped_lots kso2) (bo (dv 15)) (dvb 10)) (any_eqv_lot _ _))) (fun _ _ _ _ _ q _ _ => dv 15) (by omega)))))) (congrArg PyData.bool ((eqv_lots _ _).trans hC))) (dv 12)) (by cases lawTorn W.p F lot <;> rfl)) (s0 rfl) (s0 ⟨_, _, _, _, _, _, rfl⟩)
  subst e
  have ksok : ∀ q ∈ keptL W.p F (ksrt (parts so)), SOk q := fun q hq => psok q (List.mem_filter.mp hq).1
  have kl : (keptL W.p F (ksrt (parts so))).length ≤ 64 := Nat.le_trans (List.length_filter_le _ _) so64
  refine sfrz 10 rfl (frzL _) ?_
  refine sforN (xs := keptL W.p F (ksrt (parts so))) (fun pre ρ1 => ∃ x11 x15, ρ1 = [some (.im (tyScr K ns)), some .dl, some (.im (Dt (.int (many : Int)))), some (.im (Dt (.int (extra : Int)))), some (.im (tyWd P w W)), some (.im (tyP C W.p)), some (.im (Dt (eL (srt W.p.hands)))), some (.im (Dt (.tuple (F.map eL)))), some (.im (Dt (eL so))), some (.im (Dt (.int (mx (F.map List.length) : Nat)))), some (.im (Dt (.list ((keptL W.p F (ksrt (parts so))).map eL)))), x11, x12, x13, x14, x15, x16])
    PassesOwn.never rfl (itLs (xs := keptL W.p F (ksrt (parts so))) (f := eL) (dv 10)) ⟨_, _, rfl⟩ (fun pre lot post ρ1 hx ⟨x11, x15, e⟩ => ?_) fun ρ1 ⟨x11, x15, e⟩ => ?_
  · subst e
    have hlm : lot ∈ keptL W.p F (ksrt (parts so)) := by rw [hx]; simp
    obtain ⟨lm1, lm2⟩ := List.mem_filter.mp hlm
    have lm2 : lawTorn W.p F lot = false := by simpa using lm2
    have ls := psub lot lm1
    have ln : lot.Nodup := ls.nodup hso.nd
    have l4 : lot.length ≤ 4 := Nat.le_trans ls.length_le hso4
    have kpl : (ksrt (parts lot)).length ≤ 64 := by rw [len_ksrt]; exact parts_len64 (by omega)
    have kso2 : ∀ q ∈ ksrt (parts lot), SOk q := fun q hq x hx => psok lot lm1 x ((parts_sub lot q (mem_ksrt.mp hq)).subset hx)
    have hall : ((ksrt (parts lot)).filter fun q => !decide (q ∈ keptL W.p F (ksrt (parts so)))) = [] := List.filter_eq_nil_iff.mpr fun q hq => by
      have q1 := mem_ksrt.mp hq
      have qs := parts_sub lot q q1
      have : q ∈ keptL W.p F (ksrt (parts so)) := List.mem_filter.mpr ⟨mem_ksrt.mpr (sub_parts so q (qs.trans ls)), by
        have : lawTorn W.p F q = false := Bool.eq_false_iff.mpr fun z => by
          have := (law_due ln).mpr (due_mono (fun x hx => qs.subset hx) ((law_due (qs.nodup ln)).mp z))
          rw [lm2] at this
          cases this
        rw [this]
        rfl⟩
      simp [this]
    refine ⟨_, gn 11 c100.nd, ?_⟩
    refine sifF (ptis (pneD (d := .list (((ksrt (parts lot)).filter fun q => !decide (q ∈ keptL W.p F (ksrt (parts so)))).map eL)) (d' := .list []) hr.u64 (shaped_lots fun q hq => kso2 q (List.mem_filter.mp hq).1) rfl (bo (nL (lcD (dlc (own := [("_law_part", 15)]) (xs := ksrt (parts lot)) (f := fun q => !decide (q ∈ keptL W.p F (ksrt (parts so)))) (g := eL) rfl c100.nd (itLs (xs := ksrt (parts lot)) (f := eL) (dcl hr C93 lot (show lot.length ≤ 8 by omega) (pac (dv 11) pa0))) (blkOk_by (N := n100) (sc := defScope s100) (by decide +kernel))
      (fun _ _ _ _ _ x _ => gn 15 c100.nd) (fun _ _ _ _ _ q hq => pt1 (ptis (pninD hr.u65 (d := eL q) (shaped_lot (kso2 q hq)) (shaped_lots ksok) (bo (dv 15)) (bo (dv 10))) (congrArg not (any_eqv_lot _ _)))) (fun _ _ _ _ _ q _ _ => dv 15) (by omega))))) (bo (nL (dlst (ds := []) pa0)))) (by rw [hall]; rfl)) (s0 rfl) (s0 ⟨_, _, rfl⟩)
  subst e
  have hsl : LotIn W.p.hands (srt W.p.hands) := ⟨slt, fun x hx => pm.mem_iff.mp hx⟩
  refine sset (t := tyO CT (tornB W.p F (srt W.p.hands))) 16 c100.nd (dcl hr C75 (W.p, F, srt W.p.hands) ⟨hCt, hsl⟩ (pac (dv 5) (pac (dv 7) (pac (dv 6) pa0)))) ?_
  obtain ⟨r, hr0⟩ := ksrt_hd (l := so)
  have hd0 : lawTorn W.p F [] = false := Bool.eq_false_iff.mpr fun z => by
    obtain ⟨q, a, c, _, _, h, _⟩ := (law_due List.nodup_nil).mp z
    cases h
  have hk0 : ∃ r, keptL W.p F (ksrt (parts so)) = [] :: r := by
    unfold keptL
    rw [hr0, List.filter_cons, hd0]
    exact ⟨_, rfl⟩
  obtain ⟨r2, hr2⟩ := hk0
  have hi0 : atI ((keptL W.p F (ksrt (parts so))).map eL) (0 : Int) = some (eL []) := by
    rw [hr2]
    exact atI_nat (i := 0) rfl
  have eD := whole_due (l := srt W.p.hands) hP hF hsl.nd fun x => pm.mem_iff
  refine sret (t := Dt (.bool true)) (dis (dand (deqD (d := eL []) (d' := .tuple []) hr.u64 (by decide +kernel) (by decide +kernel) (bo (dixL (vL (dv 10)) dint hi0)) (bo (dtup (ds := []) pa0))) fun _ => dand1 (deqB (disNI (dv 16)) (dJust V.bi J (dcl hr C71 (W.p, F) hCt (pac (dv 5) (pac (dv 7) pa0)))))) ?_) rfl
  rw [eD]
  simp
  rfl
end
end Kb
end TXf
section TYa
set_option Elab.async false
set_option autoImplicit false
set_option linter.all false
set_option maxRecDepth 100000
set_option maxHeartbeats 4000000
/-! Ya: from the facts of the head to the law's end. Printed by gen_end.py. -/
namespace Kb
open PySem PySem.Spec PyProof.Rows L2 PySem.W
/-- what the head tells of a def -/
structure DF (K : PySem.W.Frag) (x : Str) (st : Stmt) : Prop where
  ex : ∃ (f : Addr) (oc : Value) (od : Option Addr) (kV doc pm : Value) (an : Option Addr) (cdv ct : Value) (osl : Array (Option Value)), PySem.W.nsIn K mainGlobals x = some (some (.ref f)) ∧
    K.lookup f = some ⟨oc, od, .func (PySem.W.fnOf x x (defArgs st) (defBody st) (defScope st) .none kV doc pm an cdv ct), osl⟩ ∧ PySem.W.codeIn K cdv x = true ∧ PySem.W.keepIn K (.ref f) = true
/-- .. its code object at c -/
structure DFT (K : PySem.W.Frag) (x : Str) (st : Stmt) (c : Addr) : Prop where
  ex : ∃ (f : Addr) (oc : Value) (od : Option Addr) (kV doc pm : Value) (an : Option Addr) (ct : Value) (osl : Array (Option Value)), PySem.W.nsIn K mainGlobals x = some (some (.ref f)) ∧
    K.lookup f = some ⟨oc, od, .func (PySem.W.fnOf x x (defArgs st) (defBody st) (defScope st) .none kV doc pm an (.ref c) ct), osl⟩ ∧ PySem.W.codeIn K (.ref c) x = true ∧ PySem.W.keepIn K (.ref f) = true
/-- .. of a class's own __init__ -/
structure DFI (K : PySem.W.Frag) (qual : Str) (st : Stmt) (C : Addr) : Prop where
  ex : ∃ (f : Addr) (oc : Value) (od : Option Addr) (kV doc pm : Value) (an : Option Addr) (cdv ct : Value) (osl : Array (Option Value)), PySem.W.findIn K (.ref C) "__init__" = some (some (.ref f)) ∧
    K.lookup f = some ⟨oc, od, .func (PySem.W.fnOf "__init__" qual (defArgs st) (defBody st) (defScope st) .none kV doc pm an cdv ct), osl⟩ ∧ PySem.W.codeIn K cdv qual = true ∧ PySem.W.keepIn K (.ref f) = true ∧ PySem.W.isFn K (.ref f) = true
theorem DF.put {K : PySem.W.Frag} {x : Str} {st : Stmt} {f : Addr} {oc : Value} {od : Option Addr} {kV doc pm : Value} {an : Option Addr} {cdv ct : Value} {osl : Array (Option Value)} (a : PySem.W.nsIn K mainGlobals x = some (some (.ref f)))
    (l : K.lookup f = some ⟨oc, od, .func (PySem.W.fnOf x x (defArgs st) (defBody st) (defScope st) .none kV doc pm an cdv ct), osl⟩) (c : PySem.W.codeIn K cdv x = true) (k : PySem.W.keepIn K (.ref f) = true) : DF K x st := ⟨⟨f, oc, od, kV, doc, pm, an, cdv, ct, osl, a, l, c, k⟩⟩
theorem DFT.put {K : PySem.W.Frag} {x : Str} {st : Stmt} {cd f : Addr} {oc : Value} {od : Option Addr} {kV doc pm : Value} {an : Option Addr} {ct : Value} {osl : Array (Option Value)} (a : PySem.W.nsIn K mainGlobals x = some (some (.ref f)))
    (l : K.lookup f = some ⟨oc, od, .func (PySem.W.fnOf x x (defArgs st) (defBody st) (defScope st) .none kV doc pm an (.ref cd) ct), osl⟩) (c : PySem.W.codeIn K (.ref cd) x = true) (k : PySem.W.keepIn K (.ref f) = true) : DFT K x st cd := ⟨⟨f, oc, od, kV, doc, pm, an, ct, osl, a, l, c, k⟩⟩
theorem DFI.put {K : PySem.W.Frag} {qual : Str} {st : Stmt} {C f : Addr} {oc : Value} {od : Option Addr} {kV doc pm : Value} {an : Option Addr} {cdv ct : Value} {osl : Array (Option Value)} (a : PySem.W.findIn K (.ref C) "__init__" = some (some (.ref f)))
    (l : K.lookup f = some ⟨oc, od, .func (PySem.W.fnOf "__init__" qual (defArgs st) (defBody st) (defScope st) .none kV doc pm an cdv ct), osl⟩) (c : PySem.W.codeIn K cdv qual = true) (k : PySem.W.keepIn K (.ref f) = true) (i : PySem.W.isFn K (.ref f) = true) : DFI K qual st C := ⟨⟨f, oc, od, kV, doc, pm, an, cdv, ct, osl, a, l, c, k, i⟩⟩
/-- .. of a class -/
structure CF (K : PySem.W.Frag) (x : Str) (C : Addr) : Prop where
  ns : PySem.W.nsIn K mainGlobals x = some (some (.ref C))
  pg : PySem.W.plainGet K C Str.empty = true
  hd : PySem.W.hasDictIn K C = true
  po : PySem.W.plainOver K C = true
  sa : PySem.W.findIn K (.ref C) "__setattr__" = some (some (.builtin "object.__setattr__"))
  mks : PySem.W.makesIn K C = true
  kp : PySem.W.keepIn K (.ref C) = true
  ha : PySem.W.findIn K (.ref C) "__class__" = some (some (.builtin "object.__class__"))
  hm : PySem.W.mroIn K C (.type "object") = some true
section
variable {K : PySem.W.Frag} {h : Heap} {mg : Str → Option Value} {x : Str} {st : Stmt} {ps : List Str} {C c : Addr}
theorem DF.dn (d : DF K x st) (X : K.In h) (G : h.Ns mainGlobals mg)
    (hb : ∀ (kV doc pm : Value) (an : Option Addr) (cdv ct : Value) (us : List Value), us.length = ps.length → bindArgs (PySem.W.fnOf x x (defArgs st) (defBody st) (defScope st) .none kV doc pm an cdv ct) ⟨us, []⟩ = pure (ps.zip us)) : Dn K mg x st ps := by
  obtain ⟨f, oc, od, kV, doc, pm, an, cdv, ct, osl, a, l, c, k⟩ := d.ex
  exact ⟨⟨f, _, fun_mk l c k, PySem.W.mg_of X G a, (fun_mk l c k).binds hb⟩⟩
theorem DFT.dn (d : DFT K x st c) (X : K.In h) (G : h.Ns mainGlobals mg)
    (hb : ∀ (kV doc pm : Value) (an : Option Addr) (cdv ct : Value) (us : List Value), us.length = ps.length → bindArgs (PySem.W.fnOf x x (defArgs st) (defBody st) (defScope st) .none kV doc pm an cdv ct) ⟨us, []⟩ = pure (ps.zip us)) : DnT K mg x st ps c := by
  obtain ⟨f, oc, od, kV, doc, pm, an, ct, osl, a, l, c, k⟩ := d.ex
  exact ⟨⟨f, oc, od, kV, doc, pm, an, ct, osl, l, c, k, PySem.W.mg_of X G a, (fun_mk l c k).binds hb⟩⟩
theorem DFI.dc {qual : Str} (d : DFI K qual st C) (F : CF K x C) (X : K.In h) (G : h.Ns mainGlobals mg)
    (hb : ∀ (kV doc pm : Value) (an : Option Addr) (cdv ct : Value) (us : List Value), us.length = ps.length → bindArgs (PySem.W.fnOf "__init__" qual (defArgs st) (defBody st) (defScope st) .none kV doc pm an cdv ct) ⟨us, []⟩ = pure (ps.zip us)) : Dc K mg x qual C st ps := by
  obtain ⟨f, oc, od, kV, doc, pm, an, cdv, ct, osl, a, l, c, k, i⟩ := d.ex
  exact ⟨⟨f, _, fun_mk l c k, (fun_mk l c k).binds hb, ⟨F.mks, a, i, F.kp⟩⟩, PySem.W.mg_of X G F.ns⟩
theorem CF.cls (F : CF K x C) : Cls K C := ⟨F.pg, F.hd, F.po, F.sa⟩
end
theorem all_law {l : PySem.W.OpenLaw} {w : World} {K : PySem.W.Frag} {h : Heap} {mg : Str → Option Value} {fa C CJ CT c tb : Addr} {t1 t2 t3 t4 t5 t6 : Nat} (X : K.In h) (G : h.Ns mainGlobals mg) (hfa : mg "law" = some (.ref fa))
    (kC : CF K "Pact" C) (kJ : CF K "Just" CJ) (kT : CF K "Torn" CT)
    (hsp : PySem.W.specialIn K (.builtin "object.__class__") "__get__" = some (some (.builtin "getset_descriptor.__get__"))) (htk : PySem.W.takesIn K (.builtin "object.__class__") = some true)
    (jj : PySem.W.kitOne K (.ref CJ) (.ref CJ) = some true) (tj : PySem.W.kitOne K (.ref CT) (.ref CJ) = some false)
    (e10 : DF K "is_text" s10)
    (e11 : DF K "is_sequence" s11)
    (e12 : DF K "is_name" s12)
    (e13 : DF K "is_lot" s13)
    (e14 : DF K "lot_of" s14)
    (e15 : DF K "lot_union" s15)
    (e16 : DF K "lot_meet" s16)
    (e17 : DF K "lot_less" s17)
    (e18 : DF K "lot_within" s18)
    (e24 : DF K "are_hands" s24)
    (e25 : DF K "is_told_note" s25)
    (e26 : DF K "are_ready" s26)
    (e27 : DF K "bits_under" s27)
    (e28 : DF K "bits_of_lot" s28)
    (e29 : DF K "is_paper" s29)
    (e30 : DFI K "Pact.__init__" s30_0 C)
    (e31 : DF K "need_hand" s31)
    (e32 : DF K "need_note" s32)
    (e33 : DF K "names_of_bits" s33)
    (e34 : DF K "hand_of" s34)
    (e35 : DF K "notes_of" s35)
    (e36 : DF K "is_under" s36)
    (e37 : DF K "under_of" s37)
    (e38 : DF K "whole_paper" s38)
    (e39 : DF K "key_note" s39)
    (e40 : DF K "ready_note" s40)
    (e42 : DF K "level_of" s42)
    (e43 : DF K "top_of" s43)
    (e44 : DF K "next_level" s44)
    (e45 : DF K "next_note" s45)
    (e47 : DF K "row_fault" s47)
    (e48 : DF K "need_row" s48)
    (e49 : DF K "climb_from" s49)
    (e50 : DF K "climb" s50)
    (e51 : DF K "row_holds" s51)
    (e53 : DF K "place_within" s53)
    (e54 : DF K "family_fault" s54)
    (e55 : DF K "need_family" s55)
    (e56 : DF K "in_family" s56)
    (e57 : DF K "lot_parts" s57)
    (e58 : DFT K "lots_in_order" s58 c)
    (e59 : DF K "all_lots" s59)
    (e60 : DF K "family_of" s60)
    (e62 : DFI K "Just.__init__" s62_0 CJ)
    (e63 : DFI K "Torn.__init__" s63_0 CT)
    (e64 : DF K "lot_orders" s64)
    (e65 : DF K "court_rows" s65)
    (e66 : DF K "level_after" s66)
    (e67 : DF K "level_behind" s67)
    (e68 : DF K "highest_levels" s68)
    (e69 : DF K "court_table" s69)
    (e70 : DF K "key_level" s70)
    (e71 : DF K "court" s71)
    (e73 : DF K "need_lot_hands" s73)
    (e75 : DF K "torn_in" s75)
    (e76 : DF K "cut_pact" s76)
    (e77 : DF K "cut_family" s77)
    (e79 : DF K "_law_deal" s79)
    (e80 : DF K "_law_any" s80)
    (e81 : DF K "_law_of" s81)
    (e82 : DF K "_law_mixed" s82)
    (e83 : DF K "_law_names" s83)
    (e84 : DF K "_law_notes" s84)
    (e85 : DF K "_law_web" s85)
    (e86 : DF K "_law_world" s86)
    (e87 : DF K "_law_pact" s87)
    (e88 : DF K "_law_start" s88)
    (e89 : DF K "_law_climb" s89)
    (e90 : DF K "_law_holds" s90)
    (e91 : DF K "_law_rows" s91)
    (e92 : DF K "_law_longer" s92)
    (e93 : DF K "_law_parts" s93)
    (e94 : DF K "_law_within" s94)
    (e95 : DF K "_law_inside" s95)
    (e96 : DF K "_law_greatest" s96)
    (e97 : DF K "_law_family" s97)
    (e98 : DF K "_law_size" s98)
    (e99 : DF K "_law_torn" s99)
    (e100 : DF K "law" s100)
    (cd : PySem.W.codeHdIn K c tb = true) (ta : h.get? tb = some { cls := .none, data := .fields #[] }) (tk : K.lookup tb = none)
    (g1 : PySem.W.nsIn K mainGlobals "LETTERS" = some (some (.str letters t1)))
    (g2 : PySem.W.nsIn K mainGlobals "LONGEST" = some (some (.int 8 t2)))
    (g3 : PySem.W.nsIn K mainGlobals "FEWEST_HANDS" = some (some (.int 2 t3)))
    (g4 : PySem.W.nsIn K mainGlobals "MOST_HANDS" = some (some (.int 6 t4)))
    (g5 : PySem.W.nsIn K mainGlobals "FEWEST_NOTES" = some (some (.int 2 t5)))
    (g6 : PySem.W.nsIn K mainGlobals "MOST_NOTES" = some (some (.int 40 t6)))
    (z_len : PySem.W.nsIn K mainGlobals "len" = some none)
    (z_all : PySem.W.nsIn K mainGlobals "all" = some none)
    (z_any : PySem.W.nsIn K mainGlobals "any" = some none)
    (z_tuple : PySem.W.nsIn K mainGlobals "tuple" = some none)
    (z_list : PySem.W.nsIn K mainGlobals "list" = some none)
    (z_set : PySem.W.nsIn K mainGlobals "set" = some none)
    (z_sorted : PySem.W.nsIn K mainGlobals "sorted" = some none)
    (z_enumerate : PySem.W.nsIn K mainGlobals "enumerate" = some none)
    (z_zip : PySem.W.nsIn K mainGlobals "zip" = some none)
    (z_range : PySem.W.nsIn K mainGlobals "range" = some none)
    (z_max : PySem.W.nsIn K mainGlobals "max" = some none)
    (z_min : PySem.W.nsIn K mainGlobals "min" = some none)
    (z_isinstance : PySem.W.nsIn K mainGlobals "isinstance" = some none)
    (z_str : PySem.W.nsIn K mainGlobals "str" = some none)
    (z_int : PySem.W.nsIn K mainGlobals "int" = some none)
    (z_abs : PySem.W.nsIn K mainGlobals "abs" = some none)
    (p1 : PySem.W.findIn K (.ref C) "paper_bits" = some none)
    (p2 : PySem.W.findIn K (.ref C) "hand_rows" = some none)
    (p3 : PySem.W.findIn K (.ref C) "note_unders" = some none)
    (p4 : PySem.W.findIn K (.ref C) "note_places" = some none)
    (p5 : PySem.W.findIn K (.ref C) "names" = some none)
    (p6 : PySem.W.findIn K (.ref C) "paper" = some none)
    (p7 : PySem.W.findIn K (.ref C) "ready" = some none)
    (p8 : PySem.W.findIn K (.ref C) "notes" = some none)
    (p9 : PySem.W.findIn K (.ref C) "hands" = some none)
    (nj : PySem.W.findIn K (.ref CJ) "table" = some none) (nt1 : PySem.W.findIn K (.ref CT) "hand" = some none) (nt2 : PySem.W.findIn K (.ref CT) "row" = some none) :
    LamX.LawAtS l w K CX0 9 63 "_law_script" mg fa h := by
  have V : Gv mg := ⟨⟨PySem.W.mg_none_of X G z_len, PySem.W.mg_none_of X G z_all, PySem.W.mg_none_of X G z_any, PySem.W.mg_none_of X G z_tuple, PySem.W.mg_none_of X G z_list, PySem.W.mg_none_of X G z_set, PySem.W.mg_none_of X G z_sorted, PySem.W.mg_none_of X G z_enumerate, PySem.W.mg_none_of X G z_zip, PySem.W.mg_none_of X G z_range, PySem.W.mg_none_of X G z_max, PySem.W.mg_none_of X G z_min, PySem.W.mg_none_of X G z_isinstance, PySem.W.mg_none_of X G z_str, PySem.W.mg_none_of X G z_int, PySem.W.mg_none_of X G z_abs⟩, ⟨_, PySem.W.mg_of X G g1⟩, ⟨_, PySem.W.mg_of X G g2⟩, ⟨_, PySem.W.mg_of X G g3⟩, ⟨_, PySem.W.mg_of X G g4⟩, ⟨_, PySem.W.mg_of X G g5⟩, ⟨_, PySem.W.mg_of X G g6⟩⟩
  have PK : PKl K C := ⟨kC.cls, p1, p2, p3, p4, p5, p6, p7, p8, p9⟩
  have J : JT mg K CJ CT := ⟨PySem.W.mg_of X G kJ.ns, ⟨kJ.cls, kJ.ha, hsp, htk, kJ.hm⟩, ⟨kT.cls, kT.ha, hsp, htk, kT.hm⟩, jj, tj⟩
  have D10 : Dn K mg "is_text" s10 ["value"] := e10.dn X G (fun _ _ _ _ _ _ us hl => match us, hl with | [_], _ => rfl)
  have D11 : Dn K mg "is_sequence" s11 ["value"] := e11.dn X G (fun _ _ _ _ _ _ us hl => match us, hl with | [_], _ => rfl)
  have D12 : Dn K mg "is_name" s12 ["value"] := e12.dn X G (fun _ _ _ _ _ _ us hl => match us, hl with | [_], _ => rfl)
  have D13 : Dn K mg "is_lot" s13 ["value"] := e13.dn X G (fun _ _ _ _ _ _ us hl => match us, hl with | [_], _ => rfl)
  have D14 : Dn K mg "lot_of" s14 ["things"] := e14.dn X G (fun _ _ _ _ _ _ us hl => match us, hl with | [_], _ => rfl)
  have D15 : Dn K mg "lot_union" s15 ["one", "other"] := e15.dn X G (fun _ _ _ _ _ _ us hl => match us, hl with | [_, _], _ => rfl)
  have D16 : Dn K mg "lot_meet" s16 ["one", "other"] := e16.dn X G (fun _ _ _ _ _ _ us hl => match us, hl with | [_, _], _ => rfl)
  have D17 : Dn K mg "lot_less" s17 ["one", "other"] := e17.dn X G (fun _ _ _ _ _ _ us hl => match us, hl with | [_, _], _ => rfl)
  have D18 : Dn K mg "lot_within" s18 ["one", "other"] := e18.dn X G (fun _ _ _ _ _ _ us hl => match us, hl with | [_, _], _ => rfl)
  have D24 : Dn K mg "are_hands" s24 ["value"] := e24.dn X G (fun _ _ _ _ _ _ us hl => match us, hl with | [_], _ => rfl)
  have D25 : Dn K mg "is_told_note" s25 ["value", "hands", "earlier"] := e25.dn X G (fun _ _ _ _ _ _ us hl => match us, hl with | [_, _, _], _ => rfl)
  have D26 : Dn K mg "are_ready" s26 ["value", "hands", "notes"] := e26.dn X G (fun _ _ _ _ _ _ us hl => match us, hl with | [_, _, _], _ => rfl)
  have D27 : Dn K mg "bits_under" s27 ["notes"] := e27.dn X G (fun _ _ _ _ _ _ us hl => match us, hl with | [_], _ => rfl)
  have D28 : Dn K mg "bits_of_lot" s28 ["names", "notes"] := e28.dn X G (fun _ _ _ _ _ _ us hl => match us, hl with | [_, _], _ => rfl)
  have D29 : Dn K mg "is_paper" s29 ["value", "hands", "notes"] := e29.dn X G (fun _ _ _ _ _ _ us hl => match us, hl with | [_, _, _], _ => rfl)
  have D30 : Dc K mg "Pact" "Pact.__init__" C s30_0 ["self", "hands", "notes", "ready", "paper"] := e30.dc kC X G (fun _ _ _ _ _ _ us hl => match us, hl with | [_, _, _, _, _], _ => rfl)
  have D31 : Dn K mg "need_hand" s31 ["pact", "hand"] := e31.dn X G (fun _ _ _ _ _ _ us hl => match us, hl with | [_, _], _ => rfl)
  have D32 : Dn K mg "need_note" s32 ["pact", "note"] := e32.dn X G (fun _ _ _ _ _ _ us hl => match us, hl with | [_, _], _ => rfl)
  have D33 : Dn K mg "names_of_bits" s33 ["pact", "bits"] := e33.dn X G (fun _ _ _ _ _ _ us hl => match us, hl with | [_, _], _ => rfl)
  have D34 : Dn K mg "hand_of" s34 ["pact", "note"] := e34.dn X G (fun _ _ _ _ _ _ us hl => match us, hl with | [_, _], _ => rfl)
  have D35 : Dn K mg "notes_of" s35 ["pact", "hand"] := e35.dn X G (fun _ _ _ _ _ _ us hl => match us, hl with | [_, _], _ => rfl)
  have D36 : Dn K mg "is_under" s36 ["pact", "one", "other"] := e36.dn X G (fun _ _ _ _ _ _ us hl => match us, hl with | [_, _, _], _ => rfl)
  have D37 : Dn K mg "under_of" s37 ["pact", "note"] := e37.dn X G (fun _ _ _ _ _ _ us hl => match us, hl with | [_, _], _ => rfl)
  have D38 : Dn K mg "whole_paper" s38 ["pact"] := e38.dn X G (fun _ _ _ _ _ _ us hl => match us, hl with | [_], _ => rfl)
  have D39 : Dn K mg "key_note" s39 ["pact", "hand"] := e39.dn X G (fun _ _ _ _ _ _ us hl => match us, hl with | [_, _], _ => rfl)
  have D40 : Dn K mg "ready_note" s40 ["pact", "hand"] := e40.dn X G (fun _ _ _ _ _ _ us hl => match us, hl with | [_, _], _ => rfl)
  have D42 : Dn K mg "level_of" s42 ["pact", "note"] := e42.dn X G (fun _ _ _ _ _ _ us hl => match us, hl with | [_, _], _ => rfl)
  have D43 : Dn K mg "top_of" s43 ["pact", "hand"] := e43.dn X G (fun _ _ _ _ _ _ us hl => match us, hl with | [_, _], _ => rfl)
  have D44 : Dn K mg "next_level" s44 ["pact", "hand", "note"] := e44.dn X G (fun _ _ _ _ _ _ us hl => match us, hl with | [_, _, _], _ => rfl)
  have D45 : Dn K mg "next_note" s45 ["pact", "hand", "note"] := e45.dn X G (fun _ _ _ _ _ _ us hl => match us, hl with | [_, _, _], _ => rfl)
  have D47 : Dn K mg "row_fault" s47 ["pact", "value"] := e47.dn X G (fun _ _ _ _ _ _ us hl => match us, hl with | [_, _], _ => rfl)
  have D48 : Dn K mg "need_row" s48 ["pact", "value"] := e48.dn X G (fun _ _ _ _ _ _ us hl => match us, hl with | [_, _], _ => rfl)
  have D49 : Dn K mg "climb_from" s49 ["pact", "note", "row"] := e49.dn X G (fun _ _ _ _ _ _ us hl => match us, hl with | [_, _, _], _ => rfl)
  have D50 : Dn K mg "climb" s50 ["pact", "hand", "row"] := e50.dn X G (fun _ _ _ _ _ _ us hl => match us, hl with | [_, _, _], _ => rfl)
  have D51 : Dn K mg "row_holds" s51 ["pact", "hand", "row"] := e51.dn X G (fun _ _ _ _ _ _ us hl => match us, hl with | [_, _, _], _ => rfl)
  have D53 : Dn K mg "place_within" s53 ["lots"] := e53.dn X G (fun _ _ _ _ _ _ us hl => match us, hl with | [_], _ => rfl)
  have D54 : Dn K mg "family_fault" s54 ["pact", "value"] := e54.dn X G (fun _ _ _ _ _ _ us hl => match us, hl with | [_, _], _ => rfl)
  have D55 : Dn K mg "need_family" s55 ["pact", "value"] := e55.dn X G (fun _ _ _ _ _ _ us hl => match us, hl with | [_, _], _ => rfl)
  have D56 : Dn K mg "in_family" s56 ["family", "lot"] := e56.dn X G (fun _ _ _ _ _ _ us hl => match us, hl with | [_, _], _ => rfl)
  have D57 : Dn K mg "lot_parts" s57 ["lot"] := e57.dn X G (fun _ _ _ _ _ _ us hl => match us, hl with | [_], _ => rfl)
  have D58 : DnT K mg "lots_in_order" s58 ["lots"] c := e58.dn X G (fun _ _ _ _ _ _ us hl => match us, hl with | [_], _ => rfl)
  have D59 : Dn K mg "all_lots" s59 ["family"] := e59.dn X G (fun _ _ _ _ _ _ us hl => match us, hl with | [_], _ => rfl)
  have D60 : Dn K mg "family_of" s60 ["lots"] := e60.dn X G (fun _ _ _ _ _ _ us hl => match us, hl with | [_], _ => rfl)
  have D62 : Dc K mg "Just" "Just.__init__" CJ s62_0 ["self", "table"] := e62.dc kJ X G (fun _ _ _ _ _ _ us hl => match us, hl with | [_, _], _ => rfl)
  have D63 : Dc K mg "Torn" "Torn.__init__" CT s63_0 ["self", "hand", "row"] := e63.dc kT X G (fun _ _ _ _ _ _ us hl => match us, hl with | [_, _, _], _ => rfl)
  have D64 : Dn K mg "lot_orders" s64 ["lot"] := e64.dn X G (fun _ _ _ _ _ _ us hl => match us, hl with | [_], _ => rfl)
  have D65 : Dn K mg "court_rows" s65 ["pact", "family"] := e65.dn X G (fun _ _ _ _ _ _ us hl => match us, hl with | [_, _], _ => rfl)
  have D66 : Dn K mg "level_after" s66 ["pact", "hand", "other", "level"] := e66.dn X G (fun _ _ _ _ _ _ us hl => match us, hl with | [_, _, _, _], _ => rfl)
  have D67 : Dn K mg "level_behind" s67 ["pact", "levels", "lot", "hand"] := e67.dn X G (fun _ _ _ _ _ _ us hl => match us, hl with | [_, _, _, _], _ => rfl)
  have D68 : Dn K mg "highest_levels" s68 ["pact", "lot"] := e68.dn X G (fun _ _ _ _ _ _ us hl => match us, hl with | [_, _], _ => rfl)
  have D69 : Dn K mg "court_table" s69 ["pact", "family"] := e69.dn X G (fun _ _ _ _ _ _ us hl => match us, hl with | [_, _], _ => rfl)
  have D70 : Dn K mg "key_level" s70 ["pact", "hand"] := e70.dn X G (fun _ _ _ _ _ _ us hl => match us, hl with | [_, _], _ => rfl)
  have D71 : Dn K mg "court" s71 ["pact", "family"] := e71.dn X G (fun _ _ _ _ _ _ us hl => match us, hl with | [_, _], _ => rfl)
  have D73 : Dn K mg "need_lot_hands" s73 ["pact", "lot"] := e73.dn X G (fun _ _ _ _ _ _ us hl => match us, hl with | [_, _], _ => rfl)
  have D75 : Dn K mg "torn_in" s75 ["pact", "family", "lot"] := e75.dn X G (fun _ _ _ _ _ _ us hl => match us, hl with | [_, _, _], _ => rfl)
  have D76 : Dn K mg "cut_pact" s76 ["pact", "lot"] := e76.dn X G (fun _ _ _ _ _ _ us hl => match us, hl with | [_, _], _ => rfl)
  have D77 : Dn K mg "cut_family" s77 ["lot", "family"] := e77.dn X G (fun _ _ _ _ _ _ us hl => match us, hl with | [_, _], _ => rfl)
  have D79 : Dn K mg "_law_deal" s79 ["_law_script", "_law_base"] := e79.dn X G (fun _ _ _ _ _ _ us hl => match us, hl with | [_, _], _ => rfl)
  have D80 : Dn K mg "_law_any" s80 ["_law_deal_here", "_law_bound"] := e80.dn X G (fun _ _ _ _ _ _ us hl => match us, hl with | [_, _], _ => rfl)
  have D81 : Dn K mg "_law_of" s81 ["_law_deal_here", "_law_some"] := e81.dn X G (fun _ _ _ _ _ _ us hl => match us, hl with | [_, _], _ => rfl)
  have D82 : Dn K mg "_law_mixed" s82 ["_law_deal_here", "_law_some"] := e82.dn X G (fun _ _ _ _ _ _ us hl => match us, hl with | [_, _], _ => rfl)
  have D83 : Dn K mg "_law_names" s83 ["_law_deal_here", "_law_many"] := e83.dn X G (fun _ _ _ _ _ _ us hl => match us, hl with | [_, _], _ => rfl)
  have D84 : Dn K mg "_law_notes" s84 ["_law_deal_here", "_law_hands", "_law_names_here"] := e84.dn X G (fun _ _ _ _ _ _ us hl => match us, hl with | [_, _, _], _ => rfl)
  have D85 : Dn K mg "_law_web" s85 ["_law_hands", "_law_notes_here", "_law_ready", "_law_paper"] := e85.dn X G (fun _ _ _ _ _ _ us hl => match us, hl with | [_, _, _, _], _ => rfl)
  have D86 : Dn K mg "_law_world" s86 ["_law_deal_here", "_law_many", "_law_extra"] := e86.dn X G (fun _ _ _ _ _ _ us hl => match us, hl with | [_, _, _], _ => rfl)
  have D87 : Dn K mg "_law_pact" s87 ["_law_world_here"] := e87.dn X G (fun _ _ _ _ _ _ us hl => match us, hl with | [_], _ => rfl)
  have D88 : Dn K mg "_law_start" s88 ["_law_world_here", "_law_hand"] := e88.dn X G (fun _ _ _ _ _ _ us hl => match us, hl with | [_, _], _ => rfl)
  have D89 : Dn K mg "_law_climb" s89 ["_law_world_here", "_law_note", "_law_row"] := e89.dn X G (fun _ _ _ _ _ _ us hl => match us, hl with | [_, _, _], _ => rfl)
  have D90 : Dn K mg "_law_holds" s90 ["_law_world_here", "_law_hand", "_law_row"] := e90.dn X G (fun _ _ _ _ _ _ us hl => match us, hl with | [_, _, _], _ => rfl)
  have D91 : Dn K mg "_law_rows" s91 ["_law_hands"] := e91.dn X G (fun _ _ _ _ _ _ us hl => match us, hl with | [_], _ => rfl)
  have D92 : Dn K mg "_law_longer" s92 ["_law_layer", "_law_hands"] := e92.dn X G (fun _ _ _ _ _ _ us hl => match us, hl with | [_, _], _ => rfl)
  have D93 : Dn K mg "_law_parts" s93 ["_law_lot"] := e93.dn X G (fun _ _ _ _ _ _ us hl => match us, hl with | [_], _ => rfl)
  have D94 : Dn K mg "_law_within" s94 ["_law_one", "_law_other"] := e94.dn X G (fun _ _ _ _ _ _ us hl => match us, hl with | [_, _], _ => rfl)
  have D95 : Dn K mg "_law_inside" s95 ["_law_family_here", "_law_lot"] := e95.dn X G (fun _ _ _ _ _ _ us hl => match us, hl with | [_, _], _ => rfl)
  have D96 : Dn K mg "_law_greatest" s96 ["_law_lots"] := e96.dn X G (fun _ _ _ _ _ _ us hl => match us, hl with | [_], _ => rfl)
  have D97 : Dn K mg "_law_family" s97 ["_law_deal_here", "_law_hands"] := e97.dn X G (fun _ _ _ _ _ _ us hl => match us, hl with | [_, _], _ => rfl)
  have D98 : Dn K mg "_law_size" s98 ["_law_deal_here"] := e98.dn X G (fun _ _ _ _ _ _ us hl => match us, hl with | [_], _ => rfl)
  have D99 : Dn K mg "_law_torn" s99 ["_law_world_here", "_law_family_here", "_law_lot"] := e99.dn X G (fun _ _ _ _ _ _ us hl => match us, hl with | [_, _, _], _ => rfl)
  obtain ⟨f, oc, od, kV, doc, pm, an, cdv, ct, osl, a100, l100, c100', k100⟩ := e100.ex
  have e := hfa.symm.trans (PySem.W.mg_of X G a100)
  cases e
  have FL := fun_mk (st := s100) l100 c100' k100
  have mem1 : ∀ {q : Addr × Addr → Prop}, q (c, tb) → ∀ p ∈ [(c, tb)], q p := fun {q} h p hp => by
    cases List.mem_singleton.mp hp
    exact h
  refine ⟨PySem.W.fnOf "law" "law" (defArgs s100) (defBody s100) (defScope s100) .none kV doc pm an cdv ct, [(c, tb)], spLaw K tb lamN, mem1 ta, mem1 tk, mem1 (PySem.W.codeHd_of_K X cd), fun s u => .of_eq rfl, fun H a ns hn _ ht ha => ⟨ns, a, rfl, ha, hn, ht (c, tb) (List.mem_singleton.mpr rfl), tk, fun _ => rfl⟩, fun base hK hG hT => ?_⟩
  have TB : LamX.TabB base mg c tb := hT (c, tb) (List.mem_singleton.mpr rfl)
  have C14 : Okd l.prog w K mg base "lot_of" 1 (q14 ⟨tb, lamN, none⟩) := ok14 V D14
  have C36 : Okd l.prog w K mg base "is_under" 1 (q36 C ⟨tb, lamN, none⟩) := ok36 V PK D36
  have C31 : Okd l.prog w K mg base "need_hand" 1 (q31 C ⟨tb, lamN, none⟩) := ok31 V PK D31
  have C39 : Okd l.prog w K mg base "key_note" 2 (q39 C ⟨tb, lamN, none⟩) := ok39 V PK D39 C31
  have C40 : Okd l.prog w K mg base "ready_note" 2 (q40 C ⟨tb, lamN, none⟩) := ok40 V PK D40 C31
  have C32 : Okd l.prog w K mg base "need_note" 1 (q32 C ⟨tb, lamN, none⟩) := ok32 V PK D32
  have C44 : Okd l.prog w K mg base "next_level" 2 (q44 C ⟨tb, lamN, none⟩) := ok44 V PK D44 C31 C32 C36
  have C45 : Okd l.prog w K mg base "next_note" 3 (q45 C ⟨tb, lamN, none⟩) := ok45 V PK D45 C44
  have C10 : Okd l.prog w K mg base "is_text" 1 (q10 ⟨tb, lamN, none⟩) := ok10 V D10
  have C12 : Okd l.prog w K mg base "is_name" 2 (q12 ⟨tb, lamN, none⟩) := ok12 V D12 C10
  have C47 : Okd l.prog w K mg base "row_fault" 3 (q47 C ⟨tb, lamN, none⟩) := ok47 V PK D47 C12
  have C48 : Okd l.prog w K mg base "need_row" 4 (q48 C ⟨tb, lamN, none⟩) := ok48 V PK D48 C47
  have C49 : Okd l.prog w K mg base "climb_from" 5 (q49 C ⟨tb, lamN, none⟩) := ok49 V PK D49 C32 C45 C48
  have C50 : Okd l.prog w K mg base "climb" 6 (q50 C ⟨tb, lamN, none⟩) := ok50 V PK D50 C40 C49
  have C51 : Okd l.prog w K mg base "row_holds" 7 (q51 C ⟨tb, lamN, none⟩) := ok51 V PK D51 C36 C39 C50
  have C62 : Okc l.prog w K mg base "Just" CJ 1 (q62 CJ ⟨tb, lamN, none⟩) := ok62 J.ij.cl nj D62
  have C63 : Okc l.prog w K mg base "Torn" CT 1 (q63' CT ⟨tb, lamN, none⟩) := ok63' J.it.cl nt1 nt2 D63
  have C13 : Okd l.prog w K mg base "is_lot" 3 (q13 ⟨tb, lamN, none⟩) := ok13 V D13 C12
  have C18 : Okd l.prog w K mg base "lot_within" 1 (q18 ⟨tb, lamN, none⟩) := ok18 V D18
  have C53 : Okd l.prog w K mg base "place_within" 2 (q53 ⟨tb, lamN, none⟩) := ok53 V D53 C18
  have C54 : Okd l.prog w K mg base "family_fault" 4 (q54 C ⟨tb, lamN, none⟩) := ok54 V PK D54 C13 C18 C53
  have C55 : Okd l.prog w K mg base "need_family" 5 (q55 C ⟨tb, lamN, none⟩) := ok55 V PK D55 C54
  have C58 : Okd l.prog w K mg base "lots_in_order" 3 (q58 ⟨tb, lamN, none⟩) := ok58 V TB D58
  have C57 : Okd l.prog w K mg base "lot_parts" 1 (q57 ⟨tb, lamN, none⟩) := ok57 V D57
  have C59 : Okd l.prog w K mg base "all_lots" 4 (q59 ⟨tb, lamN, none⟩) := ok59 V D59 C57 C58
  have C64 : Okd l.prog w K mg base "lot_orders" 1 (q64 ⟨tb, lamN, none⟩) := ok64 V D64
  have C65 : Okd l.prog w K mg base "court_rows" 6 (q65 C ⟨tb, lamN, none⟩) := ok65 V PK D65 C55 C58 C59 C64
  have C15 : Okd l.prog w K mg base "lot_union" 1 (q15 ⟨tb, lamN, none⟩) := ok15 V D15
  have C17 : Okd l.prog w K mg base "lot_less" 1 (q17 ⟨tb, lamN, none⟩) := ok17 V D17
  have C35 : Okd l.prog w K mg base "notes_of" 2 (q35 C ⟨tb, lamN, none⟩) := ok35 V PK D35 C31
  have C43 : Okd l.prog w K mg base "top_of" 3 (q43 C ⟨tb, lamN, none⟩) := ok43 V PK D43 C35
  have C66 : Okd l.prog w K mg base "level_after" 4 (q66 C ⟨tb, lamN, none⟩) := ok66 V D66 C35 C43 C44
  have C67 : Okd l.prog w K mg base "level_behind" 5 (q67 l.prog w C ⟨tb, lamN, none⟩) := ok67 V D67 C17 C44 C66 PK
  have C68 : Okd l.prog w K mg base "highest_levels" 6 (q68 l.prog w C ⟨tb, lamN, none⟩) := ok68 V D68 C57 C58 C67
  have C69 : Okd l.prog w K mg base "court_table" 7 (q69 C ⟨tb, lamN, none⟩) := ok69 V PK D69 C14 C15 C17 C55 C59 C68
  have C34 : Okd l.prog w K mg base "hand_of" 2 (q34 C ⟨tb, lamN, none⟩) := ok34 V PK D34 C32
  have C42 : Okd l.prog w K mg base "level_of" 3 (q42 C ⟨tb, lamN, none⟩) := ok42 V PK D42 C34
  have C70 : Okd l.prog w K mg base "key_level" 4 (q70 C ⟨tb, lamN, none⟩) := ok70 V D70 C39 C42
  have C71 : Okd l.prog w K mg base "court" 8 (q71 C CJ CT ⟨tb, lamN, none⟩) := ok71 V PK D71 C14 C51 C62 C63 C65 C69 C70
  have C56 : Okd l.prog w K mg base "in_family" 2 (q56 ⟨tb, lamN, none⟩) := ok56 V D56 C18
  have C73 : Okd l.prog w K mg base "need_lot_hands" 2 (q73 C ⟨tb, lamN, none⟩) := ok73 V D73 C31
  have C75 : Okd l.prog w K mg base "torn_in" 8 (q75 C CT ⟨tb, lamN, none⟩) := ok75 V PK D75 C17 C51 C55 C56 C57 C58 C63 C64 C73
  have C11 : Okd l.prog w K mg base "is_sequence" 1 (q11 ⟨tb, lamN, none⟩) := ok11 V D11
  have C24 : Okd l.prog w K mg base "are_hands" 3 (q24 ⟨tb, lamN, none⟩) := ok24 V D24 C11 C12
  have C25 : Okd l.prog w K mg base "is_told_note" 4 (q25 ⟨tb, lamN, none⟩) := ok25 V D25 C12 C13
  have C26 : Okd l.prog w K mg base "are_ready" 3 (q26 ⟨tb, lamN, none⟩) := ok26 V D26 C11 C12
  have C27 : Okd l.prog w K mg base "bits_under" 1 (q27 ⟨tb, lamN, none⟩) := ok27 V D27
  have C28 : Okd l.prog w K mg base "bits_of_lot" 2 (q28 ⟨tb, lamN, none⟩) := ok28 V D28 C27
  have C29 : Okd l.prog w K mg base "is_paper" 4 (q29 ⟨tb, lamN, none⟩) := ok29 V D29 C13 C28
  have C30 : Okc l.prog w K mg base "Pact" C 5 (q30 C ⟨tb, lamN, none⟩) := ok30 V PK D30 C11 C24 C25 C26 C27 C28 C29
  have C33 : Okd l.prog w K mg base "names_of_bits" 2 (q33 C ⟨tb, lamN, none⟩) := ok33 V PK D33 C14
  have C37 : Okd l.prog w K mg base "under_of" 3 (q37 C ⟨tb, lamN, none⟩) := ok37 V PK D37 C32 C33
  have C38 : Okd l.prog w K mg base "whole_paper" 3 (q38 C ⟨tb, lamN, none⟩) := ok38 V PK D38 C33
  have C76 : Okd l.prog w K mg base "cut_pact" 7 (q76 C ⟨tb, lamN, none⟩) := ok76 V PK D76 C30 C34 C37 C38 C40 C73
  have C16 : Okd l.prog w K mg base "lot_meet" 1 (q16 ⟨tb, lamN, none⟩) := ok16 V D16
  have C60 : Okd l.prog w K mg base "family_of" 2 (q60 ⟨tb, lamN, none⟩) := ok60 V D60 C14 C18
  have C77 : Okd l.prog w K mg base "cut_family" 3 (q77 ⟨tb, lamN, none⟩) := ok77 V D77 C16 C60
  have C79 : Okd l.prog w K mg base "_law_deal" 1 (spDeal K ⟨tb, lamN, none⟩) := ok79 V D79
  have C80 : Okd l.prog w K mg base "_law_any" 1 (q80 ⟨tb, lamN, none⟩) := ok80 V D80
  have C82 : Okd l.prog w K mg base "_law_mixed" 2 (q82 ⟨tb, lamN, none⟩) := ok82 V D82 C80
  have C81 : Okd l.prog w K mg base "_law_of" 2 (q81 ⟨tb, lamN, none⟩) := ok81 V D81 C80
  have C81s : Okd l.prog w K mg base "_law_of" 2 (q81s ⟨tb, lamN, none⟩) := ok81s V D81 C80
  have C83 : Okd l.prog w K mg base "_law_names" 3 (q83 ⟨tb, lamN, none⟩) := ok83 V D83 C80 C81 C81s
  have C84 : Okd l.prog w K mg base "_law_notes" 3 (q84 ⟨tb, lamN, none⟩) := ok84 V D84 C80 C81 C82
  have C85 : Okd l.prog w K mg base "_law_web" 1 (q85 l.prog w ⟨tb, lamN, none⟩) := ok85 V D85
  have C86 : Okd l.prog w K mg base "_law_world" 4 (q86 l.prog w ⟨tb, lamN, none⟩) := ok86 V D86 C80 C81 C83 C84 C85
  have C87 : Okd l.prog w K mg base "_law_pact" 7 (q87 l.prog w C ⟨tb, lamN, none⟩) := ok87 V D87 C30
  have C93 : Okd l.prog w K mg base "_law_parts" 1 (q93 ⟨tb, lamN, none⟩) := ok93 V D93
  have C94 : Okd l.prog w K mg base "_law_within" 1 (q94 ⟨tb, lamN, none⟩) := ok94 V D94
  have C95 : Okd l.prog w K mg base "_law_inside" 2 (q95 ⟨tb, lamN, none⟩) := ok95 V D95 C94
  have C96 : Okd l.prog w K mg base "_law_greatest" 3 (q96 ⟨tb, lamN, none⟩) := ok96 V D96 C95
  have C96X : Okd l.prog w K mg base "_law_greatest" 3 (q96X ⟨tb, lamN, none⟩) := ok96X C96
  have C97 : Okd l.prog w K mg base "_law_family" 4 (q97 ⟨tb, lamN, none⟩) := ok97 V D97 C80 C81 C93 C96X
  have C98 : Okd l.prog w K mg base "_law_size" 3 (q98 ⟨tb, lamN, none⟩) := ok98 V D98 C80 C81
  have C88 : Okd l.prog w K mg base "_law_start" 1 (q88 l.prog w ⟨tb, lamN, none⟩) := ok88 V D88
  have C89 : Okd l.prog w K mg base "_law_climb" 1 (q89 l.prog w ⟨tb, lamN, none⟩) := ok89 V D89
  have C90 : Okd l.prog w K mg base "_law_holds" 2 (q90 l.prog w ⟨tb, lamN, none⟩) := ok90 V D90 C88 C89
  have C92 : Okd l.prog w K mg base "_law_longer" 1 (q92 ⟨tb, lamN, none⟩) := ok92 V D92
  have C91 : Okd l.prog w K mg base "_law_rows" 2 (q91 ⟨tb, lamN, none⟩) := ok91 V D91 C92
  have C99 : Okd l.prog w K mg base "_law_torn" 3 (q99 l.prog w ⟨tb, lamN, none⟩) := ok99 V D99 C90 C91 C95
  exact ok100 V J FL C71 C75 C76 C77 C79 C82 C86 C87 C93 C97 C98 C99
end Kb
end TYa
section TYb
set_option Elab.async false
set_option linter.all false
open PySem PySem.W PyProof.Rows in
set_option maxRecDepth 100000 in
set_option maxHeartbeats 0 in
theorem PySem.Challenge.cw_boundorvoid_k43_whole_kept_lots_and_smal_holds : PySem.Challenge.rw_boundorvoid_k43_whole_kept_lots_and_smal.Holds := by
  w_on; o_law; k_head; (case hw => w_witness2)
  k_fill
  refine LamX.walk_ofTs (l := PySem.Challenge.rw_boundorvoid_k43_whole_kept_lots_and_smal) (n := 63) (k := 9) (x := "_law_script") (CX := fun _ => L2.CX0) rfl (by decide) (by first | rfl | kernel_rfl) ⟨rfl, by decide, by decide⟩ (fun w h Y => km_in_of Y) ?F (fun _ _ _ _ _ z => z)
  case F =>
    intro w mg fa h Y KX G hmg
    refine' Kb.all_law KX G hmg ?kC ?kJ ?kT ?hsp ?htk ?jj ?tj ?e10 ?e11 ?e12 ?e13 ?e14 ?e15 ?e16 ?e17 ?e18 ?e24 ?e25 ?e26 ?e27 ?e28 ?e29 ?e30 ?e31 ?e32 ?e33 ?e34 ?e35 ?e36 ?e37 ?e38 ?e39 ?e40 ?e42 ?e43 ?e44 ?e45 ?e47 ?e48 ?e49 ?e50 ?e51 ?e53 ?e54 ?e55 ?e56 ?e57 ?e58 ?e59 ?e60 ?e62 ?e63 ?e64 ?e65 ?e66 ?e67 ?e68 ?e69 ?e70 ?e71 ?e73 ?e75 ?e76 ?e77 ?e79 ?e80 ?e81 ?e82 ?e83 ?e84 ?e85 ?e86 ?e87 ?e88 ?e89 ?e90 ?e91 ?e92 ?e93 ?e94 ?e95 ?e96 ?e97 ?e98 ?e99 ?e100 ?cd ?ta ?tk ?g1 ?g2 ?g3 ?g4 ?g5 ?g6 ?z_len ?z_all ?z_any ?z_tuple ?z_list ?z_set ?z_sorted ?z_enumerate ?z_zip ?z_range ?z_max ?z_min ?z_isinstance ?z_str ?z_int ?z_abs ?p1 ?p2 ?p3 ?p4 ?p5 ?p6 ?p7 ?p8 ?p9 ?nj ?nt1 ?nt2
    (case ta => exact km_tabs_of Y _ (List.mem_singleton.mpr rfl))
    (case kC => (refine' ⟨?ns, ?pg, ?hd, ?po, ?sa, ?mks, ?kp, ?ha, ?hm⟩; (case ns => k_is); (case pg => k_is); (case hd => k_is); (case po => k_is); (case sa => k_is); (case mks => k_is); (case kp => k_is); (case ha => k_is); (case hm => k_is)))
    (case kJ => (refine' ⟨?ns, ?pg, ?hd, ?po, ?sa, ?mks, ?kp, ?ha, ?hm⟩; (case ns => k_is); (case pg => k_is); (case hd => k_is); (case po => k_is); (case sa => k_is); (case mks => k_is); (case kp => k_is); (case ha => k_is); (case hm => k_is)))
    (case kT => (refine' ⟨?ns, ?pg, ?hd, ?po, ?sa, ?mks, ?kp, ?ha, ?hm⟩; (case ns => k_is); (case pg => k_is); (case hd => k_is); (case po => k_is); (case sa => k_is); (case mks => k_is); (case kp => k_is); (case ha => k_is); (case hm => k_is)))
    (case hsp => k_is)
    (case htk => k_is)
    (case jj => kit_is)
    (case tj => kit_is)
    (case e10 => (refine' Kb.DF.put ?a ?l ?c ?k; (case a => k_is); (case l => k_is); (case c => k_is); (case k => k_is)))
    (case e11 => (refine' Kb.DF.put ?a ?l ?c ?k; (case a => k_is); (case l => k_is); (case c => k_is); (case k => k_is)))
    (case e12 => (refine' Kb.DF.put ?a ?l ?c ?k; (case a => k_is); (case l => k_is); (case c => k_is); (case k => k_is)))
    (case e13 => (refine' Kb.DF.put ?a ?l ?c ?k; (case a => k_is); (case l => k_is); (case c => k_is); (case k => k_is)))
    (case e14 => (refine' Kb.DF.put ?a ?l ?c ?k; (case a => k_is); (case l => k_is); (case c => k_is); (case k => k_is)))
    (case e15 => (refine' Kb.DF.put ?a ?l ?c ?k; (case a => k_is); (case l => k_is); (case c => k_is); (case k => k_is)))
    (case e16 => (refine' Kb.DF.put ?a ?l ?c ?k; (case a => k_is); (case l => k_is); (case c => k_is); (case k => k_is)))
    (case e17 => (refine' Kb.DF.put ?a ?l ?c ?k; (case a => k_is); (case l => k_is); (case c => k_is); (case k => k_is)))
    (case e18 => (refine' Kb.DF.put ?a ?l ?c ?k; (case a => k_is); (case l => k_is); (case c => k_is); (case k => k_is)))
    (case e24 => (refine' Kb.DF.put ?a ?l ?c ?k; (case a => k_is); (case l => k_is); (case c => k_is); (case k => k_is)))
    (case e25 => (refine' Kb.DF.put ?a ?l ?c ?k; (case a => k_is); (case l => k_is); (case c => k_is); (case k => k_is)))
    (case e26 => (refine' Kb.DF.put ?a ?l ?c ?k; (case a => k_is); (case l => k_is); (case c => k_is); (case k => k_is)))
    (case e27 => (refine' Kb.DF.put ?a ?l ?c ?k; (case a => k_is); (case l => k_is); (case c => k_is); (case k => k_is)))
    (case e28 => (refine' Kb.DF.put ?a ?l ?c ?k; (case a => k_is); (case l => k_is); (case c => k_is); (case k => k_is)))
    (case e29 => (refine' Kb.DF.put ?a ?l ?c ?k; (case a => k_is); (case l => k_is); (case c => k_is); (case k => k_is)))
    (case e30 => (refine' Kb.DFI.put ?a ?l ?c ?k ?i; (case a => k_is); (case l => k_is); (case c => k_is); (case k => k_is); (case i => k_is)))
    (case e31 => (refine' Kb.DF.put ?a ?l ?c ?k; (case a => k_is); (case l => k_is); (case c => k_is); (case k => k_is)))
    (case e32 => (refine' Kb.DF.put ?a ?l ?c ?k; (case a => k_is); (case l => k_is); (case c => k_is); (case k => k_is)))
    (case e33 => (refine' Kb.DF.put ?a ?l ?c ?k; (case a => k_is); (case l => k_is); (case c => k_is); (case k => k_is)))
    (case e34 => (refine' Kb.DF.put ?a ?l ?c ?k; (case a => k_is); (case l => k_is); (case c => k_is); (case k => k_is)))
    (case e35 => (refine' Kb.DF.put ?a ?l ?c ?k; (case a => k_is); (case l => k_is); (case c => k_is); (case k => k_is)))
    (case e36 => (refine' Kb.DF.put ?a ?l ?c ?k; (case a => k_is); (case l => k_is); (case c => k_is); (case k => k_is)))
    (case e37 => (refine' Kb.DF.put ?a ?l ?c ?k; (case a => k_is); (case l => k_is); (case c => k_is); (case k => k_is)))
    (case e38 => (refine' Kb.DF.put ?a ?l ?c ?k; (case a => k_is); (case l => k_is); (case c => k_is); (case k => k_is)))
    (case e39 => (refine' Kb.DF.put ?a ?l ?c ?k; (case a => k_is); (case l => k_is); (case c => k_is); (case k => k_is)))
    (case e40 => (refine' Kb.DF.put ?a ?l ?c ?k; (case a => k_is); (case l => k_is); (case c => k_is); (case k => k_is)))
    (case e42 => (refine' Kb.DF.put ?a ?l ?c ?k; (case a => k_is); (case l => k_is); (case c => k_is); (case k => k_is)))
    (case e43 => (refine' Kb.DF.put ?a ?l ?c ?k; (case a => k_is); (case l => k_is); (case c => k_is); (case k => k_is)))
    (case e44 => (refine' Kb.DF.put ?a ?l ?c ?k; (case a => k_is); (case l => k_is); (case c => k_is); (case k => k_is)))
    (case e45 => (refine' Kb.DF.put ?a ?l ?c ?k; (case a => k_is); (case l => k_is); (case c => k_is); (case k => k_is)))
    (case e47 => (refine' Kb.DF.put ?a ?l ?c ?k; (case a => k_is); (case l => k_is); (case c => k_is); (case k => k_is)))
    (case e48 => (refine' Kb.DF.put ?a ?l ?c ?k; (case a => k_is); (case l => k_is); (case c => k_is); (case k => k_is)))
    (case e49 => (refine' Kb.DF.put ?a ?l ?c ?k; (case a => k_is); (case l => k_is); (case c => k_is); (case k => k_is)))
    (case e50 => (refine' Kb.DF.put ?a ?l ?c ?k; (case a => k_is); (case l => k_is); (case c => k_is); (case k => k_is)))
    (case e51 => (refine' Kb.DF.put ?a ?l ?c ?k; (case a => k_is); (case l => k_is); (case c => k_is); (case k => k_is)))
    (case e53 => (refine' Kb.DF.put ?a ?l ?c ?k; (case a => k_is); (case l => k_is); (case c => k_is); (case k => k_is)))
    (case e54 => (refine' Kb.DF.put ?a ?l ?c ?k; (case a => k_is); (case l => k_is); (case c => k_is); (case k => k_is)))
    (case e55 => (refine' Kb.DF.put ?a ?l ?c ?k; (case a => k_is); (case l => k_is); (case c => k_is); (case k => k_is)))
    (case e56 => (refine' Kb.DF.put ?a ?l ?c ?k; (case a => k_is); (case l => k_is); (case c => k_is); (case k => k_is)))
    (case e57 => (refine' Kb.DF.put ?a ?l ?c ?k; (case a => k_is); (case l => k_is); (case c => k_is); (case k => k_is)))
    (case e58 => (refine' Kb.DFT.put ?a ?l ?c ?k; (case a => k_is); (case l => k_is); (case c => k_is); (case k => k_is)))
    (case e59 => (refine' Kb.DF.put ?a ?l ?c ?k; (case a => k_is); (case l => k_is); (case c => k_is); (case k => k_is)))
    (case e60 => (refine' Kb.DF.put ?a ?l ?c ?k; (case a => k_is); (case l => k_is); (case c => k_is); (case k => k_is)))
    (case e62 => (refine' Kb.DFI.put ?a ?l ?c ?k ?i; (case a => k_is); (case l => k_is); (case c => k_is); (case k => k_is); (case i => k_is)))
    (case e63 => (refine' Kb.DFI.put ?a ?l ?c ?k ?i; (case a => k_is); (case l => k_is); (case c => k_is); (case k => k_is); (case i => k_is)))
    (case e64 => (refine' Kb.DF.put ?a ?l ?c ?k; (case a => k_is); (case l => k_is); (case c => k_is); (case k => k_is)))
    (case e65 => (refine' Kb.DF.put ?a ?l ?c ?k; (case a => k_is); (case l => k_is); (case c => k_is); (case k => k_is)))
    (case e66 => (refine' Kb.DF.put ?a ?l ?c ?k; (case a => k_is); (case l => k_is); (case c => k_is); (case k => k_is)))
    (case e67 => (refine' Kb.DF.put ?a ?l ?c ?k; (case a => k_is); (case l => k_is); (case c => k_is); (case k => k_is)))
    (case e68 => (refine' Kb.DF.put ?a ?l ?c ?k; (case a => k_is); (case l => k_is); (case c => k_is); (case k => k_is)))
    (case e69 => (refine' Kb.DF.put ?a ?l ?c ?k; (case a => k_is); (case l => k_is); (case c => k_is); (case k => k_is)))
    (case e70 => (refine' Kb.DF.put ?a ?l ?c ?k; (case a => k_is); (case l => k_is); (case c => k_is); (case k => k_is)))
    (case e71 => (refine' Kb.DF.put ?a ?l ?c ?k; (case a => k_is); (case l => k_is); (case c => k_is); (case k => k_is)))
    (case e73 => (refine' Kb.DF.put ?a ?l ?c ?k; (case a => k_is); (case l => k_is); (case c => k_is); (case k => k_is)))
    (case e75 => (refine' Kb.DF.put ?a ?l ?c ?k; (case a => k_is); (case l => k_is); (case c => k_is); (case k => k_is)))
    (case e76 => (refine' Kb.DF.put ?a ?l ?c ?k; (case a => k_is); (case l => k_is); (case c => k_is); (case k => k_is)))
    (case e77 => (refine' Kb.DF.put ?a ?l ?c ?k; (case a => k_is); (case l => k_is); (case c => k_is); (case k => k_is)))
    (case e79 => (refine' Kb.DF.put ?a ?l ?c ?k; (case a => k_is); (case l => k_is); (case c => k_is); (case k => k_is)))
    (case e80 => (refine' Kb.DF.put ?a ?l ?c ?k; (case a => k_is); (case l => k_is); (case c => k_is); (case k => k_is)))
    (case e81 => (refine' Kb.DF.put ?a ?l ?c ?k; (case a => k_is); (case l => k_is); (case c => k_is); (case k => k_is)))
    (case e82 => (refine' Kb.DF.put ?a ?l ?c ?k; (case a => k_is); (case l => k_is); (case c => k_is); (case k => k_is)))
    (case e83 => (refine' Kb.DF.put ?a ?l ?c ?k; (case a => k_is); (case l => k_is); (case c => k_is); (case k => k_is)))
    (case e84 => (refine' Kb.DF.put ?a ?l ?c ?k; (case a => k_is); (case l => k_is); (case c => k_is); (case k => k_is)))
    (case e85 => (refine' Kb.DF.put ?a ?l ?c ?k; (case a => k_is); (case l => k_is); (case c => k_is); (case k => k_is)))
    (case e86 => (refine' Kb.DF.put ?a ?l ?c ?k; (case a => k_is); (case l => k_is); (case c => k_is); (case k => k_is)))
    (case e87 => (refine' Kb.DF.put ?a ?l ?c ?k; (case a => k_is); (case l => k_is); (case c => k_is); (case k => k_is)))
    (case e88 => (refine' Kb.DF.put ?a ?l ?c ?k; (case a => k_is); (case l => k_is); (case c => k_is); (case k => k_is)))
    (case e89 => (refine' Kb.DF.put ?a ?l ?c ?k; (case a => k_is); (case l => k_is); (case c => k_is); (case k => k_is)))
    (case e90 => (refine' Kb.DF.put ?a ?l ?c ?k; (case a => k_is); (case l => k_is); (case c => k_is); (case k => k_is)))
    (case e91 => (refine' Kb.DF.put ?a ?l ?c ?k; (case a => k_is); (case l => k_is); (case c => k_is); (case k => k_is)))
    (case e92 => (refine' Kb.DF.put ?a ?l ?c ?k; (case a => k_is); (case l => k_is); (case c => k_is); (case k => k_is)))
    (case e93 => (refine' Kb.DF.put ?a ?l ?c ?k; (case a => k_is); (case l => k_is); (case c => k_is); (case k => k_is)))
    (case e94 => (refine' Kb.DF.put ?a ?l ?c ?k; (case a => k_is); (case l => k_is); (case c => k_is); (case k => k_is)))
    (case e95 => (refine' Kb.DF.put ?a ?l ?c ?k; (case a => k_is); (case l => k_is); (case c => k_is); (case k => k_is)))
    (case e96 => (refine' Kb.DF.put ?a ?l ?c ?k; (case a => k_is); (case l => k_is); (case c => k_is); (case k => k_is)))
    (case e97 => (refine' Kb.DF.put ?a ?l ?c ?k; (case a => k_is); (case l => k_is); (case c => k_is); (case k => k_is)))
    (case e98 => (refine' Kb.DF.put ?a ?l ?c ?k; (case a => k_is); (case l => k_is); (case c => k_is); (case k => k_is)))
    (case e99 => (refine' Kb.DF.put ?a ?l ?c ?k; (case a => k_is); (case l => k_is); (case c => k_is); (case k => k_is)))
    (case e100 => (refine' Kb.DF.put ?a ?l ?c ?k; (case a => k_is); (case l => k_is); (case c => k_is); (case k => k_is)))
    (case g1 => k_is)
    (case g2 => k_is)
    (case g3 => k_is)
    (case g4 => k_is)
    (case g5 => k_is)
    (case g6 => k_is)
    (case z_len => k_is)
    (case z_all => k_is)
    (case z_any => k_is)
    (case z_tuple => k_is)
    (case z_list => k_is)
    (case z_set => k_is)
    (case z_sorted => k_is)
    (case z_enumerate => k_is)
    (case z_zip => k_is)
    (case z_range => k_is)
    (case z_max => k_is)
    (case z_min => k_is)
    (case z_isinstance => k_is)
    (case z_str => k_is)
    (case z_int => k_is)
    (case z_abs => k_is)
    (case p1 => k_is)
    (case p2 => k_is)
    (case p3 => k_is)
    (case p4 => k_is)
    (case p5 => k_is)
    (case p6 => k_is)
    (case p7 => k_is)
    (case p8 => k_is)
    (case p9 => k_is)
    (case nj => k_is)
    (case nt1 => k_is)
    (case nt2 => k_is)
    (case cd => kernel_rfl)
    (case tk => kernel_rfl)
end TYb
