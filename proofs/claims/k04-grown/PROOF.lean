import PyProof.Rows.All
import Wide.All
import OpenK.AllK
import Wide.FinOn
import HandS.ForMost
import HandS.ForExc
import HandS.Deep
import HandS.Conv
import HandS.SortInts
import HandS.IsInst
import HandS.TryMany
import HandS.ExcIs
import HandS.SortRule
import PySem.Challenge.RW_markbox_k04_grown
set_option Elab.async false
set_option linter.all false
set_option maxRecDepth 100000
set_option maxHeartbeats 4000000
namespace Mb
open PySem PySem.Spec PyProof.Rows L2

/-! ### heaps that grow -/
def Ex (H H' : Hp) : Prop := ∀ a o, H a = some o → H' a = some o
theorem Ex.refl (H : Hp) : Ex H H := fun _ _ h => h
theorem Ex.trans {H H1 H2 : Hp} (a : Ex H H1) (b : Ex H1 H2) : Ex H H2 := fun x o h => b x o (a x o h)
theorem Ex.new {H : Hp} {p : Addr} {o : HO} (h : H p = none) : Ex H (upd H p o) := fun a u e => by
  rw [upd_ne (ne_of_none e h)]
  exact e
theorem Ex.mut {H H' : Hp} {p : Addr} {o : HO} (e : Ex H H') (h : H p = none) : Ex H (upd H' p o) := fun a u ha => by
  rw [upd_ne (ne_of_none ha h)]
  exact e a u ha
theorem Ex.back {H H' : Hp} {p : Addr} (e : Ex H H') (h : H' p = none) : H p = none := by
  cases h1 : H p with
  | none => rfl
  | some o =>
    rw [e p o h1] at h
    cases h
theorem Ex.sql {K : PySem.W.Frag} {H H' : Hp} {a : Addr} {xs : List V} (e : Ex H H') (h : SqL K H a xs) : SqL K H' a xs := by
  rcases h with (h | ⟨o, h⟩) | h
  · exact .inl (.inl (e _ _ h))
  · exact .inl (.inr ⟨o, e _ _ h⟩)
  · exact .inr h

/-! ### data -/
inductive D where
  | non | bl (b : Bool) | int (i : Int) | str (x : Str) | ty (n : String) | cls (a : Addr)
  | scr (ns : List Int)
  | lst (xs : List D) | tup (xs : List D)
  | tab (m : Int) (rows : List (List Int))
  /-- a table that is being made: it has its count -/
  | par (m : Int)
abbrev D.ints (ns : List Int) : D := .lst (ns.map .int)
/-- the world of a row: program, world, written part, names, the table's class -/
structure Wd where
  P : Program
  w : World
  K : PySem.W.Frag
  mg : Str → Option Value
  base : Heap
  C : Addr
section
variable (U : Wd) (S : Hp)
mutual
inductive Rep : V → D → Prop where
  | non : Rep .non .non
  | bl (b : Bool) : Rep (.bl b) (.bl b)
  | int (i : Int) : Rep (.int i) (.int i)
  | str (x : Str) : Rep (.str x) (.str x)
  | ty (n : String) : Rep (.ty n) (.ty n)
  | cls (a : Addr) : Rep (.ref a) (.cls a)
  | scr {a : Addr} {ns : List Int} : SqL U.K S a (ns.map V.int) → Rep (.ref a) (.scr ns)
  | lst {a : Addr} {xs : List V} {ds : List D} : S a = some (.lst xs) → xs.length ≤ sizeLine → RepL xs ds → Rep (.ref a) (.lst ds)
  | tup {a : Addr} {xs : List V} {ds : List D} : S a = some (.tup xs) → xs.length ≤ sizeLine → RepL xs ds → Rep (.ref a) (.tup ds)
  | tab {a dx rp : Addr} {m : Int} {rows : List (List Int)} {xs : List V} : S a = some (.ins U.C dx [("many", .int m), ("rows", .ref rp)]) → S rp = some (.lst xs) → xs.length ≤ sizeLine →
      RepL xs (rows.map fun r => D.ints r) → Rep (.ref a) (.tab m rows)
  | par {a dx : Addr} {m : Int} : S a = some (.ins U.C dx [("many", .int m)]) → Rep (.ref a) (.par m)
inductive RepL : List V → List D → Prop where
  | nil : RepL [] []
  | cons {v : V} {vs : List V} {d : D} {ds : List D} : Rep v d → RepL vs ds → RepL (v :: vs) (d :: ds)
end
end
section
variable {U : Wd} {S S' : Hp}
mutual
theorem Rep.mono (e : Ex S S') : ∀ {v : V} {d : D}, Rep U S v d → Rep U S' v d
  | _, _, .non => .non
  | _, _, .bl b => .bl b
  | _, _, .int b => .int b
  | _, _, .str b => .str b
  | _, _, .ty b => .ty b
  | _, _, .cls b => .cls b
  | _, _, .scr h => .scr (e.sql h)
  | _, _, .lst h z r => .lst (e _ _ h) z (RepL.mono e r)
  | _, _, .tup h z r => .tup (e _ _ h) z (RepL.mono e r)
  | _, _, .tab h g z r => .tab (e _ _ h) (e _ _ g) z (RepL.mono e r)
  | _, _, .par h => .par (e _ _ h)
theorem RepL.mono (e : Ex S S') : ∀ {vs : List V} {ds : List D}, RepL U S vs ds → RepL U S' vs ds
  | _, _, .nil => .nil
  | _, _, .cons h r => .cons (Rep.mono e h) (RepL.mono e r)
end
theorem RepL.length : ∀ {vs : List V} {ds : List D}, RepL U S vs ds → vs.length = ds.length
  | _, _, .nil => rfl
  | _, _, .cons _ r => congrArg (· + 1) (RepL.length r)
theorem RepL.get : ∀ {vs : List V} {ds : List D} {i : Nat} {d : D}, RepL U S vs ds → ds[i]? = some d → ∃ v, vs[i]? = some v ∧ Rep U S v d
  | _, _, _, _, .nil, e => by simp at e
  | _, _, 0, _, .cons r _, e => by
    obtain rfl := Option.some.inj (show some _ = some _ from e)
    exact ⟨_, rfl, r⟩
  | _, _, i + 1, d, .cons _ t, e => RepL.get (i := i) (d := d) t e
theorem RepL.getV : ∀ {vs : List V} {ds : List D} {i : Nat} {v : V}, RepL U S vs ds → vs[i]? = some v → ∃ d, ds[i]? = some d ∧ Rep U S v d
  | _, _, _, _, .nil, e => by simp at e
  | _, _, 0, _, .cons r _, e => by
    obtain rfl := Option.some.inj (show some _ = some _ from e)
    exact ⟨_, rfl, r⟩
  | _, _, i + 1, d, .cons _ t, e => RepL.getV (i := i) (v := d) t e
theorem RepL.append : ∀ {vs ws : List V} {ds es : List D}, RepL U S vs ds → RepL U S ws es → RepL U S (vs ++ ws) (ds ++ es)
  | _, _, _, _, .nil, s => s
  | _, _, _, _, .cons r t, s => .cons r (RepL.append t s)
theorem RepL.take : ∀ {vs : List V} {ds : List D} (n : Nat), RepL U S vs ds → RepL U S (vs.take n) (ds.take n)
  | _, _, 0, _ => .nil
  | _, _, _ + 1, .nil => .nil
  | _, _, n + 1, .cons r t => .cons r (RepL.take n t)
theorem RepL.drop : ∀ {vs : List V} {ds : List D} (n : Nat), RepL U S vs ds → RepL U S (vs.drop n) (ds.drop n)
  | _, _, 0, r => r
  | _, _, _ + 1, .nil => .nil
  | _, _, n + 1, .cons _ t => RepL.drop n t
theorem RepL.set {v : V} {d : D} (r : Rep U S v d) : ∀ {vs : List V} {ds : List D} (i : Nat), RepL U S vs ds → RepL U S (vs.set i v) (ds.set i d)
  | _, _, _, .nil => .nil
  | _, _, 0, .cons _ t => .cons r t
  | _, _, i + 1, .cons q t => .cons q (RepL.set r i t)
theorem RepL.ints : ∀ {vs : List V} {ns : List Int}, RepL U S vs (ns.map D.int) → vs = ns.map V.int
  | _, [], .nil => rfl
  | _, n :: ns, .cons (.int _) t => by
    rw [RepL.ints t]
    rfl
theorem RepL.ofInts : ∀ ns : List Int, RepL U S (ns.map V.int) (ns.map D.int)
  | [] => .nil
  | n :: ns => .cons (.int n) (RepL.ofInts ns)
theorem RepL.bls : ∀ {vs : List V} {bs : List Bool}, RepL U S vs (bs.map D.bl) → vs = bs.map V.bl
  | _, [], .nil => rfl
  | _, n :: ns, .cons (.bl _) t => by
    rw [RepL.bls t]
    rfl
end

/-! ### states: what stands still (S), the base (B), the heap (H) -/
structure Go (S B S' H' : Hp) : Prop where
  ss : Ex S S'
  sh : Ex S' H'
  bh : Ex B H'
  nw : ∀ a, S' a ≠ none → S a ≠ none ∨ B a = none
theorem Go.refl {S H : Hp} (e : Ex S H) : Go S H S H := ⟨Ex.refl S, e, Ex.refl H, fun _ h => .inl h⟩
theorem Go.trans {S B S1 H1 S2 H2 : Hp} (a : Go S B S1 H1) (b : Go S1 H1 S2 H2) : Go S B S2 H2 :=
  ⟨a.ss.trans b.ss, b.sh, a.bh.trans b.bh, fun x h => (b.nw x h).elim (a.nw x) fun q => .inr (a.bh.back q)⟩
theorem Go.transB {S B S1 H1 S2 H2 : Hp} (a : Go S B S1 H1) (b : Go S1 B S2 H2) : Go S B S2 H2 :=
  ⟨a.ss.trans b.ss, b.sh, b.bh, fun x h => (b.nw x h).elim (a.nw x) .inr⟩
theorem Go.keepB {S B H S' H' : Hp} (e : Ex B H) (g : Go S H S' H') : Go S B S' H' :=
  ⟨g.ss, g.sh, e.trans g.bh, fun x h => (g.nw x h).elim .inl fun q => .inr (e.back q)⟩
theorem Go.own {S H S' H' : Hp} (g : Go S H S' H') {p : Addr} {o : HO} (hp : H p = some o) (hs : S p = none) : S' p = none := by
  cases q : S' p with
  | none => rfl
  | some u =>
    rcases g.nw p (by rw [q]; exact fun z => nomatch z) with z | z
    · exact absurd hs z
    · rw [hp] at z
      cases z
/-- what has come may be counted among what stands -/
theorem Go.add {S B S' H' : Hp} (g : Go S B S' H') {p : Addr} {o : HO} (hp : H' p = some o) (hs : S' p = none) (hb : B p = none) : Go S B (upd S' p o) H' :=
  ⟨g.ss.trans (Ex.new hs), fun a u e => by
    by_cases h : a = p
    · subst h
      rw [upd_same] at e
      exact hp.trans e
    · rw [upd_ne h] at e
      exact g.sh a u e, g.bh, fun a h => by
    by_cases q : a = p
    · subst q
      exact .inr hb
    · rw [upd_ne q] at h
      exact g.nw a h⟩

/-! ### results -/
inductive Rs where
  | sh (d : D) | fr (ds : List D) | ow (ds : List D)
def RepR (U : Wd) (B S H : Hp) (v : V) : Rs → Prop
  | .sh d => Rep U S v d
  | .fr ds => ∃ p vs, v = .ref p ∧ H p = some (.lst vs) ∧ S p = none ∧ B p = none ∧ vs.length ≤ sizeLine ∧ RepL U S vs ds
  | .ow ds => ∃ p vs, v = .ref p ∧ H p = some (.lst vs) ∧ vs.length ≤ sizeLine ∧ RepL U S vs ds
/-- to be read only -/
def RepV (U : Wd) (S H : Hp) (v : V) : Rs → Prop
  | .sh d => Rep U S v d
  | .fr ds => ∃ p vs, v = .ref p ∧ H p = some (.lst vs) ∧ vs.length ≤ sizeLine ∧ RepL U S vs ds
  | .ow ds => ∃ p vs, v = .ref p ∧ H p = some (.lst vs) ∧ vs.length ≤ sizeLine ∧ RepL U S vs ds
section
variable {U : Wd} {B S H S' H' : Hp} {v : V} {r : Rs}
theorem RepR.toV (h : RepR U B S H v r) : RepV U S H v r := by
  cases r with
  | sh d => exact h
  | fr ds =>
    obtain ⟨p, vs, e, h1, _, _, z, h4⟩ := h
    exact ⟨p, vs, e, h1, z, h4⟩
  | ow ds => exact h
theorem RepV.mono (h : RepV U S H v r) (e1 : Ex S S') (e2 : Ex H H') : RepV U S' H' v r := by
  cases r with
  | sh d => exact Rep.mono e1 h
  | fr ds =>
    obtain ⟨p, vs, e, h1, z, h4⟩ := h
    exact ⟨p, vs, e, e2 _ _ h1, z, h4.mono e1⟩
  | ow ds =>
    obtain ⟨p, vs, e, h1, z, h4⟩ := h
    exact ⟨p, vs, e, e2 _ _ h1, z, h4.mono e1⟩
theorem RepR.base {B' : Hp} (h : RepR U B S H v r) (e : Ex B' B) : RepR U B' S H v r := by
  cases r with
  | sh d => exact h
  | fr ds =>
    obtain ⟨p, vs, e1, h1, h2, h3, z, h4⟩ := h
    exact ⟨p, vs, e1, h1, h2, e.back h3, z, h4⟩
  | ow ds => exact h
/-- the items of a list that may be read -/
def Rs.ls : Rs → Option (List D)
  | .sh (.lst ds) => some ds
  | .fr ds => some ds
  | .ow ds => some ds
  | _ => none
theorem RepV.list {ds : List D} (h : RepV U S H v r) (e : r.ls = some ds) (sh : Ex S H) : ∃ p vs, v = .ref p ∧ H p = some (.lst vs) ∧ vs.length ≤ sizeLine ∧ RepL U S vs ds := by
  cases r with
  | sh d =>
    cases d <;> first | (simp [Rs.ls] at e; done) | skip
    rename_i xs
    obtain rfl := Option.some.inj (show some xs = some ds from e)
    cases h with
    | lst h z r => exact ⟨_, _, rfl, sh _ _ h, z, r⟩
  | fr es =>
    obtain rfl := Option.some.inj (show some es = some ds from e)
    exact h
  | ow es =>
    obtain rfl := Option.some.inj (show some es = some ds from e)
    exact h
end

/-! ### slots -/
inductive Sl where
  | no | sh (d : D) | own (ds : List D)
structure Slots (U : Wd) (B S H : Hp) (σ : L2.St) (ρ : List Sl) : Prop where
  len : σ.length = ρ.length
  sh : ∀ (i : Nat) (d : D), ρ[i]? = some (.sh d) → ∃ v, σ[i]? = some (some v) ∧ Rep U S v d
  own : ∀ (i : Nat) (ds : List D), ρ[i]? = some (.own ds) → ∃ p vs, σ[i]? = some (some (.ref p)) ∧ H p = some (.lst vs) ∧ S p = none ∧ B p = none ∧ vs.length ≤ sizeLine ∧ RepL U S vs ds
  sep : ∀ (i j : Nat) (ds es : List D) (p : Addr), ρ[i]? = some (.own ds) → ρ[j]? = some (.own es) → σ[i]? = some (some (.ref p)) → σ[j]? = some (some (.ref p)) → i = j
section
variable {U : Wd} {B S H S' H' : Hp} {σ : L2.St} {ρ : List Sl} {v : V}
theorem Slots.go (s : Slots U B S H σ ρ) (g : Go S H S' H') : Slots U B S' H' σ ρ :=
  ⟨s.len, fun i d e => by
    obtain ⟨v, h1, h2⟩ := s.sh i d e
    exact ⟨v, h1, h2.mono g.ss⟩, fun i ds e => by
    obtain ⟨p, vs, h1, h2, h3, h4, z, h5⟩ := s.own i ds e
    exact ⟨p, vs, h1, g.bh _ _ h2, g.own h2 h3, h4, z, h5.mono g.ss⟩, s.sep⟩
theorem Slots.baseUp {B' : Hp} (s : Slots U B S H σ ρ) (h : ∀ p, S p = none → B p = none → B' p = none) : Slots U B' S H σ ρ :=
  ⟨s.len, s.sh, fun i ds e => by
    obtain ⟨p, vs, h1, h2, h3, h4, z, h5⟩ := s.own i ds e
    exact ⟨p, vs, h1, h2, h3, h p h3 h4, z, h5⟩, s.sep⟩
theorem setGet {α : Type} {l : List α} {i j : Nat} {x y : α} (h : (l.set i x)[j]? = some y) : (i = j ∧ y = x ∧ i < l.length) ∨ (i ≠ j ∧ l[j]? = some y) := by
  by_cases e : i = j
  · subst e
    by_cases hl : i < l.length
    · rw [List.getElem?_set_self hl] at h
      exact .inl ⟨rfl, (Option.some.inj h).symm, hl⟩
    · rw [List.getElem?_eq_none (by rw [List.length_set]; omega)] at h
      cases h
  · rw [List.getElem?_set_ne e] at h
    exact .inr ⟨e, h⟩
theorem Slots.setSh (s : Slots U B S H σ ρ) {d : D} (i : Nat) (h : Rep U S v d) : Slots U B S H (σ.set i (some v)) (ρ.set i (.sh d)) := by
  refine ⟨by rw [List.length_set, List.length_set, s.len], fun j e hj => ?_, fun j ds hj => ?_, fun j k ds es p hj hk aj ak => ?_⟩
  · rcases setGet hj with ⟨rfl, e1, hl⟩ | ⟨ne, hj⟩
    · cases e1
      exact ⟨v, by rw [List.getElem?_set_self (by rw [s.len]; exact hl)], h⟩
    · rw [List.getElem?_set_ne ne]
      exact s.sh j e hj
  · rcases setGet hj with ⟨rfl, e1, hl⟩ | ⟨ne, hj⟩
    · cases e1
    · rw [List.getElem?_set_ne ne]
      exact s.own j ds hj
  · rcases setGet hj with ⟨rfl, e1, hl⟩ | ⟨ne, hj⟩
    · cases e1
    · rcases setGet hk with ⟨rfl, e1, hl⟩ | ⟨ne', hk⟩
      · cases e1
      · rw [List.getElem?_set_ne ne] at aj
        rw [List.getElem?_set_ne ne'] at ak
        exact s.sep j k ds es p hj hk aj ak
/-- a slot is forgotten -/
theorem Slots.setNo (s : Slots U B S H σ ρ) (i : Nat) {x : Option V} : Slots U B S H (σ.set i x) (ρ.set i .no) := by
  refine ⟨by rw [List.length_set, List.length_set, s.len], fun j e hj => ?_, fun j ds hj => ?_, fun j k ds es p hj hk aj ak => ?_⟩
  · rcases setGet hj with ⟨rfl, e1, hl⟩ | ⟨ne, hj⟩
    · cases e1
    · rw [List.getElem?_set_ne ne]
      exact s.sh j e hj
  · rcases setGet hj with ⟨rfl, e1, hl⟩ | ⟨ne, hj⟩
    · cases e1
    · rw [List.getElem?_set_ne ne]
      exact s.own j ds hj
  · rcases setGet hj with ⟨rfl, e1, hl⟩ | ⟨ne, hj⟩
    · cases e1
    · rcases setGet hk with ⟨rfl, e1, hl⟩ | ⟨ne', hk⟩
      · cases e1
      · rw [List.getElem?_set_ne ne] at aj
        rw [List.getElem?_set_ne ne'] at ak
        exact s.sep j k ds es p hj hk aj ak
/-- a slot weakened -/
theorem Slots.forget (s : Slots U B S H σ ρ) (i : Nat) : Slots U B S H σ (ρ.set i .no) := by
  refine ⟨by rw [List.length_set, s.len], fun j e hj => ?_, fun j ds hj => ?_, fun j k ds es p hj hk aj ak => ?_⟩
  · rcases setGet hj with ⟨rfl, e1, hl⟩ | ⟨ne, hj⟩
    · cases e1
    · exact s.sh j e hj
  · rcases setGet hj with ⟨rfl, e1, hl⟩ | ⟨ne, hj⟩
    · cases e1
    · exact s.own j ds hj
  · rcases setGet hj with ⟨rfl, e1, hl⟩ | ⟨ne, hj⟩
    · cases e1
    · rcases setGet hk with ⟨rfl, e1, hl⟩ | ⟨ne', hk⟩
      · cases e1
      · exact s.sep j k ds es p hj hk aj ak
theorem Slots.setOwn (s : Slots U B S H σ ρ) {ds : List D} (i : Nat) {p : Addr} {vs : List V} (h1 : H p = some (.lst vs)) (h2 : S p = none) (h3 : B p = none) (z : vs.length ≤ sizeLine) (h4 : RepL U S vs ds)
    (hn : ∀ (j : Nat) (es : List D), j ≠ i → ρ[j]? = some (.own es) → σ[j]? ≠ some (some (.ref p))) : Slots U B S H (σ.set i (some (.ref p))) (ρ.set i (.own ds)) := by
  refine ⟨by rw [List.length_set, List.length_set, s.len], fun j e hj => ?_, fun j es hj => ?_, fun j k es fs q hj hk aj ak => ?_⟩
  · rcases setGet hj with ⟨rfl, e1, hl⟩ | ⟨ne, hj⟩
    · cases e1
    · rw [List.getElem?_set_ne ne]
      exact s.sh j e hj
  · rcases setGet hj with ⟨rfl, e1, hl⟩ | ⟨ne, hj⟩
    · cases e1
      exact ⟨p, vs, by rw [List.getElem?_set_self (by rw [s.len]; exact hl)], h1, h2, h3, z, h4⟩
    · rw [List.getElem?_set_ne ne]
      exact s.own j es hj
  · rcases setGet hj with ⟨rfl, e1, hl⟩ | ⟨ne, hj⟩
    · rw [List.getElem?_set_self (by rw [s.len]; exact hl)] at aj
      have eq : V.ref p = V.ref q := Option.some.inj (Option.some.inj aj)
      rcases setGet hk with ⟨rfl, e1, hl'⟩ | ⟨ne', hk⟩
      · rfl
      · rw [List.getElem?_set_ne ne'] at ak
        rw [← eq] at ak
        exact absurd ak (hn k fs (Ne.symm ne') hk)
    · rw [List.getElem?_set_ne ne] at aj
      rcases setGet hk with ⟨rfl, e1, hl'⟩ | ⟨ne', hk⟩
      · rw [List.getElem?_set_self (by rw [s.len]; exact hl')] at ak
        have eq : V.ref p = V.ref q := Option.some.inj (Option.some.inj ak)
        rw [← eq] at aj
        exact absurd aj (hn j es (Ne.symm ne) hj)
      · rw [List.getElem?_set_ne ne'] at ak
        exact s.sep j k es fs q hj hk aj ak
end
end Mb
set_option Elab.async false
set_option linter.all false
set_option maxRecDepth 100000
set_option maxHeartbeats 4000000
namespace Mb
open PySem PySem.Spec PyProof.Rows L2

/-! ### contexts -/
structure Gx where
  U : Wd
  N : List Str
  sc : Scope
  fn : Str → Bool
  k : Nat
structure Gx.is (G : Gx) (X : Cx) : Prop where
  prog : X.prog = G.U.P
  w : X.w = G.U.w
  K : X.K = G.U.K
  mg : X.mg = G.U.mg
  base : X.base = G.U.base
  N : X.N = G.N
  sc : X.env.scope = G.sc
  fn : X.fn = G.fn
  calm : X.calm = true
  room : Room G.k X.A
/-- a comprehension's block -/
abbrev Gx.blk (G : Gx) (scope : Scope) : Gx := { G with sc := relS scope G.sc, fn := fun x => scope.names.lookup x == some .cell }
theorem Gx.is.blk {G : Gx} {X : Cx} (h : G.is X) {scope : Scope} (s : Shared) (H : Hp) (C : Addr) (cl : List (Str × Addr)) (fp : List Addr) : (G.blk scope).is (X.blk s H scope (compEnvC scope cl C X.env) fp) :=
  ⟨h.prog, h.w, h.K, h.mg, h.base, h.N, by show relS scope X.env.scope = _; rw [h.sc], rfl, h.calm, h.room⟩

/-! ### canonical readings -/
def tG (G : Gx) (e : Expr) : TE := fun σ H Q => ∀ X, G.is X → ∀ pins s, Inv X pins σ H s → wpAny (model X.prog X.w) X.A (eval e X.env) (EP X pins σ Q) X.xe s
def tGT (G : Gx) (e : Expr) : TT := fun σ H Q => ∀ X, G.is X → ∀ pins s, Inv X pins σ H s → wpAny (model X.prog X.w) X.A (isTrue e X.env (eval e X.env)) (TP X pins σ Q) X.xe s
def tGA (G : Gx) (es : List Expr) : TA := fun σ H Q => ∀ X, G.is X → ∀ pos pins s, Inv X pins σ H s → wpAny (model X.prog X.w) X.A (spliced (backTo pos (starEach es X.env))) (AP X pins σ Q) X.xe s
def tGI (G : Gx) (tg it : Expr) : TI := fun σ H R => ∀ X, G.is X → ∀ pins s, Inv X pins σ H s → wpAny (model X.prog X.w) X.A (eval it X.env) (fun v s1 => wpAny (model X.prog X.w) X.A (pyIter v) (PIE X pins σ tg R) X.xe s1) X.xe s
def tGTs (G : Gx) (ifs : List Expr) : TT := fun σ H Q => ∀ X, G.is X → ∀ t, PTs X ifs t → ∀ R : Prop, (t σ H Q → R) → R
section
variable {G : Gx} {X : Cx} {e : Expr}
theorem pe_of (h : G.is X) : PE X e (tG G e) := ⟨fun pins s σ H Q I q => q X h pins s I⟩
theorem pt_of (h : G.is X) : PT X e (tGT G e) := ⟨fun pins s σ H Q I q => q X h pins s I⟩
theorem pa_of {es : List Expr} (h : G.is X) : PA X es (tGA G es) := ⟨fun pos pins s σ H Q I q => q X h pos pins s I⟩
theorem pi_of {tg it : Expr} (h : G.is X) : PI X tg it (tGI G tg it) := ⟨fun pins s σ H Q I q => q X h pins s I⟩
end

/-! ### what evaluates to what -/
def EvD (U : Wd) (te : TE) (ρ : List Sl) (r : Rs) : Prop := ∀ (B S H : Hp) (σ : L2.St), Ex S H → Slots U B S H σ ρ → ∀ Q : VK, (∀ v S' H', Go S H S' H' → RepR U H S' H' v r → Q v H') → te σ H Q
def EvT (U : Wd) (tt : TT) (ρ : List Sl) (b : Bool) : Prop := ∀ (B S H : Hp) (σ : L2.St), Ex S H → Slots U B S H σ ρ → ∀ Q : Bool → Hp → Prop, (∀ S' H', Go S H S' H' → Q b H') → tt σ H Q
def EvA (U : Wd) (ta : TA) (ρ : List Sl) (ds : List D) : Prop := ∀ (B S H : Hp) (σ : L2.St), Ex S H → Slots U B S H σ ρ → ∀ Q : List V → Hp → Prop, (∀ vs S' H', Go S H S' H' → RepL U S' vs ds → Q vs H') → ta σ H Q
/-- what is walked: turn by turn these -/
def Wk (U : Wd) (S' H' : Hp) (J : It) (ds : List D) : Prop := ∀ S2 H2, Ex S' S2 → Ex S2 H2 → Ex H' H2 → ∀ i : Nat, (∀ d, ds[i]? = some d → J.go i H2 ∧ ∀ x H3, J.yld i H2 x H3 → H3 = H2 ∧ Rep U S2 x d) ∧ (ds.length ≤ i → J.stop i H2)
def WkF (U : Wd) (S' : Hp) (J : It) (ds : List D) : Prop := ∀ S2 H2, Ex S' S2 → Ex S2 H2 → ∀ i : Nat, (∀ d, ds[i]? = some d → J.go i H2 ∧ ∀ x H3, J.yld i H2 x H3 → H3 = H2 ∧ Rep U S2 x d) ∧ (ds.length ≤ i → J.stop i H2)
theorem WkF.wk {U : Wd} {S' H' : Hp} {J : It} {ds : List D} (h : WkF U S' J ds) : Wk U S' H' J ds := fun S2 H2 a b _ => h S2 H2 a b
def EvI (U : Wd) (wi : TI) (ρ : List Sl) (ds : List D) : Prop := ∀ (B S H : Hp) (σ : L2.St), Ex S H → Slots U B S H σ ρ → ∀ R : It → Hp → Prop, (∀ J S' H', Go S H S' H' → Wk U S' H' J ds → ds.length ≤ sizeLine → R J H') → wi σ H R
def EvF (U : Wd) (wi : TI) (ρ : List Sl) (ds : List D) : Prop := ∀ (B S H : Hp) (σ : L2.St), Ex S H → Slots U B S H σ ρ → ∀ R : It → Hp → Prop, (∀ J S' H', Go S H S' H' → WkF U S' J ds → R J H') → wi σ H R
theorem EvF.evI {U : Wd} {wi : TI} {ρ : List Sl} {ds : List D} (h : EvF U wi ρ ds) (hz : ds.length ≤ sizeLine) : EvI U wi ρ ds := fun B S H σ e s R q => h B S H σ e s R fun J S' H' g w => q J S' H' g w.wk hz

structure ED (G : Gx) (e : Expr) (ρ : List Sl) (r : Rs) : Prop where
  run : EvD G.U (tG G e) ρ r
structure TD (G : Gx) (e : Expr) (ρ : List Sl) (b : Bool) : Prop where
  run : EvT G.U (tGT G e) ρ b
structure AD (G : Gx) (es : List Expr) (ρ : List Sl) (ds : List D) : Prop where
  run : EvA G.U (tGA G es) ρ ds
structure IC (G : Gx) (tg it : Expr) (ρ : List Sl) (ds : List D) : Prop where
  run : EvI G.U (tGI G tg it) ρ ds
structure IF (G : Gx) (tg it : Expr) (ρ : List Sl) (ds : List D) : Prop where
  run : EvF G.U (tGI G tg it) ρ ds
instance {G : Gx} {e : Expr} {ρ : List Sl} {r : Rs} : CoeFun (ED G e ρ r) fun _ => EvD G.U (tG G e) ρ r := ⟨fun h => h.run⟩
instance {G : Gx} {e : Expr} {ρ : List Sl} {r : Bool} : CoeFun (TD G e ρ r) fun _ => EvT G.U (tGT G e) ρ r := ⟨fun h => h.run⟩
instance {G : Gx} {e : List Expr} {ρ : List Sl} {r : List D} : CoeFun (AD G e ρ r) fun _ => EvA G.U (tGA G e) ρ r := ⟨fun h => h.run⟩
instance {G : Gx} {e t : Expr} {ρ : List Sl} {r : List D} : CoeFun (IC G t e ρ r) fun _ => EvI G.U (tGI G t e) ρ r := ⟨fun h => h.run⟩
instance {G : Gx} {e t : Expr} {ρ : List Sl} {r : List D} : CoeFun (IF G t e ρ r) fun _ => EvF G.U (tGI G t e) ρ r := ⟨fun h => h.run⟩
section
variable {G : Gx} {e : Expr} {ρ : List Sl} {r : Rs}
theorem ED.of {te : TE} (h : ∀ X, G.is X → PE X e te) (ev : EvD G.U te ρ r) : ED G e ρ r := ⟨fun B S H σ x sl Q q X hX pins s I => (h X hX).run pins s σ H Q I (ev B S H σ x sl Q q)⟩
theorem TD.of {te : TT} {b : Bool} (h : ∀ X, G.is X → PT X e te) (ev : EvT G.U te ρ b) : TD G e ρ b := ⟨fun B S H σ x sl Q q X hX pins s I => (h X hX).run pins s σ H Q I (ev B S H σ x sl Q q)⟩
theorem AD.of {ta : TA} {es : List Expr} {ds : List D} (h : ∀ X, G.is X → PA X es ta) (ev : EvA G.U ta ρ ds) : AD G es ρ ds := ⟨fun B S H σ x sl Q q X hX pos pins s I => (h X hX).run pos pins s σ H Q I (ev B S H σ x sl Q q)⟩
theorem IC.of {wi : TI} {tg it : Expr} {ds : List D} (h : ∀ X, G.is X → PI X tg it wi) (ev : EvI G.U wi ρ ds) : IC G tg it ρ ds := ⟨fun B S H σ x sl Q q X hX pins s I => (h X hX).run pins s σ H Q I (ev B S H σ x sl Q q)⟩
theorem IF.of {wi : TI} {tg it : Expr} {ds : List D} (h : ∀ X, G.is X → PI X tg it wi) (ev : EvF G.U wi ρ ds) : IF G tg it ρ ds := ⟨fun B S H σ x sl Q q X hX pins s I => (h X hX).run pins s σ H Q I (ev B S H σ x sl Q q)⟩
theorem ED.cast {r' : Rs} (h : ED G e ρ r) (q : r = r') : ED G e ρ r' := q ▸ h
theorem TD.cast {b b' : Bool} (h : TD G e ρ b) (q : b = b') : TD G e ρ b' := q ▸ h
/-- a new list, counted among what stands -/
theorem ED.shr {ds : List D} (h : ED G e ρ (.fr ds)) : ED G e ρ (.sh (.lst ds)) := ⟨fun B S H σ x sl Q q => h B S H σ x sl Q fun v S' H' g ⟨p, vs, e1, h1, h2, h3, z, h4⟩ => by
  subst e1
  exact q _ (upd S' p (.lst vs)) H' (g.add h1 h2 h3) (.lst upd_same z (h4.mono (Ex.new h2)))⟩
end

/-! ### values: rules for two operands -/
def R2D (U : Wd) (r : R2) (x y z : Rs) : Prop := ∀ (S H : Hp) (v w : V), Ex S H → RepV U S H v x → RepV U S H w y → ∀ Q : VK, (∀ u S' H', Go S H S' H' → RepR U H S' H' u z → Q u H') → r v w H Q
section
variable {U : Wd} {ρ : List Sl} {ta tb : TE} {x y z : Rs} {r : R2}
theorem ev_op (ha : EvD U ta ρ x) (hb : EvD U tb ρ y) (hr : R2D U r x y z) : EvD U (tOp r ta tb) ρ z := fun B S H σ e sl Q q =>
  ha B S H σ e sl _ fun v S1 H1 g1 r1 => hb B S1 H1 σ g1.sh (sl.go g1) _ fun w S2 H2 g2 r2 =>
    hr S2 H2 v w g2.sh (r1.toV.mono g2.ss g2.bh) r2.toV Q fun u S3 H3 g3 r3 => q u S3 H3 ((g1.trans g2).trans g3) (r3.base (g1.bh.trans g2.bh))
theorem r2_val {d : D} (h : ∀ S H v w, Ex S H → RepV U S H v x → RepV U S H w y → ∀ Q : VK, (∀ u, Rep U S u d → Q u H) → r v w H Q) : R2D U r x y (.sh d) := fun S H v w e rv rw Q q => h S H v w e rv rw Q fun u ru => q u S H (Go.refl e) ru
theorem r2_I0 {f : Int → Int → Int} {i j : Int} : R2D U (rI0 fun i j => .int (f i j)) (.sh (.int i)) (.sh (.int j)) (.sh (.int (f i j))) := r2_val fun S H v w e rv rw Q q => by
  cases rv
  cases rw
  exact ⟨i, j, rfl, rfl, q _ (.int _)⟩
theorem r2_B0 {f : Int → Int → Bool} {i j : Int} : R2D U (rI0 fun i j => .bl (f i j)) (.sh (.int i)) (.sh (.int j)) (.sh (.bl (f i j))) := r2_val fun S H v w e rv rw Q q => by
  cases rv
  cases rw
  exact ⟨i, j, rfl, rfl, q _ (.bl _)⟩
theorem r2_I {C : Int → Int → Prop} {f : Int → Int → Int} {i j : Int} (hc : C i j) : R2D U (rI C fun i j => .int (f i j)) (.sh (.int i)) (.sh (.int j)) (.sh (.int (f i j))) := r2_val fun S H v w e rv rw Q q => by
  cases rv
  cases rw
  exact ⟨i, j, rfl, rfl, hc, q _ (.int _)⟩
theorem r2_cat {ds es : List D} (hx : x.ls = some ds) (hy : y.ls = some es) (hz : ds.length + es.length ≤ sizeLine) : R2D U rCat x y (.fr (ds ++ es)) := fun S H v w e rv rw Q q => by
  obtain ⟨p, vs, rfl, h1, z1, l1⟩ := rv.list hx e
  obtain ⟨p2, ws, rfl, h2, z2, l2⟩ := rw.list hy e
  have hl : vs.length + ws.length ≤ sizeLine := by rw [l1.length, l2.length]; exact hz
  refine ⟨p, p2, vs, ws, rfl, rfl, h1, h2, hl, fun a na => ?_⟩
  have ns : S a = none := e.back na
  exact q (.ref a) S _ ⟨Ex.refl S, e.trans (Ex.new na), Ex.new na, fun _ z => .inl z⟩ ⟨a, vs ++ ws, rfl, upd_same, ns, na, by rw [List.length_append]; exact hl, l1.append l2⟩
theorem atI_len {α β : Type} {xs : List α} {ys : List β} {i : Int} {y : β} (hl : xs.length = ys.length) (h : atI ys i = some y) : ∃ (j : Nat) (x : α), ys[j]? = some y ∧ xs[j]? = some x ∧ atI xs i = some x := by
  unfold atI at *
  rw [hl]
  cases e : ixN ys.length i with
  | none =>
    rw [e] at h
    cases h
  | some j =>
    rw [e] at h
    have h : ys[j]? = some y := h
    obtain ⟨hj, _⟩ := List.getElem?_eq_some_iff.mp h
    exact ⟨j, xs[j]'(by omega), h, List.getElem?_eq_getElem _, List.getElem?_eq_getElem _⟩
theorem r2_ixL {ds : List D} {i : Int} {d : D} (hx : x.ls = some ds) (ha : atI ds i = some d) : R2D U (rIxL U.K) x (.sh (.int i)) (.sh d) := r2_val fun S H v w e rv rw Q q => by
  obtain ⟨p, vs, rfl, h1, z1, l1⟩ := rv.list hx e
  cases rw
  obtain ⟨j, u, h2, h3, h4⟩ := atI_len l1.length ha
  obtain ⟨u', h5, h6⟩ := l1.get h2
  rw [h3] at h5
  cases h5
  exact ⟨p, vs, i, u, rfl, rfl, .of h1, h4, q _ h6⟩
theorem r2_ixT {ds : List D} {i : Int} {d : D} (ha : atI ds i = some d) : R2D U (rIxT U.K) (.sh (.tup ds)) (.sh (.int i)) (.sh d) := r2_val fun S H v w e rv rw Q q => by
  cases rv with
  | tup h1 z1 l1 =>
    cases rw
    obtain ⟨j, u, h2, h3, h4⟩ := atI_len l1.length ha
    obtain ⟨u', h5, h6⟩ := l1.get h2
    rw [h3] at h5
    cases h5
    exact ⟨_, _, i, u, rfl, rfl, .of (e _ _ h1), h4, q _ h6⟩
/-- of the script -/
theorem r2_ixS {ns : List Int} {i n : Int} (ha : atI ns i = some n) : R2D U (rIxL U.K) (.sh (.scr ns)) (.sh (.int i)) (.sh (.int n)) := r2_val fun S H v w e rv rw Q q => by
  cases rv with
  | scr h1 =>
    cases rw
    obtain ⟨j, u, h2, h3, h4⟩ := atI_len (xs := ns.map V.int) (by rw [List.length_map]) ha
    rw [List.getElem?_map, h2] at h3
    obtain rfl := Option.some.inj (show some (V.int n) = some u from h3)
    exact ⟨_, _, i, _, rfl, rfl, e.sql h1, h4, q _ (.int _)⟩
end

/-! ### equality of data -/
mutual
def D.py : D → PyData
  | .non => .none
  | .bl b => .bool b
  | .int i => .int i
  | .lst xs => .list (D.pyL xs)
  | .tup xs => .tuple (D.pyL xs)
  | _ => .none
def D.pyL : List D → List PyData
  | [] => []
  | d :: ds => d.py :: D.pyL ds
end
/-- plain data, nested at most n deep -/
inductive Dn : Nat → D → Prop
  | non (n : Nat) : Dn n .non
  | bl (n : Nat) (b : Bool) : Dn n (.bl b)
  | int (n : Nat) (i : Int) : Dn n (.int i)
  | lst (n : Nat) {ds : List D} (h : ∀ d ∈ ds, Dn n d) : Dn (n + 1) (.lst ds)
  | tup (n : Nat) {ds : List D} (h : ∀ d ∈ ds, Dn n d) : Dn (n + 1) (.tup ds)
theorem pyL_shaped {n : Nat} : ∀ {ds : List D}, (∀ d ∈ ds, d.py.canLay0 = true ∧ d.py.depth ≤ n) → PyData.canLayAll0 (D.pyL ds) = true ∧ PyData.depthAll (D.pyL ds) ≤ n
  | [], _ => by
    rw [D.pyL]
    exact ⟨by rw [PyData.canLayAll0], by rw [PyData.depthAll]; exact Nat.zero_le _⟩
  | d :: ds, h => by
    obtain ⟨a1, a2⟩ := h d List.mem_cons_self
    obtain ⟨b1, b2⟩ := pyL_shaped (n := n) fun x hx => h x (List.mem_cons_of_mem _ hx)
    rw [D.pyL]
    refine ⟨by rw [PyData.canLayAll0, a1, b1]; rfl, by rw [PyData.depthAll]; exact Nat.max_le.mpr ⟨a2, b2⟩⟩
theorem Dn.lay {n : Nat} {d : D} (h : Dn n d) : d.py.canLay0 = true ∧ d.py.depth ≤ n := by
  induction h with
  | non n => exact ⟨by rw [D.py, PyData.canLay0], by rw [D.py, PyData.depth]; exact Nat.zero_le _⟩
  | bl n b => exact ⟨by rw [D.py, PyData.canLay0], by rw [D.py, PyData.depth]; exact Nat.zero_le _⟩
  | int n i => exact ⟨by rw [D.py, PyData.canLay0], by rw [D.py, PyData.depth]; exact Nat.zero_le _⟩
  | lst n h ih =>
    obtain ⟨a, b⟩ := pyL_shaped (n := n) ih
    exact ⟨by rw [D.py, PyData.canLay0]; exact a, by rw [D.py, PyData.depth]; exact Nat.succ_le_succ b⟩
  | tup n h ih =>
    obtain ⟨a, b⟩ := pyL_shaped (n := n) ih
    exact ⟨by rw [D.py, PyData.canLay0]; exact a, by rw [D.py, PyData.depth]; exact Nat.succ_le_succ b⟩
theorem Dn.shaped {n : Nat} {d : D} (h : Dn n d) (hn : n ≤ 64) : SeqAt.shaped d.py = true := by
  obtain ⟨a, b⟩ := h.lay
  exact Bool.and_eq_true_iff.mpr ⟨a, decide_eq_true (Nat.le_trans b hn)⟩
theorem Dn.up {n m : Nat} {d : D} (h : Dn n d) (hm : n ≤ m) : Dn m d := by
  induction h generalizing m with
  | non n => exact .non m
  | bl n b => exact .bl m b
  | int n i => exact .int m i
  | lst n h ih =>
    obtain ⟨k, rfl⟩ : ∃ k, m = k + 1 := ⟨m - 1, by omega⟩
    exact .lst k fun d hd => ih d hd (by omega)
  | tup n h ih =>
    obtain ⟨k, rfl⟩ : ∃ k, m = k + 1 := ⟨m - 1, by omega⟩
    exact .tup k fun d hd => ih d hd (by omega)
section
variable {U : Wd} {S H : Hp}
theorem RepL.dpL {ds : List D} (ih : ∀ d ∈ ds, ∀ v, Rep U S v d → Dp U.K H v d.py) : ∀ {vs : List V}, RepL U S vs ds → DpAll U.K H vs (D.pyL ds) := by
  induction ds with
  | nil =>
    intro vs h
    cases h
    rw [D.pyL]
    exact .nil
  | cons d ds ihd =>
    intro vs h
    cases h with
    | cons a b =>
      rw [D.pyL]
      exact .cons (ih d List.mem_cons_self _ a) (ihd (fun x hx => ih x (List.mem_cons_of_mem _ hx)) b)
theorem Rep.dp (e : Ex S H) {n : Nat} {d : D} (hn : Dn n d) : ∀ {v : V}, Rep U S v d → Dp U.K H v d.py := by
  induction hn with
  | non n => intro v h; cases h; rw [D.py]; exact .non
  | bl n b => intro v h; cases h; rw [D.py]; exact .bl b
  | int n i => intro v h; cases h; rw [D.py]; exact .int i
  | lst n hd ih =>
    intro v h
    cases h with
    | lst h1 z r =>
      rw [D.py]
      exact .lst (.of (e _ _ h1)) (r.dpL fun d m v hv => ih d m hv)
  | tup n hd ih =>
    intro v h
    cases h with
    | tup h1 z r =>
      rw [D.py]
      exact .tup (.of (e _ _ h1)) (r.dpL fun d m v hv => ih d m hv)
/-- the value a result is -/
def Rs.d : Rs → D
  | .sh d => d
  | .fr ds => .lst ds
  | .ow ds => .lst ds
theorem RepV.dp {n : Nat} {r : Rs} {v : V} (e : Ex S H) (hn : Dn n r.d) (h : RepV U S H v r) : Dp U.K H v r.d.py := by
  cases r with
  | sh d => exact Rep.dp e hn h
  | fr ds =>
    obtain ⟨p, vs, rfl, h1, z, h4⟩ := h
    cases hn with
    | lst n hd =>
      show Dp U.K H _ (D.lst ds).py
      rw [D.py]
      exact .lst (.of h1) (h4.dpL fun d m v hv => Rep.dp e (hd d m) hv)
  | ow ds =>
    obtain ⟨p, vs, rfl, h1, z, h4⟩ := h
    cases hn with
    | lst n hd =>
      show Dp U.K H _ (D.lst ds).py
      rw [D.py]
      exact .lst (.of h1) (h4.dpL fun d m v hv => Rep.dp e (hd d m) hv)
end
def deq (d e : D) : Bool := PyData.eqv d.py e.py
theorem pyL_any (d : D) : ∀ ds : List D, ((D.pyL ds).any fun z => PyData.eqv z d.py) = ds.any fun z => deq z d
  | [] => by rw [D.pyL] <;> rfl
  | x :: xs => by
    rw [D.pyL, List.any_cons, List.any_cons, pyL_any d xs]
    rfl
theorem deq_int (i j : Int) : deq (.int i) (.int j) = decide (i = j) := by
  unfold deq
  rw [D.py, D.py, PyData.eqv]
  exact Bool.beq_eq_decide_eq i j
theorem deq_bl (i j : Bool) : deq (.bl i) (.bl j) = decide (i = j) := by
  unfold deq
  rw [D.py, D.py, PyData.eqv]
  exact Bool.beq_eq_decide_eq i j
/-- a way to write things as data that == tells apart -/
def Enc {α : Type} [DecidableEq α] (f : α → D) : Prop := ∀ x y, deq (f x) (f y) = decide (x = y)
theorem Enc.int : Enc D.int := deq_int
theorem eqvAll_cons (a b : PyData) (as bs : List PyData) : PyData.eqvAll (a :: as) (b :: bs) = (PyData.eqv a b && PyData.eqvAll as bs) := by rw [PyData.eqvAll]
theorem Enc.all {α : Type} [DecidableEq α] {f : α → D} (h : Enc f) : ∀ xs ys : List α, PyData.eqvAll (D.pyL (xs.map f)) (D.pyL (ys.map f)) = decide (xs = ys)
  | [], [] => by simp [D.pyL, PyData.eqvAll]
  | [], y :: ys => by simp [D.pyL, PyData.eqvAll]
  | x :: xs, [] => by simp [D.pyL, PyData.eqvAll]
  | x :: xs, y :: ys => by
    have a := h x y
    have b := Enc.all h xs ys
    unfold deq at a
    rw [List.map_cons, List.map_cons, D.pyL, D.pyL, eqvAll_cons, a, b]
    by_cases e : x = y <;> by_cases e2 : xs = ys <;> simp [e, e2]
theorem Enc.lst {α : Type} [DecidableEq α] {f : α → D} (h : Enc f) : Enc fun xs : List α => D.lst (xs.map f) := fun xs ys => by
  unfold deq
  rw [D.py, D.py, PyData.eqv]
  exact h.all xs ys
theorem Enc.ints : Enc D.ints := Enc.lst Enc.int
theorem Enc.pair {α β : Type} [DecidableEq α] [DecidableEq β] {f : α → D} {g : β → D} (h : Enc f) (k : Enc g) : Enc fun p : α × β => D.tup [f p.1, g p.2] := fun x y => by
  obtain ⟨x1, x2⟩ := x
  obtain ⟨y1, y2⟩ := y
  have a := h x1 y1
  have b := k x2 y2
  unfold deq at *
  show PyData.eqv (D.tup [f x1, g x2]).py (D.tup [f y1, g y2]).py = _
  rw [D.py, D.py, PyData.eqv]
  simp only [D.pyL, PyData.eqvAll, a, b, Bool.and_true]
  by_cases e : x1 = y1 <;> by_cases e2 : x2 = y2 <;> simp [e, e2]
theorem Enc.any {α : Type} [DecidableEq α] {f : α → D} (h : Enc f) (x : α) : ∀ xs : List α, ((xs.map f).any fun z => deq z (f x)) = decide (x ∈ xs)
  | [] => by simp
  | y :: ys => by
    rw [List.map_cons, List.any_cons, h y x, Enc.any h x ys]
    by_cases e : y = x
    · subst e
      simp
    · by_cases e2 : x ∈ ys <;> simp [e, e2, Ne.symm e]
section
variable {U : Wd} {x y : Rs} {n m : Nat}
theorem r2_eq (h1 : Dn 60 x.d) (h2 : Dn 60 y.d) : R2D U (rEqD U.K) x y (.sh (.bl (deq x.d y.d))) := r2_val fun S H v w e rv rw Q q =>
  ⟨_, _, rv.dp e h1, rw.dp e h2, h1.shaped (by decide), h2.shaped (by decide), q _ (.bl _)⟩
theorem r2_ne (h1 : Dn 60 x.d) (h2 : Dn 60 y.d) : R2D U (rNeD U.K) x y (.sh (.bl (!deq x.d y.d))) := r2_val fun S H v w e rv rw Q q =>
  ⟨_, _, rv.dp e h1, rw.dp e h2, h1.shaped (by decide), h2.shaped (by decide), q _ (.bl _)⟩
theorem lstDn {ds : List D} (h2 : ∀ d ∈ ds, Dn 58 d) : Dn 60 (.lst ds) := Dn.up (Dn.lst 58 h2) (by decide)
theorem Rs.ls_d {ds : List D} (hy : y.ls = some ds) : y.d = .lst ds := by
  cases y with
  | sh d =>
    cases d <;> first | (simp [Rs.ls] at hy; done) | skip
    obtain rfl := Option.some.inj (show some _ = some ds from hy)
    rfl
  | fr es =>
    obtain rfl := Option.some.inj (show some es = some ds from hy)
    rfl
  | ow es =>
    obtain rfl := Option.some.inj (show some es = some ds from hy)
    rfl
theorem r2_in {ds : List D} (hy : y.ls = some ds) (h1 : Dn 60 x.d) (h2 : ∀ d ∈ ds, Dn 58 d) : R2D U (rInD U.K) x y (.sh (.bl (ds.any fun z => deq z x.d))) := r2_val fun S H v w e rv rw Q q => by
  have dy := Rs.ls_d hy
  have a : Dn 60 y.d := by rw [dy]; exact lstDn h2
  have b := rw.dp e a
  have c := a.shaped (by decide)
  rw [dy, D.py] at b c
  refine ⟨_, _, rv.dp e h1, b, h1.shaped (by decide), c, ?_⟩
  rw [pyL_any]
  exact q _ (.bl _)
theorem r2_nin {ds : List D} (hy : y.ls = some ds) (h1 : Dn 60 x.d) (h2 : ∀ d ∈ ds, Dn 58 d) : R2D U (rNotInD U.K) x y (.sh (.bl (!ds.any fun z => deq z x.d))) := r2_val fun S H v w e rv rw Q q => by
  have dy := Rs.ls_d hy
  have a : Dn 60 y.d := by rw [dy]; exact lstDn h2
  have b := rw.dp e a
  have c := a.shaped (by decide)
  rw [dy, D.py] at b c
  refine ⟨_, _, rv.dp e h1, b, h1.shaped (by decide), c, ?_⟩
  rw [pyL_any]
  exact q _ (.bl _)
end
end Mb
set_option Elab.async false
set_option linter.all false
set_option maxRecDepth 100000
set_option maxHeartbeats 4000000
namespace Mb
open PySem PySem.Spec PyProof.Rows L2

/-! ### expressions -/
def visB (sc : Scope) (x : Str) : Bool := match sc.names.lookup x with
  | some .local => true
  | some .cell => true
  | some .free => true
  | _ => false
theorem vis_of {sc : Scope} {x : Str} (h : visB sc x = true) : Vis sc x := by
  unfold visB at h
  split at h
  · exact .inl ‹_›
  · exact .inr (.inl ‹_›)
  · exact .inr (.inr ‹_›)
  · cases h
def okName (x : Str) : Bool := !(x == ("__debug__" : Str)) && !(x == ("__classdict__" : Str))
theorem ixAt {N : List Str} {x : Str} (h : N.idxOf x < N.length) : N[N.idxOf x]? = some x := by
  rw [List.getElem?_eq_getElem h, List.getElem_idxOf h]
section
variable {G : Gx} {ρ : List Sl} {a b c e : Expr} {pos : Pos} {x y z : Rs}
theorem ed_name {n : Str} {r : Rs} (hv : visB G.sc n = true) (hd : okName n = true)
    (h : ∀ (B S H : Hp) (σ : L2.St), Ex S H → Slots G.U B S H σ ρ → ∃ v, σ[G.N.idxOf n]? = some (some v) ∧ RepR G.U H S H v r) : ED G (.Name n pos) ρ r := ⟨fun B S H σ ex sl Q q X hX pins s I => by
  obtain ⟨v, e1, e2⟩ := h B S H σ ex sl
  have hl : G.N.idxOf n < G.N.length := by
    have h1 := I.len
    rw [hX.N] at h1
    have h2 := (List.getElem?_eq_some_iff.mp e1).1
    omega
  have hN : X.N[G.N.idxOf n]? = some n := by rw [hX.N]; exact ixAt hl
  have hv' : Vis X.env.scope n := by rw [hX.sc]; exact vis_of hv
  unfold okName at hd
  rw [Bool.and_eq_true, Bool.not_eq_true', Bool.not_eq_true'] at hd
  exact (pe_var hN hv' hd.1 hd.2).run pins s σ H Q I ⟨v, e1, q v S H (Go.refl ex) e2⟩⟩
theorem ed_var {n : Str} {d : D} (h : ρ[G.N.idxOf n]? = some (.sh d)) (hv : visB G.sc n = true) (hd : okName n = true := by rfl) : ED G (.Name n pos) ρ (.sh d) := ed_name hv hd fun B S H σ ex sl => sl.sh _ _ h
theorem ed_own {n : Str} {ds : List D} (h : ρ[G.N.idxOf n]? = some (.own ds)) (hv : visB G.sc n = true) (hd : okName n = true := by rfl) : ED G (.Name n pos) ρ (.ow ds) := ed_name hv hd fun B S H σ ex sl => by
  obtain ⟨p, vs, h1, h2, _, _, z, h5⟩ := sl.own _ _ h
  exact ⟨_, h1, p, vs, rfl, h2, z, h5⟩
theorem ed_c {v : V} {d : D} {te : TE} (h : ∀ X, G.is X → PE X e (tC v)) (r : ∀ S, Rep G.U S v d) : ED G e ρ (.sh d) := .of h fun B S H σ ex sl Q q => q v S H (Go.refl ex) (r S)
theorem ed_int {i : Int} {j} : ED G (.Constant (.int i) j pos) ρ (.sh (.int i)) := ed_c (te := tC (.int i)) (fun _ _ => pe_int) fun _ => .int i
theorem ed_bl {i : Bool} {j} : ED G (.Constant (.bool i) j pos) ρ (.sh (.bl i)) := ed_c (te := tC (.bl i)) (fun _ _ => pe_bl) fun _ => .bl i
theorem ed_non {j} : ED G (.Constant .none j pos) ρ (.sh .non) := ed_c (te := tC .non) (fun _ _ => pe_non) fun _ => .non
theorem ed_str {i : Str} {j} : ED G (.Constant (.str i) j pos) ρ (.sh (.str i)) := ed_c (te := tC (.str i)) (fun _ _ => pe_str) fun _ => .str i
/-- a name of the module -/
theorem ed_glob {n : Str} {v : V} {u : Value} {d : D} (hg : G.sc.names.lookup n = some .globalImplicit) (hm : G.U.mg n = some u) (r : RelV v u) (hr : ∀ S, Rep G.U S v d) (hd : (n == ("__debug__" : Str)) = false := by rfl) : ED G (.Name n pos) ρ (.sh d) :=
  ed_c (te := tC v) (fun X hX => pe_glob (by show X.env.scope.names.lookup n = _; rw [hX.sc]; exact hg) (by rw [hX.mg]; exact hm) r hd) hr
theorem ed_bltn {n : Str} {v : V} {u : Value} {d : D} (hg : G.sc.names.lookup n = some .globalImplicit) (hm : G.U.mg n = none) (hb : bootBuiltins n = some u) (r : RelV v u) (hr : ∀ S, Rep G.U S v d) (hn : n ≠ "__name__" := by decide) (hd : (n == ("__debug__" : Str)) = false := by rfl) : ED G (.Name n pos) ρ (.sh d) :=
  ed_c (te := tC v) (fun X hX => pe_bltn (by show X.env.scope.names.lookup n = _; rw [hX.sc]; exact hg) (by rw [hX.mg]; exact hm) hb r hn hd) hr

theorem ed_bin {op : Operator} {r : R2} (ho : ∀ X, G.is X → OpR X (binaryOp op) r) (ha : ED G a ρ x) (hb : ED G b ρ y) (hr : R2D G.U r x y z) : ED G (.BinOp a op b pos) ρ z :=
  .of (fun X h => pe_op (ho X h) (pe_of h) (pe_of h)) (ev_op ha.run hb.run hr)
variable {i j : Int}
theorem ed_add (ha : ED G a ρ (.sh (.int i))) (hb : ED G b ρ (.sh (.int j))) : ED G (.BinOp a .Add b pos) ρ (.sh (.int (i + j))) := ed_bin (fun _ _ => op_add) ha hb r2_I0
theorem ed_sub (ha : ED G a ρ (.sh (.int i))) (hb : ED G b ρ (.sh (.int j))) : ED G (.BinOp a .Sub b pos) ρ (.sh (.int (i - j))) := ed_bin (fun _ _ => op_sub) ha hb r2_I0
theorem ed_mul (ha : ED G a ρ (.sh (.int i))) (hb : ED G b ρ (.sh (.int j))) (hc : CMul i j) : ED G (.BinOp a .Mult b pos) ρ (.sh (.int (i * j))) := ed_bin (fun _ _ => op_mul) ha hb (r2_I hc)
theorem ed_fdiv (ha : ED G a ρ (.sh (.int i))) (hb : ED G b ρ (.sh (.int j))) (hc : CDivN i j) : ED G (.BinOp a .FloorDiv b pos) ρ (.sh (.int (i.fdiv j))) := ed_bin (fun _ _ => op_fdivN) ha hb (r2_I hc)
theorem ed_mod (ha : ED G a ρ (.sh (.int i))) (hb : ED G b ρ (.sh (.int j))) (hc : j ≠ 0) : ED G (.BinOp a .Mod b pos) ρ (.sh (.int (i.fmod j))) := ed_bin (fun _ _ => op_modN) ha hb (r2_I hc)
theorem ed_pow (ha : ED G a ρ (.sh (.int i))) (hb : ED G b ρ (.sh (.int j))) (hc : CPow i j) : ED G (.BinOp a .Pow b pos) ρ (.sh (.int (i ^ j.toNat))) := ed_bin (fun _ _ => op_pow) ha hb (r2_I hc)
theorem ed_cat {ds es : List D} (ha : ED G a ρ x) (hb : ED G b ρ y) (hx : x.ls = some ds) (hy : y.ls = some es) (hz : ds.length + es.length ≤ sizeLine) : ED G (.BinOp a .Add b pos) ρ (.fr (ds ++ es)) := ed_bin (fun _ _ => op_cat) ha hb (r2_cat hx hy hz)
theorem ed_neg (ha : ED G a ρ (.sh (.int i))) : ED G (.UnaryOp .USub a pos) ρ (.sh (.int (-i))) := .of (fun X h => pe_un un_neg (pe_of h)) fun B S H σ ex sl Q q => ha B S H σ ex sl _ fun v S1 H1 g1 r1 => by
  cases r1
  exact ⟨i, rfl, q _ S1 H1 g1 (.int _)⟩
/-! comparisons, as values and as tests -/
theorem cmpB {op : CmpOp} {r : R2} {b' : Bool} (ho : ∀ X, G.is X → OpR X (compareOp op) r) (ha : ED G a ρ x) (hb : ED G b ρ y) (hr : R2D G.U r x y (.sh (.bl b'))) (hm : behindInMarks op b = false) :
    ED G (.Compare a [op] [b] pos) ρ (.sh (.bl b')) ∧ TD G (.Compare a [op] [b] pos) ρ b' := by
  refine ⟨.of (fun X h => pe_cmpR (ho X h) (pe_of h) (pe_of h) hm) (ev_op ha.run hb.run hr), .of (fun X h => pt_cmpR (ho X h) (pe_of h) (pe_of h) hm) fun B S H σ ex sl Q q => ev_op ha.run hb.run hr B S H σ ex sl _ fun v S1 H1 g1 r1 => ?_⟩
  cases r1
  exact ⟨b', rfl, q S1 H1 g1⟩
theorem cp_lt (ha : ED G a ρ (.sh (.int i))) (hb : ED G b ρ (.sh (.int j))) : ED G (.Compare a [.Lt] [b] pos) ρ (.sh (.bl (decide (i < j)))) ∧ TD G (.Compare a [.Lt] [b] pos) ρ (decide (i < j)) := cmpB (fun _ _ => op_lt) ha hb (r2_B0 (f := fun i j => decide (i < j))) (nomark _)
theorem cp_le (ha : ED G a ρ (.sh (.int i))) (hb : ED G b ρ (.sh (.int j))) : ED G (.Compare a [.LtE] [b] pos) ρ (.sh (.bl (decide (i ≤ j)))) ∧ TD G (.Compare a [.LtE] [b] pos) ρ (decide (i ≤ j)) := cmpB (fun _ _ => op_le) ha hb (r2_B0 (f := fun i j => decide (i ≤ j))) (nomark _)
theorem cp_gt (ha : ED G a ρ (.sh (.int i))) (hb : ED G b ρ (.sh (.int j))) : ED G (.Compare a [.Gt] [b] pos) ρ (.sh (.bl (decide (j < i)))) ∧ TD G (.Compare a [.Gt] [b] pos) ρ (decide (j < i)) := cmpB (fun _ _ => op_gt) ha hb (r2_B0 (f := fun i j => decide (j < i))) (nomark _)
theorem cp_ge (ha : ED G a ρ (.sh (.int i))) (hb : ED G b ρ (.sh (.int j))) : ED G (.Compare a [.GtE] [b] pos) ρ (.sh (.bl (decide (j ≤ i)))) ∧ TD G (.Compare a [.GtE] [b] pos) ρ (decide (j ≤ i)) := cmpB (fun _ _ => op_ge) ha hb (r2_B0 (f := fun i j => decide (j ≤ i))) (nomark _)
theorem cp_eq (ha : ED G a ρ x) (hb : ED G b ρ y) (h1 : Dn 60 x.d) (h2 : Dn 60 y.d) : ED G (.Compare a [.Eq] [b] pos) ρ (.sh (.bl (deq x.d y.d))) ∧ TD G (.Compare a [.Eq] [b] pos) ρ (deq x.d y.d) :=
  cmpB (r := rEqD G.U.K) (fun X h => by rw [← h.K]; exact op_eqD h.room.units) ha hb (r2_eq h1 h2) (nomark _)
theorem cp_ne (ha : ED G a ρ x) (hb : ED G b ρ y) (h1 : Dn 60 x.d) (h2 : Dn 60 y.d) : ED G (.Compare a [.NotEq] [b] pos) ρ (.sh (.bl (!deq x.d y.d))) ∧ TD G (.Compare a [.NotEq] [b] pos) ρ (!deq x.d y.d) :=
  cmpB (r := rNeD G.U.K) (fun X h => by rw [← h.K]; exact op_neD h.room.units) ha hb (r2_ne h1 h2) (nomark _)
theorem room65 {k : Nat} {A : Around} (r : Room k A) : A.units + 65 < cLine := by have := r.un; omega
theorem cp_in {ds : List D} (ha : ED G a ρ x) (hb : ED G b ρ y) (hy : y.ls = some ds) (h1 : Dn 60 x.d) (h2 : ∀ d ∈ ds, Dn 58 d) (hm : behindInMarks .In b = false) :
    ED G (.Compare a [.In] [b] pos) ρ (.sh (.bl (ds.any fun z => deq z x.d))) ∧ TD G (.Compare a [.In] [b] pos) ρ (ds.any fun z => deq z x.d) :=
  cmpB (r := rInD G.U.K) (fun X h => by rw [← h.K]; exact op_inD (room65 h.room)) ha hb (r2_in hy h1 h2) hm
theorem cp_nin {ds : List D} (ha : ED G a ρ x) (hb : ED G b ρ y) (hy : y.ls = some ds) (h1 : Dn 60 x.d) (h2 : ∀ d ∈ ds, Dn 58 d) (hm : behindInMarks .NotIn b = false) :
    ED G (.Compare a [.NotIn] [b] pos) ρ (.sh (.bl (!ds.any fun z => deq z x.d))) ∧ TD G (.Compare a [.NotIn] [b] pos) ρ (!ds.any fun z => deq z x.d) :=
  cmpB (r := rNotInD G.U.K) (fun X h => by rw [← h.K]; exact op_notInD (room65 h.room)) ha hb (r2_nin hy h1 h2) hm
def D.isN : D → Bool
  | .non => true
  | _ => false
def Rs.isN : Rs → Bool
  | .sh d => d.isN
  | _ => false
theorem RepV.isN {U : Wd} {S H : Hp} {v : V} {r : Rs} (h : RepV U S H v r) : decide (v = .non) = r.isN := by
  cases r with
  | sh d => cases h <;> first | rfl | exact decide_eq_false fun z => nomatch z
  | fr ds =>
    obtain ⟨p, vs, rfl, _⟩ := h
    exact decide_eq_false fun z => nomatch z
  | ow ds =>
    obtain ⟨p, vs, rfl, _⟩ := h
    exact decide_eq_false fun z => nomatch z
theorem cp_isN {k p'} (ha : ED G a ρ x) : ED G (.Compare a [.Is] [.Constant .none k p'] pos) ρ (.sh (.bl x.isN)) ∧ TD G (.Compare a [.Is] [.Constant .none k p'] pos) ρ x.isN := by
  refine ⟨.of (fun X h => pe_cmp (pc_isN (pe_of h)) rfl) fun B S H σ ex sl Q q => ha B S H σ ex sl _ fun v S1 H1 g1 r1 => ?_, .of (fun X h => pt_cmp (pc_isN (pe_of h)) rfl) fun B S H σ ex sl Q q => ha B S H σ ex sl _ fun v S1 H1 g1 r1 => ?_⟩
  · rw [r1.toV.isN]
    exact q _ S1 H1 g1 (.bl _)
  · rw [r1.toV.isN]
    exact ⟨_, rfl, q S1 H1 g1⟩
theorem cp_notN {k p'} (ha : ED G a ρ x) : ED G (.Compare a [.IsNot] [.Constant .none k p'] pos) ρ (.sh (.bl (!x.isN))) ∧ TD G (.Compare a [.IsNot] [.Constant .none k p'] pos) ρ (!x.isN) := by
  refine ⟨.of (fun X h => pe_cmp (pc_notN (pe_of h)) rfl) fun B S H σ ex sl Q q => ha B S H σ ex sl _ fun v S1 H1 g1 r1 => ?_, .of (fun X h => pt_cmp (pc_notN (pe_of h)) rfl) fun B S H σ ex sl Q q => ha B S H σ ex sl _ fun v S1 H1 g1 r1 => ?_⟩
  · rw [r1.toV.isN]
    exact q _ S1 H1 g1 (.bl _)
  · rw [r1.toV.isN]
    exact ⟨_, rfl, q S1 H1 g1⟩
/-- a op b op' c on ints -/
theorem chainB {op op' : CmpOp} {f g : Int → Int → Bool} {k : Int} (ho : ∀ X, G.is X → OpR X (compareOp op) (rI0 fun i j => .bl (f i j))) (ho' : ∀ X, G.is X → OpR X (compareOp op') (rI0 fun i j => .bl (g i j)))
    (ha : ED G a ρ (.sh (.int i))) (hb : ED G b ρ (.sh (.int j))) (hc : ED G c ρ (.sh (.int k))) (hm : lastMarks [op, op'] [b, c] = false) : ED G (.Compare a [op, op'] [b, c] pos) ρ (.sh (.bl (f i j && g j k))) ∧ TD G (.Compare a [op, op'] [b, c] pos) ρ (f i j && g j k) := by
  have body : ∀ (B S H : Hp) (σ : L2.St), Ex S H → Slots G.U B S H σ ρ → ∀ Q : VK, (∀ v S' H', Go S H S' H' → v = .bl (f i j && g j k) → Q v H') → tChain (rI0 fun i j => .bl (f i j)) (rI0 fun i j => .bl (g i j)) (tG G a) (tG G b) (tG G c) σ H Q := fun B S H σ ex sl Q q =>
    ha B S H σ ex sl _ fun v S1 H1 g1 r1 => hb B S1 H1 σ g1.sh (sl.go g1) _ fun w S2 H2 g2 r2 => by
      cases r1
      cases r2
      refine ⟨i, j, rfl, rfl, f i j, rfl, ?_⟩
      cases hf : f i j with
      | false =>
        rw [if_neg Bool.false_ne_true]
        exact q _ S2 H2 (g1.trans g2) (by rw [hf]; rfl)
      | true =>
        rw [if_pos rfl]
        refine hc B S2 H2 σ g2.sh ((sl.go g1).go g2) _ fun u S3 H3 g3 r3 => ?_
        cases r3
        exact ⟨j, k, rfl, rfl, q _ S3 H3 ((g1.trans g2).trans g3) (by rw [hf]; rfl)⟩
  refine ⟨.of (fun X h => pe_chain (ho X h) (ho' X h) (pe_of h) (pe_of h) (pe_of h) (hm := hm)) fun B S H σ ex sl Q q => body B S H σ ex sl Q fun v S' H' g1 e => q v S' H' g1 (by rw [e]; exact .bl _), .of (fun X h => pt_chain (ho X h) (ho' X h) (pe_of h) (pe_of h) (pe_of h) (hm := hm)) fun B S H σ ex sl Q q => body B S H σ ex sl _ fun v S' H' g1 e => ⟨_, e, q S' H' g1⟩⟩
theorem ch_le_lt {k : Int} (ha : ED G a ρ (.sh (.int i))) (hb : ED G b ρ (.sh (.int j))) (hc : ED G c ρ (.sh (.int k))) (hm : lastMarks [.LtE, .Lt] [b, c] = false := by rfl) : ED G (.Compare a [.LtE, .Lt] [b, c] pos) ρ (.sh (.bl (decide (i ≤ j) && decide (j < k)))) ∧ TD G (.Compare a [.LtE, .Lt] [b, c] pos) ρ (decide (i ≤ j) && decide (j < k)) :=
  chainB (f := fun i j => decide (i ≤ j)) (g := fun i j => decide (i < j)) (fun _ _ => op_le) (fun _ _ => op_lt) ha hb hc hm
theorem ch_le_le {k : Int} (ha : ED G a ρ (.sh (.int i))) (hb : ED G b ρ (.sh (.int j))) (hc : ED G c ρ (.sh (.int k))) (hm : lastMarks [.LtE, .LtE] [b, c] = false := by rfl) : ED G (.Compare a [.LtE, .LtE] [b, c] pos) ρ (.sh (.bl (decide (i ≤ j) && decide (j ≤ k)))) ∧ TD G (.Compare a [.LtE, .LtE] [b, c] pos) ρ (decide (i ≤ j) && decide (j ≤ k)) :=
  chainB (f := fun i j => decide (i ≤ j)) (g := fun i j => decide (i ≤ j)) (fun _ _ => op_le) (fun _ _ => op_le) ha hb hc hm
/-! not, and, or -/
theorem ed_not {k : Bool} (ha : ED G a ρ (.sh (.bl k))) : ED G (.UnaryOp .Not a pos) ρ (.sh (.bl (!k))) := .of (fun X h => pe_not (pe_of h)) fun B S H σ ex sl Q q => ha B S H σ ex sl _ fun v S1 H1 g1 r1 => by
  cases r1
  exact ⟨k, rfl, q _ S1 H1 g1 (.bl _)⟩
theorem ed_one {op} (ha : ED G a ρ x) : ED G (.BoolOp op [a] pos) ρ x := .of (fun X h => pe_one (pe_of h)) ha.run
theorem ed_and {rest : List Expr} {k l : Bool} (ha : ED G a ρ (.sh (.bl k))) (hb : k = true → ED G (.BoolOp .And (b :: rest) pos) ρ (.sh (.bl l))) : ED G (.BoolOp .And (a :: b :: rest) pos) ρ (.sh (.bl (k && l))) :=
  .of (fun X h => pe_and (pe_of h) (pe_of h)) fun B S H σ ex sl Q q => ha B S H σ ex sl _ fun v S1 H1 g1 r1 => by
    cases r1
    refine ⟨k, rfl, ?_⟩
    cases k with
    | false => exact q _ S1 H1 g1 (.bl _)
    | true => exact hb rfl B S1 H1 σ g1.sh (sl.go g1) Q fun u S2 H2 g2 r2 => q u S2 H2 (g1.trans g2) (r2.base g1.bh)
theorem ed_or {rest : List Expr} {k l : Bool} (ha : ED G a ρ (.sh (.bl k))) (hb : k = false → ED G (.BoolOp .Or (b :: rest) pos) ρ (.sh (.bl l))) : ED G (.BoolOp .Or (a :: b :: rest) pos) ρ (.sh (.bl (k || l))) :=
  .of (fun X h => pe_or (pe_of h) (pe_of h)) fun B S H σ ex sl Q q => ha B S H σ ex sl _ fun v S1 H1 g1 r1 => by
    cases r1
    refine ⟨k, rfl, ?_⟩
    cases k with
    | true => exact q _ S1 H1 g1 (.bl _)
    | false => exact hb rfl B S1 H1 σ g1.sh (sl.go g1) Q fun u S2 H2 g2 r2 => q u S2 H2 (g1.trans g2) (r2.base g1.bh)
def tGW (G : Gx) (e : Expr) : TT := fun σ H Q => ∀ X, G.is X → ∀ whole pins s, Inv X pins σ H s → wpAny (model X.prog X.w) X.A (isTrue e X.env whole) (TP X pins σ Q) X.xe s
theorem pw_of {X : Cx} (h : G.is X) : PW X e (tGW G e) := ⟨fun wh pins s σ H Q I q => q X h wh pins s I⟩
structure TW (G : Gx) (e : Expr) (ρ : List Sl) (b : Bool) : Prop where
  run : EvT G.U (tGW G e) ρ b
instance {G : Gx} {e : Expr} {ρ : List Sl} {r : Bool} : CoeFun (TW G e ρ r) fun _ => EvT G.U (tGW G e) ρ r := ⟨fun h => h.run⟩
theorem TW.of {te : TT} {k : Bool} (h : ∀ X, G.is X → PW X e te) (ev : EvT G.U te ρ k) : TW G e ρ k := ⟨fun B S H σ x sl Q q X hX wh pins s I => (h X hX).run wh pins s σ H Q I (ev B S H σ x sl Q q)⟩
theorem td_bool {k : Bool} (h : TW G e ρ k) : TD G e ρ k := .of (fun X hX => (pw_of hX).pt) h.run
theorem tw_and1 {k : Bool} (ha : TD G a ρ k) : TW G (.BoolOp .And [a] pos) ρ k := .of (fun X h => pw_and1 (pt_of h)) ha.run
theorem tw_or1 {k : Bool} (ha : TD G a ρ k) : TW G (.BoolOp .Or [a] pos) ρ k := .of (fun X h => pw_or1 (pt_of h)) ha.run
theorem tw_and {rest : List Expr} {k l : Bool} (ha : TD G a ρ k) (hb : k = true → TW G (.BoolOp .And (b :: rest) pos) ρ l) : TW G (.BoolOp .And (a :: b :: rest) pos) ρ (k && l) :=
  .of (fun X h => pw_and (pt_of h) (pw_of h)) fun B S H σ ex sl Q q => ha B S H σ ex sl _ fun S1 H1 g1 => by
    cases k with
    | false => exact q S1 H1 g1
    | true => exact hb rfl B S1 H1 σ g1.sh (sl.go g1) Q fun S2 H2 g2 => q S2 H2 (g1.trans g2)
theorem tw_or {rest : List Expr} {k l : Bool} (ha : TD G a ρ k) (hb : k = false → TW G (.BoolOp .Or (b :: rest) pos) ρ l) : TW G (.BoolOp .Or (a :: b :: rest) pos) ρ (k || l) :=
  .of (fun X h => pw_or (pt_of h) (pw_of h)) fun B S H σ ex sl Q q => ha B S H σ ex sl _ fun S1 H1 g1 => by
    cases k with
    | true => exact q S1 H1 g1
    | false => exact hb rfl B S1 H1 σ g1.sh (sl.go g1) Q fun S2 H2 g2 => q S2 H2 (g1.trans g2)
theorem td_not {k : Bool} (ha : TD G a ρ k) : TD G (.UnaryOp .Not a pos) ρ (!k) := .of (fun X h => pt_not (pt_of h)) fun B S H σ ex sl Q q => ha B S H σ ex sl _ fun S1 H1 g1 => q S1 H1 g1
theorem td_val {k : Bool} (h : ED G e ρ (.sh (.bl k))) (he : ∀ env whole, isTrue e env whole = (do let v ← whole; standAt e.pos; holding [v] (truthy v)) := by intros; rfl) : TD G e ρ k :=
  .of (fun X hX => pt_val (pe_of hX) (he X.env)) fun B S H σ ex sl Q q => h B S H σ ex sl _ fun v S1 H1 g1 r1 => by
    cases r1
    exact ⟨k, rfl, q S1 H1 g1⟩
theorem ed_ifExp {t : Expr} {k : Bool} (ht : TD G t ρ k) (ha : k = true → ED G a ρ x) (hb : k = false → ED G b ρ x) : ED G (.IfExp t a b pos) ρ x := .of (fun X h => pe_ifExp (pt_of h) (pe_of h) (pe_of h)) fun B S H σ ex sl Q q => ht B S H σ ex sl _ fun S1 H1 g1 => by
  cases k with
  | true => exact ha rfl B S1 H1 σ g1.sh (sl.go g1) Q fun u S2 H2 g2 r2 => q u S2 H2 (g1.trans g2) (r2.base g1.bh)
  | false => exact hb rfl B S1 H1 σ g1.sh (sl.go g1) Q fun u S2 H2 g2 r2 => q u S2 H2 (g1.trans g2) (r2.base g1.bh)
/-! subscripts -/
theorem ed_ixL {ds : List D} {d : D} (ha : ED G a ρ x) (hb : ED G b ρ (.sh (.int i))) (hx : x.ls = some ds) (h : atI ds i = some d) (hs : PlainIx b := by intros _ _; rfl) : ED G (.Subscript a b pos) ρ (.sh d) :=
  .of (te := tOp (rIxL G.U.K) (tG G a) (tG G b)) (fun X k => by rw [← k.K]; exact pe_ix ix_list (pe_of k) (pe_of k) hs) (ev_op ha.run hb.run (r2_ixL hx h))
theorem ed_ixT {ds : List D} {d : D} (ha : ED G a ρ (.sh (.tup ds))) (hb : ED G b ρ (.sh (.int i))) (h : atI ds i = some d) (hs : PlainIx b := by intros _ _; rfl) : ED G (.Subscript a b pos) ρ (.sh d) :=
  .of (te := tOp (rIxT G.U.K) (tG G a) (tG G b)) (fun X k => by rw [← k.K]; exact pe_ix ix_tup (pe_of k) (pe_of k) hs) (ev_op ha.run hb.run (r2_ixT h))
theorem ed_ixS {ns : List Int} {n : Int} (ha : ED G a ρ (.sh (.scr ns))) (hb : ED G b ρ (.sh (.int i))) (h : atI ns i = some n) (hs : PlainIx b := by intros _ _; rfl) : ED G (.Subscript a b pos) ρ (.sh (.int n)) :=
  .of (te := tOp (rIxL G.U.K) (tG G a) (tG G b)) (fun X k => by rw [← k.K]; exact pe_ix ix_list (pe_of k) (pe_of k) hs) (ev_op ha.run hb.run (r2_ixS h))
/-! slices of lists -/
def cutD {α : Type} (xs : List α) (lo hi : Option Int) : List α := (xs.drop (HT.sIx xs.length 0 lo)).take (HT.sIx xs.length xs.length hi - HT.sIx xs.length 0 lo)
def OD (G : Gx) (e : Option Expr) (ρ : List Sl) (o : Option Int) : Prop := ∃ to : TO, (∀ X, G.is X → PO X e to) ∧ ∀ (B S H : Hp) (σ : L2.St), Ex S H → Slots G.U B S H σ ρ → ∀ Q : Option Int → Hp → Prop, (∀ S' H', Go S H S' H' → Q o H') → to σ H Q
theorem od_none : OD G none ρ none := ⟨_, fun _ _ => po_none, fun B S H σ ex sl Q q => q S H (Go.refl ex)⟩
theorem od_some (h : ED G a ρ (.sh (.int i))) : OD G (some a) ρ (some i) := ⟨_, fun _ k => po_some (pe_of k), fun B S H σ ex sl Q q => h B S H σ ex sl _ fun v S1 H1 g1 r1 => by
  cases r1
  exact ⟨i, rfl, q S1 H1 g1⟩⟩
theorem ed_sl {ds : List D} {lo hi : Option Expr} {l u : Option Int} {p2 : Pos} (ha : ED G a ρ x) (hx : x.ls = some ds) (hl : OD G lo ρ l) (hu : OD G hi ρ u) : ED G (.Subscript a (.Slice lo hi none p2) pos) ρ (.fr (cutD ds l u)) := by
  obtain ⟨tl, pl, el⟩ := hl
  obtain ⟨tu, pu, eu⟩ := hu
  refine .of (te := tSl (rSlL G.U.K) (tG G a) tl tu) (fun X k => by rw [← k.K]; exact pe_slice sl_list (pe_of k) (pl X k) (pu X k)) fun B S H σ ex sl Q q => ?_
  refine ha B S H σ ex sl _ fun v S1 H1 g1 r1 => el B S1 H1 σ g1.sh (sl.go g1) _ fun S2 H2 g2 => eu B S2 H2 σ g2.sh ((sl.go g1).go g2) _ fun S3 H3 g3 => ?_
  obtain ⟨p, vs, rfl, h1, z, h4⟩ := (r1.toV.mono (g2.ss.trans g3.ss) (g2.bh.trans g3.bh)).list hx g3.sh
  refine ⟨p, vs, rfl, .of h1, fun a na => ?_⟩
  have ns : S3 a = none := g3.sh.back na
  have g13 := (g1.trans g2).trans g3
  refine q (.ref a) S3 _ ⟨g13.ss, g3.sh.trans (Ex.new na), g13.bh.trans (Ex.new na), g13.nw⟩ ⟨a, _, rfl, upd_same, ns, g13.bh.back na, Nat.le_trans (cutV_length _ _ _) z, ?_⟩
  unfold cutV cutD
  rw [h4.length]
  exact (h4.drop _).take _
/-! displays -/
theorem ad_nil : AD G [] ρ [] := .of (fun _ _ => pa_nil) fun B S H σ ex sl Q q => q [] S H (Go.refl ex) .nil
theorem ad_cons {es : List Expr} {d : D} {ds : List D} (h : ED G e ρ (.sh d)) (hr : AD G es ρ ds) (hs : ∀ env, starEach (e :: es) env = (false, eval e env) :: starEach es env := by intro _; rfl) : AD G (e :: es) ρ (d :: ds) :=
  .of (fun X k => pa_cons (pe_of k) (pa_of k) (hs _)) fun B S H σ ex sl Q q => h B S H σ ex sl _ fun v S1 H1 g1 r1 => hr B S1 H1 σ g1.sh (sl.go g1) _ fun vs S2 H2 g2 r2 =>
    q (v :: vs) S2 H2 (g1.trans g2) (.cons (Rep.mono g2.ss r1) r2)
theorem ed_tup {es : List Expr} {ds : List D} {k} (h : AD G es ρ ds) (hz : ds.length ≤ sizeLine) : ED G (.Tuple es k pos) ρ (.sh (.tup ds)) := .of (fun X k => pe_tup (pa_of k)) fun B S H σ ex sl Q q => h B S H σ ex sl _ fun vs S1 H1 g1 r1 => by
  have z : vs.length ≤ sizeLine := by rw [r1.length]; exact hz
  refine ⟨z, fun p hp => ?_⟩
  have hs : S1 p = none := g1.sh.back hp
  have g2 : Go S H S1 (upd H1 p (.tup vs)) := ⟨g1.ss, g1.sh.trans (Ex.new hp), g1.bh.trans (Ex.new hp), g1.nw⟩
  exact q (.ref p) (upd S1 p (.tup vs)) _ (g2.add upd_same hs (g1.bh.back hp)) (.tup upd_same z (r1.mono (Ex.new hs)))
theorem ed_lst {es : List Expr} {ds : List D} (h : AD G es ρ ds) (hz : ds.length ≤ sizeLine) : ED G (.List es pos) ρ (.fr ds) := .of (fun X k => pe_lst (pa_of k)) fun B S H σ ex sl Q q => h B S H σ ex sl _ fun vs S1 H1 g1 r1 => by
  have z : vs.length ≤ sizeLine := by rw [r1.length]; exact hz
  refine ⟨z, fun p hp => ?_⟩
  have hs : S1 p = none := g1.sh.back hp
  exact q (.ref p) S1 _ ⟨g1.ss, g1.sh.trans (Ex.new hp), g1.bh.trans (Ex.new hp), g1.nw⟩ ⟨p, vs, rfl, upd_same, hs, g1.bh.back hp, z, r1⟩
/-- what is owned may be read; only a plain value comes of it -/
def thaw (ρ : List Sl) : List Sl := ρ.map fun
  | .own ds => .sh (.lst ds)
  | s => s
def D.scalar : D → Bool
  | .non => true
  | .bl _ => true
  | .int _ => true
  | _ => false
theorem scalar_rep {U : Wd} {S S' : Hp} {v : V} {d : D} (hd : d.scalar = true) (h : Rep U S v d) : Rep U S' v d := by
  cases h <;> first | (cases hd; done) | constructor
end
end Mb
set_option Elab.async false
set_option linter.all false
set_option maxRecDepth 100000
set_option maxHeartbeats 4000000
namespace Mb
open PySem PySem.Spec PyProof.Rows L2

/-! ### what is owned is read for a plain value -/
section
variable {G : Gx} {ρ : List Sl} {a b c e : Expr} {pos : Pos} {x y z : Rs}
theorem slots_thaw {U : Wd} {B S H : Hp} {σ : L2.St} (ex : Ex S H) (sl : Slots U B S H σ ρ) : ∃ S1, Ex S S1 ∧ Ex S1 H ∧ Slots U (fun _ => none) S1 H σ (thaw ρ) := by
  classical
  let P : Addr → Prop := fun a => ∃ (i : Nat) (ds : List D), ρ[i]? = some (Sl.own ds) ∧ σ[i]? = some (some (V.ref a))
  let S1 : Hp := fun a => if P a then H a else S a
  have e1 : Ex S S1 := fun a o h => by
    show (if P a then H a else S a) = some o
    by_cases p : P a
    · rw [if_pos p]
      exact ex a o h
    · rw [if_neg p]
      exact h
  refine ⟨S1, e1, fun a o h => ?_, by rw [sl.len, thaw, List.length_map], fun i d h => ?_, fun i ds h => ?_, fun i j ds es p h => ?_⟩
  · have h : (if P a then H a else S a) = some o := h
    by_cases p : P a
    · rw [if_pos p] at h
      exact h
    · rw [if_neg p] at h
      exact ex a o h
  · unfold thaw at h
    rw [List.getElem?_map] at h
    cases q : ρ[i]? with
    | none =>
      rw [q] at h
      cases h
    | some s =>
      rw [q] at h
      cases s with
      | no => cases h
      | sh d' =>
        obtain rfl : d' = d := by
          have := Option.some.inj h
          injection this
        obtain ⟨v, h1, h2⟩ := sl.sh i _ q
        exact ⟨v, h1, h2.mono e1⟩
      | own ds =>
        obtain rfl : D.lst ds = d := by
          have := Option.some.inj h
          injection this
        obtain ⟨p, vs, h1, h2, h3, h4, zz, h5⟩ := sl.own i _ q
        refine ⟨_, h1, .lst (xs := vs) ?_ zz (h5.mono e1)⟩
        show (if P p then H p else S p) = _
        rw [if_pos ⟨i, ds, q, h1⟩]
        exact h2
  · unfold thaw at h
    rw [List.getElem?_map] at h
    cases q : ρ[i]? with
    | none =>
      rw [q] at h
      cases h
    | some s =>
      rw [q] at h
      cases s <;> cases h
  · unfold thaw at h
    rw [List.getElem?_map] at h
    cases q : ρ[i]? with
    | none =>
      rw [q] at h
      cases h
    | some s =>
      rw [q] at h
      cases s <;> cases h
theorem ed_thaw {d : D} (h : ED G e (thaw ρ) (.sh d)) (hd : d.scalar = true := by rfl) : ED G e ρ (.sh d) := ⟨fun B S H σ ex sl Q q => by
  obtain ⟨S1, e1, e2, s1⟩ := slots_thaw ex sl
  refine h _ S1 H σ e2 s1 Q fun v S' H' g r => ?_
  exact q v S H' ⟨Ex.refl S, (e1.trans g.ss).trans g.sh, g.bh, fun _ h => .inl h⟩ (scalar_rep hd r)⟩
theorem td_thaw {k : Bool} (h : TD G e (thaw ρ) k) : TD G e ρ k := ⟨fun B S H σ ex sl Q q => by
  obtain ⟨S1, e1, e2, s1⟩ := slots_thaw ex sl
  refine h _ S1 H σ e2 s1 Q fun S' H' g => ?_
  exact q S H' ⟨Ex.refl S, (e1.trans g.ss).trans g.sh, g.bh, fun _ h => .inl h⟩⟩

/-! ### built-ins -/
abbrev GlN (G : Gx) (n : Str) : Prop := G.sc.names.lookup n = some .globalImplicit
theorem gl_of {n : Str} {X : Cx} (hX : G.is X) (hg : GlN G n) : Gl X n := by
  show X.env.scope.names.lookup n = _
  rw [hX.sc]
  exact hg
/-- one value in, one out -/
def R1D (U : Wd) (r : List V → Hp → VK → Prop) (x z : Rs) : Prop := ∀ (S H : Hp) (v : V), Ex S H → RepV U S H v x → ∀ Q : VK, (∀ u S' H', Go S H S' H' → RepR U H S' H' u z → Q u H') → r [v] H Q
theorem r1_val {U : Wd} {r : List V → Hp → VK → Prop} {d : D} (h : ∀ S H v, Ex S H → RepV U S H v x → ∀ Q : VK, (∀ u, Rep U S u d → Q u H) → r [v] H Q) : R1D U r x (.sh d) := fun S H v e rv Q q => h S H v e rv Q fun u ru => q u S H (Go.refl e) ru
theorem ev_b1 {U : Wd} {ta : TE} {r : List V → Hp → VK → Prop} (ha : EvD U ta ρ x) (hr : R1D U r x z) : EvD U (tCB r (tCons ta tNil)) ρ z := fun B S H σ ex sl Q q =>
  ha B S H σ ex sl _ fun v S1 H1 g1 r1 => hr S1 H1 v g1.sh r1.toV Q fun u S2 H2 g2 r2 => q u S2 H2 (g1.trans g2) (r2.base g1.bh)
abbrev Star1 (a : Expr) : Prop := ∀ env, starEach (a :: []) env = (false, eval a env) :: starEach [] env
theorem ed_b1 {n : Str} {id : String} {p : Pos} {r : List V → Hp → VK → Prop} (hc : ∀ X, G.is X → CallR X (.builtin id) r) (hg : GlN G n) (hm : G.U.mg n = none) (hb : bootBuiltins n = some (.builtin id)) (hn : n ≠ "__name__") (hd : (n == ("__debug__" : Str)) = false)
    (hs : Star1 a) (ha : ED G a ρ x) (hr : R1D G.U r x z) : ED G (.Call (.Name n p) [a] [] pos) ρ z :=
  .of (fun X h => pe_callB (hc X h) (gl_of h hg) (by rw [h.mg]; exact hm) hb (pa_cons (pe_of h) pa_nil (hs := hs _)) hn hd (hs _)) (ev_b1 ha.run hr)
theorem ed_t1 {n : Str} {id : String} {p : Pos} {r : List V → Hp → VK → Prop} (hc : ∀ X, G.is X → CallR X (.type id) r) (hg : GlN G n) (hm : G.U.mg n = none) (hb : bootBuiltins n = some (.type id)) (hn : n ≠ "__name__") (hd : (n == ("__debug__" : Str)) = false)
    (hs : Star1 a) (ha : ED G a ρ x) (hr : R1D G.U r x z) : ED G (.Call (.Name n p) [a] [] pos) ρ z :=
  .of (fun X h => pe_callTy (hc X h) (gl_of h hg) (by rw [h.mg]; exact hm) hb (pa_cons (pe_of h) pa_nil (hs := hs _)) hn hd (hs _)) (ev_b1 ha.run hr)
/-- how many: a list, a tuple, the script -/
def Rs.len : Rs → Option Nat
  | .sh (.lst ds) => some ds.length
  | .sh (.tup ds) => some ds.length
  | .sh (.scr ns) => some ns.length
  | .fr ds => some ds.length
  | .ow ds => some ds.length
  | _ => none
theorem r1_len {U : Wd} {n : Nat} (hn : x.len = some n) : R1D U (fun xs H Q => ∃ p ys, xs = [.ref p] ∧ (SqL U.K H p ys ∨ SqT U.K H p ys) ∧ Q (.int ys.length) H) x (.sh (.int n)) := r1_val fun S H v e rv Q q => by
  cases x with
  | sh d =>
    cases rv with
    | lst h1 z h2 =>
      obtain rfl := Option.some.inj (show some _ = some n from hn)
      exact ⟨_, _, rfl, .inl (.of (e _ _ h1)), by rw [h2.length]; exact q _ (.int _)⟩
    | tup h1 z h2 =>
      obtain rfl := Option.some.inj (show some _ = some n from hn)
      exact ⟨_, _, rfl, .inr (.of (e _ _ h1)), by rw [h2.length]; exact q _ (.int _)⟩
    | scr h1 =>
      obtain rfl := Option.some.inj (show some _ = some n from hn)
      exact ⟨_, _, rfl, .inl (e.sql h1), by rw [List.length_map]; exact q _ (.int _)⟩
    | _ => cases hn
  | fr ds =>
    obtain rfl := Option.some.inj (show some _ = some n from hn)
    obtain ⟨p, vs, rfl, h1, z, h4⟩ := rv
    exact ⟨p, vs, rfl, .inl (.of h1), by rw [h4.length]; exact q _ (.int _)⟩
  | ow ds =>
    obtain rfl := Option.some.inj (show some _ = some n from hn)
    obtain ⟨p, vs, rfl, h1, z, h4⟩ := rv
    exact ⟨p, vs, rfl, .inl (.of h1), by rw [h4.length]; exact q _ (.int _)⟩
/-- the names of built-ins, not taken by the module -/
structure Bl (mg : Str → Option Value) : Prop where
  len : mg "len" = none
  list : mg "list" = none
  all : mg "all" = none
  any : mg "any" = none
  sorted : mg "sorted" = none
  sum : mg "sum" = none
  max : mg "max" = none
  min : mg "min" = none
  int : mg "int" = none
  bool : mg "bool" = none
  tuple : mg "tuple" = none
  isinstance : mg "isinstance" = none
  range : mg "range" = none
  reversed : mg "reversed" = none
variable {p : Pos} (T : Bl G.U.mg)
include T
theorem ed_len {n : Nat} (ha : ED G a ρ x) (hn : x.len = some n) (hg : GlN G "len") (hs : Star1 a := by intro _; rfl) : ED G (.Call (.Name "len" p) [a] [] pos) ρ (.sh (.int n)) :=
  ed_b1 (id := "len") (fun X h => by rw [← h.K]; exact call_len_seq) hg T.len PySem.boot_len (by decide) (by rfl) hs ha (r1_len hn)
theorem ed_list {ds : List D} (ha : ED G a ρ x) (hx : x.ls = some ds) (hg : GlN G "list") (hs : Star1 a := by intro _; rfl) : ED G (.Call (.Name "list" p) [a] [] pos) ρ (.fr ds) :=
  ed_t1 (id := "list") (r := fun xs H Q => ∃ p ys, xs = [.ref p] ∧ (SqL G.U.K H p ys ∨ SqT G.U.K H p ys) ∧ ∀ l, H l = none → Q (.ref l) (upd H l (.lst ys))) (fun X h => by rw [← h.K]; exact call_list_of) hg T.list (by decide +kernel) (by decide) (by rfl) hs ha fun S H v e rv Q q => by
    obtain ⟨p, vs, rfl, h1, z, h4⟩ := rv.list hx e
    refine ⟨p, vs, rfl, .inl (.of h1), fun l hl => ?_⟩
    exact q (.ref l) S _ ⟨Ex.refl S, e.trans (Ex.new hl), Ex.new hl, fun _ h => .inl h⟩ ⟨l, vs, rfl, upd_same, e.back hl, hl, z, h4⟩
theorem ed_all {α : Type} {xs : List α} {f : α → Bool} (ha : ED G a ρ x) (hx : x.ls = some (xs.map fun i => D.bl (f i))) (hg : GlN G "all") (hs : Star1 a := by intro _; rfl) : ED G (.Call (.Name "all" p) [a] [] pos) ρ (.sh (.bl (xs.all f))) :=
  ed_b1 (id := "all") (r := rAll G.U.K) (fun X h => by rw [← h.K]; exact cr_all h.calm) hg T.all (by decide +kernel) (by decide) (by rfl) hs ha (r1_val fun S H v e rv Q q => by
    obtain ⟨p, vs, rfl, h1, z, h4⟩ := rv.list hx e
    have e2 : vs = (xs.map f).map V.bl := RepL.bls (U := G.U) (S := S) (by rw [List.map_map]; exact h4)
    subst e2
    refine ⟨p, _, rfl, .of h1, ?_⟩
    rw [List.all_map]
    exact q _ (.bl _))
theorem ed_any {α : Type} {xs : List α} {f : α → Bool} (ha : ED G a ρ x) (hx : x.ls = some (xs.map fun i => D.bl (f i))) (hg : GlN G "any") (hs : Star1 a := by intro _; rfl) : ED G (.Call (.Name "any" p) [a] [] pos) ρ (.sh (.bl (xs.any f))) :=
  ed_b1 (id := "any") (r := rAny G.U.K) (fun X h => by rw [← h.K]; exact cr_any h.calm) hg T.any (by decide +kernel) (by decide) (by rfl) hs ha (r1_val fun S H v e rv Q q => by
    obtain ⟨p, vs, rfl, h1, z, h4⟩ := rv.list hx e
    have e2 : vs = (xs.map f).map V.bl := RepL.bls (U := G.U) (S := S) (by rw [List.map_map]; exact h4)
    subst e2
    refine ⟨p, _, rfl, .of h1, ?_⟩
    rw [List.any_map]
    exact q _ (.bl _))
theorem ed_sum {ns : List Int} (ha : ED G a ρ x) (hx : x.ls = some (ns.map D.int)) (hg : GlN G "sum") (hs : Star1 a := by intro _; rfl) : ED G (.Call (.Name "sum" p) [a] [] pos) ρ (.sh (.int ns.sum)) :=
  ed_b1 (id := "sum") (r := rSum G.U.K) (fun X h => by rw [← h.K]; exact cr_sum h.calm) hg T.sum (by decide +kernel) (by decide) (by rfl) hs ha (r1_val fun S H v e rv Q q => by
    obtain ⟨p, vs, rfl, h1, z, h4⟩ := rv.list hx e
    have e2 := RepL.ints h4
    subst e2
    exact ⟨p, _, rfl, .of h1, q _ (.int _)⟩)
/-- sorted, of whole numbers -/
def isort (ns : List Int) : List Int := ns.mergeSort fun a b => decide (a ≤ b)
omit T in
theorem isort_perm (ns : List Int) : (isort ns).Perm ns := List.mergeSort_perm _ _
omit T in
theorem isort_le (ns : List Int) : (isort ns).Pairwise (· ≤ ·) := by
  have h := List.pairwise_mergeSort (le := fun a b : Int => decide (a ≤ b)) (fun a b c h1 h2 => decide_eq_true (Int.le_trans (of_decide_eq_true h1) (of_decide_eq_true h2))) (fun a b => by
    rcases Int.le_total a b with h | h
    · simp [h]
    · simp [h]) ns
  exact h.imp fun h => of_decide_eq_true h
omit T in
theorem sorted_one : ∀ {xs ys : List Int}, xs.Perm ys → xs.Pairwise (· ≤ ·) → ys.Pairwise (· ≤ ·) → xs = ys
  | [], ys, h, _, _ => (List.Perm.nil_eq h)
  | x :: xs, [], h, _, _ => absurd h.length_eq (by simp)
  | x :: xs, y :: ys, h, hx, hy => by
    have a := List.pairwise_cons.mp hx
    have b := List.pairwise_cons.mp hy
    have e : x = y := by
      have h1 : x ∈ y :: ys := h.mem_iff.mp List.mem_cons_self
      have h2 : y ∈ x :: xs := h.mem_iff.mpr List.mem_cons_self
      have l1 : y ≤ x := by
        rcases List.mem_cons.mp h1 with e | m
        · omega
        · exact b.1 x m
      have l2 : x ≤ y := by
        rcases List.mem_cons.mp h2 with e | m
        · omega
        · exact a.1 y m
      omega
    subst e
    rw [sorted_one h.cons_inv a.2 b.2]
theorem ed_sorted {ns : List Int} (ha : ED G a ρ x) (hx : x.ls = some (ns.map D.int)) (hg : GlN G "sorted") (hs : Star1 a := by intro _; rfl) : ED G (.Call (.Name "sorted" p) [a] [] pos) ρ (.fr ((isort ns).map D.int)) :=
  ed_b1 (id := "sorted") (r := rSortedI G.U.K) (fun X h => by rw [← h.K]; exact cr_sortedI) hg T.sorted (by decide +kernel) (by decide) (by rfl) hs ha fun S H v e rv Q q => by
    obtain ⟨p, vs, rfl, h1, z, h4⟩ := rv.list hx e
    have e2 := RepL.ints h4
    subst e2
    refine ⟨p, ns, rfl, .of h1, fun ns' l hp hw hl => ?_⟩
    have e3 : ns' = isort ns := sorted_one (hp.trans (isort_perm ns).symm) hw (isort_le ns)
    subst e3
    exact q (.ref l) S _ ⟨Ex.refl S, e.trans (Ex.new hl), Ex.new hl, fun _ h => .inl h⟩ ⟨l, _, rfl, upd_same, e.back hl, hl, by rw [List.length_map, (isort_perm ns).length_eq]; rw [List.length_map] at z; exact z, RepL.ofInts _⟩
theorem ed_intB {k : Bool} (ha : ED G a ρ (.sh (.bl k))) (hg : GlN G "int") (hs : Star1 a := by intro _; rfl) : ED G (.Call (.Name "int" p) [a] [] pos) ρ (.sh (.int (if k then 1 else 0))) :=
  ed_t1 (id := "int") (fun X h => call_int1) hg T.int (by decide +kernel) (by decide) (by rfl) hs ha (r1_val fun S H v e rv Q q => by
    cases rv
    exact .inr ⟨k, rfl, q _ (.int _)⟩)
omit T in
theorem ev_b2 {U : Wd} {ta tb : TE} {r : List V → Hp → VK → Prop} (ha : EvD U ta ρ x) (hb : EvD U tb ρ y) (hr : R2D U (fun v w H Q => r [v, w] H Q) x y z) : EvD U (tCB r (tCons ta (tCons tb tNil))) ρ z := fun B S H σ e sl Q q =>
  ha B S H σ e sl _ fun v S1 H1 g1 r1 => hb B S1 H1 σ g1.sh (sl.go g1) _ fun w S2 H2 g2 r2 =>
    hr S2 H2 v w g2.sh (r1.toV.mono g2.ss g2.bh) r2.toV Q fun u S3 H3 g3 r3 => q u S3 H3 ((g1.trans g2).trans g3) (r3.base (g1.bh.trans g2.bh))
omit T in
abbrev Star2 (a b : Expr) : Prop := (∀ env, starEach (a :: [b]) env = (false, eval a env) :: starEach [b] env) ∧ Star1 b ∧ ∀ env (pos : Pos), (backTo pos (starEach [b] env)).any (·.1) = false
omit T in
theorem ed_b2 {n : Str} {id : String} {p : Pos} {r : List V → Hp → VK → Prop} (hc : ∀ X, G.is X → CallR X (.builtin id) r) (hg : GlN G n) (hm : G.U.mg n = none) (hb : bootBuiltins n = some (.builtin id)) (hn : n ≠ "__name__") (hd : (n == ("__debug__" : Str)) = false)
    (hs : Star2 a b) (ha : ED G a ρ x) (hbb : ED G b ρ y) (hr : R2D G.U (fun v w H Q => r [v, w] H Q) x y z) : ED G (.Call (.Name n p) [a, b] [] pos) ρ z :=
  .of (fun X h => pe_callB (hc X h) (gl_of h hg) (by rw [h.mg]; exact hm) hb (pa_cons (pe_of h) (pa_cons (pe_of h) pa_nil (hs := hs.2.1 _)) (hs := hs.1 _)) hn hd (hs.1 _) (hs.2.2 _ _)) (ev_b2 ha.run hbb.run hr)
theorem ed_max {i j : Int} (ha : ED G a ρ (.sh (.int i))) (hb : ED G b ρ (.sh (.int j))) (hg : GlN G "max") (hs : Star2 a b := by exact ⟨by intro _; rfl, by intro _; rfl, by intros; rfl⟩) : ED G (.Call (.Name "max" p) [a, b] [] pos) ρ (.sh (.int (if j > i then j else i))) :=
  ed_b2 (id := "max") (fun X h => call_max2 h.calm) hg T.max (by decide +kernel) (by decide) (by rfl) hs ha hb (r2_val fun S H v w e rv rw Q q => by
    cases rv
    cases rw
    exact ⟨i, j, rfl, q _ (.int _)⟩)
theorem ed_min {i j : Int} (ha : ED G a ρ (.sh (.int i))) (hb : ED G b ρ (.sh (.int j))) (hg : GlN G "min") (hs : Star2 a b := by exact ⟨by intro _; rfl, by intro _; rfl, by intros; rfl⟩) : ED G (.Call (.Name "min" p) [a, b] [] pos) ρ (.sh (.int (if j < i then j else i))) :=
  ed_b2 (id := "min") (fun X h => call_min2 h.calm) hg T.min (by decide +kernel) (by decide) (by rfl) hs ha hb (r2_val fun S H v w e rv rw Q q => by
    cases rv
    cases rw
    exact ⟨i, j, rfl, q _ (.int _)⟩)
/-- the built-in type of a value -/
def Rs.tyN : Rs → Option String
  | .sh .non => some "NoneType"
  | .sh (.bl _) => some "bool"
  | .sh (.int _) => some "int"
  | .sh (.lst _) => some "list"
  | .sh (.tup _) => some "tuple"
  | .fr _ => some "list"
  | .ow _ => some "list"
  | _ => none
omit T in
theorem RepV.ty {U : Wd} {S H : Hp} {v : V} {r : Rs} {t : String} (h : RepV U S H v r) (e : Ex S H) (ht : r.tyN = some t) : TyX U.K H v (.type t) := by
  cases r with
  | sh d =>
    cases h with
    | non => cases ht; exact .base .non
    | bl b => cases ht; exact .base (.bl b)
    | int b => cases ht; exact .base (.int b)
    | lst h1 _ _ => cases ht; exact .base (.lst (e _ _ h1))
    | tup h1 _ _ => cases ht; exact .base (.tup (e _ _ h1))
    | _ => cases ht
  | fr ds =>
    obtain ⟨p, vs, rfl, h1, z, h4⟩ := h
    cases ht
    exact .base (.lst h1)
  | ow ds =>
    obtain ⟨p, vs, rfl, h1, z, h4⟩ := h
    cases ht
    exact .base (.lst h1)
theorem ed_isi {t u : String} {k : Bool} (ha : ED G a ρ x) (hb : ED G b ρ (.sh (.ty u))) (ht : x.tyN = some t) (hk : kitB t u = some k) (hg : GlN G "isinstance") (hs : Star2 a b := by exact ⟨by intro _; rfl, by intro _; rfl, by intros; rfl⟩) :
    ED G (.Call (.Name "isinstance" p) [a, b] [] pos) ρ (.sh (.bl k)) :=
  ed_b2 (id := "isinstance") (r := rIsi G.U.K) (fun X h => by rw [← h.K]; exact call_isi) hg T.isinstance PyProof.Rows.boot_isinstance (by decide) (by rfl) hs ha hb (r2_val fun S H v w e rv rw Q q => by
    cases rw
    exact ⟨v, .ty u, .type t, .type u, k, rfl, .ty u, rv.ty e ht, kit_ty hk, q _ (.bl _)⟩)
/-- list(range(n)) -/
theorem ed_listRange {i : Int} {pr pos' : Pos} (ha : ED G a ρ (.sh (.int i))) (h1 : i ≤ 16777216) (h0 : -16777216 ≤ i) (hg : GlN G "list") (hg2 : GlN G "range") (hs : Star1 a := by intro _; rfl) :
    ED G (.Call (.Name "list" p) [.Call (.Name "range" pr) [a] [] pos'] [] pos) ρ (.fr ((List.range i.toNat).map fun (j : Nat) => D.int (j : Int))) :=
  .of (te := tLstRg (tRg1 (tG G a))) (fun X h => pe_listRg h.calm (gl_of h hg) (by rw [h.mg]; exact T.list) (prg_1 (gl_of h hg2) (by rw [h.mg]; exact T.range) (pe_of h) (hs _)) rfl) fun B S H σ ex sl Q q => ha B S H σ ex sl _ fun v S1 H1 g1 r1 => by
    cases r1
    refine ⟨i, rfl, ⟨by omega, by omega, by omega, by omega, ?_⟩, fun l hl => ?_⟩
    · have : (2 : Nat) ^ 24 = 16777216 := by decide
      omega
    · have e : rgV 0 i = (List.range i.toNat).map fun (j : Nat) => V.int (j : Int) := by
        unfold rgV
        rw [Int.sub_zero]
        exact List.map_congr_left fun j _ => by rw [Int.zero_add]
      have z : (rgV 0 i).length ≤ sizeLine := by
        rw [rgV_length, sizeLine_eq]
        omega
      refine q (.ref l) S1 _ ⟨g1.ss, g1.sh.trans (Ex.new hl), g1.bh.trans (Ex.new hl), g1.nw⟩ ⟨l, _, rfl, upd_same, g1.sh.back hl, g1.bh.back hl, z, ?_⟩
      rw [e]
      have : ∀ l : List Nat, RepL G.U S1 (l.map fun (j : Nat) => V.int (j : Int)) (l.map fun (j : Nat) => D.int (j : Int)) := fun l => by
        induction l with
        | nil => exact .nil
        | cons x xs ih => exact .cons (.int _) ih
      exact this _
end
end Mb
set_option Elab.async false
set_option linter.all false
set_option maxRecDepth 100000
set_option maxHeartbeats 4000000
namespace Mb
open PySem PySem.Spec PyProof.Rows L2

/-! ### what is walked -/
section
variable {G : Gx} {ρ : List Sl} {a b c e tg it : Expr} {pos p : Pos} {x y z : Rs}
theorem ic_list {ds : List D} (ha : ED G it ρ x) (hx : x.ls = some ds) : IC G tg it ρ ds := .of (wi := iList G.U.K (tG G it)) (fun X h => by rw [← h.K]; exact pi_list (pe_of h)) fun B S H σ ex sl R q => ha B S H σ ex sl _ fun v S1 H1 g1 r1 => by
  obtain ⟨p, vs, rfl, h1, z, h4⟩ := r1.toV.list hx g1.sh
  refine ⟨p, rfl, ⟨vs, .of h1⟩, q _ S1 H1 g1 (fun S2 H2 e1 e2 e3 i => ⟨fun d hd => ?_, fun hi => ?_⟩) (by rw [← h4.length]; exact z)⟩
  · obtain ⟨v, hv, rv⟩ := h4.get hd
    have h2 : SqL G.U.K H2 p vs := .of (e3 _ _ h1)
    refine ⟨⟨vs, v, h2, hv⟩, fun y H3 hy => ⟨hy.1, ?_⟩⟩
    have e4 := hy.2 vs h2
    rw [hv] at e4
    cases e4
    exact rv.mono e1
  · exact ⟨vs, .of (e3 _ _ h1), by rw [h4.length]; exact hi⟩
/-- a list that the loop does not change -/
theorem if_list {ds : List D} (ha : ED G it ρ (.sh (.lst ds))) : IF G tg it ρ ds := .of (wi := iList G.U.K (tG G it)) (fun X h => by rw [← h.K]; exact pi_list (pe_of h)) fun B S H σ ex sl R q => ha B S H σ ex sl _ fun v S1 H1 g1 r1 => by
  cases r1 with
  | @lst p vs _ h1 z h4 =>
    refine ⟨p, rfl, ⟨vs, .of (g1.sh _ _ h1)⟩, q _ S1 H1 g1 fun S2 H2 e1 e2 i => ⟨fun d hd => ?_, fun hi => ?_⟩⟩
    · obtain ⟨v, hv, rv⟩ := h4.get hd
      have h2 : SqL G.U.K H2 p vs := .of (e2 _ _ (e1 _ _ h1))
      refine ⟨⟨vs, v, h2, hv⟩, fun y H3 hy => ⟨hy.1, ?_⟩⟩
      have e4 := hy.2 vs h2
      rw [hv] at e4
      cases e4
      exact rv.mono e1
    · exact ⟨vs, .of (e2 _ _ (e1 _ _ h1)), by rw [h4.length]; exact hi⟩
theorem if_fr {ds : List D} (ha : ED G it ρ (.fr ds)) : IF G tg it ρ ds := if_list ha.shr
theorem if_tup {ds : List D} (ha : ED G it ρ (.sh (.tup ds))) : IF G tg it ρ ds := .of (wi := iTup G.U.K (tG G it)) (fun X h => by rw [← h.K]; exact pi_tup (pe_of h)) fun B S H σ ex sl R q => ha B S H σ ex sl _ fun v S1 H1 g1 r1 => by
  cases r1 with
  | @tup p vs _ h1 z h4 =>
    refine ⟨p, rfl, ⟨vs, .of (g1.sh _ _ h1)⟩, q _ S1 H1 g1 fun S2 H2 e1 e2 i => ⟨fun d hd => ?_, fun hi => ?_⟩⟩
    · obtain ⟨v, hv, rv⟩ := h4.get hd
      have h2 : SqT G.U.K H2 p vs := .of (e2 _ _ (e1 _ _ h1))
      refine ⟨⟨vs, v, h2, hv⟩, fun y H3 hy => ⟨hy.1, ?_⟩⟩
      have e4 := hy.2 vs h2
      rw [hv] at e4
      cases e4
      exact rv.mono e1
    · exact ⟨vs, .of (e2 _ _ (e1 _ _ h1)), by rw [h4.length]; exact hi⟩
abbrev Star1' (a : Expr) : Prop := ∀ env, starEach [a] env = [(false, eval a env)]
theorem if_range {i : Int} (T : Bl G.U.mg) (ha : ED G a ρ (.sh (.int i))) (h1 : i < 2 ^ 62) (h0 : -(2 ^ 62) ≤ i) (hg : GlN G "range") (hs : Star1' a := by intro _; rfl) : IF G tg (.Call (.Name "range" p) [a] [] pos) ρ ((List.range i.toNat).map fun (j : Nat) => D.int (j : Int)) :=
  .of (wi := iRng1 (tCons (tG G a) tNil)) (fun X h => pi_range1 (gl_of h hg) (by rw [h.mg]; exact T.range) (pa_cons (pe_of h) pa_nil (hs := hs _)) (hs _)) fun B S H σ ex sl R q => ha B S H σ ex sl _ fun v S1 H1 g1 r1 => by
    cases r1
    refine ⟨i, rfl, h0, h1, q _ S1 H1 g1 fun S2 H2 e1 e2 k => ⟨fun d hd => ?_, fun hk => ?_⟩⟩
    · rw [List.getElem?_map] at hd
      cases hr : (List.range i.toNat)[k]? with
      | none =>
        rw [hr] at hd
        cases hd
      | some w =>
        rw [hr] at hd
        obtain ⟨hk, ew⟩ := List.getElem?_eq_some_iff.mp hr
        rw [List.getElem_range] at ew
        rw [List.length_range] at hk
        subst ew
        obtain rfl : D.int (k : Int) = d := Option.some.inj hd
        refine ⟨hk, fun y H3 hy => ⟨hy.1, ?_⟩⟩
        rw [hy.2, Int.zero_add]
        exact .int _
    · rw [List.length_map, List.length_range] at hk
      exact hk
theorem if_range2 {i j : Int} (T : Bl G.U.mg) (ha : ED G a ρ (.sh (.int i))) (hb : ED G b ρ (.sh (.int j))) (h1 : -(2 ^ 62) ≤ i ∧ i < 2 ^ 62 ∧ -(2 ^ 62) ≤ j ∧ j < 2 ^ 62) (hg : GlN G "range")
    (hs : (∀ env, starEach [a, b] env = [(false, eval a env), (false, eval b env)]) ∧ Star1' b := by exact ⟨by intro _; rfl, by intro _; rfl⟩) : IF G tg (.Call (.Name "range" p) [a, b] [] pos) ρ ((List.range (j - i).toNat).map fun (k : Nat) => D.int (i + (k : Int))) :=
  .of (wi := iRng2 (tCons (tG G a) (tCons (tG G b) tNil))) (fun X h => pi_range2 (gl_of h hg) (by rw [h.mg]; exact T.range) (pa_cons (pe_of h) (pa_cons (pe_of h) pa_nil (hs := hs.2 _)) (hs := by rw [hs.1, hs.2])) (hs.1 _) (hs.2 _)) fun B S H σ ex sl R q =>
    ha B S H σ ex sl _ fun v S1 H1 g1 r1 => hb B S1 H1 σ g1.sh (sl.go g1) _ fun w S2 H2 g2 r2 => by
    cases r1
    cases r2
    refine ⟨i, j, rfl, h1, q _ S2 H2 (g1.trans g2) fun S3 H3 e1 e2 k => ⟨fun d hd => ?_, fun hk => ?_⟩⟩
    · rw [List.getElem?_map] at hd
      cases hr : (List.range (j - i).toNat)[k]? with
      | none =>
        rw [hr] at hd
        cases hd
      | some w =>
        rw [hr] at hd
        obtain ⟨hk, ew⟩ := List.getElem?_eq_some_iff.mp hr
        rw [List.getElem_range] at ew
        rw [List.length_range] at hk
        subst ew
        obtain rfl : D.int (i + (k : Int)) = d := Option.some.inj hd
        refine ⟨hk, fun y H3 hy => ⟨hy.1, ?_⟩⟩
        rw [hy.2]
        exact .int _
    · rw [List.length_map, List.length_range] at hk
      exact hk
theorem IF.ic {ds : List D} (h : IF G tg it ρ ds) (hz : ds.length ≤ sizeLine) : IC G tg it ρ ds := ⟨EvF.evI h.run hz⟩
end

/-! ### comprehensions -/
def wipeR (ρ : List Sl) : List Nat → List Sl
  | [] => ρ
  | v :: vs => (wipeR ρ vs).set v .no
theorem slots_wipe {U : Wd} {B S H : Hp} {σ : L2.St} {ρ : List Sl} (s : Slots U B S H σ ρ) : ∀ vs : List Nat, Slots U B S H (wipe σ vs) (wipeR ρ vs)
  | [] => s
  | v :: vs => (slots_wipe s vs).setNo v
theorem wipe_none {σ : L2.St} {j : Nat} : ∀ {vs : List Nat}, j ∈ vs → j < σ.length → (wipe σ vs)[j]? = some none
  | v :: vs, h, hl => by
    show ((wipe σ vs).set v none)[j]? = some none
    by_cases e : v = j
    · subst e
      rw [List.getElem?_set_self (by rw [wipe_length]; exact hl)]
    · rw [List.getElem?_set_ne e]
      exact wipe_none ((List.mem_cons.mp h).resolve_left (Ne.symm e)) hl
theorem wipe_ext {σ τ : L2.St} {vs : List Nat} (hl : σ.length = τ.length) (h : ∀ i, i ∉ vs → σ[i]? = τ[i]?) : wipe σ vs = wipe τ vs := by
  refine List.ext_getElem? fun i => ?_
  by_cases hi : i ∈ vs
  · by_cases hb : i < σ.length
    · rw [wipe_none hi hb, wipe_none hi (by omega)]
    · rw [List.getElem?_eq_none (by rw [wipe_length]; omega), List.getElem?_eq_none (by rw [wipe_length]; omega)]
  · rw [wipe_out hi, wipe_out hi, h i hi]
theorem nej {vs : List Nat} {i j : Nat} (hi : i ∉ vs) (hj : j ∈ vs) : j ≠ i := fun e => hi (by rw [← e]; exact hj)
theorem wipe_set {σ : L2.St} {vs : List Nat} {j : Nat} {v : Option V} (hj : j ∈ vs) : wipe ((wipe σ vs).set j v) vs = wipe σ vs :=
  wipe_ext (by rw [List.length_set, wipe_length]) fun i hi => by
    rw [List.getElem?_set_ne (nej hi hj), wipe_out hi]
theorem wipe_set2 {σ : L2.St} {vs : List Nat} {j k : Nat} {v w : Option V} (hj : j ∈ vs) (hk : k ∈ vs) : wipe (((wipe σ vs).set j v).set k w) vs = wipe σ vs :=
  wipe_ext (by rw [List.length_set, List.length_set, wipe_length]) fun i hi => by
    rw [List.getElem?_set_ne (nej hi hk), List.getElem?_set_ne (nej hi hj), wipe_out hi]
/-- what a target makes of an item: the slots behind it -/
structure GD (K : PySem.W.Frag) (g : TG) (vs : List Nat) (d : D) (set : List Sl → List Sl) : Prop where
  run : ∀ (U : Wd) (B S H : Hp) (σ : L2.St) (ρ : List Sl) (v : V), U.K = K → Ex S H → Slots U B S H σ ρ → Rep U S v d → ∀ Q : L2.St → Hp → Prop, (∀ σ', (∀ i, i ∉ vs → σ'[i]? = σ[i]?) → σ'.length = σ.length → Slots U B S H σ' (set ρ) → Q σ' H) → g v σ H Q
theorem gd_name {K : PySem.W.Frag} {d : D} {j : Nat} {vs : List Nat} (hj : j ∈ vs) : GD K (gName j) vs d fun ρ => ρ.set j (.sh d) := ⟨fun U B S H σ ρ v _ e s r Q q =>
  q _ (fun i hi => List.getElem?_set_ne (nej hi hj)) List.length_set (s.setSh j r)⟩
theorem gd_pair {K : PySem.W.Frag} {d d' : D} {j k : Nat} {vs : List Nat} (hj : j ∈ vs) (hk : k ∈ vs) : GD K (gTup K 2 (gCons (gName j) (gCons (gName k) gNil))) vs (.tup [d, d']) fun ρ => (ρ.set j (.sh d)).set k (.sh d') := ⟨fun U B S H σ ρ v hK e s r Q q => by
  subst hK
  cases r with
  | tup h1 z h2 =>
    cases h2 with
    | cons a h2 =>
      cases h2 with
      | cons b h2 =>
        cases h2
        refine ⟨_, _, rfl, .of (e _ _ h1), rfl, _, _, rfl, _, _, rfl, rfl, ?_⟩
        refine q _ (fun i hi => ?_) (by rw [List.length_set, List.length_set]) ((s.setSh j a).setSh k b)
        rw [List.getElem?_set_ne (nej hi hk), List.getElem?_set_ne (nej hi hj)]⟩
/-- the tests of a comprehension -/
def TsD (G : Gx) (ifs : List Expr) (ρ : List Sl) (b : Bool) : Prop := match ifs with
  | [] => b = true
  | [c] => TD G c ρ b
  | _ => False
theorem lc_core' {G : Gx} {ρ : List Sl} {elt tgt it : Expr} {ifs : List Expr} {scope : Scope} {own : List (Str × Nat)} {α : Type} {xs : List α} {enc : α → D} {pr : α → Bool} {f : α → D} {g : TG} {set : α → List Sl → List Sl} {tt : TT}
    (hN : G.N.Nodup) (hi : IC G tgt it ρ (xs.map enc)) (ok : blkC G.N G.sc scope own = true)
    (hg : ∀ X, (G.blk scope).is X → PG X tgt g) (gd : ∀ i : α, GD G.U.K g (own.map (·.2)) (enc i) (set i)) (hts : ∀ X, (G.blk scope).is X → PTs X ifs tt)
    (ht : ∀ i ∈ xs, EvT G.U tt (set i (wipeR ρ (own.map (·.2)))) (pr i))
    (he : ∀ i ∈ xs, pr i = true → ED (G.blk scope) elt (set i (wipeR ρ (own.map (·.2)))) (.sh (f i))) :
    EvD G.U (tLc (tGI G tgt it) g tt (tG (G.blk scope) elt) (own.map (·.2))) ρ (.fr ((xs.filter pr).map f)) := fun B S H σ ex sl Q q => by
  refine hi B S H σ ex sl _ fun J S1 H1 g1 wk hz0 => fun Dl hD => ?_
  have hz : xs.length ≤ sizeLine := by rw [List.length_map] at hz0; exact hz0
  have nS : S1 Dl = none := g1.sh.back hD
  refine ⟨fun i m H' => m = xs.length - i ∧ i ≤ xs.length ∧ ∃ S' acc, Ex S1 S' ∧ Ex S' H' ∧ Ex H1 H' ∧ (∀ a, S' a ≠ none → S1 a ≠ none ∨ H1 a = none) ∧ S' Dl = none ∧ H' Dl = some (.lst acc) ∧ RepL G.U S' acc (((xs.take i).filter pr).map f),
    ⟨xs.length, rfl, Nat.zero_le _, S1, [], Ex.refl _, g1.sh.trans (Ex.new hD), Ex.new hD, fun _ h => .inl h, nS, upd_same, .nil⟩, ?_⟩
  rintro i m H' ⟨rfl, hle, S', acc, e1, e2, e3, nw, sD, hacc, rl⟩
  obtain ⟨wgo, wstop⟩ := wk S' H' e1 e2 e3 i
  by_cases hlt : i < xs.length
  · have gi : xs[i]? = some xs[i] := List.getElem?_eq_getElem hlt
    obtain ⟨go, hy⟩ := wgo (enc xs[i]) (by rw [List.getElem?_map, gi]; rfl)
    have hmem : xs[i] ∈ xs := List.getElem_mem hlt
    have tk : xs.take (i + 1) = xs.take i ++ [xs[i]] := by rw [List.take_add_one, gi]; rfl
    refine .inr ⟨go, fun H2 => ∃ S2 acc2, Ex S1 S2 ∧ Ex S2 H2 ∧ Ex H1 H2 ∧ (∀ a, S2 a ≠ none → S1 a ≠ none ∨ H1 a = none) ∧ S2 Dl = none ∧ H2 Dl = some (.lst acc2) ∧ RepL G.U S2 acc2 (((xs.take (i + 1)).filter pr).map f), fun H2 h2 => ⟨xs.length - (i + 1), by omega, rfl, hlt, h2⟩, fun y H2 hy2 => ?_⟩
    obtain ⟨rfl, ry⟩ := hy y H2 hy2
    have slw : Slots G.U B S' H2 (wipe σ (own.map (·.2))) (wipeR ρ (own.map (·.2))) := slots_wipe (((sl.go g1).go ⟨e1, e2, e3, nw⟩)) _
    refine (gd xs[i]).run G.U B S' H2 _ _ y rfl e2 slw ry _ fun σ' ho hl' sl' => ?_
    refine ⟨wipe_ext (by rw [hl', wipe_length]) fun k hk => ?_, ?_⟩
    · rw [ho k hk, wipe_out hk]
    refine ht xs[i] hmem B S' H2 σ' e2 sl' _ fun S3 H3 g3 => ?_
    have s3D : S3 Dl = none := g3.own hacc sD
    have h3D : H3 Dl = some (.lst acc) := g3.bh _ _ hacc
    have nw3 : ∀ a, S3 a ≠ none → S1 a ≠ none ∨ H1 a = none := fun a h => (g3.nw a h).elim (nw a) fun z => .inr (e3.back z)
    cases hp : pr xs[i] with
    | false =>
      rw [if_neg Bool.false_ne_true]
      refine ⟨S3, acc, e1.trans g3.ss, g3.sh, e3.trans g3.bh, nw3, s3D, h3D, ?_⟩
      rw [tk, List.filter_append, List.filter_cons_of_neg (by rw [hp]; exact Bool.false_ne_true), List.filter_nil, List.append_nil]
      exact rl.mono g3.ss
    | true =>
      rw [if_pos rfl]
      refine he xs[i] hmem hp B S3 H3 σ' g3.sh (sl'.go g3) _ fun u S4 H4 g4 r4 => ?_
      have s4D : S4 Dl = none := g4.own h3D s3D
      have h4D : H4 Dl = some (.lst acc) := g4.bh _ _ h3D
      refine ⟨acc, h4D, ?_, S4, acc ++ [u], (e1.trans g3.ss).trans g4.ss, Ex.mut g4.sh s4D, Ex.mut ((e3.trans g3.bh).trans g4.bh) hD, fun a h => (g4.nw a h).elim (nw3 a) fun z => .inr ((e3.trans g3.bh).back z), s4D, upd_same, ?_⟩
      · rw [rl.length, List.length_map]
        have := List.length_filter_le pr (xs.take i)
        rw [List.length_take] at this
        omega
      · rw [tk, List.filter_append, List.filter_cons_of_pos hp, List.filter_nil, List.map_append]
        exact (rl.mono (g3.ss.trans g4.ss)).append (.cons r4 .nil)
  · have ei : i = xs.length := by omega
    refine .inl ⟨wstop (by rw [List.length_map]; omega), q _ S' H' ⟨g1.ss.trans e1, e2, g1.bh.trans e3, fun a h => (nw a h).elim (g1.nw a) fun z => .inr (g1.bh.back z)⟩ ⟨Dl, acc, rfl, hacc, sD, g1.bh.back hD, ?_, ?_⟩⟩
    · rw [rl.length, List.length_map]
      have := List.length_filter_le pr (xs.take i)
      rw [List.length_take] at this
      omega
    · rw [ei, List.take_length] at rl
      exact rl
section
variable {G : Gx} {ρ : List Sl} {elt it : Expr} {scope : Scope} {own : List (Str × Nat)} {pos p p1 p2 : Pos} {α : Type} {xs : List α} {enc : α → D} {pr : α → Bool} {f : α → D}
abbrev fnOf (scope : Scope) : Str → Bool := fun x => scope.names.lookup x == some .cell
/-- a comprehension: as a value, and as what a name is given -/
structure LD (G : Gx) (e : Expr) (ρ : List Sl) (ds : List D) : Prop where
  ex : ∃ te : TE, (∀ X, G.is X → PE X e te) ∧ (∀ X, G.is X → ∀ (i : Nat) (y : Str) (py spos : Pos), X.N[i]? = some y → X.env.scope.names.lookup y = some .local → swapsWith e (some (.Name y py)) spos.line X.env = pure true → PS X (.Assign [.Name y py] e spos) (tAsg te (gName i))) ∧ EvD G.U te ρ (.fr ds)
theorem LD.ed {e : Expr} {ds : List D} (h : LD G e ρ ds) : ED G e ρ (.fr ds) := by
  obtain ⟨te, h1, _, h3⟩ := h.ex
  exact .of h1 h3
/-- [elt for n in it] -/
theorem pgn {n : Str} {j : Nat} (hN : G.N.Nodup) (hj : G.N[j]? = some n) (hl : Loc (relS scope G.sc) n) (hf : fnOf scope n = true ∨ (relS scope G.sc).names.lookup n = some .local) : ∀ X, (G.blk scope).is X → PG X (.Name n p) (gName j) := fun X h =>
  pg_name (by rw [h.N]; exact hN) (by rw [h.N]; exact hj) (by rw [h.sc]; exact hl) (by rw [h.fn, h.sc]; exact hf)
/-- in one line: the name is a local or a cell of the block -/
def ownC (sc scope : Scope) (n : Str) : Bool := (decide ((relS scope sc).names.lookup n = some .local) || (decide ((relS scope sc).names.lookup n = some .cell) && fnOf scope n))
theorem ownC_loc {n : Str} (h : ownC G.sc scope n = true) : Loc (relS scope G.sc) n ∧ (fnOf scope n = true ∨ (relS scope G.sc).names.lookup n = some .local) := by
  unfold ownC at h
  rw [Bool.or_eq_true, Bool.and_eq_true] at h
  rcases h with h | ⟨h1, h2⟩
  · exact ⟨.inl (of_decide_eq_true h), .inr (of_decide_eq_true h)⟩
  · exact ⟨.inr (of_decide_eq_true h1), .inl h2⟩
theorem blk1 {n : Str} (hN : G.N.Nodup) (hj : G.N.idxOf n < G.N.length) (ok : blkC G.N G.sc scope [(n, G.N.idxOf n)] = true) (hl : ownC G.sc scope n = true) : ∀ X, (G.blk scope).is X → PG X (.Name n p) (gName (G.N.idxOf n)) := pgn hN (ixAt hj) (ownC_loc hl).1 (ownC_loc hl).2
theorem ld_lc0 {n : Str} {pn : Pos} (hN : G.N.Nodup) (hi : IC G (.Name n pn) it ρ (xs.map enc)) (hj : G.N.idxOf n < G.N.length) (ok : blkC G.N G.sc scope [(n, G.N.idxOf n)] = true) (hl : ownC G.sc scope n = true)
    (he : ∀ i ∈ xs, ED (G.blk scope) elt ((wipeR ρ [G.N.idxOf n]).set (G.N.idxOf n) (.sh (enc i))) (.sh (f i))) (hs : ∀ env x, foldedSetIterable it env x = pure x := by intros; rfl) :
    LD G (.ListComp elt [⟨.Name n pn, it, [], 0⟩] scope pos) ρ (xs.map f) := by
  have h := lc_core' (pr := fun _ => true) (tt := tYes) hN hi ok (blk1 hN hj ok hl) (fun i => gd_name (by simp)) (fun _ _ => pts_nil) (fun i _ B S H σ ex sl Q q => q S H (Go.refl ex)) (fun i hi _ => he i hi)
  rw [List.filter_eq_self.mpr fun _ _ => rfl] at h
  exact ⟨_, fun X k => pe_lc k.calm (by rw [k.N]; exact hN) (pi_of k) (by rw [k.N, k.sc]; exact blkOk_by ok) (fun s H C cl fp => blk1 hN hj ok hl _ (k.blk s H C cl fp)) (fun s H C cl fp => pts_nil) (fun s H C cl fp => pe_of (k.blk s H C cl fp)) (hs _),
    fun X k i y py spos hy hyl hsw => ps_setLc k.calm (by rw [k.N]; exact hN) hy hyl hsw (pi_of k) (by rw [k.N, k.sc]; exact blkOk_by ok) (fun s H C cl fp => blk1 hN hj ok hl _ (k.blk s H C cl fp)) (fun s H C cl fp => pts_nil) (fun s H C cl fp => pe_of (k.blk s H C cl fp)) (hs _), h⟩
theorem ld_lc1 {n : Str} {pn : Pos} {c : Expr} (hN : G.N.Nodup) (hi : IC G (.Name n pn) it ρ (xs.map enc)) (hj : G.N.idxOf n < G.N.length) (ok : blkC G.N G.sc scope [(n, G.N.idxOf n)] = true) (hl : ownC G.sc scope n = true)
    (ht : ∀ i ∈ xs, TD (G.blk scope) c ((wipeR ρ [G.N.idxOf n]).set (G.N.idxOf n) (.sh (enc i))) (pr i))
    (he : ∀ i ∈ xs, pr i = true → ED (G.blk scope) elt ((wipeR ρ [G.N.idxOf n]).set (G.N.idxOf n) (.sh (enc i))) (.sh (f i))) (hs : ∀ env x, foldedSetIterable it env x = pure x := by intros; rfl) :
    LD G (.ListComp elt [⟨.Name n pn, it, [c], 0⟩] scope pos) ρ ((xs.filter pr).map f) :=
  ⟨_, fun X k => pe_lc k.calm (by rw [k.N]; exact hN) (pi_of k) (by rw [k.N, k.sc]; exact blkOk_by ok) (fun s H C cl fp => blk1 hN hj ok hl _ (k.blk s H C cl fp)) (fun s H C cl fp => pts_one (pt_of (k.blk s H C cl fp))) (fun s H C cl fp => pe_of (k.blk s H C cl fp)) (hs _),
    fun X k i y py spos hy hyl hsw => ps_setLc k.calm (by rw [k.N]; exact hN) hy hyl hsw (pi_of k) (by rw [k.N, k.sc]; exact blkOk_by ok) (fun s H C cl fp => blk1 hN hj ok hl _ (k.blk s H C cl fp)) (fun s H C cl fp => pts_one (pt_of (k.blk s H C cl fp))) (fun s H C cl fp => pe_of (k.blk s H C cl fp)) (hs _),
    (lc_core' hN hi ok (blk1 hN hj ok hl) (fun i => gd_name (by simp)) (fun X h => pts_one (pt_of h)) (fun i hi => (ht i hi).run) he)⟩
/-- [elt for n, m in it] -/
theorem blk2 {n m : Str} {pn pm : Pos} {k} (hN : G.N.Nodup) (hj : G.N.idxOf n < G.N.length) (hj2 : G.N.idxOf m < G.N.length) (hl : ownC G.sc scope n = true) (hl2 : ownC G.sc scope m = true) :
    ∀ X, (G.blk scope).is X → PG X (.Tuple [.Name n pn, .Name m pm] k p) (gTup G.U.K 2 (gCons (gName (G.N.idxOf n)) (gCons (gName (G.N.idxOf m)) gNil))) := fun X h => by
  have hk : X.K = G.U.K := h.K
  rw [← hk]
  exact pg_tup h.calm (pgs_cons (pgn hN (ixAt hj) (ownC_loc hl).1 (ownC_loc hl).2 X h) (pgs_cons (pgn hN (ixAt hj2) (ownC_loc hl2).1 (ownC_loc hl2).2 X h) pgs_nil))
theorem ld_lcp0 {n m : Str} {pn pm : Pos} {k} {e1 e2 : α → D} (hN : G.N.Nodup) (hi : IC G (.Tuple [.Name n pn, .Name m pm] k p) it ρ (xs.map fun i => D.tup [e1 i, e2 i])) (hj : G.N.idxOf n < G.N.length) (hj2 : G.N.idxOf m < G.N.length) (ok : blkC G.N G.sc scope [(n, G.N.idxOf n), (m, G.N.idxOf m)] = true) (hl : ownC G.sc scope n = true) (hl2 : ownC G.sc scope m = true)
    (he : ∀ i ∈ xs, ED (G.blk scope) elt (((wipeR ρ [G.N.idxOf n, G.N.idxOf m]).set (G.N.idxOf n) (.sh (e1 i))).set (G.N.idxOf m) (.sh (e2 i))) (.sh (f i))) (hs : ∀ env x, foldedSetIterable it env x = pure x := by intros; rfl) :
    LD G (.ListComp elt [⟨.Tuple [.Name n pn, .Name m pm] k p, it, [], 0⟩] scope pos) ρ (xs.map f) := by
  have h := lc_core' (pr := fun _ => true) (tt := tYes) hN hi ok (blk2 hN hj hj2 hl hl2) (fun i => gd_pair (by simp) (by simp)) (fun _ _ => pts_nil) (fun i _ B S H σ ex sl Q q => q S H (Go.refl ex)) (fun i hi _ => he i hi)
  rw [List.filter_eq_self.mpr fun _ _ => rfl] at h
  exact ⟨_, fun X q => pe_lc q.calm (by rw [q.N]; exact hN) (pi_of q) (by rw [q.N, q.sc]; exact blkOk_by ok) (fun s H C cl fp => blk2 hN hj hj2 hl hl2 _ (q.blk s H C cl fp)) (fun s H C cl fp => pts_nil) (fun s H C cl fp => pe_of (q.blk s H C cl fp)) (hs _),
    fun X q i y py spos hy hyl hsw => ps_setLc q.calm (by rw [q.N]; exact hN) hy hyl hsw (pi_of q) (by rw [q.N, q.sc]; exact blkOk_by ok) (fun s H C cl fp => blk2 hN hj hj2 hl hl2 _ (q.blk s H C cl fp)) (fun s H C cl fp => pts_nil) (fun s H C cl fp => pe_of (q.blk s H C cl fp)) (hs _), h⟩
theorem ld_lcp1 {n m : Str} {pn pm : Pos} {k} {c : Expr} {e1 e2 : α → D} (hN : G.N.Nodup) (hi : IC G (.Tuple [.Name n pn, .Name m pm] k p) it ρ (xs.map fun i => D.tup [e1 i, e2 i])) (hj : G.N.idxOf n < G.N.length) (hj2 : G.N.idxOf m < G.N.length) (ok : blkC G.N G.sc scope [(n, G.N.idxOf n), (m, G.N.idxOf m)] = true) (hl : ownC G.sc scope n = true) (hl2 : ownC G.sc scope m = true)
    (ht : ∀ i ∈ xs, TD (G.blk scope) c (((wipeR ρ [G.N.idxOf n, G.N.idxOf m]).set (G.N.idxOf n) (.sh (e1 i))).set (G.N.idxOf m) (.sh (e2 i))) (pr i))
    (he : ∀ i ∈ xs, pr i = true → ED (G.blk scope) elt (((wipeR ρ [G.N.idxOf n, G.N.idxOf m]).set (G.N.idxOf n) (.sh (e1 i))).set (G.N.idxOf m) (.sh (e2 i))) (.sh (f i))) (hs : ∀ env x, foldedSetIterable it env x = pure x := by intros; rfl) :
    LD G (.ListComp elt [⟨.Tuple [.Name n pn, .Name m pm] k p, it, [c], 0⟩] scope pos) ρ ((xs.filter pr).map f) :=
  ⟨_, fun X q => pe_lc q.calm (by rw [q.N]; exact hN) (pi_of q) (by rw [q.N, q.sc]; exact blkOk_by ok) (fun s H C cl fp => blk2 hN hj hj2 hl hl2 _ (q.blk s H C cl fp)) (fun s H C cl fp => pts_one (pt_of (q.blk s H C cl fp))) (fun s H C cl fp => pe_of (q.blk s H C cl fp)) (hs _),
    fun X q i y py spos hy hyl hsw => ps_setLc q.calm (by rw [q.N]; exact hN) hy hyl hsw (pi_of q) (by rw [q.N, q.sc]; exact blkOk_by ok) (fun s H C cl fp => blk2 hN hj hj2 hl hl2 _ (q.blk s H C cl fp)) (fun s H C cl fp => pts_one (pt_of (q.blk s H C cl fp))) (fun s H C cl fp => pe_of (q.blk s H C cl fp)) (hs _),
    (lc_core' hN hi ok (blk2 hN hj hj2 hl hl2) (fun i => gd_pair (by simp) (by simp)) (fun X h => pts_one (pt_of h)) (fun i hi => (ht i hi).run) he)⟩
end
end Mb
set_option Elab.async false
set_option linter.all false
set_option maxRecDepth 100000
set_option maxHeartbeats 4000000
namespace Mb
open PySem PySem.Spec PyProof.Rows L2

/-! ### promises of defs -/
abbrev Ot := Rs ⊕ Addr
def spX (U : Wd) (A : List D → Ot → Prop) : Sp := fun vs H Q E => ∃ ds o S, A ds o ∧ Ex S H ∧ RepL U S vs ds ∧ (∀ r, o = .inl r → ∀ v S' H', Go S H S' H' → RepR U H S' H' v r → Q v H') ∧ (∀ c, o = .inr c → ∀ H', Ex H H' → E (.ref c) none H')
/-- a def of the module that keeps A -/
structure FnT (U : Wd) (x : Str) (k : Nat) (A : List D → Ot → Prop) : Prop where
  ex : ∃ f fd ps, U.mg x = some (.ref f) ∧ PySem.W.keepIn U.K (.ref f) = true ∧ Binds U.K fd ps [] ∧ FnOk U.P U.w U.K U.mg U.base (L2.CX U.P U.w) k f fd ps (spX U A)
/-- a method of the table's class -/
structure MtT (U : Wd) (m : Str) (k : Nat) (A : List D → Ot → Prop) : Prop where
  ex : ∃ f fd ps, Meth U.K U.C m f ∧ Binds U.K fd ps [] ∧ FnOk U.P U.w U.K U.mg U.base (L2.CX U.P U.w) k f fd ps (spX U A)
/-- the table's class as it stands -/
structure TabOk (U : Wd) : Prop where
  cls : Cls U.K U.C
  nM : NoAttr U.K U.C "many"
  nR : NoAttr U.K U.C "rows"
section
variable {G : Gx} {ρ : List Sl} {a b e o : Expr} {es : List Expr} {pos p apos : Pos} {r : Rs} {x m : Str} {k : Nat} {A : List D → Ot → Prop} {ds : List D}
theorem FnOk.at {X : Cx} (h : G.is X) {CX : CXT} {f : Addr} {fd : FuncData} {ps : List Str} {sp : Sp} (F : FnOk G.U.P G.U.w G.U.K G.U.mg G.U.base CX k f fd ps sp) : FnOk X.prog X.w X.K X.mg X.base CX k f fd ps sp := by
  rw [h.prog, h.w, h.K, h.mg, h.base]
  exact F
theorem CX_at {X : Cx} (h : G.is X) : L2.CX G.U.P G.U.w = L2.CX X.prog X.w := by rw [h.prog, h.w]
abbrev StarN (e : Expr) (es : List Expr) : Prop := (∀ env, starEach (e :: es) env = (false, eval e env) :: starEach es env) ∧ ∀ env (pos : Pos), (backTo pos (starEach es env)).any (·.1) = false
theorem ed_call (T : FnT G.U x k A) (hk : k ≤ G.k) (hg : GlN G x) (ha : AD G (e :: es) ρ ds) (hA : A ds (.inl r)) (hd : (x == ("__debug__" : Str)) = false := by rfl)
    (hs : StarN e es := by exact ⟨by intro _; rfl, by intros; rfl⟩) : ED G (.Call (.Name x p) (e :: es) [] pos) ρ r := by
  obtain ⟨f, fd, ps, gm, kp, bd, F⟩ := T.ex
  refine .of (te := tCall (spX G.U A) [] E0 (tGA G (e :: es))) (fun X h => pe_call (CX := L2.CX G.U.P G.U.w) (ds := []) (FnOk.at h F) (h.room.mono hk) (gl_of h hg) (by rw [h.mg]; exact gm) (by rw [h.K]; exact kp) (by rw [h.K]; exact bd) .nil (by rw [CX_at h]; exact passL) (pa_of h) hd (hs.1 _) (hs.2 _ _)) ?_
  intro B S H σ ex sl Q q
  refine ha B S H σ ex sl _ fun vs S1 H1 g1 r1 => ?_
  rw [List.append_nil]
  exact ⟨ds, .inl r, S1, hA, g1.sh, r1, fun r' hr v S2 H2 g2 r2 => by
    cases hr
    exact q v S2 H2 (g1.trans g2) (r2.base g1.bh), fun c hc => nomatch hc⟩
abbrev MethEv (o : Expr) (m : Str) (apos : Pos) (es : List Expr) (pos : Pos) : Prop := ∀ env, ∃ pl : Sem Bool, eval (.Call (.Attribute o m apos) es [] pos) env = (do
      let ov ← eval o env
      standAt apos.atName
      let (f, first) ← holding [ov] (getMethod ov m pl)
      callWith pos f first (backTo pos (starEach es env)) (backToKw pos (keywordEach [] env)))
theorem tab_look {U : Wd} {S : Hp} {v : V} {i : Int} {rows : List (List Int)} (h : Rep U S v (.tab i rows)) : ∃ a dx rp, v = .ref a ∧ S a = some (.ins U.C dx [("many", .int i), ("rows", .ref rp)]) ∧ Rep U S (.ref rp) (.lst (rows.map fun r => D.ints r)) := by
  cases h with
  | tab h1 h2 z h3 => exact ⟨_, _, _, rfl, h1, .lst h2 z h3⟩
/-- a table, made or being made, with its count -/
def D.many? : D → Option Int
  | .tab i _ => some i
  | .par i => some i
  | _ => none
theorem obj_look {U : Wd} {S : Hp} {v : V} {d : D} {i : Int} (h : Rep U S v d) (hd : d.many? = some i) : ∃ a dx fs, v = .ref a ∧ S a = some (.ins U.C dx fs) ∧ List.lookup ("many" : Str) fs = some (V.int i) ∧ ∀ m : Str, (m == ("many" : Str)) = false → (m == ("rows" : Str)) = false → List.lookup m fs = none := by
  cases h with
  | tab h1 h2 z h3 =>
    obtain rfl := Option.some.inj (show some _ = some i from hd)
    exact ⟨_, _, _, rfl, h1, rfl, fun m a b => by rw [List.lookup_cons, a, List.lookup_cons, b] <;> rfl⟩
  | par h1 =>
    obtain rfl := Option.some.inj (show some _ = some i from hd)
    exact ⟨_, _, _, rfl, h1, rfl, fun m a b => by rw [List.lookup_cons, a] <;> rfl⟩
  | _ => cases hd
abbrev MethN (m : Str) : Prop := (m == ("many" : Str)) = false ∧ (m == ("rows" : Str)) = false
theorem ed_meth {d : D} {i : Int} (C : TabOk G.U) (T : MtT G.U m k A) (hk : k ≤ G.k) (ho : ED G o ρ (.sh d)) (hd : d.many? = some i) (ha : AD G (e :: es) ρ ds) (hA : A (d :: ds) (.inl r))
    (hm : MethN m := by exact ⟨by rfl, by rfl⟩)
    (hs : StarN e es := by exact ⟨by intro _; rfl, by intros; rfl⟩) (ht : MethEv o m apos (e :: es) pos := by exact fun _ => ⟨_, rfl⟩) : ED G (.Call (.Attribute o m apos) (e :: es) [] pos) ρ r := by
  obtain ⟨f, fd, ps, mt, bd, F⟩ := T.ex
  refine .of (te := tMeth G.U.C m (spX G.U A) [] E0 (tG G o) (tGA G (e :: es))) (fun X h => ?_) ?_
  · obtain ⟨pl, ht⟩ := ht X.env
    exact pe_meth (CX := L2.CX G.U.P G.U.w) (ds := []) (pl := pl) (pe_of h) (by rw [h.K]; exact C.cls) (by rw [h.K]; exact mt) (FnOk.at h F) (h.room.mono hk) (by rw [h.K]; exact bd) .nil (by rw [CX_at h]; exact passL) (pa_of h) (hs.1 _) (hs.2 _ _) ht
  intro B S H σ ex sl Q q
  refine ho B S H σ ex sl _ fun v S1 H1 g1 r1 => ?_
  obtain ⟨a, dx, fs, rfl, h1, _, h2⟩ := obj_look r1 hd
  refine ⟨a, dx, _, rfl, g1.sh _ _ h1, h2 m hm.1 hm.2, ?_⟩
  refine ha B S1 H1 σ g1.sh (sl.go g1) _ fun vs S2 H2 g2 r2 => ?_
  rw [List.append_nil]
  exact ⟨_, .inl r, S2, hA, g2.sh, .cons (Rep.mono g2.ss r1) r2, fun r' hr v S3 H3 g3 r3 => by
    cases hr
    exact q v S3 H3 ((g1.trans g2).trans g3) (r3.base (g1.bh.trans g2.bh)), fun c hc => nomatch hc⟩
theorem ed_many {d : D} {i : Int} (C : TabOk G.U) (ho : ED G o ρ (.sh d)) (hd : d.many? = some i) (hb : ∀ env, attributeBase o "many" env (eval o env) = eval o env := by intro _; rfl) : ED G (.Attribute o "many" pos) ρ (.sh (.int i)) :=
  .of (te := tFld G.U.K (tG G o) "many") (fun X h => by rw [← h.K]; exact pe_fld (pe_of h) (hb _)) fun B S H σ ex sl Q q => ho B S H σ ex sl _ fun v S1 H1 g1 r1 => by
    obtain ⟨a, dx, fs, rfl, h1, h2, _⟩ := obj_look r1 hd
    exact ⟨a, G.U.C, dx, _, .int i, rfl, g1.sh _ _ h1, C.cls, C.nM, h2, q _ S1 H1 g1 (.int i)⟩
theorem ed_rows {i : Int} {rows : List (List Int)} (C : TabOk G.U) (ho : ED G o ρ (.sh (.tab i rows))) (hb : ∀ env, attributeBase o "rows" env (eval o env) = eval o env := by intro _; rfl) : ED G (.Attribute o "rows" pos) ρ (.sh (.lst (rows.map fun r => D.ints r))) :=
  .of (te := tFld G.U.K (tG G o) "rows") (fun X h => by rw [← h.K]; exact pe_fld (pe_of h) (hb _)) fun B S H σ ex sl Q q => ho B S H σ ex sl _ fun v S1 H1 g1 r1 => by
    obtain ⟨a, dx, rp, rfl, h1, h2⟩ := tab_look r1
    exact ⟨a, G.U.C, dx, _, .ref rp, rfl, g1.sh _ _ h1, C.cls, C.nR, rfl, q _ S1 H1 g1 h2⟩
end

/-! ### contexts of statements -/
structure Gx.iss (G : Gx) (X : Cx) : Prop where
  is : G.is X
  own : PassesOwn (model X.prog X.w) X.A X.env X.xe
  stack : X.stack = X.env :: X.outer
  frame : X.env.frame = some X.env.locals
inductive Oc where
  | nx (ρ : List Sl) | rt (r : Rs) | bk (ρ : List Sl) | ct (ρ : List Sl) | ex (c : Addr) (ρ : List Sl)
structure Cn (U : Wd) (S B : Hp) (R : Oc → Prop) (D : Ends) (W : WX) : Prop where
  nx : ∀ ρ' S' H' σ', R (.nx ρ') → Go S B S' H' → Slots U B S' H' σ' ρ' → D.nx σ' H'
  rt : ∀ r v S' H', R (.rt r) → Go S B S' H' → RepR U B S' H' v r → D.rt v H'
  bk : ∀ ρ' S' H' σ', R (.bk ρ') → Go S B S' H' → Slots U B S' H' σ' ρ' → D.bk σ' H'
  ct : ∀ ρ' S' H' σ', R (.ct ρ') → Go S B S' H' → Slots U B S' H' σ' ρ' → D.ct σ' H'
  ex : ∀ c ρ' S' H' σ', R (.ex c ρ') → Go S B S' H' → Slots U B S' H' σ' ρ' → W (.ref c) none σ' H'
theorem Cn.go {U : Wd} {S B S1 H1 : Hp} {R : Oc → Prop} {D : Ends} {W : WX} (c : Cn U S B R D W) (g : Go S B S1 H1) : Cn U S1 B R D W :=
  ⟨fun a b d e f h i => c.nx a b d e f (g.transB h) i, fun a b d e f h i => c.rt a b d e f (g.transB h) i, fun a b d e f h i => c.bk a b d e f (g.transB h) i, fun a b d e f h i => c.ct a b d e f (g.transB h) i, fun a b d e i f h j => c.ex a b d e i f (g.transB h) j⟩
theorem Cn.imp {U : Wd} {S B : Hp} {R R' : Oc → Prop} {D : Ends} {W : WX} (c : Cn U S B R D W) (h : ∀ o, R' o → R o) : Cn U S B R' D W :=
  ⟨fun a b d e f => c.nx a b d e (h _ f), fun a b d e f => c.rt a b d e (h _ f), fun a b d e f => c.bk a b d e (h _ f), fun a b d e f => c.ct a b d e (h _ f), fun a b d e i f => c.ex a b d e i (h _ f)⟩
def tS (G : Gx) (W : WX) (ss : List Stmt) : TS := fun D σ H => ∀ X, G.iss X → Takes X W → ∀ pins s, Inv X pins σ H s → wpAny (model X.prog X.w) X.A (execs ss X.env) (SP X pins D) X.xe s
def tS1 (G : Gx) (W : WX) (st : Stmt) : TS := fun D σ H => ∀ X, G.iss X → Takes X W → ∀ pins s, Inv X pins σ H s → wpAny (model X.prog X.w) X.A (exec st X.env) (SP X pins D) X.xe s
def tX (G : Gx) (W : WX) (e : Expr) : TE := fun σ H Q => ∀ X, G.iss X → Takes X W → ∀ pins s, Inv X pins σ H s → wpAny (model X.prog X.w) X.A (eval e X.env) (EP X pins σ Q) X.xe s
structure SD (G : Gx) (ss : List Stmt) (ρ : List Sl) (R : Oc → Prop) : Prop where
  run : ∀ (W : WX) (B S H : Hp) (σ : L2.St) (D : Ends), Ex S H → Ex B H → Slots G.U B S H σ ρ → Cn G.U S B R D W → tS G W ss D σ H
structure S1 (G : Gx) (st : Stmt) (ρ : List Sl) (R : Oc → Prop) : Prop where
  run : ∀ (W : WX) (B S H : Hp) (σ : L2.St) (D : Ends), Ex S H → Ex B H → Slots G.U B S H σ ρ → Cn G.U S B R D W → tS1 G W st D σ H
/-- an expression that may raise -/
structure XD (G : Gx) (e : Expr) (ρ : List Sl) (O : Ot → Prop) : Prop where
  run : ∀ (W : WX) (B S H : Hp) (σ : L2.St), Ex S H → Slots G.U B S H σ ρ → ∀ Q : VK, (∀ r v S' H', O (.inl r) → Go S H S' H' → RepR G.U H S' H' v r → Q v H') → (∀ c H', O (.inr c) → Ex H H' → W (.ref c) none σ H') → tX G W e σ H Q
instance {G : Gx} {e : List Stmt} {ρ : List Sl} {R : Oc → Prop} : CoeFun (SD G e ρ R) fun _ => ∀ (W : WX) (B S H : Hp) (σ : L2.St) (D : Ends), Ex S H → Ex B H → Slots G.U B S H σ ρ → Cn G.U S B R D W → tS G W e D σ H := ⟨fun h => h.run⟩
instance {G : Gx} {e : Stmt} {ρ : List Sl} {R : Oc → Prop} : CoeFun (S1 G e ρ R) fun _ => ∀ (W : WX) (B S H : Hp) (σ : L2.St) (D : Ends), Ex S H → Ex B H → Slots G.U B S H σ ρ → Cn G.U S B R D W → tS1 G W e D σ H := ⟨fun h => h.run⟩
instance {G : Gx} {e : Expr} {ρ : List Sl} {O : Ot → Prop} : CoeFun (XD G e ρ O) fun _ => ∀ (W : WX) (B S H : Hp) (σ : L2.St), Ex S H → Slots G.U B S H σ ρ → ∀ Q : VK, (∀ r v S' H', O (.inl r) → Go S H S' H' → RepR G.U H S' H' v r → Q v H') → (∀ c H', O (.inr c) → Ex H H' → W (.ref c) none σ H') → tX G W e σ H Q := ⟨fun h => h.run⟩
section
variable {G : Gx} {W : WX} {X : Cx} {ss : List Stmt} {st : Stmt} {ρ : List Sl} {R : Oc → Prop} {e : Expr} {r : Rs}
theorem pss_of (h : G.iss X) (tk : Takes X W) : PSs X ss (tS G W ss) := ⟨fun pins s σ H D I q => q X h tk pins s I⟩
theorem ps_of (h : G.iss X) (tk : Takes X W) : PS X st (tS1 G W st) := ⟨fun pins s σ H D I q => q X h tk pins s I⟩
theorem px_of (h : G.iss X) (tk : Takes X W) : PE X e (tX G W e) := ⟨fun pins s σ H Q I q => q X h tk pins s I⟩
theorem S1.of {t : WX → TS} (h : ∀ X W, G.iss X → Takes X W → PS X st (t W)) (ev : ∀ (W : WX) (B S H : Hp) (σ : L2.St) (D : Ends), Ex S H → Ex B H → Slots G.U B S H σ ρ → Cn G.U S B R D W → t W D σ H) : S1 G st ρ R :=
  ⟨fun W B S H σ D ex eb sl cn X hX tk pins s I => (h X W hX tk).run pins s σ H D I (ev W B S H σ D ex eb sl cn)⟩
theorem ED.x (h : ED G e ρ r) {O : Ot → Prop} (q : O (.inl r)) : XD G e ρ O := ⟨fun W B S H σ ex sl Q q1 _ X hX tk pins s I => h B S H σ ex sl Q (fun v S' H' g rr => q1 r v S' H' q g rr) X hX.is pins s I⟩
theorem SD.imp {R' : Oc → Prop} (h : SD G ss ρ R') (q : ∀ o, R' o → R o) : SD G ss ρ R := ⟨fun W B S H σ D ex eb sl cn => h W B S H σ D ex eb sl (cn.imp q)⟩
theorem S1.imp {R' : Oc → Prop} (h : S1 G st ρ R') (q : ∀ o, R' o → R o) : S1 G st ρ R := ⟨fun W B S H σ D ex eb sl cn => h W B S H σ D ex eb sl (cn.imp q)⟩
/-- behind a statement the rest -/
def Sq (G : Gx) (ss : List Stmt) (R : Oc → Prop) : Oc → Prop
  | .nx ρ => SD G ss ρ R
  | o => R o
theorem sd_nil (h : R (.nx ρ)) : SD G [] ρ R := ⟨fun W B S H σ D ex eb sl cn X hX tk pins s I => pss_nil.run pins s σ H D I (cn.nx ρ S H σ h ⟨Ex.refl S, ex, eb, fun _ z => .inl z⟩ sl)⟩
theorem sd_cons (h : S1 G st ρ (Sq G ss R)) : SD G (st :: ss) ρ R := ⟨fun W B S H σ D ex eb sl cn X hX tk pins s I =>
  (pss_cons (ps_of hX tk) (pss_of hX tk)).run pins s σ H D I (h W B S H σ { D with nx := tS G W ss D } ex eb sl
    ⟨fun ρ' S' H' σ' a g s' => SD.run a W B S' H' σ' D g.sh g.bh s' (cn.go g), fun a b c d x => cn.rt a b c d x, fun a b c d x => cn.bk a b c d x, fun a b c d x => cn.ct a b c d x, fun a b c d i x => cn.ex a b c d i x⟩)⟩
/-- what is owned is counted among what stands -/
theorem slots_freeze {U : Wd} {B S H : Hp} {σ : L2.St} {ds : List D} {i : Nat} (ex : Ex S H) (eb : Ex B H) (sl : Slots U B S H σ ρ) (h : ρ[i]? = some (.own ds)) : ∃ S', Go S B S' H ∧ Slots U B S' H σ (ρ.set i (.sh (.lst ds))) := by
  obtain ⟨p, vs, h1, h2, h3, h4, z, h5⟩ := sl.own i ds h
  have g : Go S B (upd S p (.lst vs)) H := Go.add ⟨Ex.refl S, ex, eb, fun _ z => .inl z⟩ h2 h3 h4
  refine ⟨_, g, by rw [List.length_set]; exact sl.len, fun j d hj => ?_, fun j es hj => ?_, fun j k es fs q hj hk aj ak => ?_⟩
  · rcases setGet hj with ⟨rfl, e1, hl⟩ | ⟨ne, hj⟩
    · cases e1
      exact ⟨_, h1, .lst upd_same z (h5.mono g.ss)⟩
    · obtain ⟨v, a, b⟩ := sl.sh j d hj
      exact ⟨v, a, b.mono g.ss⟩
  · rcases setGet hj with ⟨rfl, e1, hl⟩ | ⟨ne, hj⟩
    · cases e1
    · obtain ⟨q, ws, a1, a2, a3, a4, z', a5⟩ := sl.own j es hj
      have npq : q ≠ p := fun e => ne (sl.sep i j ds es p h hj h1 (e ▸ a1))
      exact ⟨q, ws, a1, a2, by rw [upd_ne npq]; exact a3, a4, z', a5.mono g.ss⟩
  · rcases setGet hj with ⟨rfl, e1, hl⟩ | ⟨ne, hj⟩
    · cases e1
    · rcases setGet hk with ⟨rfl, e1, hl⟩ | ⟨ne', hk⟩
      · cases e1
      · exact sl.sep j k es fs q hj hk aj ak
theorem sd_freeze (i : Nat) {ds : List D} (h : ρ[i]? = some (.own ds)) (k : SD G ss (ρ.set i (.sh (.lst ds))) R) : SD G ss ρ R := ⟨fun W B S H σ D ex eb sl cn => by
  obtain ⟨S', g, s'⟩ := slots_freeze ex eb sl h
  exact k W B S' H σ D g.sh eb s' (cn.go g)⟩
theorem sd_forget (i : Nat) (k : SD G ss (ρ.set i .no) R) : SD G ss ρ R := ⟨fun W B S H σ D ex eb sl cn => k W B S H σ D ex eb (sl.forget i) cn⟩
end

/-! ### statements -/
section
variable {G : Gx} {ρ : List Sl} {R : Oc → Prop} {e tg it c : Expr} {pos p : Pos} {n : Str} {d : D} {ds : List D} {r : Rs} {body orelse : List Stmt}
def setOk (sc : Scope) (fn : Str → Bool) (n : Str) : Bool := decide (sc.names.lookup n = some .local) || (decide (sc.names.lookup n = some .cell) && fn n)
theorem setOk_loc (h : setOk G.sc G.fn n = true) : Loc G.sc n ∧ (G.fn n = true ∨ G.sc.names.lookup n = some .local) := by
  unfold setOk at h
  rw [Bool.or_eq_true, Bool.and_eq_true] at h
  rcases h with h | ⟨h1, h2⟩
  · exact ⟨.inl (of_decide_eq_true h), .inr (of_decide_eq_true h)⟩
  · exact ⟨.inr (of_decide_eq_true h1), .inl h2⟩
abbrev NoSwap (G : Gx) (e : Expr) (n : Str) (p pos : Pos) : Prop := ∀ X, G.iss X → swapsWith e (some (.Name n p)) pos.line X.env = pure false
theorem ps_setG {te : WX → TE} (hN : G.N.Nodup) (hi : G.N.idxOf n < G.N.length) (ok : setOk G.sc G.fn n = true) (hs : NoSwap G e n p pos) (he : ∀ X W, G.iss X → Takes X W → PE X e (te W)) : ∀ X W, G.iss X → Takes X W → PS X (.Assign [.Name n p] e pos) (tAsg (te W) (gName (G.N.idxOf n))) := fun X W h tk =>
  ps_set (by rw [h.is.N]; exact hN) (by rw [h.is.N]; exact ixAt hi) (by rw [h.is.sc]; exact (setOk_loc ok).1) (he X W h tk) (hs X h) (by rw [h.is.fn, h.is.sc]; exact (setOk_loc ok).2)
theorem asgG {te : WX → TE} {i : Nat} (ev : ∀ (W : WX) (B S H : Hp) (σ : L2.St), Ex S H → Slots G.U B S H σ ρ → ∀ Q : VK, (∀ v S' H', Go S H S' H' → RepR G.U H S' H' v (.sh d) → Q v H') → te W σ H Q) (hR : R (.nx (ρ.set i (.sh d)))) :
    ∀ (W : WX) (B S H : Hp) (σ : L2.St) (D : Ends), Ex S H → Ex B H → Slots G.U B S H σ ρ → Cn G.U S B R D W → tAsg (te W) (gName i) D σ H := fun W B S H σ D ex eb sl cn => ev W B S H σ ex sl _ fun v S1 H1 g1 r1 =>
  cn.nx _ S1 H1 _ hR (Go.keepB eb g1) (((sl.go g1)).setSh _ r1)
theorem asgO {te : WX → TE} {i : Nat} (ev : ∀ (W : WX) (B S H : Hp) (σ : L2.St), Ex S H → Slots G.U B S H σ ρ → ∀ Q : VK, (∀ v S' H', Go S H S' H' → RepR G.U H S' H' v (.fr ds) → Q v H') → te W σ H Q) (hR : R (.nx (ρ.set i (.own ds)))) :
    ∀ (W : WX) (B S H : Hp) (σ : L2.St) (D : Ends), Ex S H → Ex B H → Slots G.U B S H σ ρ → Cn G.U S B R D W → tAsg (te W) (gName i) D σ H := fun W B S H σ D ex eb sl cn => ev W B S H σ ex sl _ fun v S1 H1 g1 ⟨p, vs, e1, h1, h2, h3, z, h4⟩ => by
  subst e1
  refine cn.nx _ S1 H1 _ hR (Go.keepB eb g1) ((sl.go g1).setOwn _ h1 h2 (eb.back h3) z h4 fun j es hj hr hσ => ?_)
  obtain ⟨q, ws, a1, a2, _⟩ := sl.own j es hr
  rw [a1] at hσ
  obtain rfl : q = p := by
    have := Option.some.inj (Option.some.inj hσ)
    injection this
  rw [h3] at a2
  cases a2
theorem s_set (he : ED G e ρ (.sh d)) (hR : R (.nx (ρ.set (G.N.idxOf n) (.sh d)))) (hN : G.N.Nodup) (hi : G.N.idxOf n < G.N.length) (ok : setOk G.sc G.fn n = true) (hs : NoSwap G e n p pos := by intros _ _; rfl) : S1 G (.Assign [.Name n p] e pos) ρ R :=
  .of (ps_setG hN hi ok hs fun X W h tk => pe_of h.is) (asgG (te := fun _ => tG G e) (fun W => he.run) hR)
theorem s_own (he : ED G e ρ (.fr ds)) (hR : R (.nx (ρ.set (G.N.idxOf n) (.own ds)))) (hN : G.N.Nodup) (hi : G.N.idxOf n < G.N.length) (ok : setOk G.sc G.fn n = true) (hs : NoSwap G e n p pos := by intros _ _; rfl) : S1 G (.Assign [.Name n p] e pos) ρ R :=
  .of (ps_setG hN hi ok hs fun X W h tk => pe_of h.is) (asgO (te := fun _ => tG G e) (fun W => he.run) hR)
/-- n = [..], n a local name -/
theorem ps_lcG {te : TE} (hi : G.N.idxOf n < G.N.length) (ok : G.sc.names.lookup n = some .local) (hs : ∀ X, G.iss X → swapsWith e (some (.Name n p)) pos.line X.env = pure true)
    (he : ∀ X, G.is X → ∀ (i : Nat) (y : Str) (py spos : Pos), X.N[i]? = some y → X.env.scope.names.lookup y = some .local → swapsWith e (some (.Name y py)) spos.line X.env = pure true → PS X (.Assign [.Name y py] e spos) (tAsg te (gName i))) :
    ∀ X (W : WX), G.iss X → Takes X W → PS X (.Assign [.Name n p] e pos) (tAsg te (gName (G.N.idxOf n))) := fun X W h tk =>
  he X h.is _ _ _ _ (by rw [h.is.N]; exact ixAt hi) (by rw [h.is.sc]; exact ok) (hs X h)
theorem swapT {elt : Expr} {gs : List Comprehension} {scope : Scope} (hk : G.sc.kind = .function) (hy : G.sc.names.lookup n = some .local) (hl : (p.line == pos.line) = true) (ha : (scope.names.any fun (m, k) => m == n && (k == .local || k == .cell)) = false) {l : Nat} : ∀ X, G.iss X → swapsWith (.ListComp elt gs scope pos) (some (.Name n p)) l X.env = pure true := fun X h =>
  sw_true (by rw [h.is.sc]; exact hk) (by rw [h.is.sc]; exact hy) hl ha
theorem swapF {elt : Expr} {gs : List Comprehension} {scope : Scope} (hy : G.sc.names.lookup n = some .cell) {l : Nat} : ∀ X, G.iss X → swapsWith (.ListComp elt gs scope pos) (some (.Name n p)) l X.env = pure false := fun X h => by
  have ky : X.env.kindOf n = some .cell := by
    show X.env.scope.names.lookup n = _
    rw [h.is.sc]
    exact hy
  unfold swapsWith
  simp only [ky]
  have e2 : (NameKind.cell == NameKind.local) = false := rfl
  simp [e2]
theorem s_lc {elt : Expr} {gs : List Comprehension} {scope : Scope} {spos : Pos} (he : LD G (.ListComp elt gs scope pos) ρ ds) (hR : R (.nx (ρ.set (G.N.idxOf n) (.sh (.lst ds))))) (hi : G.N.idxOf n < G.N.length) (hk : G.sc.kind = .function) (hy : G.sc.names.lookup n = some .local) (hl : (p.line == pos.line) = true)
    (ha : (scope.names.any fun (m, k) => m == n && (k == .local || k == .cell)) = false) : S1 G (.Assign [.Name n p] (.ListComp elt gs scope pos) spos) ρ R := by
  obtain ⟨te, h1, h2, h3⟩ := he.ex
  exact .of (ps_lcG hi hy (swapT hk hy hl ha) h2) (asgG (te := fun _ => te) (fun W => fun B S H σ x sl Q q => h3 B S H σ x sl Q fun v S' H' g ⟨p, vs, e1, a1, a2, a3, z, a4⟩ => by
    subst e1
    exact q _ (upd S' p (.lst vs)) H' (g.add a1 a2 a3) (.lst upd_same z (a4.mono (Ex.new a2)))) hR)
theorem s_lcO {elt : Expr} {gs : List Comprehension} {scope : Scope} {spos : Pos} (he : LD G (.ListComp elt gs scope pos) ρ ds) (hR : R (.nx (ρ.set (G.N.idxOf n) (.own ds)))) (hi : G.N.idxOf n < G.N.length) (hk : G.sc.kind = .function) (hy : G.sc.names.lookup n = some .local) (hl : (p.line == pos.line) = true)
    (ha : (scope.names.any fun (m, k) => m == n && (k == .local || k == .cell)) = false) : S1 G (.Assign [.Name n p] (.ListComp elt gs scope pos) spos) ρ R := by
  obtain ⟨te, h1, h2, h3⟩ := he.ex
  exact .of (ps_lcG hi hy (swapT hk hy hl ha) h2) (asgO (te := fun _ => te) (fun W => h3) hR)
theorem s_ret (he : ED G e ρ r) (hR : R (.rt r)) : S1 G (.Return (some e) pos) ρ R := .of (fun X W h tk => ps_ret (pe_of h.is)) fun W B S H σ D ex eb sl cn => he B S H σ ex sl _ fun v S1 H1 g1 r1 =>
  cn.rt r v S1 H1 hR (Go.keepB eb g1) (r1.base eb)
theorem s_retX {O : Ot → Prop} (he : XD G e ρ O) (hR : ∀ r, O (.inl r) → R (.rt r)) (hE : ∀ c, O (.inr c) → R (.ex c ρ)) : S1 G (.Return (some e) pos) ρ R := .of (fun X W h tk => ps_ret (px_of h tk)) fun W B S H σ D ex eb sl cn => he W B S H σ ex sl _ (fun r v S1 H1 o g1 r1 =>
  cn.rt r v S1 H1 (hR r o) (Go.keepB eb g1) (r1.base eb)) fun c H1 o e1 => cn.ex c ρ S H1 σ (hE c o) ⟨Ex.refl S, ex.trans e1, eb.trans e1, fun _ z => .inl z⟩ (sl.go ⟨Ex.refl S, ex.trans e1, e1, fun _ z => .inl z⟩)
theorem s_retN (hR : R (.rt (.sh .non))) : S1 G (.Return none pos) ρ R := .of (fun X W h tk => ps_retN) fun W B S H σ D ex eb sl cn => cn.rt _ .non S H hR ⟨Ex.refl S, ex, eb, fun _ z => .inl z⟩ .non
/-- what is owned is handed out as a new list -/
theorem s_retO (h : ρ[G.N.idxOf n]? = some (.own ds)) (hv : visB G.sc n = true) (hR : R (.rt (.fr ds))) (hd : okName n = true := by rfl) : S1 G (.Return (some (.Name n p)) pos) ρ R := .of (t := fun _ => tRet (tVar (G.N.idxOf n))) (fun X W k tk => by
    refine ⟨fun pins s σ H D I q => ?_⟩
    obtain ⟨v, e1, q⟩ := id q
    have hl : G.N.idxOf n < G.N.length := by
      have h1 := I.len
      rw [k.is.N] at h1
      have h2 := (List.getElem?_eq_some_iff.mp e1).1
      omega
    unfold okName at hd
    rw [Bool.and_eq_true, Bool.not_eq_true', Bool.not_eq_true'] at hd
    exact (ps_ret (pe_var (by rw [k.is.N]; exact ixAt hl) (by rw [k.is.sc]; exact vis_of hv) hd.1 hd.2)).run pins s σ H D I ⟨v, e1, q⟩) fun W B S H σ D ex eb sl cn => by
  obtain ⟨p, vs, h1, h2, h3, h4, z, h5⟩ := sl.own _ _ h
  exact ⟨_, h1, cn.rt _ _ S H hR ⟨Ex.refl S, ex, eb, fun _ z => .inl z⟩ ⟨p, vs, rfl, h2, h3, h4, z, h5⟩⟩
theorem s_expr (he : ED G e ρ r) (hR : R (.nx ρ)) (hs : ∀ env, swapsWith e none pos.line env = pure false := by intro _; rfl) : S1 G (.Expr e pos) ρ R := .of (fun X W h tk => ps_expr (pe_of h.is) (hs _)) fun W B S H σ D ex eb sl cn => he B S H σ ex sl _ fun v S1 H1 g1 r1 =>
  cn.nx ρ S1 H1 σ hR (Go.keepB eb g1) (sl.go g1)
theorem s_exprX {O : Ot → Prop} (he : XD G e ρ O) (hR : ∀ r, O (.inl r) → R (.nx ρ)) (hE : ∀ c, O (.inr c) → R (.ex c ρ)) (hs : ∀ env, swapsWith e none pos.line env = pure false := by intro _; rfl) : S1 G (.Expr e pos) ρ R := .of (fun X W h tk => ps_expr (px_of h tk) (hs _)) fun W B S H σ D ex eb sl cn => he W B S H σ ex sl _ (fun r v S1 H1 o g1 r1 =>
  cn.nx ρ S1 H1 σ (hR r o) (Go.keepB eb g1) (sl.go g1)) fun c H1 o e1 => cn.ex c ρ S H1 σ (hE c o) ⟨Ex.refl S, ex.trans e1, eb.trans e1, fun _ z => .inl z⟩ (sl.go ⟨Ex.refl S, ex.trans e1, e1, fun _ z => .inl z⟩)
theorem s_doc {x : Str} {j} : (R (.nx ρ)) → S1 G (.Expr (.Constant (.str x) j p) pos) ρ R := fun hR => .of (fun X W h tk => ps_doc) fun W B S H σ D ex eb sl cn => cn.nx ρ S H σ hR ⟨Ex.refl S, ex, eb, fun _ z => .inl z⟩ sl
theorem s_pass (hR : R (.nx ρ)) : S1 G (.Pass pos) ρ R := .of (fun X W h tk => ps_pass) fun W B S H σ D ex eb sl cn => cn.nx ρ S H σ hR ⟨Ex.refl S, ex, eb, fun _ z => .inl z⟩ sl
theorem s_break (hR : R (.bk ρ)) : S1 G (.Break pos) ρ R := .of (fun X W h tk => ps_break) fun W B S H σ D ex eb sl cn => cn.bk ρ S H σ hR ⟨Ex.refl S, ex, eb, fun _ z => .inl z⟩ sl
theorem s_if {k : Bool} (hc : TD G c ρ k) (h1 : k = true → SD G body ρ R) (h2 : k = false → SD G orelse ρ R) : S1 G (.If c body orelse pos) ρ R := .of (fun X W h tk => ps_if (pt_of h.is) (pss_of h tk) (pss_of h tk)) fun W B S H σ D ex eb sl cn => hc B S H σ ex sl _ fun S1 H1 g1 => by
  have g := Go.keepB eb g1
  cases k with
  | true =>
    rw [if_pos rfl]
    exact h1 rfl W B S1 H1 σ D g1.sh g.bh (sl.go g1) (cn.go g)
  | false =>
    rw [if_neg Bool.false_ne_true]
    exact h2 rfl W B S1 H1 σ D g1.sh g.bh (sl.go g1) (cn.go g)
/-- a list that a name owns is changed -/
theorem Slots.mut {U : Wd} {B S H : Hp} {σ : L2.St} {i : Nat} {es : List D} {q : Addr} {vs ws : List V} (sl : Slots U B S H σ ρ) (h : ρ[i]? = some (.own ds)) (hq : σ[i]? = some (some (.ref q))) (z : ws.length ≤ sizeLine) (hw : RepL U S ws es) : Slots U B S (upd H q (.lst ws)) σ (ρ.set i (.own es)) := by
  obtain ⟨p, us, h1, h2, h3, h4, z', h5⟩ := sl.own i ds h
  obtain rfl : p = q := by
    rw [h1] at hq
    have := Option.some.inj (Option.some.inj hq)
    injection this
  refine ⟨by rw [List.length_set]; exact sl.len, fun j d hj => ?_, fun j fs hj => ?_, fun j k fs gs q hj hk aj ak => ?_⟩
  · rcases setGet hj with ⟨rfl, e1, hl⟩ | ⟨ne, hj⟩
    · cases e1
    · exact sl.sh j d hj
  · rcases setGet hj with ⟨rfl, e1, hl⟩ | ⟨ne, hj⟩
    · cases e1
      exact ⟨p, ws, h1, upd_same, h3, h4, z, hw⟩
    · obtain ⟨q, xs, a1, a2, a3, a4, a5, a6⟩ := sl.own j fs hj
      have nq : q ≠ p := fun e => ne (sl.sep i j ds fs p h hj h1 (e ▸ a1))
      exact ⟨q, xs, a1, by rw [upd_ne nq]; exact a2, a3, a4, a5, a6⟩
  · rcases setGet hj with ⟨rfl, e1, hl⟩ | ⟨ne, hj⟩
    · cases e1
      rcases setGet hk with ⟨rfl, e2, hl'⟩ | ⟨ne', hk⟩
      · rfl
      · exact sl.sep _ _ _ _ _ h hk aj ak
    · rcases setGet hk with ⟨rfl, e2, hl'⟩ | ⟨ne', hk⟩
      · cases e2
        exact sl.sep _ _ _ _ _ hj h aj ak
      · exact sl.sep j k fs gs q hj hk aj ak
/-- what the look at a method's call asks of its text -/
abbrev BmOk (o : Expr) (name : Str) (e : Expr) (es : List Expr) (apos cpos : Pos) : Prop := (∀ env, attributeBase o name env (eval o env) = eval o env) ∧
  (∀ env, ((backTo cpos (starEach (e :: es) env)).all (fun x => !x.1) && (backToKw cpos (keywordEach [] env)).all (fun x => x.1.isSome) && decide ((e :: es).length + ([] : List Keyword).length + (if ([] : List Keyword).isEmpty then 0 else 1) < 30)) = true) ∧
  (apos.endLine == cpos.line) = true ∧ StarN e es
theorem name_pe {X : Cx} {σ : L2.St} {pins : List (Addr × Obj)} {H : Hp} {s : Shared} {v : V} (k : G.is X) (I : Inv X pins σ H s) (e1 : σ[G.N.idxOf n]? = some v) (hv : visB G.sc n = true) (hd : okName n = true) : PE X (.Name n p) (tVar (G.N.idxOf n)) := by
  have hl : G.N.idxOf n < G.N.length := by
    have h1 := I.len
    rw [k.N] at h1
    have h2 := (List.getElem?_eq_some_iff.mp e1).1
    omega
  unfold okName at hd
  rw [Bool.and_eq_true, Bool.not_eq_true', Bool.not_eq_true'] at hd
  exact pe_var (by rw [k.N]; exact ixAt hl) (by rw [k.sc]; exact vis_of hv) hd.1 hd.2
theorem s_app {apos : Pos} {pos' : Pos} (he : ED G e ρ (.sh d)) (h : ρ[G.N.idxOf n]? = some (.own ds)) (hv : visB G.sc n = true) (hz : ds.length < sizeLine) (hR : R (.nx (ρ.set (G.N.idxOf n) (.own (ds ++ [d]))))) (hd : okName n = true := by rfl)
    (hb : BmOk (.Name n p) "append" e [] apos pos := by exact ⟨by intro _; rfl, by intro _; rfl, rfl, by intro _; rfl, by intros; rfl⟩) : S1 G (.Expr (.Call (.Attribute (.Name n p) "append" apos) [e] [] pos) pos') ρ R := by
  refine .of (t := fun _ => tDrop (tBM G.U.K "list" rAppend (tVar (G.N.idxOf n)) (tCons (tG G e) tNil))) (fun X W k tk => ?_) fun W B S H σ D ex eb sl cn => ?_
  · refine ⟨fun pins s σ H D I q => ?_⟩
    obtain ⟨v, e1, q'⟩ := id q
    obtain ⟨b1, b2, b3, b4, b5⟩ := hb
    have hpe := pe_bm (apos := apos) (cpos := pos) PySem.F.plainAttrs_list PySem.F.slot_list_append PySem.F.type_list_append mt_append (name_pe k.is I e1 hv hd) (pa_cons (pe_of k.is) pa_nil (hs := b4 _)) (b1 _) (b2 _) b3 (b4 _) (b5 _ _)
    rw [k.is.K] at hpe
    exact (ps_expr hpe).run pins s σ H D I q
  · obtain ⟨q, vs, h1, h2, h3, h4, z, h5⟩ := sl.own _ _ h
    refine ⟨_, h1, .inl ⟨rfl, _, .of h2⟩, ?_⟩
    refine he B S H σ ex sl _ fun v S1 H1 g1 r1 => ?_
    have g := Go.keepB eb g1
    have hq1 := g1.bh _ _ h2
    have hs1 := g1.own h2 h3
    refine ⟨q, vs, v, rfl, rfl, hq1, by rw [h5.length]; exact hz, ?_⟩
    have sl1 := sl.go g1
    refine cn.nx _ S1 _ σ hR ⟨g.ss, Ex.mut g.sh hs1, Ex.mut g.bh h4, g.nw⟩ (Slots.mut (vs := vs) sl1 h h1 ?_ ((h5.mono g1.ss).append (.cons r1 .nil)))
    rw [List.length_append, h5.length]
    exact hz
end
end Mb
set_option Elab.async false
set_option linter.all false
set_option maxRecDepth 100000
set_option maxHeartbeats 4000000
namespace Mb
open PySem PySem.Spec PyProof.Rows L2

/-! ### loops -/
section
variable {G : Gx} {ρ : List Sl} {R : Oc → Prop} {tg it c : Expr} {pos p pn : Pos} {n : Str} {ds : List D} {body : List Stmt}
/-- what a turn is to reach -/
def Lp (Nx : List Sl → Prop) (R : Oc → Prop) : Oc → Prop
  | .nx ρ => Nx ρ
  | .ct ρ => Nx ρ
  | .bk ρ => R (.nx ρ)
  | .rt r => R (.rt r)
  | .ex c ρ => R (.ex c ρ)
theorem for_core {g : TG} {vs : List Nat} {set : D → List Sl → List Sl} (hi : IF G tg it ρ ds) (hg : ∀ X, G.iss X → PG X tg g) (gd : ∀ d ∈ ds, GD G.U.K g vs d (set d)) (Inv : Nat → List Sl → Prop) (h0 : Inv 0 ρ)
    (hs : ∀ i d ρ', ds[i]? = some d → Inv i ρ' → SD G body (set d ρ') (Lp (Inv (i + 1)) R)) (hd : ∀ ρ', Inv ds.length ρ' → R (.nx ρ')) (hf : ∀ env x, foldedSetIterable it env x = pure x) : S1 G (.For tg it body [] pos) ρ R := by
  refine .of (t := fun W => tFor (tGI G tg it) g (tS G W body)) (fun X W h tk => ps_for h.own h.is.calm (pi_of h.is) (hg X h) (pss_of h tk) (hf _)) fun W B S H σ D ex eb sl cn => ?_
  refine hi B S H σ ex sl _ fun J S1 H1 g1 wk => ?_
  have gb := Go.keepB eb g1
  refine ⟨fun i m σ' H' => m = ds.length - i ∧ i ≤ ds.length ∧ ∃ ρ' S', Inv i ρ' ∧ Go S1 B S' H' ∧ Slots G.U B S' H' σ' ρ', ⟨ds.length, rfl, Nat.zero_le _, ρ, S1, h0, ⟨Ex.refl _, g1.sh, gb.bh, fun _ z => .inl z⟩, sl.go g1⟩, ?_⟩
  rintro i m σ' H' ⟨rfl, hle, ρ', S', inv, g2, sl2⟩
  obtain ⟨wgo, wstop⟩ := wk S' H' g2.ss g2.sh i
  by_cases hlt : i < ds.length
  · have gi : ds[i]? = some ds[i] := List.getElem?_eq_getElem hlt
    obtain ⟨go, hy⟩ := wgo ds[i] gi
    refine .inr ⟨go, fun σ2 H2 => ∃ ρ2 S2, Inv (i + 1) ρ2 ∧ Go S1 B S2 H2 ∧ Slots G.U B S2 H2 σ2 ρ2, fun σ2 H2 h2 => ⟨ds.length - (i + 1), by omega, rfl, hlt, h2⟩, fun x H2 hy2 => ?_⟩
    obtain ⟨rfl, rx⟩ := hy x H2 hy2
    refine (gd ds[i] (List.getElem_mem hlt)).run G.U B S' H2 σ' ρ' x rfl g2.sh sl2 rx _ fun σ2 _ _ sl3 => ?_
    refine hs i ds[i] ρ' gi inv W B S' H2 σ2 _ g2.sh g2.bh sl3 ⟨fun ρ3 S3 H3 σ3 r3 g3 s3 => ⟨ρ3, S3, r3, g2.transB g3, s3⟩, fun r v S3 H3 r3 g3 s3 => cn.rt r v S3 H3 r3 ((gb.transB g2).transB g3) s3, fun ρ3 S3 H3 σ3 r3 g3 s3 => cn.nx ρ3 S3 H3 σ3 r3 ((gb.transB g2).transB g3) s3, fun ρ3 S3 H3 σ3 r3 g3 s3 => ⟨ρ3, S3, r3, g2.transB g3, s3⟩, fun c ρ3 S3 H3 σ3 r3 g3 s3 => cn.ex c ρ3 S3 H3 σ3 r3 ((gb.transB g2).transB g3) s3⟩
  · have ei : i = ds.length := by omega
    subst ei
    exact .inl ⟨wstop (Nat.le_refl _), cn.nx ρ' S' H' σ' (hd ρ' inv) (gb.transB g2) sl2⟩
theorem pgd (hN : G.N.Nodup) (hi : G.N.idxOf n < G.N.length) (ok : setOk G.sc G.fn n = true) : ∀ X, G.iss X → PG X (.Name n p) (gName (G.N.idxOf n)) := fun X h =>
  pg_name (by rw [h.is.N]; exact hN) (by rw [h.is.N]; exact ixAt hi) (by rw [h.is.sc]; exact (setOk_loc ok).1) (by rw [h.is.fn, h.is.sc]; exact (setOk_loc ok).2)
theorem s_for (hi : IF G (.Name n pn) it ρ ds) (Inv : Nat → List Sl → Prop) (h0 : Inv 0 ρ) (hs : ∀ i d ρ', ds[i]? = some d → Inv i ρ' → SD G body (ρ'.set (G.N.idxOf n) (.sh d)) (Lp (Inv (i + 1)) R)) (hd : ∀ ρ', Inv ds.length ρ' → R (.nx ρ'))
    (hN : G.N.Nodup) (hx : G.N.idxOf n < G.N.length) (ok : setOk G.sc G.fn n = true) (hf : ∀ env x, foldedSetIterable it env x = pure x := by intros; rfl) : S1 G (.For (.Name n pn) it body [] pos) ρ R :=
  for_core (set := fun d ρ => ρ.set (G.N.idxOf n) (.sh d)) hi (pgd hN hx ok) (fun d _ => gd_name (vs := [G.N.idxOf n]) (by simp)) Inv h0 hs hd hf
theorem s_for2 {m : Str} {pm : Pos} {k} {α : Type} {xs : List α} {e1 e2 : α → D} (hi : IF G (.Tuple [.Name n pn, .Name m pm] k p) it ρ (xs.map fun i => D.tup [e1 i, e2 i])) (Inv : Nat → List Sl → Prop) (h0 : Inv 0 ρ)
    (hs : ∀ i x ρ', xs[i]? = some x → Inv i ρ' → SD G body ((ρ'.set (G.N.idxOf n) (.sh (e1 x))).set (G.N.idxOf m) (.sh (e2 x))) (Lp (Inv (i + 1)) R)) (hd : ∀ ρ', Inv xs.length ρ' → R (.nx ρ'))
    (hN : G.N.Nodup) (hx : G.N.idxOf n < G.N.length) (hx2 : G.N.idxOf m < G.N.length) (ok : setOk G.sc G.fn n = true) (ok2 : setOk G.sc G.fn m = true) (hf : ∀ env x, foldedSetIterable it env x = pure x := by intros; rfl) : S1 G (.For (.Tuple [.Name n pn, .Name m pm] k p) it body [] pos) ρ R := by
  refine for_core (g := gTup G.U.K 2 (gCons (gName (G.N.idxOf n)) (gCons (gName (G.N.idxOf m)) gNil))) (vs := [G.N.idxOf n, G.N.idxOf m])
    (set := fun d ρ => match d with
      | .tup [a, b] => (ρ.set (G.N.idxOf n) (.sh a)).set (G.N.idxOf m) (.sh b)
      | _ => ρ) hi (fun X h => ?_) (fun d hd => ?_) Inv h0 (fun i d ρ' hd inv => ?_) (fun ρ' h => hd ρ' (by rw [List.length_map] at h; exact h)) hf
  · have hk : X.K = G.U.K := h.is.K
    rw [← hk]
    exact pg_tup h.is.calm (pgs_cons (pgd hN hx ok X h) (pgs_cons (pgd hN hx2 ok2 X h) pgs_nil))
  · obtain ⟨x, _, rfl⟩ := List.mem_map.mp hd
    exact gd_pair (by simp) (by simp)
  · rw [List.getElem?_map] at hd
    cases e : xs[i]? with
    | none =>
      rw [e] at hd
      cases hd
    | some x =>
      rw [e] at hd
      obtain rfl := Option.some.inj (show some _ = some d from hd)
      exact hs i x ρ' e inv
theorem s_while (Wd : Nat → List Sl → Prop) {m0 : Nat} (h0 : Wd m0 ρ)
    (hs : ∀ m ρ', Wd m ρ' → ∃ k, TD G c ρ' k ∧ (k = true → SD G body ρ' (Lp (fun ρ2 => ∃ m', m' < m ∧ Wd m' ρ2) R)) ∧ (k = false → R (.nx ρ'))) : S1 G (.While c body [] pos) ρ R := by
  refine .of (t := fun W => tWhile (tGT G c) (tS G W body)) (fun X W h tk => ps_while h.own (pt_of h.is) (pss_of h tk)) fun W B S H σ D ex eb sl cn => ?_
  refine ⟨fun m σ' H' => ∃ ρ' S', Wd m ρ' ∧ Go S B S' H' ∧ Slots G.U B S' H' σ' ρ', ⟨m0, ρ, S, h0, ⟨Ex.refl _, ex, eb, fun _ z => .inl z⟩, sl⟩, ?_⟩
  rintro m σ' H' ⟨ρ', S', w, g, sl'⟩
  obtain ⟨k, ht, h1, h2⟩ := hs m ρ' w
  refine ht B S' H' σ' g.sh sl' _ fun S1 H1 g1 => ?_
  have g2 := g.transB (Go.keepB g.bh g1)
  cases k with
  | false =>
    rw [if_neg Bool.false_ne_true]
    exact cn.nx ρ' S1 H1 σ' (h2 rfl) g2 (sl'.go g1)
  | true =>
    rw [if_pos rfl]
    refine ⟨fun σ2 H2 => ∃ m', m' < m ∧ ∃ ρ2 S2, Wd m' ρ2 ∧ Go S B S2 H2 ∧ Slots G.U B S2 H2 σ2 ρ2, fun σ2 H2 h => h, ?_⟩
    refine h1 rfl W B S1 H1 σ' _ g1.sh g2.bh (sl'.go g1) ⟨fun ρ3 S3 H3 σ3 r3 g3 s3 => ?_, fun r v S3 H3 r3 g3 s3 => cn.rt r v S3 H3 r3 (g2.transB g3) s3, fun ρ3 S3 H3 σ3 r3 g3 s3 => cn.nx ρ3 S3 H3 σ3 r3 (g2.transB g3) s3, fun ρ3 S3 H3 σ3 r3 g3 s3 => ?_, fun c ρ3 S3 H3 σ3 r3 g3 s3 => cn.ex c ρ3 S3 H3 σ3 r3 (g2.transB g3) s3⟩
    · obtain ⟨m', hm, w'⟩ := r3
      exact ⟨m', hm, ρ3, S3, w', g2.transB g3, s3⟩
    · obtain ⟨m', hm, w'⟩ := r3
      exact ⟨m', hm, ρ3, S3, w', g2.transB g3, s3⟩
end

/-! ### a, b = a pair -/
section
variable {G : Gx} {ρ : List Sl} {R : Oc → Prop} {e : Expr} {pos p pn pm : Pos} {n m : Str} {d1 d2 : D} {k : Nat}
theorem s_set2 {k} (he : ED G e ρ (.sh (.tup [d1, d2]))) (hR : R (.nx ((ρ.set (G.N.idxOf n) (.sh d1)).set (G.N.idxOf m) (.sh d2)))) (hN : G.N.Nodup) (hx : G.N.idxOf n < G.N.length) (hx2 : G.N.idxOf m < G.N.length) (ok : setOk G.sc G.fn n = true) (ok2 : setOk G.sc G.fn m = true)
    (hs : (∀ env, swapsWithSole [.Tuple [.Name n pn, .Name m pm] k p] e pos.line env = pure false) ∧ (∀ env, swappedStores [.Tuple [.Name n pn, .Name m pm] k p] e env = pure none) := by exact ⟨by intro _; rfl, by intro _; rfl⟩) : S1 G (.Assign [.Tuple [.Name n pn, .Name m pm] k p] e pos) ρ R := by
  refine .of (t := fun W => tAsg (tG G e) (gTup G.U.K 2 (gCons (gName (G.N.idxOf n)) (gCons (gName (G.N.idxOf m)) gNil)))) (fun X W h tk => ?_) fun W B S H σ D ex eb sl cn => he B S H σ ex sl _ fun v S1 H1 g1 r1 => ?_
  · have hk : X.K = G.U.K := h.is.K
    rw [← hk]
    exact ps_asg (pe_of h.is) (pg_tup h.is.calm (pgs_cons (pgd hN hx ok X h) (pgs_cons (pgd hN hx2 ok2 X h) pgs_nil))) (hs.1 _) (hs.2 _)
  · exact (gd_pair (vs := [G.N.idxOf n, G.N.idxOf m]) (by simp) (by simp)).run G.U B S1 H1 σ ρ v rfl g1.sh (sl.go g1) r1 _ fun σ2 _ _ sl2 => cn.nx _ S1 H1 σ2 hR (Go.keepB eb g1) sl2
end

/-! ### errors -/
/-- an own error class of the module -/
structure ExT (U : Wd) (x : Str) (C : Addr) : Prop where
  g : U.mg x = some (.ref C)
  k : PySem.W.keepIn U.K (.ref C) = true
  q : PySem.W.excIn U.K C [.type "ValueError", .type "Exception", .type "BaseException", .type "object"] "ValueError.__new__" = true
  s : PySem.W.subIn U.K (.ref C) (.type "BaseException") = some true
  t : PySem.W.typeIn U.K (.ref C) = some (.type "type")
section
variable {G : Gx} {ρ : List Sl} {R : Oc → Prop} {pos p p2 pos2 : Pos} {x m : Str} {C : Addr}
theorem s_raise {j} (T : ExT G.U x C) (hg : GlN G x) (hR : R (.ex C ρ)) (hd : (x == ("__debug__" : Str)) = false := by rfl) : S1 G (.Raise (some (.Call (.Name x p) [.Constant (.str m) j p2] [] pos)) none pos2) ρ R :=
  .of (t := fun W _ σ H => W (.ref C) none σ H) (fun X W h tk => ps_raise h.is.calm tk (pmk_own PySem.F.excBase_ValueError (by rw [h.is.K]; exact T.q) (by rw [h.is.mg]; exact T.g) (by rw [h.is.K]; exact T.k) (raises_own (by rw [h.is.K]; exact T.s) (by rw [h.is.K]; exact T.t)) (gl_of h.is hg) hd)) fun W B S H σ D ex eb sl cn =>
    cn.ex C ρ S H σ hR ⟨Ex.refl S, ex, eb, fun _ z => .inl z⟩ sl
end

/-! ### calls that may raise -/
section
variable {G : Gx} {ρ : List Sl} {a b e o : Expr} {es : List Expr} {pos p apos : Pos} {r : Rs} {x m : Str} {k : Nat} {A : List D → Ot → Prop} {ds : List D} {O : Ot → Prop} {ot : Ot}
theorem XD.of {te : WX → TE} (h : ∀ X W, G.iss X → Takes X W → PE X e (te W)) (ev : ∀ (W : WX) (B S H : Hp) (σ : L2.St), Ex S H → Slots G.U B S H σ ρ → ∀ Q : VK, (∀ r v S' H', O (.inl r) → Go S H S' H' → RepR G.U H S' H' v r → Q v H') → (∀ c H', O (.inr c) → Ex H H' → W (.ref c) none σ H') → te W σ H Q) : XD G e ρ O :=
  ⟨fun W B S H σ ex sl Q q1 q2 X hX tk pins s I => (h X W hX tk).run pins s σ H Q I (ev W B S H σ ex sl Q q1 q2)⟩
theorem XD.imp {O' : Ot → Prop} (h : XD G e ρ O') (q : ∀ o, O' o → O o) : XD G e ρ O := ⟨fun W B S H σ ex sl Q q1 q2 => h W B S H σ ex sl Q (fun r v S' H' o g rr => q1 r v S' H' (q _ o) g rr) fun c H' o g => q2 c H' (q _ o) g⟩
theorem XD.shr {O' : Ot → Prop} (h : XD G e ρ O') (q1 : ∀ r, O' (.inl r) → O (.inl (.sh r.d)) ∧ ∀ ds, r ≠ .ow ds) (q2 : ∀ c, O' (.inr c) → O (.inr c)) : XD G e ρ O := ⟨fun W B S H σ ex sl Q k1 k2 => h W B S H σ ex sl Q (fun r v S' H' o g rr => by
  obtain ⟨o1, o2⟩ := q1 r o
  cases r with
  | sh d => exact k1 _ v S' H' o1 g rr
  | fr ds =>
    obtain ⟨p, vs, e1, h1, h2, h3, z, h4⟩ := rr
    subst e1
    exact k1 _ _ (upd S' p (.lst vs)) H' o1 (g.add h1 h2 h3) (.lst upd_same z (h4.mono (Ex.new h2)))
  | ow ds => exact absurd rfl (o2 ds)) fun c H' o g => k2 c H' (q2 c o) g⟩
theorem xd_thaw (h : XD G e (thaw ρ) O) (hd : ∀ r, O (.inl r) → ∃ d, r = .sh d ∧ d.scalar = true) : XD G e ρ O := ⟨fun W B S H σ ex sl Q q1 q2 => by
  obtain ⟨S1, e1, e2, s1⟩ := slots_thaw ex sl
  refine h W _ S1 H σ e2 s1 Q (fun r v S' H' o g rr => ?_) q2
  obtain ⟨d, rfl, sc⟩ := hd r o
  exact q1 _ v S H' o ⟨Ex.refl S, (e1.trans g.ss).trans g.sh, g.bh, fun _ h => .inl h⟩ (scalar_rep sc rr)⟩
theorem xd_call (T : FnT G.U x k A) (hk : k ≤ G.k) (hg : GlN G x) (ha : AD G (e :: es) ρ ds) (hA : A ds ot) (hO : O ot) (hd : (x == ("__debug__" : Str)) = false := by rfl)
    (hs : StarN e es := by exact ⟨by intro _; rfl, by intros; rfl⟩) : XD G (.Call (.Name x p) (e :: es) [] pos) ρ O := by
  obtain ⟨f, fd, ps, gm, kp, bd, F⟩ := T.ex
  refine .of (te := fun W => tCallS (spX G.U A) (WE W) (tGA G (e :: es))) (fun X W h tk => pe_callS (CX := L2.CX X.prog X.w) (by rw [← CX_at h.is]; exact FnOk.at h.is F) (h.is.room.mono hk) (gl_of h.is hg) (by rw [h.is.mg]; exact gm) (by rw [h.is.K]; exact kp) (by rw [h.is.K]; exact bd) (fun σ => passAt tk σ) (pa_of h.is) hd (hs.1 _) (hs.2 _ _)) ?_
  intro W B S H σ ex sl Q q1 q2
  refine ha B S H σ ex sl _ fun vs S1 H1 g1 r1 => ?_
  refine ⟨ds, ot, S1, hA, g1.sh, r1, fun r' hr v S2 H2 g2 r2 => ?_, fun c hc H2 e2 => ?_⟩
  · subst hr
    exact q1 r' v S2 H2 hO (g1.trans g2) (r2.base g1.bh)
  · subst hc
    exact q2 c H2 hO (g1.bh.trans e2)
/-- o.m(e, ..), what leaves the method told at the slots -/
def tMethS (C : Addr) (m : Str) (sp : Sp) (E : L2.St → XK) (ta : TE) (t : TA) : TE := fun σ H Q => ta σ H fun x H1 => ∃ a dx fs, x = .ref a ∧ H1 a = some (.ins C dx fs) ∧ fs.lookup m = none ∧ t σ H1 fun vs H2 => sp (x :: vs) H2 Q (E σ)
theorem pe_methX {X : Cx} {CX : CXT} {C f : Addr} {fd : FuncData} {ps : List Str} {sp : Sp} {E : L2.St → XK} {ta : TE} {t : TA} {pl : Sem Bool} (he : PE X o ta) (c : Cls X.K C) (hm : Meth X.K C m f) (F : FnOk X.prog X.w X.K X.mg X.base CX k f fd ps sp) (hr : Room k X.A) (hb : Binds X.K fd ps [])
    (hx : ∀ σ, PassesAt CX X σ (E σ)) (ha : PA X (e :: es) t) (hst : starEach (e :: es) X.env = (false, eval e X.env) :: starEach es X.env) (hpl : (backTo pos (starEach es X.env)).any (·.1) = false)
    (ht : eval (.Call (.Attribute o m apos) (e :: es) [] pos) X.env = (do
      let ov ← eval o X.env
      standAt apos.atName
      let (f, first) ← holding [ov] (getMethod ov m pl)
      callWith pos f first (backTo pos (starEach (e :: es) X.env)) (backToKw pos (keywordEach [] X.env)))) : PE X (.Call (.Attribute o m apos) (e :: es) [] pos) (tMethS C m sp E ta t) := by
  refine ⟨fun pins s σ H Q I h => PySem.W.methodCall_KW (pl := pl) (thn (he.run pins s σ H _ I h) fun u s1 h1 => ?_) ht⟩
  obtain ⟨x, H1, I1, rx, a, dx, fs, ex, ea, l, q⟩ := h1
  subst ex
  obtain rfl : u = Value.ref a := rx
  refine getmeth_ok I1 ea c hm l ?_
  refine PySem.W.callWith_K (first := [.ref a]) (h₀ := X.base) I.ok.mod.kin hm.kp (thn (ha.run pos pins s1 σ H1 _ I1 q) fun us s2 h2 => ?_) hst hpl
  obtain ⟨vs, H2, I2, r, q2⟩ := h2
  exact ⟨I2.kIn, run_fnS (us := .ref a :: us) (vs := .ref a :: vs) F hr hb (hx σ) I2 (.cons rfl r) q2⟩
theorem xd_meth {d : D} {i : Int} (C : TabOk G.U) (T : MtT G.U m k A) (hk : k ≤ G.k) (ho : ED G o ρ (.sh d)) (hd : d.many? = some i) (ha : AD G (e :: es) ρ ds) (hA : A (d :: ds) ot) (hO : O ot)
    (hm : MethN m := by exact ⟨by rfl, by rfl⟩)
    (hs : StarN e es := by exact ⟨by intro _; rfl, by intros; rfl⟩) (ht : MethEv o m apos (e :: es) pos := by exact fun _ => ⟨_, rfl⟩) : XD G (.Call (.Attribute o m apos) (e :: es) [] pos) ρ O := by
  obtain ⟨f, fd, ps, mt, bd, F⟩ := T.ex
  refine .of (te := fun W => tMethS G.U.C m (spX G.U A) (WE W) (tG G o) (tGA G (e :: es))) (fun X W h tk => ?_) ?_
  · obtain ⟨pl, ht⟩ := ht X.env
    exact pe_methX (CX := L2.CX X.prog X.w) (pl := pl) (pe_of h.is) (by rw [h.is.K]; exact C.cls) (by rw [h.is.K]; exact mt) (by rw [← CX_at h.is]; exact FnOk.at h.is F) (h.is.room.mono hk) (by rw [h.is.K]; exact bd) (fun σ => passAt tk σ) (pa_of h.is) (hs.1 _) (hs.2 _ _) ht
  intro W B S H σ ex sl Q q1 q2
  refine ho B S H σ ex sl _ fun v S1 H1 g1 r1 => ?_
  obtain ⟨a, dx, fs, rfl, h1, _, h2⟩ := obj_look r1 hd
  refine ⟨a, dx, _, rfl, g1.sh _ _ h1, h2 m hm.1 hm.2, ?_⟩
  refine ha B S1 H1 σ g1.sh (sl.go g1) _ fun vs S2 H2 g2 r2 => ?_
  refine ⟨_, ot, S2, hA, g2.sh, .cons (Rep.mono g2.ss r1) r2, fun r' hr v S3 H3 g3 r3 => ?_, fun c hc H3 e3 => ?_⟩
  · subst hr
    exact q1 r' v S3 H3 hO ((g1.trans g2).trans g3) (r3.base (g1.bh.trans g2.bh))
  · subst hc
    exact q2 c H3 hO ((g1.bh.trans g2.bh).trans e3)
/-- o.m(e), e may raise -/
theorem xd_meth1 {d : D} {i : Int} {O1 : Ot → Prop} (C : TabOk G.U) (T : MtT G.U m k A) (hk : k ≤ G.k) (ho : ED G o ρ (.sh d)) (hd : d.many? = some i) (he : XD G e ρ O1)
    (h1 : ∀ r, O1 (.inl r) → ∃ d1 ot, r = .sh d1 ∧ A [d, d1] ot ∧ O ot) (h2 : ∀ c, O1 (.inr c) → O (.inr c)) (hm : MethN m := by exact ⟨by rfl, by rfl⟩)
    (hs : StarN e [] := by exact ⟨by intro _; rfl, by intros; rfl⟩) (ht : MethEv o m apos [e] pos := by exact fun _ => ⟨_, rfl⟩) : XD G (.Call (.Attribute o m apos) [e] [] pos) ρ O := by
  obtain ⟨f, fd, ps, mt, bd, F⟩ := T.ex
  refine .of (te := fun W => tMethS G.U.C m (spX G.U A) (WE W) (tG G o) (tCons (tX G W e) tNil)) (fun X W h tk => ?_) ?_
  · obtain ⟨pl, ht⟩ := ht X.env
    exact pe_methX (CX := L2.CX X.prog X.w) (pl := pl) (pe_of h.is) (by rw [h.is.K]; exact C.cls) (by rw [h.is.K]; exact mt) (by rw [← CX_at h.is]; exact FnOk.at h.is F) (h.is.room.mono hk) (by rw [h.is.K]; exact bd) (fun σ => passAt tk σ) (pa_cons (px_of h tk) pa_nil (hs := hs.1 _)) (hs.1 _) (hs.2 _ _) ht
  intro W B S H σ ex sl Q q1 q2
  refine ho B S H σ ex sl _ fun v S1 H1 g1 r1 => ?_
  obtain ⟨a, dx, fs, rfl, k1, _, k2⟩ := obj_look r1 hd
  refine ⟨a, dx, _, rfl, g1.sh _ _ k1, k2 m hm.1 hm.2, ?_⟩
  refine he W B S1 H1 σ g1.sh (sl.go g1) _ (fun r u S2 H2 o2 g2 r2 => ?_) fun c H2 o2 e2 => q2 c H2 (h2 c o2) (g1.bh.trans e2)
  obtain ⟨d1, ot, rfl, hA, hO⟩ := h1 r o2
  refine ⟨_, ot, S2, hA, g2.sh, .cons (Rep.mono g2.ss r1) (.cons r2 .nil), fun r' hr v S3 H3 g3 r3 => ?_, fun c hc H3 e3 => ?_⟩
  · subst hr
    exact q1 r' v S3 H3 hO ((g1.trans g2).trans g3) (r3.base (g1.bh.trans g2.bh))
  · subst hc
    exact q2 c H3 hO ((g1.bh.trans g2.bh).trans e3)
end

/-! ### a def -/
def Done (o : Ot) : Oc → Prop
  | .nx _ => o = .inl (.sh .non)
  | .rt r => o = .inl r
  | .ex c _ => o = .inr c
  | _ => False
def begin_ (N : List Str) (ds : List D) : List Sl := ds.map .sh ++ List.replicate (N.length - ds.length) .no
theorem slots_begin {U : Wd} {B S H : Hp} {N : List Str} {vs : List V} {ds : List D} (h : RepL U S vs ds) : Slots U B S H (L2.start N vs) (begin_ N ds) := by
  have hl := h.length
  refine ⟨by unfold L2.start begin_; simp [hl], fun i d hd => ?_, fun i es hd => ?_, fun i j es fs p hd => ?_⟩
  · unfold begin_ at hd
    by_cases hi : i < ds.length
    · rw [List.getElem?_append_left (by rw [List.length_map]; exact hi), List.getElem?_map] at hd
      cases e : ds[i]? with
      | none =>
        rw [e] at hd
        cases hd
      | some d' =>
        rw [e] at hd
        obtain rfl : d' = d := by
          have := Option.some.inj hd
          injection this
        obtain ⟨v, h1, h2⟩ := h.get e
        refine ⟨v, ?_, h2⟩
        unfold L2.start
        rw [List.getElem?_append_left (by rw [List.length_map]; omega), List.getElem?_map, h1]
        rfl
    · rw [List.getElem?_append_right (by rw [List.length_map]; omega)] at hd
      have := List.mem_replicate.mp (List.mem_of_getElem? hd)
      cases this.2
  all_goals
    unfold begin_ at hd
    have := List.mem_of_getElem? hd
    rcases List.mem_append.mp this with q | q
    · obtain ⟨d, _, e⟩ := List.mem_map.mp q
      cases e
    · cases (List.mem_replicate.mp q).2
theorem fn_ok {U : Wd} {x qual : Str} {st : Stmt} {f : Addr} {fd : FuncData} {N ps : List Str} {k : Nat} {A : List D → Ot → Prop} (F : Fun U.K x qual st f fd) (S : FnScope N ps (defScope st)) (len : ∀ ds o, A ds o → ds.length = ps.length)
    (body : ∀ ds o, A ds o → SD ⟨U, N, defScope st, fun _ => true, k⟩ (defBody st) (begin_ N ds) (Done o)) : FnOk U.P U.w U.K U.mg U.base (L2.CX U.P U.w) (k + 1) f fd ps (spX U A) := by
  refine F.okX S (fun vs H Q E h => ?_) (fun cdv A0 outer s H vs Q E hr h => ?_)
  · obtain ⟨ds, o, S, hA, _, rl, _⟩ := h
    rw [rl.length, len ds o hA]
  · obtain ⟨ds, o, S, hA, ex, rl, q1, q2⟩ := h
    refine ⟨tS ⟨U, N, defScope st, fun _ => true, k⟩ (fun cls d _ H => E cls d H) (defBody st), pss_of ⟨⟨rfl, rfl, rfl, rfl, rfl, rfl, rfl, rfl, rfl, hr⟩, passes_of rfl, rfl, rfl⟩ (takes_of rfl rfl rfl rfl), ?_⟩
    refine body ds o hA _ H S H (L2.start N vs) _ ex (Ex.refl H) (slots_begin rl) ⟨fun ρ' S' H' σ' r g s => ?_, fun r v S' H' e g rr => q1 r e v S' H' g rr, fun ρ' S' H' σ' r g s => r.elim, fun ρ' S' H' σ' r g s => r.elim, fun c ρ' S' H' σ' r g s => q2 c r H' g.bh⟩
    exact q1 _ r .non S' H' g .non
end Mb
set_option Elab.async false
set_option linter.all false
set_option maxRecDepth 100000
set_option maxHeartbeats 4000000
namespace Mb
open PySem PySem.Spec PyProof.Rows L2

/-! ### rules that choose by what has come -/
inductive ToSh : Rs → D → Prop
  | sh (d : D) : ToSh (.sh d) d
  | fr (ds : List D) : ToSh (.fr ds) (.lst ds)
section
variable {G : Gx} {ρ : List Sl} {a b c e it tg : Expr} {pos p : Pos} {x y z r : Rs} {d d' : D}
theorem ED.toSh (h : ED G e ρ r) (t : ToSh r d) (q : d = d') : ED G e ρ (.sh d') := by
  subst q
  cases t with
  | sh d => exact h
  | fr ds => exact h.shr
theorem ad_cons' {es : List Expr} {ds : List D} (h : ED G e ρ r) (t : ToSh r d) (hr : AD G es ρ ds) (hs : ∀ env, starEach (e :: es) env = (false, eval e env) :: starEach es env := by intro _; rfl) : AD G (e :: es) ρ (d :: ds) := ad_cons (h.toSh t rfl) hr hs
inductive AddR : Rs → Rs → Rs → Prop
  | int (i j : Int) : AddR (.sh (.int i)) (.sh (.int j)) (.sh (.int (i + j)))
  | cat {x y : Rs} {ds es : List D} (hx : x.ls = some ds) (hy : y.ls = some es) (hz : ds.length + es.length ≤ sizeLine) : AddR x y (.fr (ds ++ es))
theorem ed_addR (ha : ED G a ρ x) (hb : ED G b ρ y) (h : AddR x y z) : ED G (.BinOp a .Add b pos) ρ z := by
  cases h with
  | int i j => exact ed_add ha hb
  | cat hx hy hz => exact ed_cat ha hb hx hy hz
inductive IxD : Rs → Int → D → Prop
  | list {x : Rs} {ds : List D} {i : Int} {d : D} (hx : x.ls = some ds) (h : atI ds i = some d) : IxD x i d
  | tup {ds : List D} {i : Int} {d : D} (h : atI ds i = some d) : IxD (.sh (.tup ds)) i d
  | scr {ns : List Int} {i n : Int} (h : atI ns i = some n) : IxD (.sh (.scr ns)) i (.int n)
theorem ed_ixR {i : Int} (ha : ED G a ρ x) (hb : ED G b ρ (.sh (.int i))) (h : IxD x i d) (hs : PlainIx b := by intros _ _; rfl) : ED G (.Subscript a b pos) ρ (.sh d) := by
  cases h with
  | list hx h => exact ed_ixL ha hb hx h hs
  | tup h => exact ed_ixT ha hb h hs
  | scr h => exact ed_ixS ha hb h hs
theorem ic_range {i : Int} (T : Bl G.U.mg) (ha : ED G a ρ (.sh (.int i))) (h1 : i ≤ 16777216) (h0 : -(2 ^ 62) ≤ i) (hg : GlN G "range") (hs : Star1' a := by intro _; rfl) : IC G tg (.Call (.Name "range" p) [a] [] pos) ρ ((List.range i.toNat).map fun (j : Nat) => D.int (j : Int)) :=
  (if_range T ha (by omega) h0 hg hs).ic (by rw [List.length_map, List.length_range, sizeLine_eq]; omega)
theorem ic_cast {ds es : List D} (h : IC G tg it ρ ds) (q : ds = es) : IC G tg it ρ es := q ▸ h
theorem if_cast {ds es : List D} (h : IF G tg it ρ ds) (q : ds = es) : IF G tg it ρ es := q ▸ h
theorem LD.cast {ds es : List D} (h : LD G e ρ ds) (q : ds = es) : LD G e ρ es := q ▸ h
theorem ed_ty {n : Str} {t : String} (hg : GlN G n) (hm : G.U.mg n = none) (hb : bootBuiltins n = some (.type t)) (hn : n ≠ "__name__" := by decide) (hd : (n == ("__debug__" : Str)) = false := by rfl) : ED G (.Name n pos) ρ (.sh (.ty t)) :=
  ed_bltn (v := .ty t) hg hm hb rfl (fun _ => .ty t) hn hd
end
theorem bootInt : bootBuiltins "int" = some (.type "int") := by decide +kernel
theorem bootBool : bootBuiltins "bool" = some (.type "bool") := by decide +kernel
theorem bootList : bootBuiltins "list" = some (.type "list") := by decide +kernel
theorem bootTuple : bootBuiltins "tuple" = some (.type "tuple") := by decide +kernel
section
variable {G : Gx} {ρ : List Sl} {pos : Pos} (T : Bl G.U.mg)
include T
theorem ed_tyInt (hg : GlN G "int") : ED G (.Name "int" pos) ρ (.sh (.ty "int")) := ed_ty hg T.int bootInt
theorem ed_tyBool (hg : GlN G "bool") : ED G (.Name "bool" pos) ρ (.sh (.ty "bool")) := ed_ty hg T.bool bootBool
theorem ed_tyList (hg : GlN G "list") : ED G (.Name "list" pos) ρ (.sh (.ty "list")) := ed_ty hg T.list bootList
theorem ed_tyTuple (hg : GlN G "tuple") : ED G (.Name "tuple" pos) ρ (.sh (.ty "tuple")) := ed_ty hg T.tuple bootTuple
end
theorem sd_at {G : Gx} {ss : List Stmt} {ρ ρ' : List Sl} {R : Oc → Prop} (h : ρ = ρ') (k : SD G ss ρ' R) : SD G ss ρ R := by rw [h]; exact k
theorem atI_get {α : Type} {xs : List α} {z : Int} {d : α} (h0 : 0 ≤ z) (h : z < (xs.length : Int)) : atI xs z = some (xs.getD z.toNat d) := by
  have hz : z = ((z.toNat : Nat) : Int) := by omega
  have hl : z.toNat < xs.length := by omega
  have h2 : atI xs ((z.toNat : Nat) : Int) = some (xs[z.toNat]) := atI_nat (List.getElem?_eq_getElem hl)
  rw [← hz] at h2
  rw [h2, List.getD_eq_getElem?_getD, List.getElem?_eq_getElem hl]
  rfl
theorem atI_ints {α : Type} {f : α → D} {d : α} {xs : List α} {z : Int} (h0 : 0 ≤ z) (h : z < (xs.length : Int)) : atI (xs.map f) z = some (f (xs.getD z.toNat d)) := by
  have h1 := atI_get (d := f d) h0 (xs := xs.map f) (by rw [List.length_map]; exact h)
  rw [h1, List.getD_eq_getElem?_getD, List.getD_eq_getElem?_getD, List.getElem?_map]
  cases xs[z.toNat]? <;> rfl
def toInts : List D → List Int
  | .int i :: ds => i :: toInts ds
  | _ :: ds => 0 :: toInts ds
  | [] => []
theorem atI_lit {ds : List D} {z : Int} (h0 : 0 ≤ z) (h : z < (ds.length : Int)) (e : (toInts ds).map D.int = ds) : atI ds z = some (.int ((toInts ds).getD z.toNat 0)) := by
  have hl : (toInts ds).length = ds.length := by
    have := congrArg List.length e
    rw [List.length_map] at this
    exact this
  have h1 := atI_ints (f := D.int) (d := 0) (xs := toInts ds) h0 (by rw [hl]; exact h)
  rw [e] at h1
  exact h1
/-! ### plain data -/
theorem dn_map {α : Type} {n : Nat} {f : α → D} {xs : List α} (h : ∀ x, Dn n (f x)) : Dn (n + 1) (.lst (xs.map f)) := .lst n fun d hd => by
  obtain ⟨x, _, rfl⟩ := List.mem_map.mp hd
  exact h x
theorem dm_map {α : Type} {n : Nat} {f : α → D} {xs : List α} (h : ∀ x, Dn n (f x)) : ∀ d ∈ xs.map f, Dn n d := fun d hd => by
  obtain ⟨x, _, rfl⟩ := List.mem_map.mp hd
  exact h x
theorem dm_nil {n : Nat} : ∀ d ∈ ([] : List D), Dn n d := fun _ h => nomatch h
theorem dm_cons {n : Nat} {d : D} {ds : List D} (h : Dn n d) (k : ∀ d ∈ ds, Dn n d) : ∀ e ∈ d :: ds, Dn n e := fun e he => by
  rcases List.mem_cons.mp he with rfl | he
  · exact h
  · exact k e he
theorem dm_app {n : Nat} {ds es : List D} (h : ∀ d ∈ ds, Dn n d) (k : ∀ d ∈ es, Dn n d) : ∀ e ∈ ds ++ es, Dn n e := fun e he => by
  rcases List.mem_append.mp he with he | he
  · exact h e he
  · exact k e he
theorem dn_lst {n : Nat} {ds : List D} (h : ∀ d ∈ ds, Dn n d) : Dn (n + 1) (.lst ds) := .lst n h
theorem dn_tup {n : Nat} {ds : List D} (h : ∀ d ∈ ds, Dn n d) : Dn (n + 1) (.tup ds) := .tup n h
/-! ### what == and in say of written data -/
theorem any_int (x : Int) (xs : List Int) : ((xs.map D.int).any fun z => deq z (.int x)) = decide (x ∈ xs) := Enc.int.any x xs
theorem deq_ints (xs ys : List Int) : deq (.lst (xs.map D.int)) (.lst (ys.map D.int)) = decide (xs = ys) := Enc.ints xs ys
theorem deq_nil (xs : List Int) : deq (.lst (xs.map D.int)) (.lst []) = decide (xs = []) := Enc.ints xs []
theorem deq_lnil : ∀ ds : List D, deq (.lst ds) (.lst []) = decide (ds = [])
  | [] => by
    unfold deq
    simp [D.py, D.pyL, PyData.eqv, PyData.eqvAll]
  | d :: ds => by
    unfold deq
    simp [D.py, D.pyL, PyData.eqv, PyData.eqvAll]
end Mb
set_option Elab.async false
set_option linter.all false
set_option maxRecDepth 100000
set_option maxHeartbeats 4000000
namespace Mb
open PySem PySem.Spec PyProof.Rows L2

/-! ### each number once, rising -/
def nubStep (acc : List Int) (n : Int) : List Int := if n ∈ acc then acc else acc ++ [n]
def nubL (ns : List Int) : List Int := ns.foldl nubStep []
def plainL (ns : List Int) : List Int := isort (nubL ns)
theorem nub_go (ns : List Int) : ∀ acc : List Int, acc.Nodup → (ns.foldl nubStep acc).Nodup ∧ ∀ x, x ∈ ns.foldl nubStep acc ↔ x ∈ acc ∨ x ∈ ns := by
  induction ns with
  | nil => exact fun acc h => ⟨h, fun x => by simp⟩
  | cons n ns ih =>
    intro acc h
    have hs : (nubStep acc n).Nodup := by
      unfold nubStep
      split
      · exact h
      · rename_i hn
        rw [List.nodup_append]
        exact ⟨h, by simp, fun a ha b hb e => hn (by rw [List.mem_singleton] at hb; rw [← hb, ← e]; exact ha)⟩
    have hm : ∀ x, x ∈ nubStep acc n ↔ x ∈ acc ∨ x = n := fun x => by
      unfold nubStep
      split
      · rename_i hn
        exact ⟨.inl, fun z => z.elim id fun e => e ▸ hn⟩
      · simp
    obtain ⟨a, b⟩ := ih (nubStep acc n) hs
    refine ⟨a, fun x => ?_⟩
    rw [List.foldl_cons, b x, hm x, List.mem_cons]
    constructor
    · rintro ((h | h) | h)
      · exact .inl h
      · exact .inr (.inl h)
      · exact .inr (.inr h)
    · rintro (h | h | h)
      · exact .inl (.inl h)
      · exact .inl (.inr h)
      · exact .inr h
theorem nub_nodup (ns : List Int) : (nubL ns).Nodup := (nub_go ns [] List.nodup_nil).1
theorem mem_nub (ns : List Int) (x : Int) : x ∈ nubL ns ↔ x ∈ ns := by
  rw [nubL, (nub_go ns [] List.nodup_nil).2 x]
  simp
theorem mem_plain (ns : List Int) (x : Int) : x ∈ plainL ns ↔ x ∈ ns := ((isort_perm _).mem_iff).trans (mem_nub ns x)
theorem plain_lt (ns : List Int) : (plainL ns).Pairwise (· < ·) := by
  have h1 := isort_le (nubL ns)
  have h2 : (plainL ns).Nodup := (isort_perm _).nodup_iff.mpr (nub_nodup ns)
  exact (h1.and h2).imp fun ⟨a, b⟩ => by omega
theorem nub_len (ns : List Int) : (nubL ns).length ≤ ns.length := by
  have go : ∀ (ns acc : List Int), (ns.foldl nubStep acc).length ≤ acc.length + ns.length := by
    intro ns
    induction ns with
    | nil => exact fun acc => Nat.le_refl _
    | cons n ns ih =>
      intro acc
      have h := ih (nubStep acc n)
      have h2 : (nubStep acc n).length ≤ acc.length + 1 := by
        unfold nubStep
        split
        · omega
        · simp
      rw [List.foldl_cons, List.length_cons]
      omega
  have := go ns []
  simpa [nubL] using this
theorem plain_len (ns : List Int) : (plainL ns).length ≤ ns.length := by
  have h := (isort_perm (nubL ns)).length_eq
  have h2 := nub_len ns
  unfold plainL
  omega
/-- there is one rising list of a set -/
theorem rising_one : ∀ {xs ys : List Int}, xs.Pairwise (· < ·) → ys.Pairwise (· < ·) → (∀ x, x ∈ xs ↔ x ∈ ys) → xs = ys := by
  intro xs ys hx hy h
  have nx : xs.Nodup := hx.imp fun h => by omega
  have ny : ys.Nodup := hy.imp fun h => by omega
  have p : xs.Perm ys := by
    refine (List.perm_ext_iff_of_nodup nx ny).mpr h
  exact sorted_one p (hx.imp fun h => by omega) (hy.imp fun h => by omega)
theorem plain_self {ns : List Int} (h : ns.Pairwise (· < ·)) : plainL ns = ns := rising_one (plain_lt ns) h (mem_plain ns)
/-! the dict of a set -/
def kvT (ns : List Int) : List (Key × V) := ns.map fun n => (Sum.inl n, V.bl true)
theorem kvT_put (acc : List Int) (n : Int) : putK (kvT acc) (Sum.inl n) (V.bl true) = kvT (nubStep acc n) := by
  unfold putK nubStep
  have e : ((kvT acc).any fun kv => decide (kv.1 = Sum.inl n)) = decide (n ∈ acc) := by
    unfold kvT
    rw [List.any_map]
    induction acc with
    | nil => simp
    | cons a acc ih =>
      rw [List.any_cons, ih]
      show (decide ((Sum.inl a : Key) = Sum.inl n) || _) = _
      by_cases h : a = n
      · subst h
        simp
      · have h2 : ¬ (Sum.inl a : Key) = Sum.inl n := fun z => h (Sum.inl.inj z)
        by_cases h3 : n ∈ acc <;> simp [h2, h3, Ne.symm h]
  rw [e]
  by_cases h : n ∈ acc
  · rw [if_pos (by simp [h]), if_pos h]
    unfold kvT
    rw [List.map_map]
    refine List.map_congr_left fun a _ => ?_
    show (if (Sum.inl a : Key) = Sum.inl n then ((Sum.inl a : Key), V.bl true) else (Sum.inl a, V.bl true)) = _
    split <;> rfl
  · rw [if_neg (by simp [h]), if_neg h]
    unfold kvT
    rw [List.map_append]
    rfl
theorem nub_take {ns : List Int} {i : Nat} {n : Int} (h : ns[i]? = some n) : nubL (ns.take (i + 1)) = nubStep (nubL (ns.take i)) n := by
  unfold nubL
  rw [List.take_add_one, h, List.foldl_append]
  rfl
def A_plain : List D → Ot → Prop := fun ds o => ∃ ns : List Int, ds = [.ints ns] ∧ o = .inl (.fr ((plainL ns).map D.int))
/-- found = {}; for number in numbers: found[number] = True; return sorted(list(found)) -/
theorem plain_run {U : Wd} {vs : List V} {H : Hp} {Q : VK} {E : XK} {R : Ends} (h : spX U A_plain vs H Q E) (hR : R.rt = Q) :
    tSeq (tAsg tDNewK (gName 1)) (tSeq (tFor (iList U.K (tVar 0)) (gName 2) (sDPut (tVar 1) (tVar 2) (tC (.bl true)))) (tRet (tCB (rSortedI U.K) (tCons (tCB rListD (tCons (tVar 1) tNil)) tNil)))) R (L2.start ["numbers", "found", "number"] vs) H := by
  obtain ⟨ds, o, S, ⟨ns, rfl, rfl⟩, ex, rl, q1, _⟩ := h
  cases rl with
  | cons ra rl =>
    cases rl
    cases ra with
    | @lst a vs _ h1 z h2 =>
      have e2 := RepL.ints h2
      subst e2
      rw [List.length_map] at z
      intro d hd
      refine ⟨_, rfl, a, rfl, ⟨_, .of (Ex.new hd _ _ (ex _ _ h1))⟩, ?_⟩
      refine for_list (K := U.K) (a := a) (xs := ns.map V.int) (fun i σ H' => ∃ x, σ = [some (.ref a), some (.ref d), x] ∧ Ex H H' ∧ H' d = some (.dK (kvT (nubL (ns.take i))))) ⟨none, rfl, Ex.new hd, upd_same⟩ (fun i σ H' _ p => ?_) (fun i x σ H' hx p => ?_) (fun σ H' p => ?_)
      · obtain ⟨_, _, e, _⟩ := p
        exact .of (e _ _ (ex _ _ h1))
      · obtain ⟨y, rfl, e, hdk⟩ := p
        rw [List.getElem?_map] at hx
        cases hn : ns[i]? with
        | none =>
          rw [hn] at hx
          cases hx
        | some n =>
          rw [hn] at hx
          obtain rfl := Option.some.inj (show some (V.int n) = some x from hx)
          refine ⟨_, rfl, _, rfl, d, _, rfl, DPut.k (k := Sum.inl n) hdk ?_, some (V.int n), rfl, Ex.mut e hd, ?_⟩
          · unfold kvT
            rw [List.length_map]
            have h3 := nub_len (ns.take i)
            have h4 := (List.getElem?_eq_some_iff.mp hn).1
            rw [List.length_take] at h3
            omega
          · rw [upd_same, kvT_put, nub_take hn]
      · obtain ⟨y, rfl, e, hdk⟩ := p
        rw [List.length_map, List.take_length] at hdk
        refine ⟨_, rfl, d, _, rfl, hdk, fun l hl => ?_⟩
        have el : ((kvT (nubL ns)).map fun kv => kV kv.1) = (nubL ns).map V.int := by
          unfold kvT
          rw [List.map_map]
          rfl
        rw [el]
        refine ⟨l, _, rfl, .of upd_same, fun ns' p hp hw hnp => ?_⟩
        have e3 : ns' = plainL ns := sorted_one (hp.trans (isort_perm _).symm) hw (isort_le _)
        subst e3
        rw [hR]
        have e4 : Ex H (upd (upd H' l (.lst ((nubL ns).map V.int))) p (.lst ((plainL ns).map V.int))) := (e.trans (Ex.new hl)).trans (Ex.new hnp)
        have np : H p = none := (e.trans (Ex.new hl)).back hnp
        exact q1 _ rfl (.ref p) S _ ⟨Ex.refl S, ex.trans e4, e4, fun _ z => .inl z⟩ ⟨p, _, rfl, upd_same, ex.back np, np, by rw [List.length_map]; exact Nat.le_trans (plain_len ns) z, RepL.ofInts _⟩
end Mb
set_option Elab.async false
set_option linter.all false
set_option maxRecDepth 100000
set_option maxHeartbeats 4000000
namespace Mb
open PySem PySem.Spec PyProof.Rows L2
/-! ### what the program's defs compute -/
abbrev Rule := List Int × List Int
abbrev encR (r : Rule) : D := .tup [.ints r.1, .ints r.2]
abbrev D.rules (rs : List Rule) : D := .lst (rs.map encR)
def withinB (xs ys : List Int) : Bool := xs.all fun x => decide (x ∈ ys)
def metB (r : Rule) (ms : List Int) : Bool := !(withinB r.1 ms) || withinB r.2 ms
abbrev A_within : List D → Ot → Prop := fun ds o => ∃ xs ys : List Int, ds = [.ints xs, .ints ys] ∧ o = .inl (.sh (.bl (withinB xs ys)))
abbrev A_met : List D → Ot → Prop := fun ds o => ∃ (a b ms : List Int), ds = [.tup [.ints a, .ints b], .ints ms] ∧ o = .inl (.sh (.bl (metB (a, b) ms)))
theorem withinB_iff {xs ys : List Int} : withinB xs ys = true ↔ ∀ x ∈ xs, x ∈ ys := by
  unfold withinB
  rw [List.all_eq_true]
  simp
theorem metB_iff {r : Rule} {ms : List Int} : metB r ms = true ↔ ((∀ x ∈ r.1, x ∈ ms) → ∀ x ∈ r.2, x ∈ ms) := by
  unfold metB
  rw [Bool.or_eq_true, Bool.not_eq_true', withinB_iff]
  constructor
  · rintro (h | h) h2
    · rw [withinB_iff.mpr h2] at h
      cases h
    · exact h
  · intro h
    cases e : withinB r.1 ms with
    | false => exact .inl rfl
    | true => exact .inr (h (withinB_iff.mp e))
/-! grown -/
def growStep (f : List Int) (r : Rule) : List Int := if metB r f then f else plainL (f ++ r.2)
def growPass (rs : List Rule) (f : List Int) : List Int := rs.foldl growStep f
def growN (rs : List Rule) : Nat → List Int → List Int
  | 0, f => f
  | n + 1, f => growN rs n (growPass rs f)
def univ (rs : List Rule) (ms : List Int) : List Int := ms ++ (rs.map (·.2)).flatten
def grownL (rs : List Rule) (ms : List Int) : List Int := growN rs ((univ rs ms).length + 1) (plainL ms)
structure Grown (rs : List Rule) (ms f : List Int) : Prop where
  rise : f.Pairwise (· < ·)
  has : ∀ x ∈ ms, x ∈ f
  meets : ∀ r ∈ rs, metB r f = true
  least : ∀ t : List Int, (∀ x ∈ ms, x ∈ t) → (∀ r ∈ rs, metB r t = true) → ∀ x ∈ f, x ∈ t
theorem Grown.one {rs : List Rule} {ms f g : List Int} (a : Grown rs ms f) (b : Grown rs ms g) : f = g :=
  rising_one a.rise b.rise fun x => ⟨fun h => a.least g b.has b.meets x h, fun h => b.least f a.has a.meets x h⟩
/-- a set on the way -/
structure Way (rs : List Rule) (ms f : List Int) : Prop where
  rise : f.Pairwise (· < ·)
  has : ∀ x ∈ ms, x ∈ f
  in_ : ∀ x ∈ f, x ∈ univ rs ms
  least : ∀ t : List Int, (∀ x ∈ ms, x ∈ t) → (∀ r ∈ rs, metB r t = true) → ∀ x ∈ f, x ∈ t
section
variable {rs : List Rule} {ms f : List Int}
theorem Way.start : Way rs ms (plainL ms) := ⟨plain_lt ms, fun x h => (mem_plain ms x).mpr h, fun x h => List.mem_append_left _ ((mem_plain ms x).mp h), fun t h _ x hx => h x ((mem_plain ms x).mp hx)⟩
theorem Way.step (w : Way rs ms f) {r : Rule} (hr : r ∈ rs) : Way rs ms (growStep f r) ∧ ∀ x ∈ f, x ∈ growStep f r := by
  unfold growStep
  split
  · exact ⟨w, fun _ h => h⟩
  · rename_i hm
    have hf : withinB r.1 f = true := by
      unfold metB at hm
      cases e : withinB r.1 f with
      | true => rfl
      | false =>
        rw [e] at hm
        exact absurd rfl hm
    have hm2 : ∀ x, x ∈ plainL (f ++ r.2) ↔ x ∈ f ∨ x ∈ r.2 := fun x => by rw [mem_plain, List.mem_append]
    refine ⟨⟨plain_lt _, fun x h => (hm2 x).mpr (.inl (w.has x h)), fun x h => ?_, fun t h1 h2 x h => ?_⟩, fun x h => (hm2 x).mpr (.inl h)⟩
    · rcases (hm2 x).mp h with h | h
      · exact w.in_ x h
      · exact List.mem_append_right _ (List.mem_flatten.mpr ⟨r.2, List.mem_map.mpr ⟨r, hr, rfl⟩, h⟩)
    · have l := w.least t h1 h2
      rcases (hm2 x).mp h with h | h
      · exact l x h
      · exact metB_iff.mp (h2 r hr) (fun y hy => l y (withinB_iff.mp hf y hy)) x h
theorem Way.len (w : Way rs ms f) : f.length ≤ (univ rs ms).length := List.Nodup.length_le_of_subset (w.rise.imp fun h => by omega) fun x h => w.in_ x h
theorem Way.go (w : Way rs ms f) : ∀ {l : List Rule}, (∀ r ∈ l, r ∈ rs) → Way rs ms (l.foldl growStep f) ∧ ∀ x ∈ f, x ∈ l.foldl growStep f := by
  intro l
  induction l generalizing f with
  | nil => exact fun _ => ⟨w, fun _ h => h⟩
  | cons r l ih =>
    intro h
    obtain ⟨a, b⟩ := w.step (h r List.mem_cons_self)
    obtain ⟨c, d⟩ := ih a fun x hx => h x (List.mem_cons_of_mem _ hx)
    exact ⟨c, fun x hx => d x (b x hx)⟩
theorem Way.pass (w : Way rs ms f) : Way rs ms (growPass rs f) ∧ ∀ x ∈ f, x ∈ growPass rs f := w.go fun _ h => h
theorem rise_eq {f g : List Int} (hf : f.Pairwise (· < ·)) (hg : g.Pairwise (· < ·)) (h : ∀ x ∈ f, x ∈ g) (hl : g.length ≤ f.length) : f = g := by
  refine rising_one hf hg fun x => ⟨h x, fun hx => ?_⟩
  have nf : f.Nodup := hf.imp fun h => by omega
  have ng : g.Nodup := hg.imp fun h => by omega
  by_cases hm : x ∈ f
  · exact hm
  · exfalso
    have h1 : (x :: f).Nodup := List.nodup_cons.mpr ⟨hm, nf⟩
    have h2 := List.Nodup.length_le_of_subset h1 (l₂ := g) fun y hy => by
      rcases List.mem_cons.mp hy with rfl | hy
      · exact hx
      · exact h y hy
    rw [List.length_cons] at h2
    omega
/-- where a pass changes nothing, all rules are met -/
theorem Way.done (w : Way rs ms f) (e : growPass rs f = f) : Grown rs ms f := by
  refine ⟨w.rise, w.has, fun r hr => ?_, w.least⟩
  -- no step of the pass changes the set
  have key : ∀ (l : List Rule) (f : List Int), Way rs ms f → (∀ r ∈ l, r ∈ rs) → l.foldl growStep f = f → ∀ r ∈ l, growStep f r = f := by
    intro l
    induction l with
    | nil => exact fun _ _ _ _ r h => nomatch h
    | cons q l ih =>
      intro f w hl e r hr
      obtain ⟨a, b⟩ := w.step (hl q List.mem_cons_self)
      obtain ⟨c, d⟩ := a.go (l := l) fun x hx => hl x (List.mem_cons_of_mem _ hx)
      rw [List.foldl_cons] at e
      have e1 : growStep f q = f := by
        refine (rise_eq w.rise a.rise b ?_).symm
        refine List.Nodup.length_le_of_subset (a.rise.imp fun h => by omega) fun x hx => ?_
        have := d x hx
        rw [e] at this
        exact this
      rw [e1] at e
      rcases List.mem_cons.mp hr with rfl | hr
      · exact e1
      · exact ih f w (fun x hx => hl x (List.mem_cons_of_mem _ hx)) e r hr
  have k := key rs f w (fun _ h => h) e r hr
  unfold growStep at k
  split at k
  · assumption
  · rename_i hm
    exfalso
    apply hm
    refine metB_iff.mpr fun _ x hx => ?_
    rw [← k, mem_plain]
    exact List.mem_append_right _ hx
theorem growN_stay (e : growPass rs f = f) : ∀ n, growN rs n f = f
  | 0 => rfl
  | n + 1 => by
    show growN rs n (growPass rs f) = f
    rw [e]
    exact growN_stay e n
theorem Way.all : ∀ (n : Nat) {f : List Int}, Way rs ms f → Way rs ms (growN rs n f)
  | 0, _, w => w
  | n + 1, _, w => Way.all n w.pass.1
theorem growN_done : ∀ (n : Nat) {f : List Int}, Way rs ms f → (univ rs ms).length < n + f.length → growPass rs (growN rs n f) = growN rs n f
  | 0, f, w, h => by
    have := w.len
    omega
  | n + 1, f, w, h => by
    obtain ⟨a, b⟩ := w.pass
    by_cases e : growPass rs f = f
    · rw [growN_stay e]
      exact e
    · refine growN_done n a ?_
      have : f.length < (growPass rs f).length := by
        rcases Nat.lt_or_ge f.length (growPass rs f).length with h | h
        · exact h
        · exact absurd (rise_eq w.rise a.rise b h).symm e
      omega
theorem grown_is (rs : List Rule) (ms : List Int) : Grown rs ms (grownL rs ms) := (Way.all _ Way.start).done (growN_done _ Way.start (by omega))
end
abbrev A_grown : List D → Ot → Prop := fun ds o => ∃ (rs : List Rule) (ms : List Int), ds = [.rules rs, .ints ms] ∧ (univ rs ms).length + (univ rs ms).length ≤ 1000000 ∧ o = .inl (.fr ((grownL rs ms).map D.int))
end Mb
set_option Elab.async false
set_option linter.all false
set_option maxRecDepth 100000
set_option maxHeartbeats 4000000
namespace Mb
open PySem PySem.Spec PyProof.Rows L2
/-! ### what the laws' own defs compute -/
def cellI (ns : List Int) (k : Int) : Int := ns.getD k.toNat 0
abbrev A_cell : List D → Ot → Prop := fun ds o => ∃ (ns : List Int) (k : Int), ds = [.scr ns, .int k] ∧ 0 ≤ k ∧ o = .inl (.sh (.int (cellI ns k)))
abbrev A_whole : List D → Ot → Prop := fun ds o => ∃ i : Int, ds = [.int i] ∧ o = .inl (.sh (.bl true))
theorem fmod_lo {a b : Int} (h : 0 < b) : 0 ≤ a.fmod b := Int.fmod_nonneg_of_pos a h
theorem fmod_hi {a b : Int} (h : 0 < b) : a.fmod b < b := Int.fmod_lt_of_pos a h
def lacksL (xs ys : List Int) : List Int := xs.filter fun x => !decide (x ∈ ys)
abbrev A_lacks : List D → Ot → Prop := fun ds o => ∃ (xs ys : List Int), ds = [.ints xs, .ints ys] ∧ o = .inl (.fr ((lacksL xs ys).map D.int))
theorem lacks_nil {xs ys : List Int} : lacksL xs ys = [] ↔ ∀ x ∈ xs, x ∈ ys := by
  unfold lacksL
  rw [List.filter_eq_nil_iff]
  constructor
  · intro h x hx
    have := h x hx
    simpa using this
  · intro h x hx
    have := h x hx
    simpa using this
theorem lacks_within {xs ys : List Int} : decide (lacksL xs ys = []) = withinB xs ys := by
  cases e : withinB xs ys with
  | true => exact decide_eq_true (lacks_nil.mpr (withinB_iff.mp e))
  | false => exact decide_eq_false fun h => by rw [withinB_iff.mpr (lacks_nil.mp h)] at e; cases e
theorem atI_lastR {α : Type} {f : α → D} {d : α} {xs : List α} (h : xs ≠ []) : atI (xs.map f) (-1) = some (f (xs.getLastD d)) := by
  have e : xs = xs.dropLast ++ [xs.getLast h] := (List.dropLast_concat_getLast h).symm
  have e2 : xs.getLastD d = xs.getLast h := by
    rw [List.getLastD_eq_getLast?, List.getLast?_eq_getLast h]
    rfl
  rw [e2]
  have : xs.map f = xs.dropLast.map f ++ [f (xs.getLast h)] := by
    conv => lhs; rw [e]
    rw [List.map_append]
    rfl
  rw [this]
  exact atI_last _ _
end Mb
set_option Elab.async false
set_option linter.all false
set_option maxRecDepth 100000
set_option maxHeartbeats 4000000
namespace Mb
open PySem PySem.Spec PyProof.Rows L2
section
variable {G : Gx} {ρ : List Sl} {R : Oc → Prop} {e c : Expr} {pos p pos' : Pos} {n : Str} {d d0 d' : D}
/-- if c: n = e, told by what n has behind it -/
theorem s_ifset {k : Bool} (hc : TD G c ρ k) (he : k = true → ED G e ρ (.sh d)) (h1 : k = true → d = d') (h2 : k = false → d0 = d') (h0 : ρ[G.N.idxOf n]? = some (.sh d0)) (hR : R (.nx (ρ.set (G.N.idxOf n) (.sh d')))) (hN : G.N.Nodup) (hi : G.N.idxOf n < G.N.length) (ok : setOk G.sc G.fn n = true) (hs : NoSwap G e n p pos := by intros _ _; rfl) :
    S1 G (.If c [.Assign [.Name n p] e pos] [] pos') ρ R := by
  refine s_if hc (fun hk => sd_cons (s_set (d := d') (h1 hk ▸ he hk) (sd_nil hR) hN hi ok hs)) fun hk => sd_nil ?_
  have e2 : ρ.set (G.N.idxOf n) (.sh d') = ρ := by
    rw [← h2 hk]
    refine List.ext_getElem? fun j => ?_
    by_cases hj : G.N.idxOf n = j
    · subst hj
      have := (List.getElem?_eq_some_iff.mp h0).1
      rw [List.getElem?_set_self this, h0]
    · rw [List.getElem?_set_ne hj]
  rw [e2] at hR
  exact hR
end
section
variable {G : Gx} {ρ : List Sl} {R : Oc → Prop} {it : Expr} {pos pn : Pos} {n : Str} {body : List Stmt}
/-- over 0, 1, .. -/
theorem s_forR {m : Nat} (hi : IF G (.Name n pn) it ρ ((List.range m).map fun (j : Nat) => D.int (j : Int))) (Inv : Nat → List Sl → Prop) (h0 : Inv 0 ρ) (hs : ∀ (i : Nat) (ρ' : List Sl), i < m → Inv i ρ' → SD G body (ρ'.set (G.N.idxOf n) (.sh (.int (i : Int)))) (Lp (Inv (i + 1)) R)) (hd : ∀ ρ', Inv m ρ' → R (.nx ρ'))
    (hN : G.N.Nodup) (hx : G.N.idxOf n < G.N.length) (ok : setOk G.sc G.fn n = true) (hf : ∀ env x, foldedSetIterable it env x = pure x := by intros; rfl) : S1 G (.For (.Name n pn) it body [] pos) ρ R :=
  s_for hi Inv h0 (fun i d ρ' hd inv => by
    rw [List.getElem?_map] at hd
    cases e : (List.range m)[i]? with
    | none =>
      rw [e] at hd
      cases hd
    | some x =>
      rw [e] at hd
      obtain ⟨hk, ew⟩ := List.getElem?_eq_some_iff.mp e
      rw [List.getElem_range] at ew
      rw [List.length_range] at hk
      subst ew
      obtain rfl := Option.some.inj (show some _ = some d from hd)
      exact hs i ρ' hk inv) (fun ρ' h => hd ρ' (by rw [List.length_map, List.length_range] at h; exact h)) hN hx ok hf
/-- over a typed list -/
theorem s_forL {α : Type} {xs : List α} {enc : α → D} (hi : IF G (.Name n pn) it ρ (xs.map enc)) (Inv : Nat → List Sl → Prop) (h0 : Inv 0 ρ) (hs : ∀ (i : Nat) (x : α) (ρ' : List Sl), xs[i]? = some x → Inv i ρ' → SD G body (ρ'.set (G.N.idxOf n) (.sh (enc x))) (Lp (Inv (i + 1)) R)) (hd : ∀ ρ', Inv xs.length ρ' → R (.nx ρ'))
    (hN : G.N.Nodup) (hx : G.N.idxOf n < G.N.length) (ok : setOk G.sc G.fn n = true) (hf : ∀ env x, foldedSetIterable it env x = pure x := by intros; rfl) : S1 G (.For (.Name n pn) it body [] pos) ρ R :=
  s_for hi Inv h0 (fun i d ρ' hd inv => by
    rw [List.getElem?_map] at hd
    cases e : xs[i]? with
    | none =>
      rw [e] at hd
      cases hd
    | some x =>
      rw [e] at hd
      obtain rfl := Option.some.inj (show some _ = some d from hd)
      exact hs i x ρ' e inv) (fun ρ' h => hd ρ' (by rw [List.length_map] at h; exact h)) hN hx ok hf
end
theorem Enc.rule : Enc encR := Enc.pair Enc.ints Enc.ints
theorem Enc.rules : Enc D.rules := Enc.lst Enc.rule
theorem deq_rules (xs ys : List Rule) : deq (.lst (xs.map encR)) (.lst (ys.map encR)) = decide (xs = ys) := Enc.rules xs ys
end Mb
set_option Elab.async false
set_option linter.all false
set_option maxRecDepth 100000
set_option maxHeartbeats 4000000
namespace Mb
open PySem PySem.Spec PyProof.Rows L2
local macro_rules | `(tactic| wtm_at "m.dec") => `(tactic| (dsimp only [Gx.blk]; decide +kernel))
local macro_rules | `(tactic| wtm_at "m.hint") => `(tactic| fail)
local macro_rules | `(tactic| wtm_at "m.side") => `(tactic| first | assumption | decide | omega | exact Or.inr (And.intro (by omega) (by omega)) | exact Or.inl (And.intro (by omega) (by omega)) | exact And.intro (by omega) (by omega) | wtm_at "m.hint")
local macro_rules | `(tactic| wtm_at "m.dn") => `(tactic| first
  | exact Dn.int _ _ | exact Dn.bl _ _ | exact Dn.non _
  | (refine dn_lst (n := _) ?_; wtm_at "m.dm") | (refine dn_tup (n := _) ?_; wtm_at "m.dm"))
local macro_rules | `(tactic| wtm_at "m.dm") => `(tactic| first
  | exact dm_nil | (refine dm_map ?_; intro _; wtm_at "m.dn") | (refine dm_cons ?a ?b; (case a => wtm_at "m.dn"); (case b => wtm_at "m.dm")) | (refine dm_app ?a ?b; (case a => wtm_at "m.dm"); (case b => wtm_at "m.dm")))
local macro_rules | `(tactic| wtm_at "m.tosh") => `(tactic| first | exact ToSh.sh _ | exact ToSh.fr _)
local macro_rules | `(tactic| wtm_at "m.eds") => `(tactic| (refine' ED.toSh ?h ?t ?q; (case h => wtm_at "m.ed"); (case t => wtm_at "m.tosh"); (case q => exact rfl)))
local macro_rules | `(tactic| wtm_at "m.ad") => `(tactic| first
  | exact ad_nil
  | (refine' ad_cons' ?h ?t ?r; (case h => wtm_at "m.ed"); (case t => wtm_at "m.tosh"); (case r => wtm_at "m.ad")))
local macro_rules | `(tactic| wtm_at "m.ic") => `(tactic| first
  | (refine' ic_range (by assumption) ?a ?b ?c ?g; (case a => wtm_at "m.ed"); (case g => rfl); (case b => wtm_at "m.side"); (case c => wtm_at "m.side"))
  | (refine' ic_list ?h ?q; (case h => wtm_at "m.ed"); (case q => exact rfl)))
local macro_rules | `(tactic| wtm_at "m.if") => `(tactic| first
  | (refine' if_range (by assumption) ?a ?b ?c ?g; (case a => wtm_at "m.ed"); (case g => rfl); (case b => wtm_at "m.side"); (case c => wtm_at "m.side"))
  | (refine' if_range2 (by assumption) ?a ?a2 ?b ?g; (case a => wtm_at "m.ed"); (case a2 => wtm_at "m.ed"); (case g => rfl); (case b => wtm_at "m.side"))
  | (refine' if_list ?h; (case h => wtm_at "m.ed"))
  | (refine' if_fr ?h; (case h => wtm_at "m.ed"))
  | (refine' if_tup ?h; (case h => wtm_at "m.ed")))
local macro_rules | `(tactic| wtm_at "m.ld") => `(tactic| first
  | (refine' ld_lc0 ?n ?i ?j ?o ?l ?e; (case n => assumption); (case i => wtm_at "m.ic"); (case j => wtm_at "m.dec"); (case o => wtm_at "m.dec"); (case l => wtm_at "m.dec"); (case e => intro _ hx; (try have hx := List.mem_range.mp hx); wtm_at "m.eds"))
  | (refine' ld_lc1 ?n ?i ?j ?o ?l ?t ?e; (case n => assumption); (case i => wtm_at "m.ic"); (case j => wtm_at "m.dec"); (case o => wtm_at "m.dec"); (case l => wtm_at "m.dec"); (case t => (intro _ hx; (try have hx := List.mem_range.mp hx); refine TD.cast ?h ?q; (case h => wtm_at "m.td"); (case q => exact rfl))); (case e => intro _ hx _; (try have hx := List.mem_range.mp hx); wtm_at "m.eds"))
  | (refine' ld_lcp0 ?n ?i ?j ?j2 ?o ?l ?l2 ?e; (case n => assumption); (case i => wtm_at "m.ic"); (case j => wtm_at "m.dec"); (case j2 => wtm_at "m.dec"); (case o => wtm_at "m.dec"); (case l => wtm_at "m.dec"); (case l2 => wtm_at "m.dec"); (case e => intro _ _; wtm_at "m.eds"))
  | (refine' ld_lcp1 ?n ?i ?j ?j2 ?o ?l ?l2 ?t ?e; (case n => assumption); (case i => wtm_at "m.ic"); (case j => wtm_at "m.dec"); (case j2 => wtm_at "m.dec"); (case o => wtm_at "m.dec"); (case l => wtm_at "m.dec"); (case l2 => wtm_at "m.dec"); (case t => (intro _ hx; (try have hx := List.mem_range.mp hx); refine TD.cast ?h ?q; (case h => wtm_at "m.td"); (case q => exact rfl))); (case e => intro _ hx _; (try have hx := List.mem_range.mp hx); wtm_at "m.eds")))
local macro_rules | `(tactic| wtm_at "m.addr") => `(tactic| first | exact AddR.int _ _ | (refine' AddR.cat ?x ?y ?z; (case x => exact rfl); (case y => exact rfl); (case z => wtm_at "m.side")))
local macro_rules | `(tactic| wtm_at "m.at") => `(tactic| first
  | exact rfl
  | assumption
  | (refine atI_get (d := (0 : Int)) ?a ?b; (case a => wtm_at "m.side"); (case b => wtm_at "m.side"))
  | (refine atI_ints (d := default) ?a ?b; (case a => wtm_at "m.side"); (case b => wtm_at "m.side"))
  | (refine atI_lit ?a ?b ?c; (case a => wtm_at "m.side"); (case b => wtm_at "m.side"); (case c => rfl)))
local macro_rules | `(tactic| wtm_at "m.ixd") => `(tactic| first
  | (refine' IxD.tup ?h; (case h => wtm_at "m.at"))
  | (refine' IxD.scr ?h; (case h => wtm_at "m.at"))
  | (refine' IxD.list ?x ?h; (case x => exact rfl); (case h => wtm_at "m.at")))
local macro_rules | `(tactic| wtm_at "m.cp") => `(tactic| first
  | (refine' cp_lt ?a ?b; (case a => wtm_at "m.ed"); (case b => wtm_at "m.ed"))
  | (refine' cp_le ?a ?b; (case a => wtm_at "m.ed"); (case b => wtm_at "m.ed"))
  | (refine' cp_gt ?a ?b; (case a => wtm_at "m.ed"); (case b => wtm_at "m.ed"))
  | (refine' cp_ge ?a ?b; (case a => wtm_at "m.ed"); (case b => wtm_at "m.ed"))
  | (refine' cp_eq ?a ?b ?c ?d; (case a => wtm_at "m.ed"); (case b => wtm_at "m.ed"); (case c => wtm_at "m.dn"); (case d => wtm_at "m.dn"))
  | (refine' cp_ne ?a ?b ?c ?d; (case a => wtm_at "m.ed"); (case b => wtm_at "m.ed"); (case c => wtm_at "m.dn"); (case d => wtm_at "m.dn"))
  | (refine' cp_in ?a ?b ?e ?c ?d ?m; (case a => wtm_at "m.ed"); (case b => wtm_at "m.ed"); (case e => exact rfl); (case c => wtm_at "m.dn"); (case d => wtm_at "m.dm"); (case m => rfl))
  | (refine' cp_nin ?a ?b ?e ?c ?d ?m; (case a => wtm_at "m.ed"); (case b => wtm_at "m.ed"); (case e => exact rfl); (case c => wtm_at "m.dn"); (case d => wtm_at "m.dm"); (case m => rfl))
  | (refine' cp_isN ?a; (case a => wtm_at "m.ed"))
  | (refine' cp_notN ?a; (case a => wtm_at "m.ed"))
  | (refine' ch_le_lt ?a ?b ?c; (case a => wtm_at "m.ed"); (case b => wtm_at "m.ed"); (case c => wtm_at "m.ed"))
  | (refine' ch_le_le ?a ?b ?c; (case a => wtm_at "m.ed"); (case b => wtm_at "m.ed"); (case c => wtm_at "m.ed")))
local macro_rules | `(tactic| wtm_at "m.tw") => `(tactic| first
  | (refine' tw_and ?a ?b; (case a => wtm_at "m.td"); (case b => intro _; wtm_at "m.tw"))
  | (refine' tw_or ?a ?b; (case a => wtm_at "m.td"); (case b => intro _; wtm_at "m.tw"))
  | (refine' tw_and1 ?a; (case a => wtm_at "m.td"))
  | (refine' tw_or1 ?a; (case a => wtm_at "m.td")))
local macro_rules | `(tactic| wtm_at "m.td") => `(tactic| first
  | (refine' And.right (a := ?p) ?h; (case h => wtm_at "m.cp"))
  | (refine' td_not ?h; (case h => wtm_at "m.td"))
  | (refine' td_bool ?h; (case h => wtm_at "m.tw"))
  | (refine' td_val ?h; (case h => wtm_at "m.ed")))
local macro_rules | `(tactic| wtm_at "m.bo") => `(tactic| first
  | (refine' ed_and ?a ?b; (case a => wtm_at "m.ed"); (case b => intro _; wtm_at "m.bo"))
  | (refine' ed_or ?a ?b; (case a => wtm_at "m.ed"); (case b => intro _; wtm_at "m.bo"))
  | (refine' ed_one ?a; (case a => wtm_at "m.ed")))
local macro_rules | `(tactic| wtm_at "m.pre") => `(tactic| first
  | exact ⟨_, rfl, rfl⟩ | exact ⟨_, _, rfl, rfl⟩ | exact ⟨_, _, _, rfl, rfl⟩ | exact ⟨_, _, _, _, rfl, rfl⟩ | exact ⟨_, _, _, _, _, rfl, rfl⟩
  | (refine ⟨_, rfl, ?_, rfl⟩; wtm_at "m.side") | (refine ⟨_, _, rfl, ?_, rfl⟩; wtm_at "m.side") | (refine ⟨_, _, _, rfl, ?_, rfl⟩; wtm_at "m.side") | (refine ⟨_, _, _, _, rfl, ?_, rfl⟩; wtm_at "m.side"))
local macro_rules | `(tactic| wtm_at "m.call") => `(tactic| first
  | wtm_at "m.direct"
  | (refine' ed_thaw ?h ?d; (case h => wtm_at "m.direct"); (case d => rfl)))
local macro_rules | `(tactic| wtm_at "m.direct") => `(tactic| first
  | (refine' ed_call ?T ?k ?g ?a ?A; (case T => assumption); (case k => (dsimp only [Gx.blk]; decide)); (case g => rfl); (case a => wtm_at "m.ad"); (case A => wtm_at "m.pre"))
  | (refine' ed_many (by assumption) ?a ?b; (case a => wtm_at "m.ed"); (case b => exact rfl))
  | (refine' ed_rows (by assumption) ?a; (case a => wtm_at "m.ed"))
  | (refine' ed_meth (by assumption) ?T ?k ?o ?d ?a ?A; (case T => assumption); (case k => (dsimp only [Gx.blk]; decide)); (case o => wtm_at "m.ed"); (case d => exact rfl); (case a => wtm_at "m.ad"); (case A => wtm_at "m.pre")))
local macro_rules | `(tactic| wtm_at "m.ed") => `(tactic| first
  | (refine' ed_var ?h ?v; (case h => exact rfl); (case v => rfl))
  | exact ed_int
  | (refine' ed_ixR ?a ?b ?c; (case a => wtm_at "m.ed"); (case b => wtm_at "m.ed"); (case c => wtm_at "m.ixd"))
  | (refine' And.left (b := ?p) ?h; (case h => wtm_at "m.cp"))
  | (refine' ed_addR ?a ?b ?c; (case a => wtm_at "m.ed"); (case b => wtm_at "m.ed"); (case c => wtm_at "m.addr"))
  | (refine' ed_sub ?a ?b; (case a => wtm_at "m.ed"); (case b => wtm_at "m.ed"))
  | (refine' ed_mul ?a ?b ?c; (case a => wtm_at "m.ed"); (case b => wtm_at "m.ed"); (case c => wtm_at "m.side"))
  | (refine' ed_fdiv ?a ?b ?c; (case a => wtm_at "m.ed"); (case b => wtm_at "m.ed"); (case c => wtm_at "m.side"))
  | (refine' ed_mod ?a ?b ?c; (case a => wtm_at "m.ed"); (case b => wtm_at "m.ed"); (case c => wtm_at "m.side"))
  | (refine' ed_pow ?a ?b ?c; (case a => wtm_at "m.ed"); (case b => wtm_at "m.ed"); (case c => wtm_at "m.side"))
  | (refine' ed_neg ?a; (case a => wtm_at "m.ed"))
  | (refine' LD.ed ?a; (case a => wtm_at "m.ld"))
  | (refine' ed_len (by assumption) ?a ?b ?g; (case a => wtm_at "m.ed"); (case b => exact rfl); (case g => rfl))
  | (refine' ed_listRange (by assumption) ?a ?b ?c ?g ?g2; (case a => wtm_at "m.ed"); (case b => wtm_at "m.side"); (case c => wtm_at "m.side"); (case g => rfl); (case g2 => rfl))
  | (refine' ed_list (by assumption) ?a ?b ?g; (case a => wtm_at "m.ed"); (case b => exact rfl); (case g => rfl))
  | (refine' ed_all (by assumption) ?a ?b ?g; (case a => wtm_at "m.ed"); (case b => exact rfl); (case g => rfl))
  | (refine' ed_any (by assumption) ?a ?b ?g; (case a => wtm_at "m.ed"); (case b => exact rfl); (case g => rfl))
  | (refine' ed_sum (by assumption) ?a ?b ?g; (case a => wtm_at "m.ed"); (case b => exact rfl); (case g => rfl))
  | (refine' ed_sorted (by assumption) ?a ?b ?g; (case a => wtm_at "m.ed"); (case b => exact rfl); (case g => rfl))
  | (refine' ed_intB (by assumption) ?a ?g; (case a => wtm_at "m.ed"); (case g => rfl))
  | (refine' ed_max (by assumption) ?a ?b ?g; (case a => wtm_at "m.ed"); (case b => wtm_at "m.ed"); (case g => rfl))
  | (refine' ed_min (by assumption) ?a ?b ?g; (case a => wtm_at "m.ed"); (case b => wtm_at "m.ed"); (case g => rfl))
  | (refine' ed_isi (by assumption) ?a ?b ?t ?k ?g; (case a => wtm_at "m.ed"); (case b => wtm_at "m.ed"); (case t => exact rfl); (case k => decide +kernel); (case g => rfl))
  | (refine' ed_tup ?a ?b; (case a => wtm_at "m.ad"); (case b => wtm_at "m.side"))
  | (refine' ed_lst ?a ?b; (case a => wtm_at "m.ad"); (case b => wtm_at "m.side"))
  | (refine' ed_not ?a; (case a => wtm_at "m.ed"))
  | wtm_at "m.bo"
  | wtm_at "m.call"
  | (refine' ed_own ?h ?v; (case h => exact rfl); (case v => rfl))
  | exact ed_bl
  | exact ed_non
  | (refine' ed_tyInt (by assumption) ?g; (case g => rfl))
  | (refine' ed_tyList (by assumption) ?g; (case g => rfl))
  | (refine' ed_tyTuple (by assumption) ?g; (case g => rfl))
  | (refine' ed_tyBool (by assumption) ?g; (case g => rfl)))
local macro_rules | `(tactic| wtm_at "s.set") => `(tactic| (refine' sd_cons (s_set ?e ?q ?n ?i ?o); (case n => assumption); (case i => wtm_at "m.dec"); (case o => wtm_at "m.dec"); (case e => wtm_at "m.eds")))
local macro_rules | `(tactic| wtm_at "s.own") => `(tactic| (refine' sd_cons (s_own ?e ?q ?n ?i ?o); (case n => assumption); (case i => wtm_at "m.dec"); (case o => wtm_at "m.dec"); (case e => wtm_at "m.ed")))
local macro_rules | `(tactic| wtm_at "s.lc") => `(tactic| (refine' sd_cons (s_lc ?e ?q ?i ?k ?y ?l ?a); (case i => wtm_at "m.dec"); (case k => rfl); (case y => rfl); (case l => rfl); (case a => decide +kernel); (case e => wtm_at "m.ld")))
local macro_rules | `(tactic| wtm_at "s.lco") => `(tactic| (refine' sd_cons (s_lcO ?e ?q ?i ?k ?y ?l ?a); (case i => wtm_at "m.dec"); (case k => rfl); (case y => rfl); (case l => rfl); (case a => decide +kernel); (case e => wtm_at "m.ld")))
local macro_rules | `(tactic| wtm_at "s.lcc") => `(tactic| (refine' sd_cons (s_set ?e ?q ?n ?i ?o (swapF ?s)); (case n => assumption); (case i => wtm_at "m.dec"); (case o => wtm_at "m.dec"); (case s => rfl); (case e => (refine' ED.shr (LD.ed ?f); (case f => wtm_at "m.ld")))))
local macro_rules | `(tactic| wtm_at "s.ret") => `(tactic| (refine' sd_cons (s_ret ?e ?q); (case e => wtm_at "m.ed")))
local macro_rules | `(tactic| wtm_at "s.if") => `(tactic| (refine' sd_cons (s_if ?t ?y ?n); (case t => wtm_at "m.td")))
def topS (i : Nat) : Stmt := PySem.Challenge.pw_markbox_k04_grown.main.body.getD i (.Pass ⟨0, 0, 0, 0⟩)
abbrev s_plain : Stmt := topS 1
abbrev N_plain : List Str := ["numbers", "found", "number"]
theorem sc_plain : FnScope N_plain ["numbers"] (defScope s_plain) := ⟨rfl, rfl, rfl, by decide +kernel, rfl, by decide +kernel, by decide +kernel⟩
abbrev s_within : Stmt := topS 2
abbrev N_within : List Str := ["one", "other", "number"]
theorem sc_within : FnScope N_within ["one", "other"] (defScope s_within) := ⟨rfl, rfl, rfl, by decide +kernel, rfl, by decide +kernel, by decide +kernel⟩
abbrev s_met : Stmt := topS 4
abbrev N_met : List Str := ["rule", "marks"]
theorem sc_met : FnScope N_met ["rule", "marks"] (defScope s_met) := ⟨rfl, rfl, rfl, by decide +kernel, rfl, by decide +kernel, by decide +kernel⟩
abbrev s_grown : Stmt := topS 5
abbrev N_grown : List Str := ["rules", "marks", "found", "size", "rule"]
theorem sc_grown : FnScope N_grown ["rules", "marks"] (defScope s_grown) := ⟨rfl, rfl, rfl, by decide +kernel, rfl, by decide +kernel, by decide +kernel⟩
abbrev s_law_whole : Stmt := topS 7
abbrev N_law_whole : List Str := ["_law_found"]
theorem sc_law_whole : FnScope N_law_whole ["_law_found"] (defScope s_law_whole) := ⟨rfl, rfl, rfl, by decide +kernel, rfl, by decide +kernel, by decide +kernel⟩
abbrev s_law_cell_at : Stmt := topS 8
abbrev N_law_cell_at : List Str := ["_law_script", "_law_k"]
theorem sc_law_cell_at : FnScope N_law_cell_at ["_law_script", "_law_k"] (defScope s_law_cell_at) := ⟨rfl, rfl, rfl, by decide +kernel, rfl, by decide +kernel, by decide +kernel⟩
abbrev s_law_some : Stmt := topS 9
abbrev N_law_some : List Str := ["_law_cell", "_law_most", "_law_many", "_law_draw", "_law_k"]
theorem sc_law_some : FnScope N_law_some ["_law_cell", "_law_most", "_law_many"] (defScope s_law_some) := ⟨rfl, rfl, rfl, by decide +kernel, rfl, by decide +kernel, by decide +kernel⟩
abbrev s_law_rules_by : Stmt := topS 10
abbrev N_law_rules_by : List Str := ["_law_script", "_law_many", "_law_rules", "_law_k", "_law_cell", "_law_rule"]
theorem sc_law_rules_by : FnScope N_law_rules_by ["_law_script", "_law_many"] (defScope s_law_rules_by) := ⟨rfl, rfl, rfl, by decide +kernel, rfl, by decide +kernel, by decide +kernel⟩
abbrev s_law_lacks : Stmt := topS 11
abbrev N_law_lacks : List Str := ["_law_one", "_law_other", "_law_mark"]
theorem sc_law_lacks : FnScope N_law_lacks ["_law_one", "_law_other"] (defScope s_law_lacks) := ⟨rfl, rfl, rfl, by decide +kernel, rfl, by decide +kernel, by decide +kernel⟩
abbrev s_law_put_to : Stmt := topS 12
abbrev N_law_put_to : List Str := ["_law_rules", "_law_marks", "_law_found", "_law_size", "_law_rule"]
theorem sc_law_put_to : FnScope N_law_put_to ["_law_rules", "_law_marks"] (defScope s_law_put_to) := ⟨rfl, rfl, rfl, by decide +kernel, rfl, by decide +kernel, by decide +kernel⟩
abbrev s_law : Stmt := topS 13
abbrev N_law : List Str := ["_law_script", "_law_many", "_law_rules", "_law_marks", "_law_handed", "_law_rule", "_law_kept", "_law_found", "_law_k", "_law_other", "_law_due"]
theorem sc_law : FnScope N_law ["_law_script"] (defScope s_law) := ⟨rfl, rfl, rfl, by decide +kernel, rfl, by decide +kernel, by decide +kernel⟩
section
variable {U : Wd} (T : Bl U.mg) {f : Addr} {fd : FuncData} {x q : Str}
include T
theorem ok_within (F : Fun U.K x q s_within f fd) : FnOk U.P U.w U.K U.mg U.base (L2.CX U.P U.w) 1 f fd ["one", "other"] (spX U A_within) := by
  have hN := sc_within.nd
  refine fn_ok F sc_within (fun ds o h => ?_) fun ds o h => ?_
  · obtain ⟨xs, ys, rfl, _⟩ := h
    rfl
  · obtain ⟨xs, ys, rfl, rfl⟩ := h
    refine sd_at (ρ' := [.sh _, .sh _, .no]) rfl ?_
    refine sd_cons (s_ret (r := ?r) ?e ?q)
    case e => wtm_at "m.ed"
    case q =>
      show (Sum.inl _ : Ot) = Sum.inl _
      simp only [Rs.d, any_int]
      rfl
theorem ok_plain (F : Fun U.K x q s_plain f fd) : FnOk U.P U.w U.K U.mg U.base (L2.CX U.P U.w) 1 f fd ["numbers"] (spX U A_plain) := by
  refine F.okX sc_plain (fun vs H Q E h => ?_) (fun cdv A outer s H vs Q E hr h => ?_)
  · obtain ⟨ds, o, S, ⟨ns, rfl, _⟩, _, rl, _⟩ := h
    exact rl.length
  · exact ⟨_, pss_cons (ps_set (i := 1) sc_plain.nd rfl (Or.inl rfl) pe_dnewK) (pss_cons (ps_for (passes_of rfl) rfl (pi_list (pv 0)) (pg_name (i := 2) sc_plain.nd rfl (Or.inl rfl)) (pss_one (ps_dput (hu_of hr) (pv 1) (pv 2) pe_bl rfl)))
      (pss_one (ps_ret (pe_callB cr_sortedI (by rfl) T.sorted (by decide +kernel) (pa_cons (pe_callTy (call_list_dK rfl) (by rfl) T.list (by decide +kernel) (pa_cons (pv 1) pa_nil)) pa_nil))))), plain_run h rfl⟩
variable (hW : FnT U "within" 1 A_within)
include hW in
theorem ok_met (F : Fun U.K x q s_met f fd) : FnOk U.P U.w U.K U.mg U.base (L2.CX U.P U.w) 2 f fd ["rule", "marks"] (spX U A_met) := by
  have hN := sc_met.nd
  refine fn_ok F sc_met (fun ds o h => ?_) fun ds o h => ?_
  · obtain ⟨xs, ys, ms, rfl, _⟩ := h
    rfl
  · obtain ⟨xs, ys, ms, rfl, rfl⟩ := h
    refine sd_at (ρ' := [.sh _, .sh _]) rfl ?_
    refine sd_cons (s_ret (r := ?r) ?e ?q)
    case e => wtm_at "m.ed"
    case q => rfl
variable (hP : FnT U "plain" 1 A_plain) (hM : FnT U "met" 2 A_met)
include hP hM in
theorem ok_grown (F : Fun U.K x q s_grown f fd) : FnOk U.P U.w U.K U.mg U.base (L2.CX U.P U.w) 3 f fd ["rules", "marks"] (spX U A_grown) := by
  have hN := sc_grown.nd
  refine fn_ok F sc_grown (fun ds o h => ?_) fun ds o h => ?_
  · obtain ⟨xs, ys, rfl, _⟩ := h
    rfl
  · obtain ⟨rs, ms, rfl, hz, rfl⟩ := h
    refine sd_at (ρ' := [.sh _, .sh _, .no, .no, .no]) rfl ?_
    wtm_at "s.own"
    refine sd_at (ρ' := [.sh _, .sh _, .own _, .no, .no]) rfl ?_
    wtm_at "s.set"
    refine sd_at (ρ' := [.sh _, .sh _, .own _, .sh _, .no]) rfl ?_
    refine sd_cons (s_while (fun m ρ => ∃ (f : List Int) (sz : Int) (sl : Sl), ρ = [.sh (.rules rs), .sh (.ints ms), .own (f.map D.int), .sh (.int sz), sl] ∧ Way rs ms f ∧ (sz = -1 ∨ ∃ g, Way rs ms g ∧ sz = (g.length : Int) ∧ f = growPass rs g) ∧
      m = 2 * ((univ rs ms).length - f.length) + (if sz < (f.length : Int) then 1 else 0)) (m0 := _) ⟨plainL ms, -1, _, rfl, Way.start, .inl rfl, rfl⟩ fun m ρ' hw => ?_)
    obtain ⟨f, sz, sl, rfl, w, hs, hm⟩ := hw
    refine ⟨decide (sz < (f.length : Int)), ?_, fun hk => ?_, fun hk => ?_⟩
    · refine TD.cast (b := ?k) ?h ?q
      case h => wtm_at "m.td"
      case q => simp only [List.length_map]
    · have hk := of_decide_eq_true hk
      have hl := w.len
      wtm_at "s.set"
      refine sd_at (ρ' := [.sh (.rules rs), .sh (.ints ms), .own _, .sh _, sl]) rfl ?_
      refine sd_cons (s_for (ds := rs.map encR) ?i (fun i ρ => ∃ sl, ρ = [.sh (.rules rs), .sh (.ints ms), .own (((rs.take i).foldl growStep f).map D.int), .sh (.int (f.length : Int)), sl]) ⟨sl, ?z⟩ (fun i d ρ' hd hi => ?s) (fun ρ' hi => ?d) hN ?i1 ?i2)
      case i1 => wtm_at "m.dec"
      case i2 => wtm_at "m.dec"
      case i => wtm_at "m.if"
      case z =>
        simp only [List.length_map]
        rfl
      case s =>
        obtain ⟨sl, rfl⟩ := hi
        rw [List.getElem?_map] at hd
        cases hr : rs[i]? with
        | none =>
          rw [hr] at hd
          cases hd
        | some r =>
          rw [hr] at hd
          obtain rfl := Option.some.inj (show some (encR r) = some d from hd)
          have hmem : r ∈ rs := List.mem_of_getElem? hr
          obtain ⟨wi, _⟩ := w.go (l := rs.take i) fun x hx => List.mem_of_mem_take hx
          have hli := wi.len
          have tk : (rs.take (i + 1)).foldl growStep f = growStep ((rs.take i).foldl growStep f) r := by
            rw [List.take_add_one, hr, List.foldl_append]
            rfl
          have hr2 : r.2.length ≤ (univ rs ms).length := by
            unfold univ
            rw [List.length_append]
            have : r.2.length ≤ ((rs.map (·.2)).flatten).length := List.Sublist.length_le (List.sublist_flatten_of_mem (List.mem_map.mpr ⟨r, hmem, rfl⟩))
            omega
          rw [tk]
          generalize (rs.take i).foldl growStep f = g at *
          refine sd_at (ρ' := [.sh (.rules rs), .sh (.ints ms), .own _, .sh _, .sh (encR r)]) rfl ?_
          wtm_at "s.if"
          · intro hk
            have hz1 : (g.map D.int).length + (r.2.map D.int).length ≤ sizeLine := by
              rw [List.length_map, List.length_map, sizeLine_eq]
              omega
            refine sd_cons (s_own (ds := (plainL (g ++ r.2)).map D.int) ?e ?q hN ?i1 ?i2)
            case i1 => wtm_at "m.dec"
            case i2 => wtm_at "m.dec"
            case e =>
              refine ed_call (ds := [.ints (g ++ r.2)]) hP (by dsimp only; decide) (by rfl) ?_ ⟨_, rfl, rfl⟩
              refine ad_cons' (r := .fr ((g ++ r.2).map D.int)) ?_ (.fr _) ad_nil
              refine ED.cast (r := ?r2) ?h2 ?q2
              case h2 => wtm_at "m.ed"
              case q2 => rw [List.map_append]
            case q =>
              refine sd_nil (sd_nil ⟨.sh (encR r), ?_⟩)
              unfold growStep
              rw [if_neg (by simpa using hk)]
              rfl
          · intro hk
            refine sd_nil (sd_nil ⟨.sh (encR r), ?_⟩)
            unfold growStep
            rw [if_pos (by simpa using hk)]
      case d =>
        obtain ⟨sl, rfl⟩ := hi
        refine sd_nil ?_
        rw [List.length_map, List.take_length]
        have hp := w.pass
        have hpl := hp.1.len
        have hle : f.length ≤ (growPass rs f).length := List.Nodup.length_le_of_subset (w.rise.imp fun h => by omega) fun x hx => hp.2 x hx
        refine ⟨_, ?_, growPass rs f, _, sl, rfl, hp.1, .inr ⟨f, w, rfl, rfl⟩, rfl⟩
        rw [hm, if_pos hk]
        split <;> omega
    · have hk := of_decide_eq_false hk
      rcases hs with hs | ⟨g, wg, hs, e⟩
      · omega
      · have hl := w.len
        have e2 : g = f := by
          have h1 := wg.pass
          rw [← e] at h1
          exact rise_eq wg.rise w.rise h1.2 (by omega)
        have e3 : growPass rs f = f := by
          rw [e2] at e
          exact e.symm
        have e4 : f = grownL rs ms := (w.done e3).one (grown_is rs ms)
        refine sd_cons (s_retO (ds := f.map D.int) rfl (by rfl) ?_)
        show (Sum.inl _ : Ot) = Sum.inl _
        rw [e4]
end
end Mb
set_option Elab.async false
set_option linter.all false
set_option maxRecDepth 100000
set_option maxHeartbeats 4000000
namespace Mb
open PySem PySem.Spec PyProof.Rows L2
local macro_rules | `(tactic| wtm_at "m.dec") => `(tactic| (dsimp only [Gx.blk]; decide +kernel))
local macro_rules | `(tactic| wtm_at "m.hint") => `(tactic| fail)
local macro_rules | `(tactic| wtm_at "m.side") => `(tactic| first | assumption | decide | omega | exact Or.inr (And.intro (by omega) (by omega)) | exact Or.inl (And.intro (by omega) (by omega)) | exact And.intro (by omega) (by omega) | (simp only [List.length_cons, List.length_nil, List.length_map, List.length_range, List.length_append, sizeLine_eq]; omega) | wtm_at "m.hint")
local macro_rules | `(tactic| wtm_at "m.dn") => `(tactic| first
  | exact Dn.int _ _ | exact Dn.bl _ _ | exact Dn.non _
  | (refine dn_lst (n := _) ?_; wtm_at "m.dm") | (refine dn_tup (n := _) ?_; wtm_at "m.dm"))
local macro_rules | `(tactic| wtm_at "m.dm") => `(tactic| first
  | exact dm_nil | (refine dm_map ?_; intro _; wtm_at "m.dn") | (refine dm_cons ?a ?b; (case a => wtm_at "m.dn"); (case b => wtm_at "m.dm")) | (refine dm_app ?a ?b; (case a => wtm_at "m.dm"); (case b => wtm_at "m.dm")))
local macro_rules | `(tactic| wtm_at "m.tosh") => `(tactic| first | exact ToSh.sh _ | exact ToSh.fr _)
local macro_rules | `(tactic| wtm_at "m.eds") => `(tactic| (refine' ED.toSh ?h ?t ?q; (case h => wtm_at "m.ed"); (case t => wtm_at "m.tosh"); (case q => exact rfl)))
local macro_rules | `(tactic| wtm_at "m.ad") => `(tactic| first
  | exact ad_nil
  | (refine' ad_cons' ?h ?t ?r; (case h => wtm_at "m.ed"); (case t => wtm_at "m.tosh"); (case r => wtm_at "m.ad")))
local macro_rules | `(tactic| wtm_at "m.ic") => `(tactic| first
  | (refine' ic_range (by assumption) ?a ?b ?c ?g; (case a => wtm_at "m.ed"); (case g => rfl); (case b => wtm_at "m.side"); (case c => wtm_at "m.side"))
  | (refine' ic_list ?h ?q; (case h => wtm_at "m.ed"); (case q => exact rfl)))
local macro_rules | `(tactic| wtm_at "m.if") => `(tactic| first
  | (refine' if_range (by assumption) ?a ?b ?c ?g; (case a => wtm_at "m.ed"); (case g => rfl); (case b => wtm_at "m.side"); (case c => wtm_at "m.side"))
  | (refine' if_range2 (by assumption) ?a ?a2 ?b ?g; (case a => wtm_at "m.ed"); (case a2 => wtm_at "m.ed"); (case g => rfl); (case b => wtm_at "m.side"))
  | (refine' if_list ?h; (case h => wtm_at "m.ed"))
  | (refine' if_fr ?h; (case h => wtm_at "m.ed"))
  | (refine' if_tup ?h; (case h => wtm_at "m.ed")))
local macro_rules | `(tactic| wtm_at "m.ld") => `(tactic| first
  | (refine' ld_lc0 ?n ?i ?j ?o ?l ?e; (case n => assumption); (case i => wtm_at "m.ic"); (case j => wtm_at "m.dec"); (case o => wtm_at "m.dec"); (case l => wtm_at "m.dec"); (case e => intro _ hx; (try have hx := List.mem_range.mp hx); wtm_at "m.eds"))
  | (refine' ld_lc1 ?n ?i ?j ?o ?l ?t ?e; (case n => assumption); (case i => wtm_at "m.ic"); (case j => wtm_at "m.dec"); (case o => wtm_at "m.dec"); (case l => wtm_at "m.dec"); (case t => (intro _ hx; (try have hx := List.mem_range.mp hx); refine' TD.cast ?h ?q; (case h => wtm_at "m.td"); (case q => exact rfl))); (case e => intro _ hx _; (try have hx := List.mem_range.mp hx); wtm_at "m.eds"))
  | (refine' ld_lcp0 ?n ?i ?j ?j2 ?o ?l ?l2 ?e; (case n => assumption); (case i => wtm_at "m.ic"); (case j => wtm_at "m.dec"); (case j2 => wtm_at "m.dec"); (case o => wtm_at "m.dec"); (case l => wtm_at "m.dec"); (case l2 => wtm_at "m.dec"); (case e => intro _ _; wtm_at "m.eds"))
  | (refine' ld_lcp1 ?n ?i ?j ?j2 ?o ?l ?l2 ?t ?e; (case n => assumption); (case i => wtm_at "m.ic"); (case j => wtm_at "m.dec"); (case j2 => wtm_at "m.dec"); (case o => wtm_at "m.dec"); (case l => wtm_at "m.dec"); (case l2 => wtm_at "m.dec"); (case t => (intro _ hx; (try have hx := List.mem_range.mp hx); refine' TD.cast ?h ?q; (case h => wtm_at "m.td"); (case q => exact rfl))); (case e => intro _ hx _; (try have hx := List.mem_range.mp hx); wtm_at "m.eds")))
local macro_rules | `(tactic| wtm_at "m.addr") => `(tactic| first | exact AddR.int _ _ | (refine' AddR.cat ?x ?y ?z; (case x => exact rfl); (case y => exact rfl); (case z => wtm_at "m.side")))
local macro_rules | `(tactic| wtm_at "m.at") => `(tactic| first
  | exact rfl
  | assumption
  | (refine atI_get (d := (0 : Int)) ?a ?b; (case a => wtm_at "m.side"); (case b => wtm_at "m.side"))
  | (refine atI_ints (d := default) ?a ?b; (case a => wtm_at "m.side"); (case b => wtm_at "m.side"))
  | (refine atI_lit ?a ?b ?c; (case a => wtm_at "m.side"); (case b => wtm_at "m.side"); (case c => rfl)))
local macro_rules | `(tactic| wtm_at "m.ixd") => `(tactic| first
  | (refine' IxD.tup ?h; (case h => wtm_at "m.at"))
  | (refine' IxD.scr ?h; (case h => wtm_at "m.at"))
  | (refine' IxD.list ?x ?h; (case x => exact rfl); (case h => wtm_at "m.at")))
local macro_rules | `(tactic| wtm_at "m.cp") => `(tactic| first
  | (refine' cp_lt ?a ?b; (case a => wtm_at "m.ed"); (case b => wtm_at "m.ed"))
  | (refine' cp_le ?a ?b; (case a => wtm_at "m.ed"); (case b => wtm_at "m.ed"))
  | (refine' cp_gt ?a ?b; (case a => wtm_at "m.ed"); (case b => wtm_at "m.ed"))
  | (refine' cp_ge ?a ?b; (case a => wtm_at "m.ed"); (case b => wtm_at "m.ed"))
  | (refine' cp_eq ?a ?b ?c ?d; (case a => wtm_at "m.ed"); (case b => wtm_at "m.ed"); (case c => wtm_at "m.dn"); (case d => wtm_at "m.dn"))
  | (refine' cp_ne ?a ?b ?c ?d; (case a => wtm_at "m.ed"); (case b => wtm_at "m.ed"); (case c => wtm_at "m.dn"); (case d => wtm_at "m.dn"))
  | (refine' cp_in ?a ?b ?e ?c ?d ?m; (case a => wtm_at "m.ed"); (case b => wtm_at "m.ed"); (case e => exact rfl); (case c => wtm_at "m.dn"); (case d => wtm_at "m.dm"); (case m => rfl))
  | (refine' cp_nin ?a ?b ?e ?c ?d ?m; (case a => wtm_at "m.ed"); (case b => wtm_at "m.ed"); (case e => exact rfl); (case c => wtm_at "m.dn"); (case d => wtm_at "m.dm"); (case m => rfl))
  | (refine' cp_isN ?a; (case a => wtm_at "m.ed"))
  | (refine' cp_notN ?a; (case a => wtm_at "m.ed"))
  | (refine' ch_le_lt ?a ?b ?c; (case a => wtm_at "m.ed"); (case b => wtm_at "m.ed"); (case c => wtm_at "m.ed"))
  | (refine' ch_le_le ?a ?b ?c; (case a => wtm_at "m.ed"); (case b => wtm_at "m.ed"); (case c => wtm_at "m.ed")))
local macro_rules | `(tactic| wtm_at "m.tw") => `(tactic| first
  | (refine' tw_and ?a ?b; (case a => wtm_at "m.td"); (case b => intro _; wtm_at "m.tw"))
  | (refine' tw_or ?a ?b; (case a => wtm_at "m.td"); (case b => intro _; wtm_at "m.tw"))
  | (refine' tw_and1 ?a; (case a => wtm_at "m.td"))
  | (refine' tw_or1 ?a; (case a => wtm_at "m.td")))
local macro_rules | `(tactic| wtm_at "m.td") => `(tactic| first
  | (refine' And.right (a := ?p) ?h; (case h => wtm_at "m.cp"))
  | (refine' td_not ?h; (case h => wtm_at "m.td"))
  | (refine' td_bool ?h; (case h => wtm_at "m.tw"))
  | (refine' td_val ?h; (case h => wtm_at "m.ed")))
local macro_rules | `(tactic| wtm_at "m.bo") => `(tactic| first
  | (refine' ed_and ?a ?b; (case a => wtm_at "m.ed"); (case b => intro _; wtm_at "m.bo"))
  | (refine' ed_or ?a ?b; (case a => wtm_at "m.ed"); (case b => intro _; wtm_at "m.bo"))
  | (refine' ed_one ?a; (case a => wtm_at "m.ed")))
local macro_rules | `(tactic| wtm_at "m.pre") => `(tactic| first
  | exact ⟨_, rfl, rfl⟩ | exact ⟨_, _, rfl, rfl⟩ | exact ⟨_, _, _, rfl, rfl⟩ | exact ⟨_, _, _, _, rfl, rfl⟩ | exact ⟨_, _, _, _, _, rfl, rfl⟩
  | (refine ⟨_, rfl, ?_, rfl⟩; wtm_at "m.side") | (refine ⟨_, _, rfl, ?_, rfl⟩; wtm_at "m.side") | (refine ⟨_, _, _, rfl, ?_, rfl⟩; wtm_at "m.side") | (refine ⟨_, _, _, _, rfl, ?_, rfl⟩; wtm_at "m.side"))
local macro_rules | `(tactic| wtm_at "m.call") => `(tactic| first
  | wtm_at "m.direct"
  | (refine' ed_thaw ?h ?d; (case h => wtm_at "m.direct"); (case d => rfl)))
local macro_rules | `(tactic| wtm_at "m.direct") => `(tactic| first
  | (refine' ed_call ?T ?k ?g ?a ?A; (case T => assumption); (case k => (dsimp only [Gx.blk]; decide)); (case g => rfl); (case a => wtm_at "m.ad"); (case A => wtm_at "m.pre"))
  | (refine' ed_many (by assumption) ?a ?b; (case a => wtm_at "m.ed"); (case b => exact rfl))
  | (refine' ed_rows (by assumption) ?a; (case a => wtm_at "m.ed"))
  | (refine' ed_meth (by assumption) ?T ?k ?o ?d ?a ?A; (case T => assumption); (case k => (dsimp only [Gx.blk]; decide)); (case o => wtm_at "m.ed"); (case d => exact rfl); (case a => wtm_at "m.ad"); (case A => wtm_at "m.pre")))
local macro_rules | `(tactic| wtm_at "m.ed") => `(tactic| first
  | (refine' ed_var ?h ?v; (case h => exact rfl); (case v => rfl))
  | exact ed_int
  | (refine' ed_ixR ?a ?b ?c; (case a => wtm_at "m.ed"); (case b => wtm_at "m.ed"); (case c => wtm_at "m.ixd"))
  | (refine' And.left (b := ?p) ?h; (case h => wtm_at "m.cp"))
  | (refine' ed_addR ?a ?b ?c; (case a => wtm_at "m.ed"); (case b => wtm_at "m.ed"); (case c => wtm_at "m.addr"))
  | (refine' ed_sub ?a ?b; (case a => wtm_at "m.ed"); (case b => wtm_at "m.ed"))
  | (refine' ed_mul ?a ?b ?c; (case a => wtm_at "m.ed"); (case b => wtm_at "m.ed"); (case c => wtm_at "m.side"))
  | (refine' ed_fdiv ?a ?b ?c; (case a => wtm_at "m.ed"); (case b => wtm_at "m.ed"); (case c => wtm_at "m.side"))
  | (refine' ed_mod ?a ?b ?c; (case a => wtm_at "m.ed"); (case b => wtm_at "m.ed"); (case c => wtm_at "m.side"))
  | (refine' ed_pow ?a ?b ?c; (case a => wtm_at "m.ed"); (case b => wtm_at "m.ed"); (case c => wtm_at "m.side"))
  | (refine' ed_neg ?a; (case a => wtm_at "m.ed"))
  | (refine' LD.ed ?a; (case a => wtm_at "m.ld"))
  | (refine' ed_len (by assumption) ?a ?b ?g; (case a => wtm_at "m.ed"); (case b => exact rfl); (case g => rfl))
  | (refine' ed_listRange (by assumption) ?a ?b ?c ?g ?g2; (case a => wtm_at "m.ed"); (case b => wtm_at "m.side"); (case c => wtm_at "m.side"); (case g => rfl); (case g2 => rfl))
  | (refine' ed_list (by assumption) ?a ?b ?g; (case a => wtm_at "m.ed"); (case b => exact rfl); (case g => rfl))
  | (refine' ed_all (by assumption) ?a ?b ?g; (case a => wtm_at "m.ed"); (case b => exact rfl); (case g => rfl))
  | (refine' ed_any (by assumption) ?a ?b ?g; (case a => wtm_at "m.ed"); (case b => exact rfl); (case g => rfl))
  | (refine' ed_sum (by assumption) ?a ?b ?g; (case a => wtm_at "m.ed"); (case b => exact rfl); (case g => rfl))
  | (refine' ed_sorted (by assumption) ?a ?b ?g; (case a => wtm_at "m.ed"); (case b => exact rfl); (case g => rfl))
  | (refine' ed_intB (by assumption) ?a ?g; (case a => wtm_at "m.ed"); (case g => rfl))
  | (refine' ed_max (by assumption) ?a ?b ?g; (case a => wtm_at "m.ed"); (case b => wtm_at "m.ed"); (case g => rfl))
  | (refine' ed_min (by assumption) ?a ?b ?g; (case a => wtm_at "m.ed"); (case b => wtm_at "m.ed"); (case g => rfl))
  | (refine' ed_isi (k := true) (by assumption) ?a ?b ?t ?k ?g; (case a => wtm_at "m.ed"); (case b => wtm_at "m.ed"); (case t => exact rfl); (case k => decide +kernel); (case g => rfl))
  | (refine' ed_isi (k := false) (by assumption) ?a ?b ?t ?k ?g; (case a => wtm_at "m.ed"); (case b => wtm_at "m.ed"); (case t => exact rfl); (case k => decide +kernel); (case g => rfl))
  | (refine' ed_tup ?a ?b; (case a => wtm_at "m.ad"); (case b => wtm_at "m.side"))
  | (refine' ed_lst ?a ?b; (case a => wtm_at "m.ad"); (case b => wtm_at "m.side"))
  | (refine' ed_not ?a; (case a => wtm_at "m.ed"))
  | wtm_at "m.bo"
  | wtm_at "m.call"
  | (refine' ed_own ?h ?v; (case h => exact rfl); (case v => rfl))
  | exact ed_bl
  | exact ed_non
  | (refine' ed_tyInt (by assumption) ?g; (case g => rfl))
  | (refine' ed_tyList (by assumption) ?g; (case g => rfl))
  | (refine' ed_tyTuple (by assumption) ?g; (case g => rfl))
  | (refine' ed_tyBool (by assumption) ?g; (case g => rfl)))
local macro_rules | `(tactic| wtm_at "s.set") => `(tactic| (refine' sd_cons (s_set ?e ?q ?n ?i ?o); (case n => assumption); (case i => wtm_at "m.dec"); (case o => wtm_at "m.dec"); (case e => wtm_at "m.eds")))
local macro_rules | `(tactic| wtm_at "s.own") => `(tactic| (refine' sd_cons (s_own ?e ?q ?n ?i ?o); (case n => assumption); (case i => wtm_at "m.dec"); (case o => wtm_at "m.dec"); (case e => wtm_at "m.ed")))
local macro_rules | `(tactic| wtm_at "s.lc") => `(tactic| (refine' sd_cons (s_lc ?e ?q ?i ?k ?y ?l ?a); (case i => wtm_at "m.dec"); (case k => rfl); (case y => rfl); (case l => rfl); (case a => decide +kernel); (case e => wtm_at "m.ld")))
local macro_rules | `(tactic| wtm_at "s.lco") => `(tactic| (refine' sd_cons (s_lcO ?e ?q ?i ?k ?y ?l ?a); (case i => wtm_at "m.dec"); (case k => rfl); (case y => rfl); (case l => rfl); (case a => decide +kernel); (case e => wtm_at "m.ld")))
local macro_rules | `(tactic| wtm_at "s.lcc") => `(tactic| (refine' sd_cons (s_set ?e ?q ?n ?i ?o (swapF ?s)); (case n => assumption); (case i => wtm_at "m.dec"); (case o => wtm_at "m.dec"); (case s => rfl); (case e => (refine' ED.shr (LD.ed ?f); (case f => wtm_at "m.ld")))))
local macro_rules | `(tactic| wtm_at "s.ret") => `(tactic| (refine' sd_cons (s_ret ?e ?q); (case e => wtm_at "m.ed")))
local macro_rules | `(tactic| wtm_at "s.if") => `(tactic| (refine' sd_cons (s_if ?t ?y ?n); (case t => wtm_at "m.td")))
local macro_rules | `(tactic| wtm_at "s.ift") => `(tactic| (refine' sd_cons (s_if (td_thaw ?t) ?y ?n); (case t => wtm_at "m.td")))
local macro_rules | `(tactic| wtm_at "s.app") => `(tactic| (refine' sd_cons (s_app ?e ?h ?v ?z ?q); (case h => exact rfl); (case v => rfl); (case e => wtm_at "m.eds"); (case z => wtm_at "m.side")))
local macro_rules | `(tactic| wtm_at "s.ifset") => `(tactic| (refine' sd_cons (s_ifset ?c ?e ?h1 ?h2 ?h0 ?q ?n ?i ?o); (case n => assumption); (case i => wtm_at "m.dec"); (case o => wtm_at "m.dec"); (case h0 => exact rfl); (case c => wtm_at "m.td"); (case e => intro _; wtm_at "m.eds")))
/-! ### k04: what the law's defs compute -/
def primeD : List D := [.int 1, .int 2, .int 3, .int 5, .int 7, .int 11, .int 13, .int 17]
theorem prime_ok {k : Nat} (h : k < 8) {i : Int} : CDivN i ((toInts primeD).getD ((k : Int)).toNat 0) := by
  have h2 : ∀ k : Nat, k < 8 → ((toInts primeD).getD ((k : Int)).toNat 0) ≠ 0 ∧ ((toInts primeD).getD ((k : Int)).toNat 0).natAbs < 1073741824 := by decide
  exact h2 k h
def someL (cell most many : Int) : List Int := (List.range (cell.fmod (most + 1)).toNat).map fun (k : Nat) => (((cell * 48271).fmod 1000003).fdiv ((toInts primeD).getD ((k : Int)).toNat 0) + (k : Int) * cell).fmod many
theorem some_len {cell most many : Int} (h : 0 ≤ most) : ((someL cell most many).length : Int) ≤ most := by
  unfold someL
  rw [List.length_map, List.length_range]
  have h1 := fmod_lo (a := cell) (b := most + 1) (by omega)
  have h2 := fmod_hi (a := cell) (b := most + 1) (by omega)
  omega
abbrev A_some : List D → Ot → Prop := fun ds o => ∃ (cell most many : Int), ds = [.int cell, .int most, .int many] ∧ (0 ≤ most ∧ most ≤ 8 ∧ 0 < many) ∧ o = .inl (.fr ((someL cell most many).map D.int))
def ruleAt (ns : List Int) (many : Int) (k : Nat) (acc : List Rule) : Rule :=
  if (decide ((cellI ns 1).fmod 3 = 1) && !decide (acc = [])) = true then (someL (cellI ns (6 + 2 * (k : Int))) 4 many, (acc.getLastD ([], [])).1) else (someL (cellI ns (6 + 2 * (k : Int))) 4 many, someL (cellI ns (7 + 2 * (k : Int))) 4 many)
def ruleAll (ns : List Int) (many : Int) : Nat → List Rule
  | 0 => []
  | n + 1 => ruleAll ns many n ++ [ruleAt ns many n (ruleAll ns many n)]
def chainL : List Rule := (List.range 15).map fun (k : Nat) => ([14 - (k : Int)], [15 - (k : Int)])
def rulesBy (ns : List Int) (many : Int) : List Rule :=
  if ((cellI ns 1).fdiv 12).fmod 8 = 1 then ruleAll ns many ((cellI ns 0).fmod 13).toNat ++ chainL else ruleAll ns many ((cellI ns 0).fmod 13).toNat
abbrev A_rules : List D → Ot → Prop := fun ds o => ∃ (ns : List Int) (many : Int), ds = [.scr ns, .int many] ∧ 0 < many ∧ o = .inl (.fr ((rulesBy ns many).map encR))
def Small (r : Rule) : Prop := r.1.length ≤ 4 ∧ r.2.length ≤ 4
theorem ruleAll_len (ns : List Int) (many : Int) : ∀ n, (ruleAll ns many n).length = n
  | 0 => rfl
  | n + 1 => by
    show (ruleAll ns many n ++ [_]).length = n + 1
    rw [List.length_append, ruleAll_len ns many n]
    rfl
theorem ruleAll_small (ns : List Int) (many : Int) : ∀ n, ∀ r ∈ ruleAll ns many n, Small r
  | 0 => fun _ h => nomatch h
  | n + 1 => fun r h => by
    have ih := ruleAll_small ns many n
    rcases List.mem_append.mp h with h | h
    · exact ih r h
    · obtain rfl := List.mem_singleton.mp h
      have s4 : ∀ c : Int, (someL c 4 many).length ≤ 4 := fun c => by
        have := some_len (cell := c) (many := many) (most := 4) (by omega)
        omega
      unfold ruleAt
      split
      · rename_i hc
        refine ⟨s4 _, ?_⟩
        rw [Bool.and_eq_true] at hc
        have hn : ruleAll ns many n ≠ [] := by simpa using hc.2
        rw [List.getLastD_eq_getLast?, List.getLast?_eq_getLast hn]
        exact (ih _ (List.getLast_mem hn)).1
      · exact ⟨s4 _, s4 _⟩
theorem rulesBy_small (ns : List Int) (many : Int) : (rulesBy ns many).length ≤ 27 ∧ ∀ r ∈ rulesBy ns many, Small r := by
  have h1 := fmod_lo (a := cellI ns 0) (b := 13) (by omega)
  have h2 := fmod_hi (a := cellI ns 0) (b := 13) (by omega)
  have h3 := ruleAll_len ns many ((cellI ns 0).fmod 13).toNat
  have h4 := ruleAll_small ns many ((cellI ns 0).fmod 13).toNat
  unfold rulesBy
  split
  · refine ⟨?_, fun r h => ?_⟩
    · rw [List.length_append, h3]
      have : chainL.length = 15 := rfl
      omega
    · rcases List.mem_append.mp h with h | h
      · exact h4 r h
      · have : ∀ r ∈ chainL, r.1.length ≤ 4 ∧ r.2.length ≤ 4 := by decide
        exact this r h
  · exact ⟨by omega, h4⟩
theorem small_flat : ∀ {rs : List Rule}, (∀ r ∈ rs, Small r) → ((rs.map (·.2)).flatten).length ≤ 4 * rs.length
  | [], _ => Nat.le_refl _
  | r :: rs, h => by
    have h1 := small_flat (rs := rs) fun x hx => h x (List.mem_cons_of_mem _ hx)
    have h2 := (h r List.mem_cons_self).2
    rw [List.map_cons, List.flatten_cons, List.length_append, List.length_cons]
    omega
theorem small_univ {rs : List Rule} {ms : List Int} (h : ∀ r ∈ rs, Small r) : (univ rs ms).length ≤ ms.length + 4 * rs.length := by
  unfold univ
  rw [List.length_append]
  have := small_flat h
  omega
/-! put_to -/
def putStep (f : List Int) (r : Rule) : List Int := if withinB r.1 f then f ++ lacksL r.2 f else f
def putPass (rs : List Rule) (f : List Int) : List Int := rs.foldl putStep f
def putN (rs : List Rule) : Nat → List Int → List Int
  | 0, f => f
  | n + 1, f => putN rs n (putPass rs f)
/-- how many marks it lacks yet -/
def miss (rs : List Rule) (f : List Int) : Nat := (nubL ((rs.map (·.2)).flatten)).countP fun x => !decide (x ∈ f)
def putL (rs : List Rule) (ms : List Int) : List Int := putN rs (miss rs ms) ms
theorem countP_lt {p q : Int → Bool} : ∀ {l : List Int}, (∀ x ∈ l, q x = true → p x = true) → (∃ x ∈ l, p x = true ∧ q x = false) → l.countP q < l.countP p
  | [], _, ⟨x, h, _⟩ => nomatch h
  | a :: l, h, ⟨x, hx, h1, h2⟩ => by
    have hl : l.countP q ≤ l.countP p := List.countP_mono_left fun y hy e => h y (List.mem_cons_of_mem _ hy) e
    rcases List.mem_cons.mp hx with rfl | hx
    · rw [List.countP_cons_of_neg (by rw [h2]; decide), List.countP_cons_of_pos h1]
      omega
    · have ih := countP_lt (l := l) (fun y hy => h y (List.mem_cons_of_mem _ hy)) ⟨x, hx, h1, h2⟩
      cases eq : q a with
      | true =>
        rw [List.countP_cons_of_pos eq, List.countP_cons_of_pos (h a List.mem_cons_self eq)]
        omega
      | false =>
        rw [List.countP_cons_of_neg (by rw [eq]; decide)]
        cases ep : p a with
        | true => rw [List.countP_cons_of_pos ep]; omega
        | false => rw [List.countP_cons_of_neg (by rw [ep]; decide)]; exact ih
section
variable {rs : List Rule} {f : List Int}
/-- a step adds nothing, or something that lacked -/
theorem put_step (r : Rule) (hr : r ∈ rs) (hs : r.2.length ≤ 4) : (putStep f r = f ∧ (withinB r.1 f = true → ∀ x ∈ r.2, x ∈ f)) ∨ (miss rs (putStep f r) < miss rs f ∧ f.length < (putStep f r).length ∧ (putStep f r).length ≤ f.length + 4) := by
  unfold putStep
  split
  · rename_i hw
    by_cases e : lacksL r.2 f = []
    · rw [e, List.append_nil]
      exact .inl ⟨rfl, fun _ => lacks_nil.mp e⟩
    · refine .inr ⟨?_, ?_, ?_⟩
      · obtain ⟨x, hx⟩ := List.exists_mem_of_ne_nil _ e
        have hx2 : x ∈ r.2 ∧ ¬ x ∈ f := by
          unfold lacksL at hx
          have := List.mem_filter.mp hx
          simpa using this
        refine countP_lt (fun y _ hy => ?_) ⟨x, (mem_nub _ x).mpr (List.mem_flatten.mpr ⟨r.2, List.mem_map.mpr ⟨r, hr, rfl⟩, hx2.1⟩), by simp [hx2.2], by simp [hx]⟩
        simp only [List.mem_append, Bool.not_eq_true', decide_eq_false_iff_not, not_or] at hy ⊢
        exact hy.1
      · rw [List.length_append]
        have := List.length_pos_iff.mpr e
        omega
      · rw [List.length_append]
        have := List.length_filter_le (fun x => !decide (x ∈ f)) r.2
        unfold lacksL
        omega
  · rename_i hw
    exact .inl ⟨rfl, fun h => absurd h hw⟩
theorem put_sub (r : Rule) : ∀ x ∈ f, x ∈ putStep f r := fun x h => by
  unfold putStep
  split
  · exact List.mem_append_left _ h
  · exact h
/-- a run of steps: the length grows, or nothing changes and all rules of the run are met -/
theorem put_run : ∀ {l : List Rule} {f : List Int}, (∀ r ∈ l, r ∈ rs ∧ r.2.length ≤ 4) → (∀ x ∈ f, x ∈ l.foldl putStep f) ∧ f.length ≤ (l.foldl putStep f).length ∧ (l.foldl putStep f).length + 4 * miss rs (l.foldl putStep f) ≤ f.length + 4 * miss rs f ∧
    ((l.foldl putStep f).length = f.length → l.foldl putStep f = f ∧ ∀ r ∈ l, metB r f = true) ∧ (f.length < (l.foldl putStep f).length → miss rs (l.foldl putStep f) < miss rs f)
  | [], f, _ => ⟨fun _ h => h, Nat.le_refl _, Nat.le_refl _, fun _ => ⟨rfl, fun _ h => nomatch h⟩, fun h => absurd h (Nat.lt_irrefl _)⟩
  | r :: l, f, h => by
    obtain ⟨a, b, c, d, e⟩ := put_run (l := l) (f := putStep f r) fun x hx => h x (List.mem_cons_of_mem _ hx)
    obtain ⟨hr, hs⟩ := h r List.mem_cons_self
    have s := put_sub (f := f) r
    rw [List.foldl_cons]
    rcases put_step (f := f) r hr hs with ⟨q1, q2⟩ | ⟨q1, q2, q3⟩
    · rw [q1] at a b c d e ⊢
      refine ⟨a, b, c, fun z => ?_, e⟩
      obtain ⟨d1, d2⟩ := d z
      refine ⟨d1, fun x hx => ?_⟩
      rcases List.mem_cons.mp hx with rfl | hx
      · exact metB_iff.mpr fun k => q2 (withinB_iff.mpr k)
      · exact d2 x hx
    · refine ⟨fun x hx => a x (s x hx), by omega, by omega, fun z => by omega, fun z => ?_⟩
      by_cases k : (putStep f r).length < (l.foldl putStep (putStep f r)).length
      · have := e k
        omega
      · have k2 := (d (by omega)).1
        rw [k2]
        exact q1
theorem putN_is (hs : ∀ r ∈ rs, Small r) : ∀ (n : Nat) {f : List Int}, miss rs f ≤ n → (∀ x ∈ f, x ∈ putN rs n f) ∧ putPass rs (putN rs n f) = putN rs n f
  | 0, f, h => by
    obtain ⟨a, b, c, d, e⟩ := put_run (rs := rs) (l := rs) (f := f) fun r hr => ⟨hr, (hs r hr).2⟩
    refine ⟨fun _ h => h, ?_⟩
    by_cases k : f.length < (rs.foldl putStep f).length
    · have := e k
      omega
    · exact (d (by omega)).1
  | n + 1, f, h => by
    obtain ⟨a, b, c, d, e⟩ := put_run (rs := rs) (l := rs) (f := f) fun r hr => ⟨hr, (hs r hr).2⟩
    by_cases k : f.length < (rs.foldl putStep f).length
    · obtain ⟨p, q⟩ := putN_is hs n (f := putPass rs f) (by have := e k; unfold putPass; omega)
      exact ⟨fun x hx => p x (a x hx), q⟩
    · have k1 := (d (by omega)).1
      have stay : ∀ m, putN rs m f = f := fun m => by
        induction m with
        | zero => rfl
        | succ m ih =>
          show putN rs m (rs.foldl putStep f) = f
          rw [k1]
          exact ih
      rw [stay]
      exact ⟨fun _ h => h, k1⟩
theorem putL_is (hs : ∀ r ∈ rs, Small r) (ms : List Int) : (∀ x ∈ ms, x ∈ putL rs ms) ∧ ∀ r ∈ rs, metB r (putL rs ms) = true := by
  obtain ⟨a, b⟩ := putN_is hs (miss rs ms) (f := ms) (Nat.le_refl _)
  refine ⟨a, ?_⟩
  obtain ⟨_, _, _, d, _⟩ := put_run (rs := rs) (l := rs) (f := putL rs ms) fun r hr => ⟨hr, (hs r hr).2⟩
  exact (d (congrArg List.length b)).2
theorem putN_stay (e : putPass rs f = f) : ∀ n, putN rs n f = f
  | 0 => rfl
  | n + 1 => by
    show putN rs n (putPass rs f) = f
    rw [e]
    exact putN_stay e n
/-- the same, with any count of turns that is enough -/
theorem putN_more (hs : ∀ r ∈ rs, Small r) : ∀ (n m : Nat) {f : List Int}, miss rs f ≤ n → miss rs f ≤ m → putN rs n f = putN rs m f := by
  intro n
  induction n with
  | zero =>
    intro m f h _
    obtain ⟨_, b⟩ := putN_is hs 0 (f := f) h
    exact (putN_stay b m).symm
  | succ n ih =>
    intro m f h h2
    obtain ⟨a, b, c, d, e⟩ := put_run (rs := rs) (l := rs) (f := f) fun r hr => ⟨hr, (hs r hr).2⟩
    by_cases k : f.length < (rs.foldl putStep f).length
    · have k1 := e k
      cases m with
      | zero => omega
      | succ m => exact ih m (f := putPass rs f) (by unfold putPass; omega) (by unfold putPass; omega)
    · have k1 := (d (by omega)).1
      rw [putN_stay k1, putN_stay k1]
end
abbrev A_putTo : List D → Ot → Prop := fun ds o => ∃ (rs : List Rule) (ms : List Int), ds = [.rules rs, .ints ms] ∧ ((∀ r ∈ rs, Small r) ∧ ms.length + 4 * miss rs ms ≤ 1000000) ∧ o = .inl (.sh (.ints (putL rs ms)))
theorem miss_le (rs : List Rule) (f : List Int) : miss rs f ≤ ((rs.map (·.2)).flatten).length := Nat.le_trans List.countP_le_length (nub_len _)
end Mb
set_option Elab.async false
set_option linter.all false
set_option maxRecDepth 100000
set_option maxHeartbeats 4000000
namespace Mb
open PySem PySem.Spec PyProof.Rows L2
local macro_rules | `(tactic| wtm_at "m.dec") => `(tactic| (dsimp only [Gx.blk]; decide +kernel))
local macro_rules | `(tactic| wtm_at "m.hint") => `(tactic| fail)
local macro_rules | `(tactic| wtm_at "m.side") => `(tactic| first | assumption | decide | omega | exact Or.inr (And.intro (by omega) (by omega)) | exact Or.inl (And.intro (by omega) (by omega)) | exact And.intro (by omega) (by omega) | (simp only [List.length_cons, List.length_nil, List.length_map, List.length_range]; omega) | wtm_at "m.hint")
local macro_rules | `(tactic| wtm_at "m.dn") => `(tactic| first
  | exact Dn.int _ _ | exact Dn.bl _ _ | exact Dn.non _
  | (refine dn_lst (n := _) ?_; wtm_at "m.dm") | (refine dn_tup (n := _) ?_; wtm_at "m.dm"))
local macro_rules | `(tactic| wtm_at "m.dm") => `(tactic| first
  | exact dm_nil | (refine dm_map ?_; intro _; wtm_at "m.dn") | (refine dm_cons ?a ?b; (case a => wtm_at "m.dn"); (case b => wtm_at "m.dm")) | (refine dm_app ?a ?b; (case a => wtm_at "m.dm"); (case b => wtm_at "m.dm")))
local macro_rules | `(tactic| wtm_at "m.tosh") => `(tactic| first | exact ToSh.sh _ | exact ToSh.fr _)
local macro_rules | `(tactic| wtm_at "m.eds") => `(tactic| (refine' ED.toSh ?h ?t ?q; (case h => wtm_at "m.ed"); (case t => wtm_at "m.tosh"); (case q => exact rfl)))
local macro_rules | `(tactic| wtm_at "m.ad") => `(tactic| first
  | exact ad_nil
  | (refine' ad_cons' ?h ?t ?r; (case h => wtm_at "m.ed"); (case t => wtm_at "m.tosh"); (case r => wtm_at "m.ad")))
local macro_rules | `(tactic| wtm_at "m.ic") => `(tactic| first
  | (refine' ic_range (by assumption) ?a ?b ?c ?g; (case a => wtm_at "m.ed"); (case g => rfl); (case b => wtm_at "m.side"); (case c => wtm_at "m.side"))
  | (refine' ic_list ?h ?q; (case h => wtm_at "m.ed"); (case q => exact rfl)))
local macro_rules | `(tactic| wtm_at "m.if") => `(tactic| first
  | (refine' if_range (by assumption) ?a ?b ?c ?g; (case a => wtm_at "m.ed"); (case g => rfl); (case b => wtm_at "m.side"); (case c => wtm_at "m.side"))
  | (refine' if_range2 (by assumption) ?a ?a2 ?b ?g; (case a => wtm_at "m.ed"); (case a2 => wtm_at "m.ed"); (case g => rfl); (case b => wtm_at "m.side"))
  | (refine' if_list ?h; (case h => wtm_at "m.ed"))
  | (refine' if_fr ?h; (case h => wtm_at "m.ed"))
  | (refine' if_tup ?h; (case h => wtm_at "m.ed")))
local macro_rules | `(tactic| wtm_at "m.ld") => `(tactic| first
  | (refine' ld_lc0 ?n ?i ?j ?o ?l ?e; (case n => assumption); (case i => wtm_at "m.ic"); (case j => wtm_at "m.dec"); (case o => wtm_at "m.dec"); (case l => wtm_at "m.dec"); (case e => intro _ hx; (try have hx := List.mem_range.mp hx); wtm_at "m.eds"))
  | (refine' ld_lc1 ?n ?i ?j ?o ?l ?t ?e; (case n => assumption); (case i => wtm_at "m.ic"); (case j => wtm_at "m.dec"); (case o => wtm_at "m.dec"); (case l => wtm_at "m.dec"); (case t => (intro _ hx; (try have hx := List.mem_range.mp hx); refine TD.cast ?h ?q; (case h => wtm_at "m.td"); (case q => exact rfl))); (case e => intro _ hx _; (try have hx := List.mem_range.mp hx); wtm_at "m.eds"))
  | (refine' ld_lcp0 ?n ?i ?j ?j2 ?o ?l ?l2 ?e; (case n => assumption); (case i => wtm_at "m.ic"); (case j => wtm_at "m.dec"); (case j2 => wtm_at "m.dec"); (case o => wtm_at "m.dec"); (case l => wtm_at "m.dec"); (case l2 => wtm_at "m.dec"); (case e => intro _ _; wtm_at "m.eds"))
  | (refine' ld_lcp1 ?n ?i ?j ?j2 ?o ?l ?l2 ?t ?e; (case n => assumption); (case i => wtm_at "m.ic"); (case j => wtm_at "m.dec"); (case j2 => wtm_at "m.dec"); (case o => wtm_at "m.dec"); (case l => wtm_at "m.dec"); (case l2 => wtm_at "m.dec"); (case t => (intro _ hx; (try have hx := List.mem_range.mp hx); refine TD.cast ?h ?q; (case h => wtm_at "m.td"); (case q => exact rfl))); (case e => intro _ hx _; (try have hx := List.mem_range.mp hx); wtm_at "m.eds")))
local macro_rules | `(tactic| wtm_at "m.addr") => `(tactic| first | exact AddR.int _ _ | (refine' AddR.cat ?x ?y ?z; (case x => exact rfl); (case y => exact rfl); (case z => wtm_at "m.side")))
local macro_rules | `(tactic| wtm_at "m.at") => `(tactic| first
  | exact rfl
  | assumption
  | (refine atI_get (d := (0 : Int)) ?a ?b; (case a => wtm_at "m.side"); (case b => wtm_at "m.side"))
  | (refine atI_ints (d := default) ?a ?b; (case a => wtm_at "m.side"); (case b => wtm_at "m.side"))
  | (refine atI_lit ?a ?b ?c; (case a => wtm_at "m.side"); (case b => wtm_at "m.side"); (case c => rfl)))
local macro_rules | `(tactic| wtm_at "m.ixd") => `(tactic| first
  | (refine' IxD.tup ?h; (case h => wtm_at "m.at"))
  | (refine' IxD.scr ?h; (case h => wtm_at "m.at"))
  | (refine' IxD.list ?x ?h; (case x => exact rfl); (case h => wtm_at "m.at")))
local macro_rules | `(tactic| wtm_at "m.cp") => `(tactic| first
  | (refine' cp_lt ?a ?b; (case a => wtm_at "m.ed"); (case b => wtm_at "m.ed"))
  | (refine' cp_le ?a ?b; (case a => wtm_at "m.ed"); (case b => wtm_at "m.ed"))
  | (refine' cp_gt ?a ?b; (case a => wtm_at "m.ed"); (case b => wtm_at "m.ed"))
  | (refine' cp_ge ?a ?b; (case a => wtm_at "m.ed"); (case b => wtm_at "m.ed"))
  | (refine' cp_eq ?a ?b ?c ?d; (case a => wtm_at "m.ed"); (case b => wtm_at "m.ed"); (case c => wtm_at "m.dn"); (case d => wtm_at "m.dn"))
  | (refine' cp_ne ?a ?b ?c ?d; (case a => wtm_at "m.ed"); (case b => wtm_at "m.ed"); (case c => wtm_at "m.dn"); (case d => wtm_at "m.dn"))
  | (refine' cp_in ?a ?b ?e ?c ?d ?m; (case a => wtm_at "m.ed"); (case b => wtm_at "m.ed"); (case e => exact rfl); (case c => wtm_at "m.dn"); (case d => wtm_at "m.dm"); (case m => rfl))
  | (refine' cp_nin ?a ?b ?e ?c ?d ?m; (case a => wtm_at "m.ed"); (case b => wtm_at "m.ed"); (case e => exact rfl); (case c => wtm_at "m.dn"); (case d => wtm_at "m.dm"); (case m => rfl))
  | (refine' cp_isN ?a; (case a => wtm_at "m.ed"))
  | (refine' cp_notN ?a; (case a => wtm_at "m.ed"))
  | (refine' ch_le_lt ?a ?b ?c; (case a => wtm_at "m.ed"); (case b => wtm_at "m.ed"); (case c => wtm_at "m.ed"))
  | (refine' ch_le_le ?a ?b ?c; (case a => wtm_at "m.ed"); (case b => wtm_at "m.ed"); (case c => wtm_at "m.ed")))
local macro_rules | `(tactic| wtm_at "m.tw") => `(tactic| first
  | (refine' tw_and ?a ?b; (case a => wtm_at "m.td"); (case b => intro _; wtm_at "m.tw"))
  | (refine' tw_or ?a ?b; (case a => wtm_at "m.td"); (case b => intro _; wtm_at "m.tw"))
  | (refine' tw_and1 ?a; (case a => wtm_at "m.td"))
  | (refine' tw_or1 ?a; (case a => wtm_at "m.td")))
local macro_rules | `(tactic| wtm_at "m.td") => `(tactic| first
  | (refine' And.right (a := ?p) ?h; (case h => wtm_at "m.cp"))
  | (refine' td_not ?h; (case h => wtm_at "m.td"))
  | (refine' td_bool ?h; (case h => wtm_at "m.tw"))
  | (refine' td_val ?h; (case h => wtm_at "m.ed")))
local macro_rules | `(tactic| wtm_at "m.bo") => `(tactic| first
  | (refine' ed_and ?a ?b; (case a => wtm_at "m.ed"); (case b => intro _; wtm_at "m.bo"))
  | (refine' ed_or ?a ?b; (case a => wtm_at "m.ed"); (case b => intro _; wtm_at "m.bo"))
  | (refine' ed_one ?a; (case a => wtm_at "m.ed")))
local macro_rules | `(tactic| wtm_at "m.pre") => `(tactic| first
  | exact ⟨_, rfl, rfl⟩ | exact ⟨_, _, rfl, rfl⟩ | exact ⟨_, _, _, rfl, rfl⟩ | exact ⟨_, _, _, _, rfl, rfl⟩ | exact ⟨_, _, _, _, _, rfl, rfl⟩
  | (refine ⟨_, rfl, ?_, rfl⟩; wtm_at "m.side") | (refine ⟨_, _, rfl, ?_, rfl⟩; wtm_at "m.side") | (refine ⟨_, _, _, rfl, ?_, rfl⟩; wtm_at "m.side") | (refine ⟨_, _, _, _, rfl, ?_, rfl⟩; wtm_at "m.side"))
local macro_rules | `(tactic| wtm_at "m.call") => `(tactic| first
  | wtm_at "m.direct"
  | (refine' ed_thaw ?h ?d; (case h => wtm_at "m.direct"); (case d => rfl)))
local macro_rules | `(tactic| wtm_at "m.direct") => `(tactic| first
  | (refine' ed_call ?T ?k ?g ?a ?A; (case T => assumption); (case k => (dsimp only [Gx.blk]; decide)); (case g => rfl); (case a => wtm_at "m.ad"); (case A => wtm_at "m.pre"))
  | (refine' ed_many (by assumption) ?a ?b; (case a => wtm_at "m.ed"); (case b => exact rfl))
  | (refine' ed_rows (by assumption) ?a; (case a => wtm_at "m.ed"))
  | (refine' ed_meth (by assumption) ?T ?k ?o ?d ?a ?A; (case T => assumption); (case k => (dsimp only [Gx.blk]; decide)); (case o => wtm_at "m.ed"); (case d => exact rfl); (case a => wtm_at "m.ad"); (case A => wtm_at "m.pre")))
local macro_rules | `(tactic| wtm_at "m.ed") => `(tactic| first
  | (refine' ed_var ?h ?v; (case h => exact rfl); (case v => rfl))
  | exact ed_int
  | (refine' ed_ixR ?a ?b ?c; (case a => wtm_at "m.ed"); (case b => wtm_at "m.ed"); (case c => wtm_at "m.ixd"))
  | (refine' And.left (b := ?p) ?h; (case h => wtm_at "m.cp"))
  | (refine' ed_addR ?a ?b ?c; (case a => wtm_at "m.ed"); (case b => wtm_at "m.ed"); (case c => wtm_at "m.addr"))
  | (refine' ed_sub ?a ?b; (case a => wtm_at "m.ed"); (case b => wtm_at "m.ed"))
  | (refine' ed_mul ?a ?b ?c; (case a => wtm_at "m.ed"); (case b => wtm_at "m.ed"); (case c => wtm_at "m.side"))
  | (refine' ed_fdiv ?a ?b ?c; (case a => wtm_at "m.ed"); (case b => wtm_at "m.ed"); (case c => wtm_at "m.side"))
  | (refine' ed_mod ?a ?b ?c; (case a => wtm_at "m.ed"); (case b => wtm_at "m.ed"); (case c => wtm_at "m.side"))
  | (refine' ed_pow ?a ?b ?c; (case a => wtm_at "m.ed"); (case b => wtm_at "m.ed"); (case c => wtm_at "m.side"))
  | (refine' ed_neg ?a; (case a => wtm_at "m.ed"))
  | (refine' LD.ed ?a; (case a => wtm_at "m.ld"))
  | (refine' ed_len (by assumption) ?a ?b ?g; (case a => wtm_at "m.ed"); (case b => exact rfl); (case g => rfl))
  | (refine' ed_listRange (by assumption) ?a ?b ?c ?g ?g2; (case a => wtm_at "m.ed"); (case b => wtm_at "m.side"); (case c => wtm_at "m.side"); (case g => rfl); (case g2 => rfl))
  | (refine' ed_list (by assumption) ?a ?b ?g; (case a => wtm_at "m.ed"); (case b => exact rfl); (case g => rfl))
  | (refine' ed_all (by assumption) ?a ?b ?g; (case a => wtm_at "m.ed"); (case b => exact rfl); (case g => rfl))
  | (refine' ed_any (by assumption) ?a ?b ?g; (case a => wtm_at "m.ed"); (case b => exact rfl); (case g => rfl))
  | (refine' ed_sum (by assumption) ?a ?b ?g; (case a => wtm_at "m.ed"); (case b => exact rfl); (case g => rfl))
  | (refine' ed_sorted (by assumption) ?a ?b ?g; (case a => wtm_at "m.ed"); (case b => exact rfl); (case g => rfl))
  | (refine' ed_intB (by assumption) ?a ?g; (case a => wtm_at "m.ed"); (case g => rfl))
  | (refine' ed_max (by assumption) ?a ?b ?g; (case a => wtm_at "m.ed"); (case b => wtm_at "m.ed"); (case g => rfl))
  | (refine' ed_min (by assumption) ?a ?b ?g; (case a => wtm_at "m.ed"); (case b => wtm_at "m.ed"); (case g => rfl))
  | (refine' ed_isi (k := true) (by assumption) ?a ?b ?t ?k ?g; (case a => wtm_at "m.ed"); (case b => wtm_at "m.ed"); (case t => exact rfl); (case k => decide +kernel); (case g => rfl))
  | (refine' ed_isi (k := false) (by assumption) ?a ?b ?t ?k ?g; (case a => wtm_at "m.ed"); (case b => wtm_at "m.ed"); (case t => exact rfl); (case k => decide +kernel); (case g => rfl))
  | (refine' ed_tup ?a ?b; (case a => wtm_at "m.ad"); (case b => wtm_at "m.side"))
  | (refine' ed_lst ?a ?b; (case a => wtm_at "m.ad"); (case b => wtm_at "m.side"))
  | (refine' ed_not ?a; (case a => wtm_at "m.ed"))
  | wtm_at "m.bo"
  | wtm_at "m.call"
  | (refine' ed_own ?h ?v; (case h => exact rfl); (case v => rfl))
  | exact ed_bl
  | exact ed_non
  | (refine' ed_tyInt (by assumption) ?g; (case g => rfl))
  | (refine' ed_tyList (by assumption) ?g; (case g => rfl))
  | (refine' ed_tyTuple (by assumption) ?g; (case g => rfl))
  | (refine' ed_tyBool (by assumption) ?g; (case g => rfl)))
local macro_rules | `(tactic| wtm_at "s.set") => `(tactic| (refine' sd_cons (s_set ?e ?q ?n ?i ?o); (case n => assumption); (case i => wtm_at "m.dec"); (case o => wtm_at "m.dec"); (case e => wtm_at "m.eds")))
local macro_rules | `(tactic| wtm_at "s.own") => `(tactic| (refine' sd_cons (s_own ?e ?q ?n ?i ?o); (case n => assumption); (case i => wtm_at "m.dec"); (case o => wtm_at "m.dec"); (case e => wtm_at "m.ed")))
local macro_rules | `(tactic| wtm_at "s.lc") => `(tactic| (refine' sd_cons (s_lc ?e ?q ?i ?k ?y ?l ?a); (case i => wtm_at "m.dec"); (case k => rfl); (case y => rfl); (case l => rfl); (case a => decide +kernel); (case e => wtm_at "m.ld")))
local macro_rules | `(tactic| wtm_at "s.lco") => `(tactic| (refine' sd_cons (s_lcO ?e ?q ?i ?k ?y ?l ?a); (case i => wtm_at "m.dec"); (case k => rfl); (case y => rfl); (case l => rfl); (case a => decide +kernel); (case e => wtm_at "m.ld")))
local macro_rules | `(tactic| wtm_at "s.lcc") => `(tactic| (refine' sd_cons (s_set ?e ?q ?n ?i ?o (swapF ?s)); (case n => assumption); (case i => wtm_at "m.dec"); (case o => wtm_at "m.dec"); (case s => rfl); (case e => (refine' ED.shr (LD.ed ?f); (case f => wtm_at "m.ld")))))
local macro_rules | `(tactic| wtm_at "s.ret") => `(tactic| (refine' sd_cons (s_ret ?e ?q); (case e => wtm_at "m.ed")))
local macro_rules | `(tactic| wtm_at "s.if") => `(tactic| (refine' sd_cons (s_if ?t ?y ?n); (case t => wtm_at "m.td")))
local macro_rules | `(tactic| wtm_at "s.ift") => `(tactic| (refine' sd_cons (s_if (td_thaw ?t) ?y ?n); (case t => wtm_at "m.td")))
local macro_rules | `(tactic| wtm_at "s.app") => `(tactic| (refine' sd_cons (s_app ?e ?h ?v ?z ?q); (case h => exact rfl); (case v => rfl); (case e => wtm_at "m.eds"); (case z => wtm_at "m.side")))
local macro_rules | `(tactic| wtm_at "s.ifset") => `(tactic| (refine' sd_cons (s_ifset ?c ?e ?h1 ?h2 ?h0 ?q ?n ?i ?o); (case n => assumption); (case i => wtm_at "m.dec"); (case o => wtm_at "m.dec"); (case h0 => exact rfl); (case c => wtm_at "m.td"); (case e => intro _; wtm_at "m.eds")))
local macro_rules | `(tactic| wtm_at "m.hint") => `(tactic| first | exact prime_ok (by omega) | exact prime_ok hx)
section
variable {U : Wd} (T : Bl U.mg) {f : Addr} {fd : FuncData} {x q : Str}
include T
theorem ok_whole (F : Fun U.K x q s_law_whole f fd) : FnOk U.P U.w U.K U.mg U.base (L2.CX U.P U.w) 1 f fd ["_law_found"] (spX U A_whole) := by
  have hN := sc_law_whole.nd
  have t1 := T.int
  have t2 := T.bool
  refine fn_ok F sc_law_whole (fun ds o h => ?_) fun ds o h => ?_
  · obtain ⟨i, rfl, _⟩ := h
    rfl
  · obtain ⟨i, rfl, rfl⟩ := h
    refine sd_at (ρ' := [.sh _]) rfl ?_
    wtm_at "s.ret"
    rfl
theorem ok_cell (F : Fun U.K x q s_law_cell_at f fd) : FnOk U.P U.w U.K U.mg U.base (L2.CX U.P U.w) 1 f fd ["_law_script", "_law_k"] (spX U A_cell) := by
  have hN := sc_law_cell_at.nd
  refine fn_ok F sc_law_cell_at (fun ds o h => ?_) fun ds o h => ?_
  · obtain ⟨ns, k, rfl, _⟩ := h
    rfl
  · obtain ⟨ns, k, rfl, h0, rfl⟩ := h
    refine sd_at (ρ' := [.sh _, .sh _]) rfl ?_
    wtm_at "s.if"
    · intro hk
      have hk := of_decide_eq_true hk
      wtm_at "s.ret"
      rfl
    · intro hk
      have hk := of_decide_eq_false hk
      refine sd_nil ?_
      wtm_at "s.ret"
      show (Sum.inl _ : Ot) = Sum.inl _
      unfold cellI
      rw [List.getD_eq_getElem?_getD, List.getElem?_eq_none (by omega)]
      rfl
theorem ok_some (F : Fun U.K x q s_law_some f fd) : FnOk U.P U.w U.K U.mg U.base (L2.CX U.P U.w) 1 f fd ["_law_cell", "_law_most", "_law_many"] (spX U A_some) := by
  have hN := sc_law_some.nd
  refine fn_ok F sc_law_some (fun ds o h => ?_) fun ds o h => ?_
  · obtain ⟨c, m, n, rfl, _⟩ := h
    rfl
  · obtain ⟨c, m, n, rfl, ⟨h1, h2, h3⟩, rfl⟩ := h
    have l1 := fmod_lo (a := c) (b := m + 1) (by omega)
    have l2 := fmod_hi (a := c) (b := m + 1) (by omega)
    refine sd_at (ρ' := [.sh _, .sh _, .sh _, .no, .no]) rfl ?_
    wtm_at "s.set"
    refine sd_at (ρ' := [.sh _, .sh _, .sh _, .sh _, .no]) rfl ?_
    wtm_at "s.ret"
    show (Sum.inl _ : Ot) = Sum.inl _
    unfold someL
    rw [List.map_map]
    rfl
end
end Mb
set_option Elab.async false
set_option linter.all false
set_option maxRecDepth 100000
set_option maxHeartbeats 4000000
namespace Mb
open PySem PySem.Spec PyProof.Rows L2
local macro_rules | `(tactic| wtm_at "m.dec") => `(tactic| (dsimp only [Gx.blk]; decide +kernel))
local macro_rules | `(tactic| wtm_at "m.hint") => `(tactic| fail)
local macro_rules | `(tactic| wtm_at "m.side") => `(tactic| first | assumption | decide | omega | exact Or.inr (And.intro (by omega) (by omega)) | exact Or.inl (And.intro (by omega) (by omega)) | exact And.intro (by omega) (by omega) | (simp only [List.length_cons, List.length_nil, List.length_map, List.length_range, List.length_append, sizeLine_eq]; omega) | wtm_at "m.hint")
local macro_rules | `(tactic| wtm_at "m.dn") => `(tactic| first
  | exact Dn.int _ _ | exact Dn.bl _ _ | exact Dn.non _
  | (refine dn_lst (n := _) ?_; wtm_at "m.dm") | (refine dn_tup (n := _) ?_; wtm_at "m.dm"))
local macro_rules | `(tactic| wtm_at "m.dm") => `(tactic| first
  | exact dm_nil | (refine dm_map ?_; intro _; wtm_at "m.dn") | (refine dm_cons ?a ?b; (case a => wtm_at "m.dn"); (case b => wtm_at "m.dm")) | (refine dm_app ?a ?b; (case a => wtm_at "m.dm"); (case b => wtm_at "m.dm")))
local macro_rules | `(tactic| wtm_at "m.tosh") => `(tactic| first | exact ToSh.sh _ | exact ToSh.fr _)
local macro_rules | `(tactic| wtm_at "m.eds") => `(tactic| (refine' ED.toSh ?h ?t ?q; (case h => wtm_at "m.ed"); (case t => wtm_at "m.tosh"); (case q => exact rfl)))
local macro_rules | `(tactic| wtm_at "m.ad") => `(tactic| first
  | exact ad_nil
  | (refine' ad_cons' ?h ?t ?r; (case h => wtm_at "m.ed"); (case t => wtm_at "m.tosh"); (case r => wtm_at "m.ad")))
local macro_rules | `(tactic| wtm_at "m.ic") => `(tactic| first
  | (refine' ic_range (by assumption) ?a ?b ?c ?g; (case a => wtm_at "m.ed"); (case g => rfl); (case b => wtm_at "m.side"); (case c => wtm_at "m.side"))
  | (refine' ic_list ?h ?q; (case h => wtm_at "m.ed"); (case q => exact rfl)))
local macro_rules | `(tactic| wtm_at "m.if") => `(tactic| first
  | (refine' if_range (by assumption) ?a ?b ?c ?g; (case a => wtm_at "m.ed"); (case g => rfl); (case b => wtm_at "m.side"); (case c => wtm_at "m.side"))
  | (refine' if_range2 (by assumption) ?a ?a2 ?b ?g; (case a => wtm_at "m.ed"); (case a2 => wtm_at "m.ed"); (case g => rfl); (case b => wtm_at "m.side"))
  | (refine' if_list ?h; (case h => wtm_at "m.ed"))
  | (refine' if_fr ?h; (case h => wtm_at "m.ed"))
  | (refine' if_tup ?h; (case h => wtm_at "m.ed")))
local macro_rules | `(tactic| wtm_at "m.ld") => `(tactic| first
  | (refine' ld_lc0 ?n ?i ?j ?o ?l ?e; (case n => assumption); (case i => wtm_at "m.ic"); (case j => wtm_at "m.dec"); (case o => wtm_at "m.dec"); (case l => wtm_at "m.dec"); (case e => intro _ hx; (try have hx := List.mem_range.mp hx); wtm_at "m.eds"))
  | (refine' ld_lc1 ?n ?i ?j ?o ?l ?t ?e; (case n => assumption); (case i => wtm_at "m.ic"); (case j => wtm_at "m.dec"); (case o => wtm_at "m.dec"); (case l => wtm_at "m.dec"); (case t => (intro _ hx; (try have hx := List.mem_range.mp hx); refine TD.cast ?h ?q; (case h => wtm_at "m.td"); (case q => exact rfl))); (case e => intro _ hx _; (try have hx := List.mem_range.mp hx); wtm_at "m.eds"))
  | (refine' ld_lcp0 ?n ?i ?j ?j2 ?o ?l ?l2 ?e; (case n => assumption); (case i => wtm_at "m.ic"); (case j => wtm_at "m.dec"); (case j2 => wtm_at "m.dec"); (case o => wtm_at "m.dec"); (case l => wtm_at "m.dec"); (case l2 => wtm_at "m.dec"); (case e => intro _ _; wtm_at "m.eds"))
  | (refine' ld_lcp1 ?n ?i ?j ?j2 ?o ?l ?l2 ?t ?e; (case n => assumption); (case i => wtm_at "m.ic"); (case j => wtm_at "m.dec"); (case j2 => wtm_at "m.dec"); (case o => wtm_at "m.dec"); (case l => wtm_at "m.dec"); (case l2 => wtm_at "m.dec"); (case t => (intro _ hx; (try have hx := List.mem_range.mp hx); refine TD.cast ?h ?q; (case h => wtm_at "m.td"); (case q => exact rfl))); (case e => intro _ hx _; (try have hx := List.mem_range.mp hx); wtm_at "m.eds")))
local macro_rules | `(tactic| wtm_at "m.addr") => `(tactic| first | exact AddR.int _ _ | (refine' AddR.cat ?x ?y ?z; (case x => exact rfl); (case y => exact rfl); (case z => wtm_at "m.side")))
local macro_rules | `(tactic| wtm_at "m.at") => `(tactic| first
  | exact rfl
  | assumption
  | (refine atI_get (d := (0 : Int)) ?a ?b; (case a => wtm_at "m.side"); (case b => wtm_at "m.side"))
  | (refine atI_ints (d := default) ?a ?b; (case a => wtm_at "m.side"); (case b => wtm_at "m.side"))
  | (refine atI_lit ?a ?b ?c; (case a => wtm_at "m.side"); (case b => wtm_at "m.side"); (case c => rfl)))
local macro_rules | `(tactic| wtm_at "m.ixd") => `(tactic| first
  | (refine' IxD.tup ?h; (case h => wtm_at "m.at"))
  | (refine' IxD.scr ?h; (case h => wtm_at "m.at"))
  | (refine' IxD.list ?x ?h; (case x => exact rfl); (case h => wtm_at "m.at")))
local macro_rules | `(tactic| wtm_at "m.cp") => `(tactic| first
  | (refine' cp_lt ?a ?b; (case a => wtm_at "m.ed"); (case b => wtm_at "m.ed"))
  | (refine' cp_le ?a ?b; (case a => wtm_at "m.ed"); (case b => wtm_at "m.ed"))
  | (refine' cp_gt ?a ?b; (case a => wtm_at "m.ed"); (case b => wtm_at "m.ed"))
  | (refine' cp_ge ?a ?b; (case a => wtm_at "m.ed"); (case b => wtm_at "m.ed"))
  | (refine' cp_eq ?a ?b ?c ?d; (case a => wtm_at "m.ed"); (case b => wtm_at "m.ed"); (case c => wtm_at "m.dn"); (case d => wtm_at "m.dn"))
  | (refine' cp_ne ?a ?b ?c ?d; (case a => wtm_at "m.ed"); (case b => wtm_at "m.ed"); (case c => wtm_at "m.dn"); (case d => wtm_at "m.dn"))
  | (refine' cp_in ?a ?b ?e ?c ?d ?m; (case a => wtm_at "m.ed"); (case b => wtm_at "m.ed"); (case e => exact rfl); (case c => wtm_at "m.dn"); (case d => wtm_at "m.dm"); (case m => rfl))
  | (refine' cp_nin ?a ?b ?e ?c ?d ?m; (case a => wtm_at "m.ed"); (case b => wtm_at "m.ed"); (case e => exact rfl); (case c => wtm_at "m.dn"); (case d => wtm_at "m.dm"); (case m => rfl))
  | (refine' cp_isN ?a; (case a => wtm_at "m.ed"))
  | (refine' cp_notN ?a; (case a => wtm_at "m.ed"))
  | (refine' ch_le_lt ?a ?b ?c; (case a => wtm_at "m.ed"); (case b => wtm_at "m.ed"); (case c => wtm_at "m.ed"))
  | (refine' ch_le_le ?a ?b ?c; (case a => wtm_at "m.ed"); (case b => wtm_at "m.ed"); (case c => wtm_at "m.ed")))
local macro_rules | `(tactic| wtm_at "m.tw") => `(tactic| first
  | (refine' tw_and ?a ?b; (case a => wtm_at "m.td"); (case b => intro _; wtm_at "m.tw"))
  | (refine' tw_or ?a ?b; (case a => wtm_at "m.td"); (case b => intro _; wtm_at "m.tw"))
  | (refine' tw_and1 ?a; (case a => wtm_at "m.td"))
  | (refine' tw_or1 ?a; (case a => wtm_at "m.td")))
local macro_rules | `(tactic| wtm_at "m.td") => `(tactic| first
  | (refine' And.right (a := ?p) ?h; (case h => wtm_at "m.cp"))
  | (refine' td_not ?h; (case h => wtm_at "m.td"))
  | (refine' td_bool ?h; (case h => wtm_at "m.tw"))
  | (refine' td_val ?h; (case h => wtm_at "m.ed")))
local macro_rules | `(tactic| wtm_at "m.bo") => `(tactic| first
  | (refine' ed_and ?a ?b; (case a => wtm_at "m.ed"); (case b => intro _; wtm_at "m.bo"))
  | (refine' ed_or ?a ?b; (case a => wtm_at "m.ed"); (case b => intro _; wtm_at "m.bo"))
  | (refine' ed_one ?a; (case a => wtm_at "m.ed")))
local macro_rules | `(tactic| wtm_at "m.pre") => `(tactic| first
  | exact ⟨_, rfl, rfl⟩ | exact ⟨_, _, rfl, rfl⟩ | exact ⟨_, _, _, rfl, rfl⟩ | exact ⟨_, _, _, _, rfl, rfl⟩ | exact ⟨_, _, _, _, _, rfl, rfl⟩
  | (refine ⟨_, rfl, ?_, rfl⟩; wtm_at "m.side") | (refine ⟨_, _, rfl, ?_, rfl⟩; wtm_at "m.side") | (refine ⟨_, _, _, rfl, ?_, rfl⟩; wtm_at "m.side") | (refine ⟨_, _, _, _, rfl, ?_, rfl⟩; wtm_at "m.side"))
local macro_rules | `(tactic| wtm_at "m.call") => `(tactic| first
  | wtm_at "m.direct"
  | (refine' ed_thaw ?h ?d; (case h => wtm_at "m.direct"); (case d => rfl)))
local macro_rules | `(tactic| wtm_at "m.direct") => `(tactic| first
  | (refine' ed_call ?T ?k ?g ?a ?A; (case T => assumption); (case k => (dsimp only [Gx.blk]; decide)); (case g => rfl); (case a => wtm_at "m.ad"); (case A => wtm_at "m.pre"))
  | (refine' ed_many (by assumption) ?a ?b; (case a => wtm_at "m.ed"); (case b => exact rfl))
  | (refine' ed_rows (by assumption) ?a; (case a => wtm_at "m.ed"))
  | (refine' ed_meth (by assumption) ?T ?k ?o ?d ?a ?A; (case T => assumption); (case k => (dsimp only [Gx.blk]; decide)); (case o => wtm_at "m.ed"); (case d => exact rfl); (case a => wtm_at "m.ad"); (case A => wtm_at "m.pre")))
local macro_rules | `(tactic| wtm_at "m.ed") => `(tactic| first
  | (refine' ed_var ?h ?v; (case h => exact rfl); (case v => rfl))
  | exact ed_int
  | (refine' ed_ixR ?a ?b ?c; (case a => wtm_at "m.ed"); (case b => wtm_at "m.ed"); (case c => wtm_at "m.ixd"))
  | (refine' And.left (b := ?p) ?h; (case h => wtm_at "m.cp"))
  | (refine' ed_addR ?a ?b ?c; (case a => wtm_at "m.ed"); (case b => wtm_at "m.ed"); (case c => wtm_at "m.addr"))
  | (refine' ed_sub ?a ?b; (case a => wtm_at "m.ed"); (case b => wtm_at "m.ed"))
  | (refine' ed_mul ?a ?b ?c; (case a => wtm_at "m.ed"); (case b => wtm_at "m.ed"); (case c => wtm_at "m.side"))
  | (refine' ed_fdiv ?a ?b ?c; (case a => wtm_at "m.ed"); (case b => wtm_at "m.ed"); (case c => wtm_at "m.side"))
  | (refine' ed_mod ?a ?b ?c; (case a => wtm_at "m.ed"); (case b => wtm_at "m.ed"); (case c => wtm_at "m.side"))
  | (refine' ed_pow ?a ?b ?c; (case a => wtm_at "m.ed"); (case b => wtm_at "m.ed"); (case c => wtm_at "m.side"))
  | (refine' ed_neg ?a; (case a => wtm_at "m.ed"))
  | (refine' LD.ed ?a; (case a => wtm_at "m.ld"))
  | (refine' ed_len (by assumption) ?a ?b ?g; (case a => wtm_at "m.ed"); (case b => exact rfl); (case g => rfl))
  | (refine' ed_listRange (by assumption) ?a ?b ?c ?g ?g2; (case a => wtm_at "m.ed"); (case b => wtm_at "m.side"); (case c => wtm_at "m.side"); (case g => rfl); (case g2 => rfl))
  | (refine' ed_list (by assumption) ?a ?b ?g; (case a => wtm_at "m.ed"); (case b => exact rfl); (case g => rfl))
  | (refine' ed_all (by assumption) ?a ?b ?g; (case a => wtm_at "m.ed"); (case b => exact rfl); (case g => rfl))
  | (refine' ed_any (by assumption) ?a ?b ?g; (case a => wtm_at "m.ed"); (case b => exact rfl); (case g => rfl))
  | (refine' ed_sum (by assumption) ?a ?b ?g; (case a => wtm_at "m.ed"); (case b => exact rfl); (case g => rfl))
  | (refine' ed_sorted (by assumption) ?a ?b ?g; (case a => wtm_at "m.ed"); (case b => exact rfl); (case g => rfl))
  | (refine' ed_intB (by assumption) ?a ?g; (case a => wtm_at "m.ed"); (case g => rfl))
  | (refine' ed_max (by assumption) ?a ?b ?g; (case a => wtm_at "m.ed"); (case b => wtm_at "m.ed"); (case g => rfl))
  | (refine' ed_min (by assumption) ?a ?b ?g; (case a => wtm_at "m.ed"); (case b => wtm_at "m.ed"); (case g => rfl))
  | (refine' ed_isi (k := true) (by assumption) ?a ?b ?t ?k ?g; (case a => wtm_at "m.ed"); (case b => wtm_at "m.ed"); (case t => exact rfl); (case k => decide +kernel); (case g => rfl))
  | (refine' ed_isi (k := false) (by assumption) ?a ?b ?t ?k ?g; (case a => wtm_at "m.ed"); (case b => wtm_at "m.ed"); (case t => exact rfl); (case k => decide +kernel); (case g => rfl))
  | (refine' ed_tup ?a ?b; (case a => wtm_at "m.ad"); (case b => wtm_at "m.side"))
  | (refine' ed_lst ?a ?b; (case a => wtm_at "m.ad"); (case b => wtm_at "m.side"))
  | (refine' ed_not ?a; (case a => wtm_at "m.ed"))
  | wtm_at "m.bo"
  | wtm_at "m.call"
  | (refine' ed_own ?h ?v; (case h => exact rfl); (case v => rfl))
  | exact ed_bl
  | exact ed_non
  | (refine' ed_tyInt (by assumption) ?g; (case g => rfl))
  | (refine' ed_tyList (by assumption) ?g; (case g => rfl))
  | (refine' ed_tyTuple (by assumption) ?g; (case g => rfl))
  | (refine' ed_tyBool (by assumption) ?g; (case g => rfl)))
local macro_rules | `(tactic| wtm_at "s.set") => `(tactic| (refine' sd_cons (s_set ?e ?q ?n ?i ?o); (case n => assumption); (case i => wtm_at "m.dec"); (case o => wtm_at "m.dec"); (case e => wtm_at "m.eds")))
local macro_rules | `(tactic| wtm_at "s.own") => `(tactic| (refine' sd_cons (s_own ?e ?q ?n ?i ?o); (case n => assumption); (case i => wtm_at "m.dec"); (case o => wtm_at "m.dec"); (case e => wtm_at "m.ed")))
local macro_rules | `(tactic| wtm_at "s.lc") => `(tactic| (refine' sd_cons (s_lc ?e ?q ?i ?k ?y ?l ?a); (case i => wtm_at "m.dec"); (case k => rfl); (case y => rfl); (case l => rfl); (case a => decide +kernel); (case e => wtm_at "m.ld")))
local macro_rules | `(tactic| wtm_at "s.lco") => `(tactic| (refine' sd_cons (s_lcO ?e ?q ?i ?k ?y ?l ?a); (case i => wtm_at "m.dec"); (case k => rfl); (case y => rfl); (case l => rfl); (case a => decide +kernel); (case e => wtm_at "m.ld")))
local macro_rules | `(tactic| wtm_at "s.lcc") => `(tactic| (refine' sd_cons (s_set ?e ?q ?n ?i ?o (swapF ?s)); (case n => assumption); (case i => wtm_at "m.dec"); (case o => wtm_at "m.dec"); (case s => rfl); (case e => (refine' ED.shr (LD.ed ?f); (case f => wtm_at "m.ld")))))
local macro_rules | `(tactic| wtm_at "s.ret") => `(tactic| (refine' sd_cons (s_ret ?e ?q); (case e => wtm_at "m.ed")))
local macro_rules | `(tactic| wtm_at "s.if") => `(tactic| (refine' sd_cons (s_if ?t ?y ?n); (case t => wtm_at "m.td")))
local macro_rules | `(tactic| wtm_at "s.ift") => `(tactic| (refine' sd_cons (s_if (td_thaw ?t) ?y ?n); (case t => wtm_at "m.td")))
local macro_rules | `(tactic| wtm_at "s.app") => `(tactic| (refine' sd_cons (s_app ?e ?h ?v ?z ?q); (case h => exact rfl); (case v => rfl); (case e => wtm_at "m.eds"); (case z => wtm_at "m.side")))
local macro_rules | `(tactic| wtm_at "s.ifset") => `(tactic| (refine' sd_cons (s_ifset ?c ?e ?h1 ?h2 ?h0 ?q ?n ?i ?o); (case n => assumption); (case i => wtm_at "m.dec"); (case o => wtm_at "m.dec"); (case h0 => exact rfl); (case c => wtm_at "m.td"); (case e => intro _; wtm_at "m.eds")))
section
variable {U : Wd} (T : Bl U.mg) {f : Addr} {fd : FuncData} {x q : Str}
include T
variable (hC : FnT U "_law_cell_at" 1 A_cell) (hS : FnT U "_law_some" 1 A_some)
include hC hS in
theorem ok_rules (F : Fun U.K x q s_law_rules_by f fd) : FnOk U.P U.w U.K U.mg U.base (L2.CX U.P U.w) 2 f fd ["_law_script", "_law_many"] (spX U A_rules) := by
  have hN := sc_law_rules_by.nd
  refine fn_ok F sc_law_rules_by (fun ds o h => ?_) fun ds o h => ?_
  · obtain ⟨ns, m, rfl, _⟩ := h
    rfl
  · obtain ⟨ns, m, rfl, h0, rfl⟩ := h
    have l1 := fmod_lo (a := cellI ns 0) (b := 13) (by omega)
    have l2 := fmod_hi (a := cellI ns 0) (b := 13) (by omega)
    refine sd_at (ρ' := [.sh _, .sh _, .no, .no, .no, .no]) rfl ?_
    wtm_at "s.own"
    refine sd_at (ρ' := [.sh _, .sh _, .own [], .no, .no, .no]) rfl ?_
    refine' sd_cons (s_forR ?i (fun i ρ => ∃ s3 s4 s5, ρ = [.sh (.scr ns), .sh (.int m), .own ((ruleAll ns m i).map encR), s3, s4, s5]) ⟨.no, .no, .no, rfl⟩ ?s ?d hN ?i1 ?i2)
    case i1 => wtm_at "m.dec"
    case i2 => wtm_at "m.dec"
    case i => wtm_at "m.if"
    case s =>
      intro i ρ' hlt hi
      obtain ⟨s3, s4, s5, rfl⟩ := hi
      have hlen := ruleAll_len ns m i
      refine sd_at (ρ' := [.sh (.scr ns), .sh (.int m), .own _, .sh _, s4, s5]) rfl ?_
      wtm_at "s.set"
      refine sd_at (ρ' := [.sh (.scr ns), .sh (.int m), .own _, .sh _, .sh _, s5]) rfl ?_
      wtm_at "s.set"
      refine sd_at (ρ' := [.sh (.scr ns), .sh (.int m), .own _, .sh _, .sh _, .sh (encR (someL (cellI ns (6 + 2 * (i : Int))) 4 m, someL (cellI ns (7 + 2 * (i : Int))) 4 m))]) rfl ?_
      have hz : ((ruleAll ns m i).map encR).length < sizeLine := by
        rw [List.length_map, hlen, sizeLine_eq]
        omega
      refine' sd_cons (s_ifset (d' := encR (ruleAt ns m i (ruleAll ns m i))) ?c ?e ?h1 ?h2 ?h0 ?q hN ?j1 ?j2)
      case j1 => wtm_at "m.dec"
      case j2 => wtm_at "m.dec"
      case h0 => exact rfl
      case c => wtm_at "m.td"
      case e =>
        intro hk
        simp only [Rs.d, deq_lnil, deq_int, List.map_eq_nil_iff] at hk
        have hne : ruleAll ns m i ≠ [] := by
          rw [Bool.and_eq_true] at hk
          simpa using hk.2
        have hl := atI_lastR (f := encR) (d := ([], [])) hne
        wtm_at "m.eds"
      case h1 =>
        intro hk
        simp only [Rs.d, deq_lnil, deq_int, List.map_eq_nil_iff] at hk
        unfold ruleAt
        rw [if_pos hk]
      case h2 =>
        intro hk
        simp only [Rs.d, deq_lnil, deq_int, List.map_eq_nil_iff] at hk
        unfold ruleAt
        rw [if_neg (by rw [hk]; exact Bool.false_ne_true)]
      case q =>
        refine sd_at (ρ' := [.sh (.scr ns), .sh (.int m), .own _, .sh _, .sh _, .sh _]) rfl ?_
        wtm_at "s.app"
        refine sd_nil ⟨.sh (.int (i : Int)), .sh (.int (cellI ns (6 + 2 * (i : Int)))), .sh (encR (ruleAt ns m i (ruleAll ns m i))), ?_⟩
        have e : ruleAll ns m (i + 1) = ruleAll ns m i ++ [ruleAt ns m i (ruleAll ns m i)] := rfl
        rw [e, List.map_append]
        rfl
    case d =>
      intro ρ' hi
      obtain ⟨s3, s4, s5, rfl⟩ := hi
      have hlen := ruleAll_len ns m ((cellI ns 0).fmod 13).toNat
      wtm_at "s.if"
      · intro hk
        simp only [Rs.d, deq_int] at hk
        have hz1 : ((ruleAll ns m ((cellI ns 0).fmod 13).toNat).map encR).length + (chainL.map encR).length ≤ sizeLine := by
          rw [List.length_map, hlen, List.length_map, sizeLine_eq]
          have : chainL.length = 15 := rfl
          omega
        refine sd_cons (s_own (ds := (ruleAll ns m ((cellI ns 0).fmod 13).toNat ++ chainL).map encR) ?e ?q hN ?i1 ?i2)
        case i1 => wtm_at "m.dec"
        case i2 => wtm_at "m.dec"
        case e =>
          rw [List.map_append]
          refine ed_cat (x := .ow _) (y := .fr (chainL.map encR)) ?ca ?cb rfl rfl hz1
          case ca => wtm_at "m.ed"
          case cb =>
            refine ED.cast (r := ?r2) ?h2 ?q2
            case h2 => wtm_at "m.ed"
            case q2 => rfl
        case q =>
          refine sd_nil ?_
          refine sd_cons (s_retO rfl (by rfl) ?_)
          show (Sum.inl _ : Ot) = Sum.inl _
          unfold rulesBy
          rw [if_pos (of_decide_eq_true hk)]
      · intro hk
        simp only [Rs.d, deq_int] at hk
        refine sd_nil ?_
        refine sd_cons (s_retO rfl (by rfl) ?_)
        show (Sum.inl _ : Ot) = Sum.inl _
        unfold rulesBy
        rw [if_neg (of_decide_eq_false hk)]
end
end Mb
set_option Elab.async false
set_option linter.all false
set_option maxRecDepth 100000
set_option maxHeartbeats 4000000
namespace Mb
open PySem PySem.Spec PyProof.Rows L2
local macro_rules | `(tactic| wtm_at "m.dec") => `(tactic| (dsimp only [Gx.blk]; decide +kernel))
local macro_rules | `(tactic| wtm_at "m.hint") => `(tactic| fail)
local macro_rules | `(tactic| wtm_at "m.side") => `(tactic| first | assumption | decide | omega | exact Or.inr (And.intro (by omega) (by omega)) | exact Or.inl (And.intro (by omega) (by omega)) | exact And.intro (by omega) (by omega) | (simp only [List.length_cons, List.length_nil, List.length_map, List.length_range, List.length_append, sizeLine_eq]; omega) | wtm_at "m.hint")
local macro_rules | `(tactic| wtm_at "m.dn") => `(tactic| first
  | exact Dn.int _ _ | exact Dn.bl _ _ | exact Dn.non _
  | (refine dn_lst (n := _) ?_; wtm_at "m.dm") | (refine dn_tup (n := _) ?_; wtm_at "m.dm"))
local macro_rules | `(tactic| wtm_at "m.dm") => `(tactic| first
  | exact dm_nil | (refine dm_map ?_; intro _; wtm_at "m.dn") | (refine dm_cons ?a ?b; (case a => wtm_at "m.dn"); (case b => wtm_at "m.dm")) | (refine dm_app ?a ?b; (case a => wtm_at "m.dm"); (case b => wtm_at "m.dm")))
local macro_rules | `(tactic| wtm_at "m.tosh") => `(tactic| first | exact ToSh.sh _ | exact ToSh.fr _)
local macro_rules | `(tactic| wtm_at "m.eds") => `(tactic| (refine' ED.toSh ?h ?t ?q; (case h => wtm_at "m.ed"); (case t => wtm_at "m.tosh"); (case q => exact rfl)))
local macro_rules | `(tactic| wtm_at "m.ad") => `(tactic| first
  | exact ad_nil
  | (refine' ad_cons' ?h ?t ?r; (case h => wtm_at "m.ed"); (case t => wtm_at "m.tosh"); (case r => wtm_at "m.ad")))
local macro_rules | `(tactic| wtm_at "m.ic") => `(tactic| first
  | (refine' ic_range (by assumption) ?a ?b ?c ?g; (case a => wtm_at "m.ed"); (case g => rfl); (case b => wtm_at "m.side"); (case c => wtm_at "m.side"))
  | (refine' ic_list ?h ?q; (case h => wtm_at "m.ed"); (case q => exact rfl)))
local macro_rules | `(tactic| wtm_at "m.if") => `(tactic| first
  | (refine' if_range (by assumption) ?a ?b ?c ?g; (case a => wtm_at "m.ed"); (case g => rfl); (case b => wtm_at "m.side"); (case c => wtm_at "m.side"))
  | (refine' if_range2 (by assumption) ?a ?a2 ?b ?g; (case a => wtm_at "m.ed"); (case a2 => wtm_at "m.ed"); (case g => rfl); (case b => wtm_at "m.side"))
  | (refine' if_list ?h; (case h => wtm_at "m.ed"))
  | (refine' if_fr ?h; (case h => wtm_at "m.ed"))
  | (refine' if_tup ?h; (case h => wtm_at "m.ed")))
local macro_rules | `(tactic| wtm_at "m.ld") => `(tactic| first
  | (refine' ld_lc0 ?n ?i ?j ?o ?l ?e; (case n => assumption); (case i => wtm_at "m.ic"); (case j => wtm_at "m.dec"); (case o => wtm_at "m.dec"); (case l => wtm_at "m.dec"); (case e => intro _ hx; (try have hx := List.mem_range.mp hx); wtm_at "m.eds"))
  | (refine' ld_lc1 ?n ?i ?j ?o ?l ?t ?e; (case n => assumption); (case i => wtm_at "m.ic"); (case j => wtm_at "m.dec"); (case o => wtm_at "m.dec"); (case l => wtm_at "m.dec"); (case t => (intro _ hx; (try have hx := List.mem_range.mp hx); refine' TD.cast ?h ?q; (case h => wtm_at "m.td"); (case q => exact rfl))); (case e => intro _ hx _; (try have hx := List.mem_range.mp hx); wtm_at "m.eds"))
  | (refine' ld_lcp0 ?n ?i ?j ?j2 ?o ?l ?l2 ?e; (case n => assumption); (case i => wtm_at "m.ic"); (case j => wtm_at "m.dec"); (case j2 => wtm_at "m.dec"); (case o => wtm_at "m.dec"); (case l => wtm_at "m.dec"); (case l2 => wtm_at "m.dec"); (case e => intro _ _; wtm_at "m.eds"))
  | (refine' ld_lcp1 ?n ?i ?j ?j2 ?o ?l ?l2 ?t ?e; (case n => assumption); (case i => wtm_at "m.ic"); (case j => wtm_at "m.dec"); (case j2 => wtm_at "m.dec"); (case o => wtm_at "m.dec"); (case l => wtm_at "m.dec"); (case l2 => wtm_at "m.dec"); (case t => (intro _ hx; (try have hx := List.mem_range.mp hx); refine' TD.cast ?h ?q; (case h => wtm_at "m.td"); (case q => exact rfl))); (case e => intro _ hx _; (try have hx := List.mem_range.mp hx); wtm_at "m.eds")))
local macro_rules | `(tactic| wtm_at "m.addr") => `(tactic| first | exact AddR.int _ _ | (refine' AddR.cat ?x ?y ?z; (case x => exact rfl); (case y => exact rfl); (case z => wtm_at "m.side")))
local macro_rules | `(tactic| wtm_at "m.at") => `(tactic| first
  | exact rfl
  | assumption
  | (refine atI_get (d := (0 : Int)) ?a ?b; (case a => wtm_at "m.side"); (case b => wtm_at "m.side"))
  | (refine atI_ints (d := default) ?a ?b; (case a => wtm_at "m.side"); (case b => wtm_at "m.side"))
  | (refine atI_lit ?a ?b ?c; (case a => wtm_at "m.side"); (case b => wtm_at "m.side"); (case c => rfl)))
local macro_rules | `(tactic| wtm_at "m.ixd") => `(tactic| first
  | (refine' IxD.tup ?h; (case h => wtm_at "m.at"))
  | (refine' IxD.scr ?h; (case h => wtm_at "m.at"))
  | (refine' IxD.list ?x ?h; (case x => exact rfl); (case h => wtm_at "m.at")))
local macro_rules | `(tactic| wtm_at "m.cp") => `(tactic| first
  | (refine' cp_lt ?a ?b; (case a => wtm_at "m.ed"); (case b => wtm_at "m.ed"))
  | (refine' cp_le ?a ?b; (case a => wtm_at "m.ed"); (case b => wtm_at "m.ed"))
  | (refine' cp_gt ?a ?b; (case a => wtm_at "m.ed"); (case b => wtm_at "m.ed"))
  | (refine' cp_ge ?a ?b; (case a => wtm_at "m.ed"); (case b => wtm_at "m.ed"))
  | (refine' cp_eq ?a ?b ?c ?d; (case a => wtm_at "m.ed"); (case b => wtm_at "m.ed"); (case c => wtm_at "m.dn"); (case d => wtm_at "m.dn"))
  | (refine' cp_ne ?a ?b ?c ?d; (case a => wtm_at "m.ed"); (case b => wtm_at "m.ed"); (case c => wtm_at "m.dn"); (case d => wtm_at "m.dn"))
  | (refine' cp_in ?a ?b ?e ?c ?d ?m; (case a => wtm_at "m.ed"); (case b => wtm_at "m.ed"); (case e => exact rfl); (case c => wtm_at "m.dn"); (case d => wtm_at "m.dm"); (case m => rfl))
  | (refine' cp_nin ?a ?b ?e ?c ?d ?m; (case a => wtm_at "m.ed"); (case b => wtm_at "m.ed"); (case e => exact rfl); (case c => wtm_at "m.dn"); (case d => wtm_at "m.dm"); (case m => rfl))
  | (refine' cp_isN ?a; (case a => wtm_at "m.ed"))
  | (refine' cp_notN ?a; (case a => wtm_at "m.ed"))
  | (refine' ch_le_lt ?a ?b ?c; (case a => wtm_at "m.ed"); (case b => wtm_at "m.ed"); (case c => wtm_at "m.ed"))
  | (refine' ch_le_le ?a ?b ?c; (case a => wtm_at "m.ed"); (case b => wtm_at "m.ed"); (case c => wtm_at "m.ed")))
local macro_rules | `(tactic| wtm_at "m.tw") => `(tactic| first
  | (refine' tw_and ?a ?b; (case a => wtm_at "m.td"); (case b => intro _; wtm_at "m.tw"))
  | (refine' tw_or ?a ?b; (case a => wtm_at "m.td"); (case b => intro _; wtm_at "m.tw"))
  | (refine' tw_and1 ?a; (case a => wtm_at "m.td"))
  | (refine' tw_or1 ?a; (case a => wtm_at "m.td")))
local macro_rules | `(tactic| wtm_at "m.td") => `(tactic| first
  | (refine' And.right (a := ?p) ?h; (case h => wtm_at "m.cp"))
  | (refine' td_not ?h; (case h => wtm_at "m.td"))
  | (refine' td_bool ?h; (case h => wtm_at "m.tw"))
  | (refine' td_val ?h; (case h => wtm_at "m.ed")))
local macro_rules | `(tactic| wtm_at "m.bo") => `(tactic| first
  | (refine' ed_and ?a ?b; (case a => wtm_at "m.ed"); (case b => intro _; wtm_at "m.bo"))
  | (refine' ed_or ?a ?b; (case a => wtm_at "m.ed"); (case b => intro _; wtm_at "m.bo"))
  | (refine' ed_one ?a; (case a => wtm_at "m.ed")))
local macro_rules | `(tactic| wtm_at "m.pre") => `(tactic| first
  | exact ⟨_, rfl, rfl⟩ | exact ⟨_, _, rfl, rfl⟩ | exact ⟨_, _, _, rfl, rfl⟩ | exact ⟨_, _, _, _, rfl, rfl⟩ | exact ⟨_, _, _, _, _, rfl, rfl⟩
  | (refine ⟨_, rfl, ?_, rfl⟩; wtm_at "m.side") | (refine ⟨_, _, rfl, ?_, rfl⟩; wtm_at "m.side") | (refine ⟨_, _, _, rfl, ?_, rfl⟩; wtm_at "m.side") | (refine ⟨_, _, _, _, rfl, ?_, rfl⟩; wtm_at "m.side"))
local macro_rules | `(tactic| wtm_at "m.call") => `(tactic| first
  | wtm_at "m.direct"
  | (refine' ed_thaw ?h ?d; (case h => wtm_at "m.direct"); (case d => rfl)))
local macro_rules | `(tactic| wtm_at "m.direct") => `(tactic| first
  | (refine' ed_call ?T ?k ?g ?a ?A; (case T => assumption); (case k => (dsimp only [Gx.blk]; decide)); (case g => rfl); (case a => wtm_at "m.ad"); (case A => wtm_at "m.pre"))
  | (refine' ed_many (by assumption) ?a ?b; (case a => wtm_at "m.ed"); (case b => exact rfl))
  | (refine' ed_rows (by assumption) ?a; (case a => wtm_at "m.ed"))
  | (refine' ed_meth (by assumption) ?T ?k ?o ?d ?a ?A; (case T => assumption); (case k => (dsimp only [Gx.blk]; decide)); (case o => wtm_at "m.ed"); (case d => exact rfl); (case a => wtm_at "m.ad"); (case A => wtm_at "m.pre")))
local macro_rules | `(tactic| wtm_at "m.ed") => `(tactic| first
  | (refine' ed_var ?h ?v; (case h => exact rfl); (case v => rfl))
  | exact ed_int
  | (refine' ed_ixR ?a ?b ?c; (case a => wtm_at "m.ed"); (case b => wtm_at "m.ed"); (case c => wtm_at "m.ixd"))
  | (refine' And.left (b := ?p) ?h; (case h => wtm_at "m.cp"))
  | (refine' ed_addR ?a ?b ?c; (case a => wtm_at "m.ed"); (case b => wtm_at "m.ed"); (case c => wtm_at "m.addr"))
  | (refine' ed_sub ?a ?b; (case a => wtm_at "m.ed"); (case b => wtm_at "m.ed"))
  | (refine' ed_mul ?a ?b ?c; (case a => wtm_at "m.ed"); (case b => wtm_at "m.ed"); (case c => wtm_at "m.side"))
  | (refine' ed_fdiv ?a ?b ?c; (case a => wtm_at "m.ed"); (case b => wtm_at "m.ed"); (case c => wtm_at "m.side"))
  | (refine' ed_mod ?a ?b ?c; (case a => wtm_at "m.ed"); (case b => wtm_at "m.ed"); (case c => wtm_at "m.side"))
  | (refine' ed_pow ?a ?b ?c; (case a => wtm_at "m.ed"); (case b => wtm_at "m.ed"); (case c => wtm_at "m.side"))
  | (refine' ed_neg ?a; (case a => wtm_at "m.ed"))
  | (refine' LD.ed ?a; (case a => wtm_at "m.ld"))
  | (refine' ed_len (by assumption) ?a ?b ?g; (case a => wtm_at "m.ed"); (case b => exact rfl); (case g => rfl))
  | (refine' ed_listRange (by assumption) ?a ?b ?c ?g ?g2; (case a => wtm_at "m.ed"); (case b => wtm_at "m.side"); (case c => wtm_at "m.side"); (case g => rfl); (case g2 => rfl))
  | (refine' ed_list (by assumption) ?a ?b ?g; (case a => wtm_at "m.ed"); (case b => exact rfl); (case g => rfl))
  | (refine' ed_all (by assumption) ?a ?b ?g; (case a => wtm_at "m.ed"); (case b => exact rfl); (case g => rfl))
  | (refine' ed_any (by assumption) ?a ?b ?g; (case a => wtm_at "m.ed"); (case b => exact rfl); (case g => rfl))
  | (refine' ed_sum (by assumption) ?a ?b ?g; (case a => wtm_at "m.ed"); (case b => exact rfl); (case g => rfl))
  | (refine' ed_sorted (by assumption) ?a ?b ?g; (case a => wtm_at "m.ed"); (case b => exact rfl); (case g => rfl))
  | (refine' ed_intB (by assumption) ?a ?g; (case a => wtm_at "m.ed"); (case g => rfl))
  | (refine' ed_max (by assumption) ?a ?b ?g; (case a => wtm_at "m.ed"); (case b => wtm_at "m.ed"); (case g => rfl))
  | (refine' ed_min (by assumption) ?a ?b ?g; (case a => wtm_at "m.ed"); (case b => wtm_at "m.ed"); (case g => rfl))
  | (refine' ed_isi (k := true) (by assumption) ?a ?b ?t ?k ?g; (case a => wtm_at "m.ed"); (case b => wtm_at "m.ed"); (case t => exact rfl); (case k => decide +kernel); (case g => rfl))
  | (refine' ed_isi (k := false) (by assumption) ?a ?b ?t ?k ?g; (case a => wtm_at "m.ed"); (case b => wtm_at "m.ed"); (case t => exact rfl); (case k => decide +kernel); (case g => rfl))
  | (refine' ed_tup ?a ?b; (case a => wtm_at "m.ad"); (case b => wtm_at "m.side"))
  | (refine' ed_lst ?a ?b; (case a => wtm_at "m.ad"); (case b => wtm_at "m.side"))
  | (refine' ed_not ?a; (case a => wtm_at "m.ed"))
  | wtm_at "m.bo"
  | wtm_at "m.call"
  | (refine' ed_own ?h ?v; (case h => exact rfl); (case v => rfl))
  | exact ed_bl
  | exact ed_non
  | (refine' ed_tyInt (by assumption) ?g; (case g => rfl))
  | (refine' ed_tyList (by assumption) ?g; (case g => rfl))
  | (refine' ed_tyTuple (by assumption) ?g; (case g => rfl))
  | (refine' ed_tyBool (by assumption) ?g; (case g => rfl)))
local macro_rules | `(tactic| wtm_at "s.set") => `(tactic| (refine' sd_cons (s_set ?e ?q ?n ?i ?o); (case n => assumption); (case i => wtm_at "m.dec"); (case o => wtm_at "m.dec"); (case e => wtm_at "m.eds")))
local macro_rules | `(tactic| wtm_at "s.own") => `(tactic| (refine' sd_cons (s_own ?e ?q ?n ?i ?o); (case n => assumption); (case i => wtm_at "m.dec"); (case o => wtm_at "m.dec"); (case e => wtm_at "m.ed")))
local macro_rules | `(tactic| wtm_at "s.lc") => `(tactic| (refine' sd_cons (s_lc ?e ?q ?i ?k ?y ?l ?a); (case i => wtm_at "m.dec"); (case k => rfl); (case y => rfl); (case l => rfl); (case a => decide +kernel); (case e => wtm_at "m.ld")))
local macro_rules | `(tactic| wtm_at "s.lco") => `(tactic| (refine' sd_cons (s_lcO ?e ?q ?i ?k ?y ?l ?a); (case i => wtm_at "m.dec"); (case k => rfl); (case y => rfl); (case l => rfl); (case a => decide +kernel); (case e => wtm_at "m.ld")))
local macro_rules | `(tactic| wtm_at "s.lcc") => `(tactic| (refine' sd_cons (s_set ?e ?q ?n ?i ?o (swapF ?s)); (case n => assumption); (case i => wtm_at "m.dec"); (case o => wtm_at "m.dec"); (case s => rfl); (case e => (refine' ED.shr (LD.ed ?f); (case f => wtm_at "m.ld")))))
local macro_rules | `(tactic| wtm_at "s.ret") => `(tactic| (refine' sd_cons (s_ret ?e ?q); (case e => wtm_at "m.ed")))
local macro_rules | `(tactic| wtm_at "s.if") => `(tactic| (refine' sd_cons (s_if ?t ?y ?n); (case t => wtm_at "m.td")))
local macro_rules | `(tactic| wtm_at "s.ift") => `(tactic| (refine' sd_cons (s_if (td_thaw ?t) ?y ?n); (case t => wtm_at "m.td")))
local macro_rules | `(tactic| wtm_at "s.app") => `(tactic| (refine' sd_cons (s_app ?e ?h ?v ?z ?q); (case h => exact rfl); (case v => rfl); (case e => wtm_at "m.eds"); (case z => wtm_at "m.side")))
local macro_rules | `(tactic| wtm_at "s.ifset") => `(tactic| (refine' sd_cons (s_ifset ?c ?e ?h1 ?h2 ?h0 ?q ?n ?i ?o); (case n => assumption); (case i => wtm_at "m.dec"); (case o => wtm_at "m.dec"); (case h0 => exact rfl); (case c => wtm_at "m.td"); (case e => intro _; wtm_at "m.eds")))
section
variable {U : Wd} (T : Bl U.mg) {f : Addr} {fd : FuncData} {x q : Str}
include T
theorem ok_lacks (F : Fun U.K x q s_law_lacks f fd) : FnOk U.P U.w U.K U.mg U.base (L2.CX U.P U.w) 1 f fd ["_law_one", "_law_other"] (spX U A_lacks) := by
  have hN := sc_law_lacks.nd
  refine fn_ok F sc_law_lacks (fun ds o h => ?_) fun ds o h => ?_
  · obtain ⟨a, b, rfl, _⟩ := h
    rfl
  · obtain ⟨a, b, rfl, rfl⟩ := h
    refine sd_at (ρ' := [.sh _, .sh _, .no]) rfl ?_
    wtm_at "s.ret"
    show (Sum.inl _ : Ot) = Sum.inl _
    simp only [Rs.d, any_int]
    rfl
variable (hL : FnT U "_law_lacks" 1 A_lacks)
include hL in
theorem ok_putTo (F : Fun U.K x q s_law_put_to f fd) : FnOk U.P U.w U.K U.mg U.base (L2.CX U.P U.w) 2 f fd ["_law_rules", "_law_marks"] (spX U A_putTo) := by
  have hN := sc_law_put_to.nd
  refine fn_ok F sc_law_put_to (fun ds o h => ?_) fun ds o h => ?_
  · obtain ⟨a, b, rfl, _⟩ := h
    rfl
  · obtain ⟨rs, ms, rfl, ⟨hs, hz⟩, rfl⟩ := h
    have hs2 : ∀ r ∈ rs, r ∈ rs ∧ r.2.length ≤ 4 := fun r hr => ⟨hr, (hs r hr).2⟩
    refine sd_at (ρ' := [.sh _, .sh _, .no, .no, .no]) rfl ?_
    wtm_at "s.set"
    refine sd_at (ρ' := [.sh _, .sh _, .sh _, .no, .no]) rfl ?_
    wtm_at "s.set"
    refine sd_at (ρ' := [.sh _, .sh _, .sh _, .sh _, .no]) rfl ?_
    refine sd_cons (s_while (fun m ρ => ∃ (f : List Int) (sz : Int) (sl : Sl), ρ = [.sh (.rules rs), .sh (.ints ms), .sh (.ints f), .sh (.int sz), sl] ∧ f.length + 4 * miss rs f ≤ ms.length + 4 * miss rs ms ∧ putN rs (miss rs f) f = putL rs ms ∧ (sz = -1 ∨ (sz = (f.length : Int) → putPass rs f = f)) ∧ sz ≤ (f.length : Int) ∧
      m = 2 * miss rs f + (if sz < (f.length : Int) then 1 else 0)) (m0 := _) ⟨ms, -1, _, rfl, Nat.le_refl _, rfl, .inl rfl, by omega, rfl⟩ fun m ρ' hw => ?_)
    obtain ⟨f, sz, sl, rfl, h1, h2, h3, h4, hm⟩ := hw
    refine ⟨decide (sz < (f.length : Int)), ?_, fun hk => ?_, fun hk => ?_⟩
    · refine TD.cast (b := ?k) ?h ?q
      case h => wtm_at "m.td"
      case q => simp only [List.length_map]
    · have hk := of_decide_eq_true hk
      wtm_at "s.set"
      refine sd_at (ρ' := [.sh (.rules rs), .sh (.ints ms), .sh _, .sh _, sl]) rfl ?_
      refine' sd_cons (s_forL (xs := rs) (enc := encR) ?i (fun i ρ => ∃ sl, ρ = [.sh (.rules rs), .sh (.ints ms), .sh (.ints ((rs.take i).foldl putStep f)), .sh (.int (f.length : Int)), sl]) ⟨sl, ?z⟩ ?s ?d hN ?i1 ?i2)
      case i1 => wtm_at "m.dec"
      case i2 => wtm_at "m.dec"
      case i => wtm_at "m.if"
      case z =>
        simp only [List.length_map]
        rfl
      case s =>
        intro i r ρ' hr hi
        obtain ⟨sl, rfl⟩ := hi
        have hmem : r ∈ rs := List.mem_of_getElem? hr
        obtain ⟨_, _, hc, _⟩ := put_run (rs := rs) (l := rs.take i) (f := f) fun x hx => hs2 x (List.mem_of_mem_take hx)
        have tk : (rs.take (i + 1)).foldl putStep f = putStep ((rs.take i).foldl putStep f) r := by
          rw [List.take_add_one, hr, List.foldl_append]
          rfl
        rw [tk]
        generalize (rs.take i).foldl putStep f = g at *
        have hr2 := (hs r hmem).2
        have hg : g.length ≤ 1000000 := by omega
        refine sd_at (ρ' := [.sh (.rules rs), .sh (.ints ms), .sh _, .sh _, .sh (encR r)]) rfl ?_
        refine' sd_cons (s_ifset (d' := .ints (putStep g r)) ?c ?e ?h1 ?h2 ?h0 ?q hN ?j1 ?j2)
        case j1 => wtm_at "m.dec"
        case j2 => wtm_at "m.dec"
        case h0 => exact rfl
        case c => wtm_at "m.td"
        case e =>
          intro hk
          have hz1 : (g.map D.int).length + ((lacksL r.2 g).map D.int).length ≤ sizeLine := by
            rw [List.length_map, List.length_map, sizeLine_eq]
            have := List.length_filter_le (fun x => !decide (x ∈ g)) r.2
            unfold lacksL
            omega
          wtm_at "m.eds"
        case h1 =>
          intro hk
          simp only [Rs.d, deq_lnil, List.map_eq_nil_iff, lacks_within] at hk
          unfold putStep
          rw [if_pos hk]
          show _ = D.lst ((g ++ lacksL r.2 g).map D.int)
          rw [List.map_append]
        case h2 =>
          intro hk
          simp only [Rs.d, deq_lnil, List.map_eq_nil_iff, lacks_within] at hk
          unfold putStep
          rw [if_neg (by rw [hk]; exact Bool.false_ne_true)]
        case q =>
          exact sd_nil ⟨.sh (encR r), rfl⟩
      case d =>
        intro ρ' hi
        obtain ⟨sl, rfl⟩ := hi
        refine sd_nil ?_
        rw [List.take_length]
        obtain ⟨a, b, c, d, e⟩ := put_run (rs := rs) (l := rs) (f := f) hs2
        show ∃ m', m' < m ∧ _
        refine ⟨_, ?_, putPass rs f, _, sl, rfl, Nat.le_trans c h1, ?_, .inr fun h => ?_, by unfold putPass; omega, rfl⟩
        · rw [hm, if_pos hk]
          unfold putPass
          by_cases k : f.length < (rs.foldl putStep f).length
          · have := e k
            rw [if_pos (by omega)]
            omega
          · rw [(d (by omega)).1, if_neg (by omega)]
            omega
        · rw [← h2]
          by_cases k : f.length < (rs.foldl putStep f).length
          · have k2 := e k
            cases hmf : miss rs f with
            | zero => omega
            | succ n =>
              show _ = putN rs n (putPass rs f)
              exact putN_more hs _ _ (Nat.le_refl _) (by unfold putPass; omega)
          · have k2 := (d (by omega)).1
            have k3 : putPass rs f = f := k2
            rw [k3]
        · have k2 := (d (by unfold putPass at h; omega)).1
          have k3 : putPass rs f = f := k2
          rw [k3]
          exact k2
    · have hk := of_decide_eq_false hk
      have e : putPass rs f = f := h3.elim (fun h => by omega) fun h => h (by omega)
      have e2 : f = putL rs ms := by
        rw [← h2, putN_stay e]
      rw [← e2]
      wtm_at "s.ret"
      rfl
end
end Mb
set_option Elab.async false
set_option linter.all false
set_option maxRecDepth 100000
set_option maxHeartbeats 4000000
namespace Mb
open PySem PySem.Spec PyProof.Rows L2
local macro_rules | `(tactic| wtm_at "m.dec") => `(tactic| (dsimp only [Gx.blk]; decide +kernel))
local macro_rules | `(tactic| wtm_at "m.hint") => `(tactic| fail)
local macro_rules | `(tactic| wtm_at "m.side") => `(tactic| first | assumption | decide | omega | exact Or.inr (And.intro (by omega) (by omega)) | exact Or.inl (And.intro (by omega) (by omega)) | exact And.intro (by omega) (by omega) | (simp only [List.length_cons, List.length_nil, List.length_map, List.length_range, List.length_append, sizeLine_eq]; omega) | wtm_at "m.hint")
local macro_rules | `(tactic| wtm_at "m.dn") => `(tactic| first
  | exact Dn.int _ _ | exact Dn.bl _ _ | exact Dn.non _
  | (refine dn_lst (n := _) ?_; wtm_at "m.dm") | (refine dn_tup (n := _) ?_; wtm_at "m.dm"))
local macro_rules | `(tactic| wtm_at "m.dm") => `(tactic| first
  | exact dm_nil | (refine dm_map ?_; intro _; wtm_at "m.dn") | (refine dm_cons ?a ?b; (case a => wtm_at "m.dn"); (case b => wtm_at "m.dm")) | (refine dm_app ?a ?b; (case a => wtm_at "m.dm"); (case b => wtm_at "m.dm")))
local macro_rules | `(tactic| wtm_at "m.tosh") => `(tactic| first | exact ToSh.sh _ | exact ToSh.fr _)
local macro_rules | `(tactic| wtm_at "m.eds") => `(tactic| (refine' ED.toSh ?h ?t ?q; (case h => wtm_at "m.ed"); (case t => wtm_at "m.tosh"); (case q => exact rfl)))
local macro_rules | `(tactic| wtm_at "m.ad") => `(tactic| first
  | exact ad_nil
  | (refine' ad_cons' ?h ?t ?r; (case h => wtm_at "m.ed"); (case t => wtm_at "m.tosh"); (case r => wtm_at "m.ad")))
local macro_rules | `(tactic| wtm_at "m.ic") => `(tactic| first
  | (refine' ic_range (by assumption) ?a ?b ?c ?g; (case a => wtm_at "m.ed"); (case g => rfl); (case b => wtm_at "m.side"); (case c => wtm_at "m.side"))
  | (refine' ic_list ?h ?q; (case h => wtm_at "m.ed"); (case q => exact rfl)))
local macro_rules | `(tactic| wtm_at "m.if") => `(tactic| first
  | (refine' if_range (by assumption) ?a ?b ?c ?g; (case a => wtm_at "m.ed"); (case g => rfl); (case b => wtm_at "m.side"); (case c => wtm_at "m.side"))
  | (refine' if_range2 (by assumption) ?a ?a2 ?b ?g; (case a => wtm_at "m.ed"); (case a2 => wtm_at "m.ed"); (case g => rfl); (case b => wtm_at "m.side"))
  | (refine' if_list ?h; (case h => wtm_at "m.ed"))
  | (refine' if_fr ?h; (case h => wtm_at "m.ed"))
  | (refine' if_tup ?h; (case h => wtm_at "m.ed")))
local macro_rules | `(tactic| wtm_at "m.ld") => `(tactic| first
  | (refine' ld_lc0 ?n ?i ?j ?o ?l ?e; (case n => assumption); (case i => wtm_at "m.ic"); (case j => wtm_at "m.dec"); (case o => wtm_at "m.dec"); (case l => wtm_at "m.dec"); (case e => intro _ hx; (try have hx := List.mem_range.mp hx); wtm_at "m.eds"))
  | (refine' ld_lc1 ?n ?i ?j ?o ?l ?t ?e; (case n => assumption); (case i => wtm_at "m.ic"); (case j => wtm_at "m.dec"); (case o => wtm_at "m.dec"); (case l => wtm_at "m.dec"); (case t => (intro _ hx; (try have hx := List.mem_range.mp hx); refine' TD.cast ?h ?q; (case h => wtm_at "m.td"); (case q => exact rfl))); (case e => intro _ hx _; (try have hx := List.mem_range.mp hx); wtm_at "m.eds"))
  | (refine' ld_lcp0 ?n ?i ?j ?j2 ?o ?l ?l2 ?e; (case n => assumption); (case i => wtm_at "m.ic"); (case j => wtm_at "m.dec"); (case j2 => wtm_at "m.dec"); (case o => wtm_at "m.dec"); (case l => wtm_at "m.dec"); (case l2 => wtm_at "m.dec"); (case e => intro _ _; wtm_at "m.eds"))
  | (refine' ld_lcp1 ?n ?i ?j ?j2 ?o ?l ?l2 ?t ?e; (case n => assumption); (case i => wtm_at "m.ic"); (case j => wtm_at "m.dec"); (case j2 => wtm_at "m.dec"); (case o => wtm_at "m.dec"); (case l => wtm_at "m.dec"); (case l2 => wtm_at "m.dec"); (case t => (intro _ hx; (try have hx := List.mem_range.mp hx); refine' TD.cast ?h ?q; (case h => wtm_at "m.td"); (case q => exact rfl))); (case e => intro _ hx _; (try have hx := List.mem_range.mp hx); wtm_at "m.eds")))
local macro_rules | `(tactic| wtm_at "m.addr") => `(tactic| first | exact AddR.int _ _ | (refine' AddR.cat ?x ?y ?z; (case x => exact rfl); (case y => exact rfl); (case z => wtm_at "m.side")))
local macro_rules | `(tactic| wtm_at "m.at") => `(tactic| first
  | exact rfl
  | assumption
  | (refine atI_get (d := (0 : Int)) ?a ?b; (case a => wtm_at "m.side"); (case b => wtm_at "m.side"))
  | (refine atI_ints (d := default) ?a ?b; (case a => wtm_at "m.side"); (case b => wtm_at "m.side"))
  | (refine atI_lit ?a ?b ?c; (case a => wtm_at "m.side"); (case b => wtm_at "m.side"); (case c => rfl)))
local macro_rules | `(tactic| wtm_at "m.ixd") => `(tactic| first
  | (refine' IxD.tup ?h; (case h => wtm_at "m.at"))
  | (refine' IxD.scr ?h; (case h => wtm_at "m.at"))
  | (refine' IxD.list ?x ?h; (case x => exact rfl); (case h => wtm_at "m.at")))
local macro_rules | `(tactic| wtm_at "m.cp") => `(tactic| first
  | (refine' cp_lt ?a ?b; (case a => wtm_at "m.ed"); (case b => wtm_at "m.ed"))
  | (refine' cp_le ?a ?b; (case a => wtm_at "m.ed"); (case b => wtm_at "m.ed"))
  | (refine' cp_gt ?a ?b; (case a => wtm_at "m.ed"); (case b => wtm_at "m.ed"))
  | (refine' cp_ge ?a ?b; (case a => wtm_at "m.ed"); (case b => wtm_at "m.ed"))
  | (refine' cp_eq ?a ?b ?c ?d; (case a => wtm_at "m.ed"); (case b => wtm_at "m.ed"); (case c => wtm_at "m.dn"); (case d => wtm_at "m.dn"))
  | (refine' cp_ne ?a ?b ?c ?d; (case a => wtm_at "m.ed"); (case b => wtm_at "m.ed"); (case c => wtm_at "m.dn"); (case d => wtm_at "m.dn"))
  | (refine' cp_in ?a ?b ?e ?c ?d ?m; (case a => wtm_at "m.ed"); (case b => wtm_at "m.ed"); (case e => exact rfl); (case c => wtm_at "m.dn"); (case d => wtm_at "m.dm"); (case m => rfl))
  | (refine' cp_nin ?a ?b ?e ?c ?d ?m; (case a => wtm_at "m.ed"); (case b => wtm_at "m.ed"); (case e => exact rfl); (case c => wtm_at "m.dn"); (case d => wtm_at "m.dm"); (case m => rfl))
  | (refine' cp_isN ?a; (case a => wtm_at "m.ed"))
  | (refine' cp_notN ?a; (case a => wtm_at "m.ed"))
  | (refine' ch_le_lt ?a ?b ?c; (case a => wtm_at "m.ed"); (case b => wtm_at "m.ed"); (case c => wtm_at "m.ed"))
  | (refine' ch_le_le ?a ?b ?c; (case a => wtm_at "m.ed"); (case b => wtm_at "m.ed"); (case c => wtm_at "m.ed")))
local macro_rules | `(tactic| wtm_at "m.tw") => `(tactic| first
  | (refine' tw_and ?a ?b; (case a => wtm_at "m.td"); (case b => intro _; wtm_at "m.tw"))
  | (refine' tw_or ?a ?b; (case a => wtm_at "m.td"); (case b => intro _; wtm_at "m.tw"))
  | (refine' tw_and1 ?a; (case a => wtm_at "m.td"))
  | (refine' tw_or1 ?a; (case a => wtm_at "m.td")))
local macro_rules | `(tactic| wtm_at "m.td") => `(tactic| first
  | (refine' And.right (a := ?p) ?h; (case h => wtm_at "m.cp"))
  | (refine' td_not ?h; (case h => wtm_at "m.td"))
  | (refine' td_bool ?h; (case h => wtm_at "m.tw"))
  | (refine' td_val ?h; (case h => wtm_at "m.ed")))
local macro_rules | `(tactic| wtm_at "m.bo") => `(tactic| first
  | (refine' ed_and ?a ?b; (case a => wtm_at "m.ed"); (case b => intro _; wtm_at "m.bo"))
  | (refine' ed_or ?a ?b; (case a => wtm_at "m.ed"); (case b => intro _; wtm_at "m.bo"))
  | (refine' ed_one ?a; (case a => wtm_at "m.ed")))
local macro_rules | `(tactic| wtm_at "m.pre") => `(tactic| first
  | exact ⟨_, rfl, rfl⟩ | exact ⟨_, _, rfl, rfl⟩ | exact ⟨_, _, _, rfl, rfl⟩ | exact ⟨_, _, _, _, rfl, rfl⟩ | exact ⟨_, _, _, _, _, rfl, rfl⟩
  | (refine ⟨_, rfl, ?_, rfl⟩; wtm_at "m.side") | (refine ⟨_, _, rfl, ?_, rfl⟩; wtm_at "m.side") | (refine ⟨_, _, _, rfl, ?_, rfl⟩; wtm_at "m.side") | (refine ⟨_, _, _, _, rfl, ?_, rfl⟩; wtm_at "m.side"))
local macro_rules | `(tactic| wtm_at "m.call") => `(tactic| first
  | wtm_at "m.direct"
  | (refine' ed_thaw ?h ?d; (case h => wtm_at "m.direct"); (case d => rfl)))
local macro_rules | `(tactic| wtm_at "m.direct") => `(tactic| first
  | (refine' ed_call ?T ?k ?g ?a ?A; (case T => assumption); (case k => (dsimp only [Gx.blk]; decide)); (case g => rfl); (case a => wtm_at "m.ad"); (case A => wtm_at "m.pre"))
  | (refine' ed_many (by assumption) ?a ?b; (case a => wtm_at "m.ed"); (case b => exact rfl))
  | (refine' ed_rows (by assumption) ?a; (case a => wtm_at "m.ed"))
  | (refine' ed_meth (by assumption) ?T ?k ?o ?d ?a ?A; (case T => assumption); (case k => (dsimp only [Gx.blk]; decide)); (case o => wtm_at "m.ed"); (case d => exact rfl); (case a => wtm_at "m.ad"); (case A => wtm_at "m.pre")))
local macro_rules | `(tactic| wtm_at "m.ed") => `(tactic| first
  | (refine' ed_var ?h ?v; (case h => exact rfl); (case v => rfl))
  | exact ed_int
  | (refine' ed_ixR ?a ?b ?c; (case a => wtm_at "m.ed"); (case b => wtm_at "m.ed"); (case c => wtm_at "m.ixd"))
  | (refine' And.left (b := ?p) ?h; (case h => wtm_at "m.cp"))
  | (refine' ed_addR ?a ?b ?c; (case a => wtm_at "m.ed"); (case b => wtm_at "m.ed"); (case c => wtm_at "m.addr"))
  | (refine' ed_sub ?a ?b; (case a => wtm_at "m.ed"); (case b => wtm_at "m.ed"))
  | (refine' ed_mul ?a ?b ?c; (case a => wtm_at "m.ed"); (case b => wtm_at "m.ed"); (case c => wtm_at "m.side"))
  | (refine' ed_fdiv ?a ?b ?c; (case a => wtm_at "m.ed"); (case b => wtm_at "m.ed"); (case c => wtm_at "m.side"))
  | (refine' ed_mod ?a ?b ?c; (case a => wtm_at "m.ed"); (case b => wtm_at "m.ed"); (case c => wtm_at "m.side"))
  | (refine' ed_pow ?a ?b ?c; (case a => wtm_at "m.ed"); (case b => wtm_at "m.ed"); (case c => wtm_at "m.side"))
  | (refine' ed_neg ?a; (case a => wtm_at "m.ed"))
  | (refine' LD.ed ?a; (case a => wtm_at "m.ld"))
  | (refine' ed_len (by assumption) ?a ?b ?g; (case a => wtm_at "m.ed"); (case b => exact rfl); (case g => rfl))
  | (refine' ed_listRange (by assumption) ?a ?b ?c ?g ?g2; (case a => wtm_at "m.ed"); (case b => wtm_at "m.side"); (case c => wtm_at "m.side"); (case g => rfl); (case g2 => rfl))
  | (refine' ed_list (by assumption) ?a ?b ?g; (case a => wtm_at "m.ed"); (case b => exact rfl); (case g => rfl))
  | (refine' ed_all (by assumption) ?a ?b ?g; (case a => wtm_at "m.ed"); (case b => exact rfl); (case g => rfl))
  | (refine' ed_any (by assumption) ?a ?b ?g; (case a => wtm_at "m.ed"); (case b => exact rfl); (case g => rfl))
  | (refine' ed_sum (by assumption) ?a ?b ?g; (case a => wtm_at "m.ed"); (case b => exact rfl); (case g => rfl))
  | (refine' ed_sorted (by assumption) ?a ?b ?g; (case a => wtm_at "m.ed"); (case b => exact rfl); (case g => rfl))
  | (refine' ed_intB (by assumption) ?a ?g; (case a => wtm_at "m.ed"); (case g => rfl))
  | (refine' ed_max (by assumption) ?a ?b ?g; (case a => wtm_at "m.ed"); (case b => wtm_at "m.ed"); (case g => rfl))
  | (refine' ed_min (by assumption) ?a ?b ?g; (case a => wtm_at "m.ed"); (case b => wtm_at "m.ed"); (case g => rfl))
  | (refine' ed_isi (k := true) (by assumption) ?a ?b ?t ?k ?g; (case a => wtm_at "m.ed"); (case b => wtm_at "m.ed"); (case t => exact rfl); (case k => decide +kernel); (case g => rfl))
  | (refine' ed_isi (k := false) (by assumption) ?a ?b ?t ?k ?g; (case a => wtm_at "m.ed"); (case b => wtm_at "m.ed"); (case t => exact rfl); (case k => decide +kernel); (case g => rfl))
  | (refine' ed_tup ?a ?b; (case a => wtm_at "m.ad"); (case b => wtm_at "m.side"))
  | (refine' ed_lst ?a ?b; (case a => wtm_at "m.ad"); (case b => wtm_at "m.side"))
  | (refine' ed_not ?a; (case a => wtm_at "m.ed"))
  | wtm_at "m.bo"
  | wtm_at "m.call"
  | (refine' ed_own ?h ?v; (case h => exact rfl); (case v => rfl))
  | exact ed_bl
  | exact ed_non
  | (refine' ed_tyInt (by assumption) ?g; (case g => rfl))
  | (refine' ed_tyList (by assumption) ?g; (case g => rfl))
  | (refine' ed_tyTuple (by assumption) ?g; (case g => rfl))
  | (refine' ed_tyBool (by assumption) ?g; (case g => rfl)))
local macro_rules | `(tactic| wtm_at "s.set") => `(tactic| (refine' sd_cons (s_set ?e ?q ?n ?i ?o); (case n => assumption); (case i => wtm_at "m.dec"); (case o => wtm_at "m.dec"); (case e => wtm_at "m.eds")))
local macro_rules | `(tactic| wtm_at "s.own") => `(tactic| (refine' sd_cons (s_own ?e ?q ?n ?i ?o); (case n => assumption); (case i => wtm_at "m.dec"); (case o => wtm_at "m.dec"); (case e => wtm_at "m.ed")))
local macro_rules | `(tactic| wtm_at "s.lc") => `(tactic| (refine' sd_cons (s_lc ?e ?q ?i ?k ?y ?l ?a); (case i => wtm_at "m.dec"); (case k => rfl); (case y => rfl); (case l => rfl); (case a => decide +kernel); (case e => wtm_at "m.ld")))
local macro_rules | `(tactic| wtm_at "s.lco") => `(tactic| (refine' sd_cons (s_lcO ?e ?q ?i ?k ?y ?l ?a); (case i => wtm_at "m.dec"); (case k => rfl); (case y => rfl); (case l => rfl); (case a => decide +kernel); (case e => wtm_at "m.ld")))
local macro_rules | `(tactic| wtm_at "s.lcc") => `(tactic| (refine' sd_cons (s_set ?e ?q ?n ?i ?o (swapF ?s)); (case n => assumption); (case i => wtm_at "m.dec"); (case o => wtm_at "m.dec"); (case s => rfl); (case e => (refine' ED.shr (LD.ed ?f); (case f => wtm_at "m.ld")))))
local macro_rules | `(tactic| wtm_at "s.ret") => `(tactic| (refine' sd_cons (s_ret ?e ?q); (case e => wtm_at "m.ed")))
local macro_rules | `(tactic| wtm_at "s.if") => `(tactic| (refine' sd_cons (s_if ?t ?y ?n); (case t => wtm_at "m.td")))
local macro_rules | `(tactic| wtm_at "s.ift") => `(tactic| (refine' sd_cons (s_if (td_thaw ?t) ?y ?n); (case t => wtm_at "m.td")))
local macro_rules | `(tactic| wtm_at "s.app") => `(tactic| (refine' sd_cons (s_app ?e ?h ?v ?z ?q); (case h => exact rfl); (case v => rfl); (case e => wtm_at "m.eds"); (case z => wtm_at "m.side")))
local macro_rules | `(tactic| wtm_at "s.ifset") => `(tactic| (refine' sd_cons (s_ifset ?c ?e ?h1 ?h2 ?h0 ?q ?n ?i ?o); (case n => assumption); (case i => wtm_at "m.dec"); (case o => wtm_at "m.dec"); (case h0 => exact rfl); (case c => wtm_at "m.td"); (case e => intro _; wtm_at "m.eds")))
abbrev A_law : List D → Ot → Prop := fun ds o => ∃ ns : List Int, ds = [.scr ns] ∧ ns.length ≤ 63 ∧ o = .inl (.sh (.bl true))
section
variable {U : Wd} (T : Bl U.mg) {f : Addr} {fd : FuncData} {x q : Str}
include T
variable (hC : FnT U "_law_cell_at" 1 A_cell) (hS : FnT U "_law_some" 1 A_some) (hR : FnT U "_law_rules_by" 2 A_rules) (hL : FnT U "_law_lacks" 1 A_lacks) (hP : FnT U "_law_put_to" 2 A_putTo) (hG : FnT U "grown" 3 A_grown) (hWh : FnT U "_law_whole" 1 A_whole)
include hC hS hR hL hP hG hWh
theorem ok_law (F : Fun U.K x q s_law f fd) : FnOk U.P U.w U.K U.mg U.base (L2.CX U.P U.w) 4 f fd ["_law_script"] (spX U A_law) := by
  have hN := sc_law.nd
  refine fn_ok F sc_law (fun ds o h => ?_) fun ds o h => ?_
  · obtain ⟨ns, rfl, _⟩ := h
    rfl
  · obtain ⟨ns, rfl, hn, rfl⟩ := h
    refine sd_at (ρ' := [.sh _, .no, .no, .no, .no, .no, .no, .no, .no, .no, .no]) rfl ?_
    wtm_at "s.set"
    refine sd_at (ρ' := [.sh _, .sh (.int 8), .no, .no, .no, .no, .no, .no, .no, .no, .no]) rfl ?_
    obtain ⟨m, hm, hm0⟩ : ∃ m : Int, m = (if ((cellI ns 1).fdiv 3).fmod 4 = 1 then 100 else 8) ∧ 0 < m := by
      refine ⟨_, rfl, ?_⟩
      split <;> decide
    refine' sd_cons (s_ifset (d' := .int m) ?c ?e ?h1 ?h2 ?h0 ?q hN ?j1 ?j2)
    case j1 => wtm_at "m.dec"
    case j2 => wtm_at "m.dec"
    case h0 => exact rfl
    case c => wtm_at "m.td"
    case e => intro _; wtm_at "m.eds"
    case h1 =>
      intro hk
      simp only [Rs.d, deq_int] at hk
      rw [hm, if_pos (of_decide_eq_true hk)]
    case h2 =>
      intro hk
      simp only [Rs.d, deq_int] at hk
      rw [hm, if_neg (of_decide_eq_false hk)]
    case q =>
    refine sd_at (ρ' := [.sh _, .sh (.int m), .no, .no, .no, .no, .no, .no, .no, .no, .no]) rfl ?_
    wtm_at "s.set"
    obtain ⟨rs, hrs⟩ : ∃ rs, rs = rulesBy ns m := ⟨_, rfl⟩
    obtain ⟨hr1, hr2⟩ := rulesBy_small ns m
    refine sd_at (ρ' := [.sh _, .sh (.int m), .sh (.rules (rulesBy ns m)), .no, .no, .no, .no, .no, .no, .no, .no]) rfl ?_
    rw [← hrs] at hr1 hr2 ⊢
    wtm_at "s.set"
    have hl0 := some_len (cell := cellI ns 2) (most := 8) (many := m) (by omega)
    obtain ⟨m0, hm0'⟩ : ∃ m0, m0 = someL (cellI ns 2) 8 m := ⟨_, rfl⟩
    rw [← hm0'] at hl0
    refine sd_at (ρ' := [.sh _, .sh (.int m), .sh (.rules rs), .sh (.ints (someL (cellI ns 2) 8 m)), .no, .no, .no, .no, .no, .no, .no]) rfl ?_
    rw [← hm0']
    obtain ⟨ms, hms, hml⟩ : ∃ ms : List Int, ms = (if ((cellI ns 1).fdiv 96).fmod 4 = 1 then m0 ++ [10 ^ (20 : Int).toNat + (cellI ns 2).fmod 7] else m0) ∧ ms.length ≤ 9 := by
      refine ⟨_, rfl, ?_⟩
      split
      · rw [List.length_append, List.length_singleton]
        omega
      · omega
    have hz1 : (m0.map D.int).length + ([10 ^ (20 : Int).toNat + (cellI ns 2).fmod 7].map D.int).length ≤ sizeLine := by
      rw [List.length_map, List.length_map, sizeLine_eq, List.length_singleton]
      omega
    refine' sd_cons (s_ifset (d' := .ints ms) ?c2 ?e2 ?h3 ?h4 ?h5 ?q2 hN ?j3 ?j4)
    case j3 => wtm_at "m.dec"
    case j4 => wtm_at "m.dec"
    case h5 => exact rfl
    case c2 => wtm_at "m.td"
    case e2 => intro _; wtm_at "m.eds"
    case h3 =>
      intro hk
      simp only [Rs.d, deq_int] at hk
      rw [hms, if_pos (of_decide_eq_true hk), D.ints, List.map_append]
      rfl
    case h4 =>
      intro hk
      simp only [Rs.d, deq_int] at hk
      rw [hms, if_neg (of_decide_eq_false hk)]
    case q2 =>
    refine sd_at (ρ' := [.sh _, .sh (.int m), .sh (.rules rs), .sh (.ints ms), .no, .no, .no, .no, .no, .no, .no]) rfl ?_
    -- handed, kept
    wtm_at "s.lc"
    refine sd_at (ρ' := [.sh _, .sh (.int m), .sh (.rules rs), .sh (.ints ms), .sh (.rules rs), .no, .no, .no, .no, .no, .no]) rfl ?_
    wtm_at "s.set"
    refine sd_at (ρ' := [.sh _, .sh (.int m), .sh (.rules rs), .sh (.ints ms), .sh (.rules rs), .no, .sh (.ints ms), .no, .no, .no, .no]) rfl ?_
    have hu := small_univ (ms := ms) hr2
    have hu2 : (univ rs ms).length + (univ rs ms).length ≤ 1000000 := by omega
    have gr := grown_is rs ms
    obtain ⟨g, hg⟩ : ∃ g, g = grownL rs ms := ⟨_, rfl⟩
    have way : Way rs ms (grownL rs ms) := Way.all _ Way.start
    have hgl := way.len
    wtm_at "s.own"
    refine sd_at (ρ' := [.sh _, .sh (.int m), .sh (.rules rs), .sh (.ints ms), .sh (.rules rs), .no, .sh (.ints ms), .own ((grownL rs ms).map D.int), .no, .no, .no]) rfl ?_
    rw [← hg] at gr hgl ⊢
    -- what it is
    wtm_at "s.if"
    · intro hk
      simp [Rs.d, deq_rules, deq_ints] at hk
    intro hk
    refine sd_nil ?_
    -- rising, whole numbers
    have hgz : (((g.map D.int).length : Nat) : Int) < 2 ^ 62 := by
      rw [List.length_map]
      omega
    have hgy : -(2 ^ 62) ≤ (((g.map D.int).length : Nat) : Int) := by omega
    refine' sd_cons (s_forR ?i (fun i ρ => ∃ s, ρ = [.sh (.scr ns), .sh (.int m), .sh (.rules rs), .sh (.ints ms), .sh (.rules rs), .no, .sh (.ints ms), .own (g.map D.int), s, .no, .no]) ⟨.no, rfl⟩ ?s ?d hN ?i1 ?i2)
    case i1 => wtm_at "m.dec"
    case i2 => wtm_at "m.dec"
    case i =>
      refine' if_range T ?ia hgz hgy ?ig
      case ig => rfl
      case ia => wtm_at "m.ed"
    case s =>
      intro i ρ' hi hs
      obtain ⟨s, rfl⟩ := hs
      have hi : i < g.length := by
        simp only [List.length_map, Int.toNat_natCast] at hi
        exact hi
      have hat : atI (g.map D.int) ((i : Nat) : Int) = some (.int (g.getD i 0)) := atI_ints (d := 0) (by omega) (by omega)
      refine sd_at (ρ' := [.sh (.scr ns), .sh (.int m), .sh (.rules rs), .sh (.ints ms), .sh (.rules rs), .no, .sh (.ints ms), .own (g.map D.int), .sh (.int ((i : Nat) : Int)), .no, .no]) rfl ?_
      refine sd_cons (s_if (k := false) (TD.cast (b := ?kk) ?t ?q) (fun h => nomatch h) fun _ => sd_nil (sd_nil ⟨.sh (.int (i : Int)), rfl⟩))
      case t =>
        refine' td_bool ?w
        case w =>
        refine' tw_or ?a ?w2
        case a => wtm_at "m.td"
        case w2 =>
        intro _
        refine' tw_or1 ?w3
        case w3 =>
        refine' td_bool ?w4
        case w4 =>
        refine' tw_and ?b ?w5
        case b => wtm_at "m.td"
        case w5 =>
        intro hk
        refine' tw_and1 ?c
        case c =>
        have hk := of_decide_eq_true hk
        have hat2 : atI (g.map D.int) (((i : Nat) : Int) - 1) = some (.int (g.getD (i - 1) 0)) := by
          have e : ((i : Nat) : Int) - 1 = ((i - 1 : Nat) : Int) := by omega
          rw [e]
          exact atI_ints (d := 0) (by omega) (by omega)
        wtm_at "m.td"
      case q =>
        by_cases h0 : 0 < i
        · have h1 : g.getD (i - 1) 0 < g.getD i 0 := by
            rw [List.getD_eq_getElem?_getD, List.getD_eq_getElem?_getD, List.getElem?_eq_getElem hi, List.getElem?_eq_getElem (show i - 1 < g.length by omega)]
            exact List.pairwise_iff_getElem.mp gr.rise _ _ _ _ (by omega)
          generalize g.getD (i - 1) 0 = u at h1 ⊢
          generalize g.getD i 0 = v at h1 ⊢
          rw [decide_eq_false (show ¬ v ≤ u by omega), Bool.and_false]
          rfl
        · rw [decide_eq_false (show ¬ (0 : Int) < ((i : Nat) : Int) by omega), Bool.false_and]
          rfl
    case d =>
      clear hgz hgy
      intro ρ' hs
      obtain ⟨s, rfl⟩ := hs
      have hu3 : (univ rs g).length + (univ rs g).length ≤ 1000000 := by
        have := small_univ (ms := g) hr2
        omega
      have hgg : grownL rs g = g := (grown_is rs g).one ⟨gr.rise, fun _ h => h, gr.meets, fun t h _ => h⟩
      -- has the marks, stays
      wtm_at "s.ift"
      · intro hk
        simp only [Rs.d, deq_lnil, deq_ints, List.map_eq_nil_iff, hgg] at hk
        rw [decide_eq_true (lacks_nil.mpr gr.has)] at hk
        simp at hk
      intro hk
      refine sd_nil ?_
      -- each rule
      refine' sd_cons (s_forL (xs := rs) (enc := encR) ?i (fun i ρ => ∃ s r, ρ = [.sh (.scr ns), .sh (.int m), .sh (.rules rs), .sh (.ints ms), .sh (.rules rs), r, .sh (.ints ms), .own (g.map D.int), s, .no, .no]) ⟨s, .no, rfl⟩ ?s ?d hN ?i1 ?i2)
      case i1 => wtm_at "m.dec"
      case i2 => wtm_at "m.dec"
      case i => wtm_at "m.if"
      case s =>
        intro i r ρ' hr hs
        obtain ⟨s, r0, rfl⟩ := hs
        have hmem : r ∈ rs := List.mem_of_getElem? hr
        have hmet := metB_iff.mp (gr.meets r hmem)
        refine sd_at (ρ' := [.sh (.scr ns), .sh (.int m), .sh (.rules rs), .sh (.ints ms), .sh (.rules rs), .sh (encR r), .sh (.ints ms), .own (g.map D.int), s, .no, .no]) rfl ?_
        wtm_at "s.ift"
        · intro hk
          simp only [Rs.d, deq_lnil, List.map_eq_nil_iff, Bool.and_eq_true, decide_eq_true_eq, Bool.not_eq_true', decide_eq_false_iff_not, lacks_nil] at hk
          exact absurd (hmet hk.1) hk.2
        intro hk
        exact sd_nil (sd_nil ⟨s, .sh (encR r), rfl⟩)
      case d =>
        intro ρ' hs
        obtain ⟨s, r0, rfl⟩ := hs
        have hl1 := some_len (cell := cellI ns 3) (most := 8) (many := m) (by omega)
        have hz3 : (ms.map D.int).length + ((someL (cellI ns 3) 8 m).map D.int).length ≤ sizeLine := by
          rw [List.length_map, List.length_map, sizeLine_eq]
          omega
        have hfl := small_flat hr2
        have hml1 := miss_le rs (ms ++ someL (cellI ns 3) 8 m)
        have hml2 := miss_le rs ms
        have hpre : (∀ r ∈ rs, Small r) ∧ (ms ++ someL (cellI ns 3) 8 m).length + 4 * miss rs (ms ++ someL (cellI ns 3) 8 m) ≤ 1000000 := ⟨hr2, by rw [List.length_append]; omega⟩
        have hpre2 : (∀ r ∈ rs, Small r) ∧ ms.length + 4 * miss rs ms ≤ 1000000 := ⟨hr2, by omega⟩
        obtain ⟨p1, p2⟩ := putL_is hr2 (ms ++ someL (cellI ns 3) 8 m)
        obtain ⟨p3, p4⟩ := putL_is hr2 ms
        refine' sd_cons (s_set (d := .ints (putL rs (ms ++ someL (cellI ns 3) 8 m))) ?e ?q hN ?i1 ?i2)
        case i1 => wtm_at "m.dec"
        case i2 => wtm_at "m.dec"
        case e =>
          refine' ed_call (A := A_putTo) (ds := [.rules rs, .ints (ms ++ someL (cellI ns 3) 8 m)]) hP ?k ?g ?a ?A
          case k => dsimp only [Gx.blk]; decide
          case g => rfl
          case A => exact ⟨rs, _, rfl, hpre, rfl⟩
          case a =>
            have e : D.ints (ms ++ someL (cellI ns 3) 8 m) = .lst (ms.map D.int ++ (someL (cellI ns 3) 8 m).map D.int) := by
              rw [← List.map_append]
            rw [e]
            wtm_at "m.ad"
        case q =>
        refine sd_at (ρ' := [.sh (.scr ns), .sh (.int m), .sh (.rules rs), .sh (.ints ms), .sh (.rules rs), r0, .sh (.ints ms), .own (g.map D.int), s, .sh (.ints (putL rs (ms ++ someL (cellI ns 3) 8 m))), .no]) rfl ?_
        wtm_at "s.ift"
        · intro hk
          simp only [Rs.d, deq_lnil, List.map_eq_nil_iff] at hk
          rw [decide_eq_true (lacks_nil.mpr (gr.least _ (fun x h => p1 x (List.mem_append_left _ h)) p2)), decide_eq_true (lacks_nil.mpr (gr.least _ p3 p4))] at hk
          cases hk
        intro hk
        refine sd_nil ?_
        refine' sd_cons (s_set (d := .ints g) ?e1 ?q1 hN ?i3 ?i4)
        case i3 => wtm_at "m.dec"
        case i4 => wtm_at "m.dec"
        case e1 => wtm_at "m.eds"
        case q1 =>
        refine sd_at (ρ' := [.sh (.scr ns), .sh (.int m), .sh (.rules rs), .sh (.ints ms), .sh (.rules rs), r0, .sh (.ints ms), .own (g.map D.int), s, .sh (.ints (putL rs (ms ++ someL (cellI ns 3) 8 m))), .sh (.ints g)]) rfl ?_
        have hgs : (g.map D.int).length < sizeLine := by
          rw [List.length_map, sizeLine_eq]
          omega
        wtm_at "s.app"
        refine sd_at (ρ' := [.sh (.scr ns), .sh (.int m), .sh (.rules rs), .sh (.ints ms), .sh (.rules rs), r0, .sh (.ints ms), .own _, s, .sh (.ints (putL rs (ms ++ someL (cellI ns 3) 8 m))), .sh (.ints g)]) rfl ?_
        wtm_at "s.ret"
        show (Sum.inl _ : Ot) = Sum.inl _
        simp only [Rs.d, deq_rules, deq_ints, ← hg]
        simp
end
end Mb
set_option Elab.async false
set_option linter.all false
set_option maxRecDepth 100000
set_option maxHeartbeats 4000000
namespace Mb
open PySem PySem.Spec PyProof.Rows L2
def spL (K : PySem.W.Frag) : Sp := fun vs H Q _ => ∃ (a : Addr) (ns : List Int), vs = [.ref a] ∧ SqL K H a (ns.map V.int) ∧ ns.length ≤ 63 ∧ ∀ H', Q (.bl true) H'
theorem law_sp {U : Wd} {vs : List V} {H : Hp} {Q : VK} {E : XK} (h : spL U.K vs H Q E) : spX U A_law vs H Q E := by
  obtain ⟨a, ns, rfl, hS, hl, q⟩ := h
  refine ⟨[.scr ns], .inl (.sh (.bl true)), H, ⟨ns, rfl, hl, rfl⟩, Ex.refl H, .cons (.scr hS) .nil, fun r e v S' H' g rep => ?_, fun c e => nomatch e⟩
  cases e
  cases rep
  exact q _
theorem noCX {P : Program} {w : World} {outer : List Env} {H : Hp} {s : Shared} {e : Value} {s' : Shared} (h : L2.CX P w outer H s (fun _ _ _ => False) e s') : False := by
  obtain ⟨_, _, _, _, _, _, _, _, _, _, _, _, hE⟩ := h
  exact hE
open PySem PySem.Spec PyProof.Rows L2
theorem all_mk {l : PySem.W.OpenLaw} {w : World} {K : PySem.W.Frag} {h : Heap} {mg : Str → Option Value} {fa f1 f2 f3 f4 f5 f6 f7 f8 f9 f10 f11 : Addr} (X : K.In h) (G : h.Ns mainGlobals mg) (hfa : mg "law" = some (.ref fa))
    {od1 an1 od2 an2 od3 an3 od4 an4 od5 an5 od6 an6 od7 an7 od8 an8 od9 an9 od10 an10 od11 an11 : Option Addr} {sl1 sl2 sl3 sl4 sl5 sl6 sl7 sl8 sl9 sl10 sl11 : Array (Option Value)} {oc1 kV1 dc1 pm1 cd1 ct1 oc2 kV2 dc2 pm2 cd2 ct2 oc3 kV3 dc3 pm3 cd3 ct3 oc4 kV4 dc4 pm4 cd4 ct4 oc5 kV5 dc5 pm5 cd5 ct5 oc6 kV6 dc6 pm6 cd6 ct6 oc7 kV7 dc7 pm7 cd7 ct7 oc8 kV8 dc8 pm8 cd8 ct8 oc9 kV9 dc9 pm9 cd9 ct9 oc10 kV10 dc10 pm10 cd10 ct10 oc11 kV11 dc11 pm11 cd11 ct11 : Value}
    (a1 : PySem.W.nsIn K mainGlobals "within" = some (some (.ref f1))) (l1 : K.lookup f1 = some ⟨oc1, od1, .func (PySem.W.fnOf "within" "within" (defArgs s_within) (defBody s_within) (defScope s_within) .none kV1 dc1 pm1 an1 cd1 ct1), sl1⟩) (c1 : PySem.W.codeIn K cd1 "within" = true) (k1 : PySem.W.keepIn K (.ref f1) = true)
    (a2 : PySem.W.nsIn K mainGlobals "plain" = some (some (.ref f2))) (l2 : K.lookup f2 = some ⟨oc2, od2, .func (PySem.W.fnOf "plain" "plain" (defArgs s_plain) (defBody s_plain) (defScope s_plain) .none kV2 dc2 pm2 an2 cd2 ct2), sl2⟩) (c2 : PySem.W.codeIn K cd2 "plain" = true) (k2 : PySem.W.keepIn K (.ref f2) = true)
    (a3 : PySem.W.nsIn K mainGlobals "met" = some (some (.ref f3))) (l3 : K.lookup f3 = some ⟨oc3, od3, .func (PySem.W.fnOf "met" "met" (defArgs s_met) (defBody s_met) (defScope s_met) .none kV3 dc3 pm3 an3 cd3 ct3), sl3⟩) (c3 : PySem.W.codeIn K cd3 "met" = true) (k3 : PySem.W.keepIn K (.ref f3) = true)
    (a4 : PySem.W.nsIn K mainGlobals "grown" = some (some (.ref f4))) (l4 : K.lookup f4 = some ⟨oc4, od4, .func (PySem.W.fnOf "grown" "grown" (defArgs s_grown) (defBody s_grown) (defScope s_grown) .none kV4 dc4 pm4 an4 cd4 ct4), sl4⟩) (c4 : PySem.W.codeIn K cd4 "grown" = true) (k4 : PySem.W.keepIn K (.ref f4) = true)
    (a5 : PySem.W.nsIn K mainGlobals "_law_whole" = some (some (.ref f5))) (l5 : K.lookup f5 = some ⟨oc5, od5, .func (PySem.W.fnOf "_law_whole" "_law_whole" (defArgs s_law_whole) (defBody s_law_whole) (defScope s_law_whole) .none kV5 dc5 pm5 an5 cd5 ct5), sl5⟩) (c5 : PySem.W.codeIn K cd5 "_law_whole" = true) (k5 : PySem.W.keepIn K (.ref f5) = true)
    (a6 : PySem.W.nsIn K mainGlobals "_law_cell_at" = some (some (.ref f6))) (l6 : K.lookup f6 = some ⟨oc6, od6, .func (PySem.W.fnOf "_law_cell_at" "_law_cell_at" (defArgs s_law_cell_at) (defBody s_law_cell_at) (defScope s_law_cell_at) .none kV6 dc6 pm6 an6 cd6 ct6), sl6⟩) (c6 : PySem.W.codeIn K cd6 "_law_cell_at" = true) (k6 : PySem.W.keepIn K (.ref f6) = true)
    (a7 : PySem.W.nsIn K mainGlobals "_law_some" = some (some (.ref f7))) (l7 : K.lookup f7 = some ⟨oc7, od7, .func (PySem.W.fnOf "_law_some" "_law_some" (defArgs s_law_some) (defBody s_law_some) (defScope s_law_some) .none kV7 dc7 pm7 an7 cd7 ct7), sl7⟩) (c7 : PySem.W.codeIn K cd7 "_law_some" = true) (k7 : PySem.W.keepIn K (.ref f7) = true)
    (a8 : PySem.W.nsIn K mainGlobals "_law_rules_by" = some (some (.ref f8))) (l8 : K.lookup f8 = some ⟨oc8, od8, .func (PySem.W.fnOf "_law_rules_by" "_law_rules_by" (defArgs s_law_rules_by) (defBody s_law_rules_by) (defScope s_law_rules_by) .none kV8 dc8 pm8 an8 cd8 ct8), sl8⟩) (c8 : PySem.W.codeIn K cd8 "_law_rules_by" = true) (k8 : PySem.W.keepIn K (.ref f8) = true)
    (a9 : PySem.W.nsIn K mainGlobals "_law_lacks" = some (some (.ref f9))) (l9 : K.lookup f9 = some ⟨oc9, od9, .func (PySem.W.fnOf "_law_lacks" "_law_lacks" (defArgs s_law_lacks) (defBody s_law_lacks) (defScope s_law_lacks) .none kV9 dc9 pm9 an9 cd9 ct9), sl9⟩) (c9 : PySem.W.codeIn K cd9 "_law_lacks" = true) (k9 : PySem.W.keepIn K (.ref f9) = true)
    (a10 : PySem.W.nsIn K mainGlobals "_law_put_to" = some (some (.ref f10))) (l10 : K.lookup f10 = some ⟨oc10, od10, .func (PySem.W.fnOf "_law_put_to" "_law_put_to" (defArgs s_law_put_to) (defBody s_law_put_to) (defScope s_law_put_to) .none kV10 dc10 pm10 an10 cd10 ct10), sl10⟩) (c10 : PySem.W.codeIn K cd10 "_law_put_to" = true) (k10 : PySem.W.keepIn K (.ref f10) = true)
    (a11 : PySem.W.nsIn K mainGlobals "law" = some (some (.ref f11))) (l11 : K.lookup f11 = some ⟨oc11, od11, .func (PySem.W.fnOf "law" "law" (defArgs s_law) (defBody s_law) (defScope s_law) .none kV11 dc11 pm11 an11 cd11 ct11), sl11⟩) (c11 : PySem.W.codeIn K cd11 "law" = true) (k11 : PySem.W.keepIn K (.ref f11) = true)
    (z1 : PySem.W.nsIn K mainGlobals "len" = some none) (z2 : PySem.W.nsIn K mainGlobals "list" = some none) (z3 : PySem.W.nsIn K mainGlobals "all" = some none) (z4 : PySem.W.nsIn K mainGlobals "any" = some none) (z5 : PySem.W.nsIn K mainGlobals "sorted" = some none) (z6 : PySem.W.nsIn K mainGlobals "sum" = some none) (z7 : PySem.W.nsIn K mainGlobals "max" = some none) (z8 : PySem.W.nsIn K mainGlobals "min" = some none) (z9 : PySem.W.nsIn K mainGlobals "int" = some none) (z10 : PySem.W.nsIn K mainGlobals "bool" = some none) (z11 : PySem.W.nsIn K mainGlobals "tuple" = some none) (z12 : PySem.W.nsIn K mainGlobals "isinstance" = some none) (z13 : PySem.W.nsIn K mainGlobals "range" = some none) (z14 : PySem.W.nsIn K mainGlobals "reversed" = some none)
    : ∃ fd : FuncData, (∀ (s : Shared) (v : Value), BindsTo s fd ⟨[v], []⟩ [("_law_script", v)]) ∧ ∀ base : Heap, K.In base → base.Ns mainGlobals mg → FnOk l.prog w K mg base (L2.CX l.prog w) 4 fa fd ["_law_script"] (spL K) := by
  have e := hfa.symm.trans (PySem.W.mg_of X G a11)
  cases e
  have F1 := fun_mk (st := s_within) l1 c1 k1
  have b1 := F1.binds (ps := ["one", "other"]) fun _ _ _ _ _ _ us hl => match us, hl with | [_, _], _ => rfl
  have F2 := fun_mk (st := s_plain) l2 c2 k2
  have b2 := F2.binds (ps := ["numbers"]) fun _ _ _ _ _ _ us hl => match us, hl with | [_], _ => rfl
  have F3 := fun_mk (st := s_met) l3 c3 k3
  have b3 := F3.binds (ps := ["rule", "marks"]) fun _ _ _ _ _ _ us hl => match us, hl with | [_, _], _ => rfl
  have F4 := fun_mk (st := s_grown) l4 c4 k4
  have b4 := F4.binds (ps := ["rules", "marks"]) fun _ _ _ _ _ _ us hl => match us, hl with | [_, _], _ => rfl
  have F5 := fun_mk (st := s_law_whole) l5 c5 k5
  have b5 := F5.binds (ps := ["_law_found"]) fun _ _ _ _ _ _ us hl => match us, hl with | [_], _ => rfl
  have F6 := fun_mk (st := s_law_cell_at) l6 c6 k6
  have b6 := F6.binds (ps := ["_law_script", "_law_k"]) fun _ _ _ _ _ _ us hl => match us, hl with | [_, _], _ => rfl
  have F7 := fun_mk (st := s_law_some) l7 c7 k7
  have b7 := F7.binds (ps := ["_law_cell", "_law_most", "_law_many"]) fun _ _ _ _ _ _ us hl => match us, hl with | [_, _, _], _ => rfl
  have F8 := fun_mk (st := s_law_rules_by) l8 c8 k8
  have b8 := F8.binds (ps := ["_law_script", "_law_many"]) fun _ _ _ _ _ _ us hl => match us, hl with | [_, _], _ => rfl
  have F9 := fun_mk (st := s_law_lacks) l9 c9 k9
  have b9 := F9.binds (ps := ["_law_one", "_law_other"]) fun _ _ _ _ _ _ us hl => match us, hl with | [_, _], _ => rfl
  have F10 := fun_mk (st := s_law_put_to) l10 c10 k10
  have b10 := F10.binds (ps := ["_law_rules", "_law_marks"]) fun _ _ _ _ _ _ us hl => match us, hl with | [_, _], _ => rfl
  have F11 := fun_mk (st := s_law) l11 c11 k11
  have T : Bl mg := ⟨PySem.W.mg_none_of X G z1, PySem.W.mg_none_of X G z2, PySem.W.mg_none_of X G z3, PySem.W.mg_none_of X G z4, PySem.W.mg_none_of X G z5, PySem.W.mg_none_of X G z6, PySem.W.mg_none_of X G z7, PySem.W.mg_none_of X G z8, PySem.W.mg_none_of X G z9, PySem.W.mg_none_of X G z10, PySem.W.mg_none_of X G z11, PySem.W.mg_none_of X G z12, PySem.W.mg_none_of X G z13, PySem.W.mg_none_of X G z14⟩
  refine ⟨PySem.W.fnOf "law" "law" (defArgs s_law) (defBody s_law) (defScope s_law) .none kV11 dc11 pm11 an11 cd11 ct11, fun s v => .of_eq rfl, fun base _ _ => ?_⟩
  have h1 : FnT ⟨l.prog, w, K, mg, base, 0⟩ "within" 1 A_within := by
    refine ⟨f1, _, ["one", "other"], PySem.W.mg_of X G a1, k1, b1, ?_⟩
    apply ok_within (U := ⟨l.prog, w, K, mg, base, 0⟩) <;> assumption
  have h2 : FnT ⟨l.prog, w, K, mg, base, 0⟩ "plain" 1 A_plain := by
    refine ⟨f2, _, ["numbers"], PySem.W.mg_of X G a2, k2, b2, ?_⟩
    apply ok_plain (U := ⟨l.prog, w, K, mg, base, 0⟩) <;> assumption
  have h3 : FnT ⟨l.prog, w, K, mg, base, 0⟩ "met" 2 A_met := by
    refine ⟨f3, _, ["rule", "marks"], PySem.W.mg_of X G a3, k3, b3, ?_⟩
    apply ok_met (U := ⟨l.prog, w, K, mg, base, 0⟩) <;> assumption
  have h4 : FnT ⟨l.prog, w, K, mg, base, 0⟩ "grown" 3 A_grown := by
    refine ⟨f4, _, ["rules", "marks"], PySem.W.mg_of X G a4, k4, b4, ?_⟩
    apply ok_grown (U := ⟨l.prog, w, K, mg, base, 0⟩) <;> assumption
  have h5 : FnT ⟨l.prog, w, K, mg, base, 0⟩ "_law_whole" 1 A_whole := by
    refine ⟨f5, _, ["_law_found"], PySem.W.mg_of X G a5, k5, b5, ?_⟩
    apply ok_whole (U := ⟨l.prog, w, K, mg, base, 0⟩) <;> assumption
  have h6 : FnT ⟨l.prog, w, K, mg, base, 0⟩ "_law_cell_at" 1 A_cell := by
    refine ⟨f6, _, ["_law_script", "_law_k"], PySem.W.mg_of X G a6, k6, b6, ?_⟩
    apply ok_cell (U := ⟨l.prog, w, K, mg, base, 0⟩) <;> assumption
  have h7 : FnT ⟨l.prog, w, K, mg, base, 0⟩ "_law_some" 1 A_some := by
    refine ⟨f7, _, ["_law_cell", "_law_most", "_law_many"], PySem.W.mg_of X G a7, k7, b7, ?_⟩
    apply ok_some (U := ⟨l.prog, w, K, mg, base, 0⟩) <;> assumption
  have h8 : FnT ⟨l.prog, w, K, mg, base, 0⟩ "_law_rules_by" 2 A_rules := by
    refine ⟨f8, _, ["_law_script", "_law_many"], PySem.W.mg_of X G a8, k8, b8, ?_⟩
    apply ok_rules (U := ⟨l.prog, w, K, mg, base, 0⟩) <;> assumption
  have h9 : FnT ⟨l.prog, w, K, mg, base, 0⟩ "_law_lacks" 1 A_lacks := by
    refine ⟨f9, _, ["_law_one", "_law_other"], PySem.W.mg_of X G a9, k9, b9, ?_⟩
    apply ok_lacks (U := ⟨l.prog, w, K, mg, base, 0⟩) <;> assumption
  have h10 : FnT ⟨l.prog, w, K, mg, base, 0⟩ "_law_put_to" 2 A_putTo := by
    refine ⟨f10, _, ["_law_rules", "_law_marks"], PySem.W.mg_of X G a10, k10, b10, ?_⟩
    apply ok_putTo (U := ⟨l.prog, w, K, mg, base, 0⟩) <;> assumption
  refine FnOk.imp (sp := spX ⟨l.prog, w, K, mg, base, 0⟩ A_law) ?_ fun vs H Q E h => law_sp h
  apply ok_law (U := ⟨l.prog, w, K, mg, base, 0⟩) <;> assumption
end Mb
open PySem PySem.W PyProof.Rows
set_option maxHeartbeats 0 in
theorem PySem.Challenge.cw_markbox_k04_grown_holds : PySem.Challenge.rw_markbox_k04_grown.Holds := by
  w_on; o_law; k_head; (case hw => w_witness2)
  k_fill
  refine L2.walk_of (l := PySem.Challenge.rw_markbox_k04_grown) (n := 63) (k := 4) (x := "_law_script") (CX := fun w => L2.CX PySem.Challenge.rw_markbox_k04_grown.prog w) (sp := fun w => Mb.spL _) rfl (by decide) rfl ⟨rfl, by decide, by decide⟩ (fun w h Y => PySem.W.kIn_of Y) ?F (fun _ _ a ns hl _ hS => ⟨a, ns, rfl, hS, hl, fun _ => rfl⟩) (fun _ _ _ _ _ h => Mb.noCX h)
  case F =>
    intro w mg fa h KX G hmg
    refine' Mb.all_mk KX G hmg ?a1 ?l1 ?c1 ?k1 ?a2 ?l2 ?c2 ?k2 ?a3 ?l3 ?c3 ?k3 ?a4 ?l4 ?c4 ?k4 ?a5 ?l5 ?c5 ?k5 ?a6 ?l6 ?c6 ?k6 ?a7 ?l7 ?c7 ?k7 ?a8 ?l8 ?c8 ?k8 ?a9 ?l9 ?c9 ?k9 ?a10 ?l10 ?c10 ?k10 ?a11 ?l11 ?c11 ?k11 ?z1 ?z2 ?z3 ?z4 ?z5 ?z6 ?z7 ?z8 ?z9 ?z10 ?z11 ?z12 ?z13 ?z14
    (case a1 => k_is)
    (case l1 => k_is)
    (case c1 => k_is)
    (case k1 => k_is)
    (case a2 => k_is)
    (case l2 => k_is)
    (case c2 => k_is)
    (case k2 => k_is)
    (case a3 => k_is)
    (case l3 => k_is)
    (case c3 => k_is)
    (case k3 => k_is)
    (case a4 => k_is)
    (case l4 => k_is)
    (case c4 => k_is)
    (case k4 => k_is)
    (case a5 => k_is)
    (case l5 => k_is)
    (case c5 => k_is)
    (case k5 => k_is)
    (case a6 => k_is)
    (case l6 => k_is)
    (case c6 => k_is)
    (case k6 => k_is)
    (case a7 => k_is)
    (case l7 => k_is)
    (case c7 => k_is)
    (case k7 => k_is)
    (case a8 => k_is)
    (case l8 => k_is)
    (case c8 => k_is)
    (case k8 => k_is)
    (case a9 => k_is)
    (case l9 => k_is)
    (case c9 => k_is)
    (case k9 => k_is)
    (case a10 => k_is)
    (case l10 => k_is)
    (case c10 => k_is)
    (case k10 => k_is)
    (case a11 => k_is)
    (case l11 => k_is)
    (case c11 => k_is)
    (case k11 => k_is)
    (case z1 => k_is)
    (case z2 => k_is)
    (case z3 => k_is)
    (case z4 => k_is)
    (case z5 => k_is)
    (case z6 => k_is)
    (case z7 => k_is)
    (case z8 => k_is)
    (case z9 => k_is)
    (case z10 => k_is)
    (case z11 => k_is)
    (case z12 => k_is)
    (case z13 => k_is)
    (case z14 => k_is)
