import PyProof.Rows.All
import Wide.All
import OpenK.AllK
import Wide.FinOn
import HandS.ForMost
import HandS.ForExc
import HandS.Deep
import HandS.Conv
import HandS.SortInts
import HandS.IsInst
import HandS.TryMany
import HandS.ExcIs
import HandS.SortRule
import KE.SortData
import KE.DataCmp
import HandS.More
import HandS.Rev
import HandS.Remove
import PySem.Challenge.RW_markbox_k05_over_and_under
set_option Elab.async false
set_option linter.all false
set_option maxRecDepth 100000
set_option maxHeartbeats 4000000
namespace Mb
open PySem PySem.Spec PyProof.Rows L2

/-! ### heaps that grow -/
def Ex (H H' : Hp) : Prop := ∀ a o, H a = some o → H' a = some o
theorem Ex.refl (H : Hp) : Ex H H := fun _ _ h => h
theorem Ex.trans {H H1 H2 : Hp} (a : Ex H H1) (b : Ex H1 H2) : Ex H H2 := fun x o h => b x o (a x o h)
theorem Ex.new {H : Hp} {p : Addr} {o : HO} (h : H p = none) : Ex H (upd H p o) := fun a u e => by
  rw [upd_ne (ne_of_none e h)]
  exact e
theorem Ex.mut {H H' : Hp} {p : Addr} {o : HO} (e : Ex H H') (h : H p = none) : Ex H (upd H' p o) := fun a u ha => by
  rw [upd_ne (ne_of_none ha h)]
  exact e a u ha
theorem Ex.back {H H' : Hp} {p : Addr} (e : Ex H H') (h : H' p = none) : H p = none := by
  cases h1 : H p with
  | none => rfl
  | some o =>
    rw [e p o h1] at h
    cases h
theorem Ex.sql {K : PySem.W.Frag} {H H' : Hp} {a : Addr} {xs : List V} (e : Ex H H') (h : SqL K H a xs) : SqL K H' a xs := by
  rcases h with (h | ⟨o, h⟩) | h
  · exact .inl (.inl (e _ _ h))
  · exact .inl (.inr ⟨o, e _ _ h⟩)
  · exact .inr h

/-! ### data -/
inductive D where
  | non | bl (b : Bool) | int (i : Int) | str (x : Str) | ty (n : String) | cls (a : Addr)
  | scr (ns : List Int)
  | lst (xs : List D) | tup (xs : List D)
  /-- a list that stands at a new place -/
  | nls (xs : List D)
  /-- a thing and where it stands -/
  | ad (a : Addr) (d : D)
  | tab (m : Int) (rows : List (List Int))
  /-- a table that is being made: it has its count -/
  | par (a : Addr) (m : Int)
abbrev D.ints (ns : List Int) : D := .lst (ns.map .int)
/-- the world of a row: program, world, written part, names, the table's class -/
structure Wd where
  P : Program
  w : World
  K : PySem.W.Frag
  mg : Str → Option Value
  base : Heap
  C : Addr
  /-- the places that count as new -/
  nw : Addr → Prop
section
variable (U : Wd) (S : Hp)
mutual
inductive Rep : V → D → Prop where
  | non : Rep .non .non
  | bl (b : Bool) : Rep (.bl b) (.bl b)
  | int (i : Int) : Rep (.int i) (.int i)
  | str (x : Str) : Rep (.str x) (.str x)
  | ty (n : String) : Rep (.ty n) (.ty n)
  | cls (a : Addr) : Rep (.ref a) (.cls a)
  | scr {a : Addr} {ns : List Int} : SqL U.K S a (ns.map V.int) → Rep (.ref a) (.scr ns)
  | lst {a : Addr} {xs : List V} {ds : List D} : S a = some (.lst xs) → xs.length ≤ sizeLine → RepL xs ds → Rep (.ref a) (.lst ds)
  | nls {a : Addr} {xs : List V} {ds : List D} : S a = some (.lst xs) → xs.length ≤ sizeLine → RepL xs ds → U.nw a → Rep (.ref a) (.nls ds)
  | tup {a : Addr} {xs : List V} {ds : List D} : S a = some (.tup xs) → xs.length ≤ sizeLine → RepL xs ds → Rep (.ref a) (.tup ds)
  | tab {a dx rp : Addr} {m : Int} {rows : List (List Int)} {xs : List V} : S a = some (.ins U.C dx [("many", .int m), ("rows", .ref rp)]) → S rp = some (.lst xs) → xs.length ≤ sizeLine →
      RepL xs (rows.map fun r => D.ints r) → Rep (.ref a) (.tab m rows)
  | ad {a : Addr} {d : D} : Rep (.ref a) d → Rep (.ref a) (.ad a d)
  | par {a dx : Addr} {m : Int} : S a = some (.ins U.C dx [("many", .int m)]) → Rep (.ref a) (.par a m)
inductive RepL : List V → List D → Prop where
  | nil : RepL [] []
  | cons {v : V} {vs : List V} {d : D} {ds : List D} : Rep v d → RepL vs ds → RepL (v :: vs) (d :: ds)
end
end
section
variable {U : Wd} {S S' : Hp}
mutual
theorem Rep.mono (e : Ex S S') : ∀ {v : V} {d : D}, Rep U S v d → Rep U S' v d
  | _, _, .non => .non
  | _, _, .bl b => .bl b
  | _, _, .int b => .int b
  | _, _, .str b => .str b
  | _, _, .ty b => .ty b
  | _, _, .cls b => .cls b
  | _, _, .scr h => .scr (e.sql h)
  | _, _, .lst h z r => .lst (e _ _ h) z (RepL.mono e r)
  | _, _, .nls h z r n => .nls (e _ _ h) z (RepL.mono e r) n
  | _, _, .tup h z r => .tup (e _ _ h) z (RepL.mono e r)
  | _, _, .tab h g z r => .tab (e _ _ h) (e _ _ g) z (RepL.mono e r)
  | _, _, .par h => .par (e _ _ h)
  | _, _, .ad h => .ad (Rep.mono e h)
theorem RepL.mono (e : Ex S S') : ∀ {vs : List V} {ds : List D}, RepL U S vs ds → RepL U S' vs ds
  | _, _, .nil => .nil
  | _, _, .cons h r => .cons (Rep.mono e h) (RepL.mono e r)
end
theorem RepL.length : ∀ {vs : List V} {ds : List D}, RepL U S vs ds → vs.length = ds.length
  | _, _, .nil => rfl
  | _, _, .cons _ r => congrArg (· + 1) (RepL.length r)
theorem RepL.get : ∀ {vs : List V} {ds : List D} {i : Nat} {d : D}, RepL U S vs ds → ds[i]? = some d → ∃ v, vs[i]? = some v ∧ Rep U S v d
  | _, _, _, _, .nil, e => by simp at e
  | _, _, 0, _, .cons r _, e => by
    obtain rfl := Option.some.inj (show some _ = some _ from e)
    exact ⟨_, rfl, r⟩
  | _, _, i + 1, d, .cons _ t, e => RepL.get (i := i) (d := d) t e
theorem RepL.getV : ∀ {vs : List V} {ds : List D} {i : Nat} {v : V}, RepL U S vs ds → vs[i]? = some v → ∃ d, ds[i]? = some d ∧ Rep U S v d
  | _, _, _, _, .nil, e => by simp at e
  | _, _, 0, _, .cons r _, e => by
    obtain rfl := Option.some.inj (show some _ = some _ from e)
    exact ⟨_, rfl, r⟩
  | _, _, i + 1, d, .cons _ t, e => RepL.getV (i := i) (v := d) t e
theorem RepL.append : ∀ {vs ws : List V} {ds es : List D}, RepL U S vs ds → RepL U S ws es → RepL U S (vs ++ ws) (ds ++ es)
  | _, _, _, _, .nil, s => s
  | _, _, _, _, .cons r t, s => .cons r (RepL.append t s)
theorem RepL.take : ∀ {vs : List V} {ds : List D} (n : Nat), RepL U S vs ds → RepL U S (vs.take n) (ds.take n)
  | _, _, 0, _ => .nil
  | _, _, _ + 1, .nil => .nil
  | _, _, n + 1, .cons r t => .cons r (RepL.take n t)
theorem RepL.drop : ∀ {vs : List V} {ds : List D} (n : Nat), RepL U S vs ds → RepL U S (vs.drop n) (ds.drop n)
  | _, _, 0, r => r
  | _, _, _ + 1, .nil => .nil
  | _, _, n + 1, .cons _ t => RepL.drop n t
theorem RepL.set {v : V} {d : D} (r : Rep U S v d) : ∀ {vs : List V} {ds : List D} (i : Nat), RepL U S vs ds → RepL U S (vs.set i v) (ds.set i d)
  | _, _, _, .nil => .nil
  | _, _, 0, .cons _ t => .cons r t
  | _, _, i + 1, .cons q t => .cons q (RepL.set r i t)
theorem RepL.ints : ∀ {vs : List V} {ns : List Int}, RepL U S vs (ns.map D.int) → vs = ns.map V.int
  | _, [], .nil => rfl
  | _, n :: ns, .cons (.int _) t => by
    rw [RepL.ints t]
    rfl
theorem RepL.ofInts : ∀ ns : List Int, RepL U S (ns.map V.int) (ns.map D.int)
  | [] => .nil
  | n :: ns => .cons (.int n) (RepL.ofInts ns)
theorem RepL.bls : ∀ {vs : List V} {bs : List Bool}, RepL U S vs (bs.map D.bl) → vs = bs.map V.bl
  | _, [], .nil => rfl
  | _, n :: ns, .cons (.bl _) t => by
    rw [RepL.bls t]
    rfl
end

/-! ### states: what stands still (S), the base (B), the heap (H) -/
structure Go (S B S' H' : Hp) : Prop where
  ss : Ex S S'
  sh : Ex S' H'
  bh : Ex B H'
  nw : ∀ a, S' a ≠ none → S a ≠ none ∨ B a = none
theorem Go.refl {S H : Hp} (e : Ex S H) : Go S H S H := ⟨Ex.refl S, e, Ex.refl H, fun _ h => .inl h⟩
theorem Go.trans {S B S1 H1 S2 H2 : Hp} (a : Go S B S1 H1) (b : Go S1 H1 S2 H2) : Go S B S2 H2 :=
  ⟨a.ss.trans b.ss, b.sh, a.bh.trans b.bh, fun x h => (b.nw x h).elim (a.nw x) fun q => .inr (a.bh.back q)⟩
theorem Go.transB {S B S1 H1 S2 H2 : Hp} (a : Go S B S1 H1) (b : Go S1 B S2 H2) : Go S B S2 H2 :=
  ⟨a.ss.trans b.ss, b.sh, b.bh, fun x h => (b.nw x h).elim (a.nw x) .inr⟩
theorem Go.keepB {S B H S' H' : Hp} (e : Ex B H) (g : Go S H S' H') : Go S B S' H' :=
  ⟨g.ss, g.sh, e.trans g.bh, fun x h => (g.nw x h).elim .inl fun q => .inr (e.back q)⟩
theorem Go.own {S H S' H' : Hp} (g : Go S H S' H') {p : Addr} {o : HO} (hp : H p = some o) (hs : S p = none) : S' p = none := by
  cases q : S' p with
  | none => rfl
  | some u =>
    rcases g.nw p (by rw [q]; exact fun z => nomatch z) with z | z
    · exact absurd hs z
    · rw [hp] at z
      cases z
/-- what has come may be counted among what stands -/
theorem Go.add {S B S' H' : Hp} (g : Go S B S' H') {p : Addr} {o : HO} (hp : H' p = some o) (hs : S' p = none) (hb : B p = none) : Go S B (upd S' p o) H' :=
  ⟨g.ss.trans (Ex.new hs), fun a u e => by
    by_cases h : a = p
    · subst h
      rw [upd_same] at e
      exact hp.trans e
    · rw [upd_ne h] at e
      exact g.sh a u e, g.bh, fun a h => by
    by_cases q : a = p
    · subst q
      exact .inr hb
    · rw [upd_ne q] at h
      exact g.nw a h⟩

/-! ### results -/
inductive Rs where
  | sh (d : D) | fr (ds : List D) | ow (ds : List D)
def RepR (U : Wd) (B S H : Hp) (v : V) : Rs → Prop
  | .sh d => Rep U S v d
  | .fr ds => ∃ p vs, v = .ref p ∧ H p = some (.lst vs) ∧ S p = none ∧ B p = none ∧ vs.length ≤ sizeLine ∧ RepL U S vs ds
  | .ow ds => ∃ p vs, v = .ref p ∧ H p = some (.lst vs) ∧ vs.length ≤ sizeLine ∧ RepL U S vs ds
/-- to be read only -/
def RepV (U : Wd) (S H : Hp) (v : V) : Rs → Prop
  | .sh d => Rep U S v d
  | .fr ds => ∃ p vs, v = .ref p ∧ H p = some (.lst vs) ∧ vs.length ≤ sizeLine ∧ RepL U S vs ds
  | .ow ds => ∃ p vs, v = .ref p ∧ H p = some (.lst vs) ∧ vs.length ≤ sizeLine ∧ RepL U S vs ds
section
variable {U : Wd} {B S H S' H' : Hp} {v : V} {r : Rs}
theorem RepR.toV (h : RepR U B S H v r) : RepV U S H v r := by
  cases r with
  | sh d => exact h
  | fr ds =>
    obtain ⟨p, vs, e, h1, _, _, z, h4⟩ := h
    exact ⟨p, vs, e, h1, z, h4⟩
  | ow ds => exact h
theorem RepV.mono (h : RepV U S H v r) (e1 : Ex S S') (e2 : Ex H H') : RepV U S' H' v r := by
  cases r with
  | sh d => exact Rep.mono e1 h
  | fr ds =>
    obtain ⟨p, vs, e, h1, z, h4⟩ := h
    exact ⟨p, vs, e, e2 _ _ h1, z, h4.mono e1⟩
  | ow ds =>
    obtain ⟨p, vs, e, h1, z, h4⟩ := h
    exact ⟨p, vs, e, e2 _ _ h1, z, h4.mono e1⟩
theorem RepR.base {B' : Hp} (h : RepR U B S H v r) (e : Ex B' B) : RepR U B' S H v r := by
  cases r with
  | sh d => exact h
  | fr ds =>
    obtain ⟨p, vs, e1, h1, h2, h3, z, h4⟩ := h
    exact ⟨p, vs, e1, h1, h2, e.back h3, z, h4⟩
  | ow ds => exact h
/-- the items of a list that may be read -/
def Rs.ls : Rs → Option (List D)
  | .sh (.lst ds) => some ds
  | .sh (.nls ds) => some ds
  | .fr ds => some ds
  | .ow ds => some ds
  | _ => none
theorem RepV.list {ds : List D} (h : RepV U S H v r) (e : r.ls = some ds) (sh : Ex S H) : ∃ p vs, v = .ref p ∧ H p = some (.lst vs) ∧ vs.length ≤ sizeLine ∧ RepL U S vs ds := by
  cases r with
  | sh d =>
    cases h with
    | lst h z r =>
      obtain rfl := Option.some.inj (show some _ = some ds from e)
      exact ⟨_, _, rfl, sh _ _ h, z, r⟩
    | nls h z r _ =>
      obtain rfl := Option.some.inj (show some _ = some ds from e)
      exact ⟨_, _, rfl, sh _ _ h, z, r⟩
    | _ => cases e
  | fr es =>
    obtain rfl := Option.some.inj (show some es = some ds from e)
    exact h
  | ow es =>
    obtain rfl := Option.some.inj (show some es = some ds from e)
    exact h
end

/-! ### slots -/
inductive Sl where
  | no | sh (d : D) | own (ds : List D)
structure Slots (U : Wd) (B S H : Hp) (σ : L2.St) (ρ : List Sl) : Prop where
  len : σ.length = ρ.length
  sh : ∀ (i : Nat) (d : D), ρ[i]? = some (.sh d) → ∃ v, σ[i]? = some (some v) ∧ Rep U S v d
  own : ∀ (i : Nat) (ds : List D), ρ[i]? = some (.own ds) → ∃ p vs, σ[i]? = some (some (.ref p)) ∧ H p = some (.lst vs) ∧ S p = none ∧ B p = none ∧ vs.length ≤ sizeLine ∧ RepL U S vs ds
  sep : ∀ (i j : Nat) (ds es : List D) (p : Addr), ρ[i]? = some (.own ds) → ρ[j]? = some (.own es) → σ[i]? = some (some (.ref p)) → σ[j]? = some (some (.ref p)) → i = j
  nw : ∀ a, H a = none → U.nw a
section
variable {U : Wd} {B S H S' H' : Hp} {σ : L2.St} {ρ : List Sl} {v : V}
theorem Slots.go (s : Slots U B S H σ ρ) (g : Go S H S' H') : Slots U B S' H' σ ρ :=
  ⟨s.len, fun i d e => by
    obtain ⟨v, h1, h2⟩ := s.sh i d e
    exact ⟨v, h1, h2.mono g.ss⟩, fun i ds e => by
    obtain ⟨p, vs, h1, h2, h3, h4, z, h5⟩ := s.own i ds e
    exact ⟨p, vs, h1, g.bh _ _ h2, g.own h2 h3, h4, z, h5.mono g.ss⟩, s.sep, fun a h => s.nw a (g.bh.back h)⟩
theorem Slots.baseUp {B' : Hp} (s : Slots U B S H σ ρ) (h : ∀ p, S p = none → B p = none → B' p = none) : Slots U B' S H σ ρ :=
  ⟨s.len, s.sh, fun i ds e => by
    obtain ⟨p, vs, h1, h2, h3, h4, z, h5⟩ := s.own i ds e
    exact ⟨p, vs, h1, h2, h3, h p h3 h4, z, h5⟩, s.sep, s.nw⟩
theorem setGet {α : Type} {l : List α} {i j : Nat} {x y : α} (h : (l.set i x)[j]? = some y) : (i = j ∧ y = x ∧ i < l.length) ∨ (i ≠ j ∧ l[j]? = some y) := by
  by_cases e : i = j
  · subst e
    by_cases hl : i < l.length
    · rw [List.getElem?_set_self hl] at h
      exact .inl ⟨rfl, (Option.some.inj h).symm, hl⟩
    · rw [List.getElem?_eq_none (by rw [List.length_set]; omega)] at h
      cases h
  · rw [List.getElem?_set_ne e] at h
    exact .inr ⟨e, h⟩
theorem Slots.setSh (s : Slots U B S H σ ρ) {d : D} (i : Nat) (h : Rep U S v d) : Slots U B S H (σ.set i (some v)) (ρ.set i (.sh d)) := by
  refine ⟨by rw [List.length_set, List.length_set, s.len], fun j e hj => ?_, fun j ds hj => ?_, fun j k ds es p hj hk aj ak => ?_, s.nw⟩
  · rcases setGet hj with ⟨rfl, e1, hl⟩ | ⟨ne, hj⟩
    · cases e1
      exact ⟨v, by rw [List.getElem?_set_self (by rw [s.len]; exact hl)], h⟩
    · rw [List.getElem?_set_ne ne]
      exact s.sh j e hj
  · rcases setGet hj with ⟨rfl, e1, hl⟩ | ⟨ne, hj⟩
    · cases e1
    · rw [List.getElem?_set_ne ne]
      exact s.own j ds hj
  · rcases setGet hj with ⟨rfl, e1, hl⟩ | ⟨ne, hj⟩
    · cases e1
    · rcases setGet hk with ⟨rfl, e1, hl⟩ | ⟨ne', hk⟩
      · cases e1
      · rw [List.getElem?_set_ne ne] at aj
        rw [List.getElem?_set_ne ne'] at ak
        exact s.sep j k ds es p hj hk aj ak
/-- a slot is forgotten -/
theorem Slots.setNo (s : Slots U B S H σ ρ) (i : Nat) {x : Option V} : Slots U B S H (σ.set i x) (ρ.set i .no) := by
  refine ⟨by rw [List.length_set, List.length_set, s.len], fun j e hj => ?_, fun j ds hj => ?_, fun j k ds es p hj hk aj ak => ?_, s.nw⟩
  · rcases setGet hj with ⟨rfl, e1, hl⟩ | ⟨ne, hj⟩
    · cases e1
    · rw [List.getElem?_set_ne ne]
      exact s.sh j e hj
  · rcases setGet hj with ⟨rfl, e1, hl⟩ | ⟨ne, hj⟩
    · cases e1
    · rw [List.getElem?_set_ne ne]
      exact s.own j ds hj
  · rcases setGet hj with ⟨rfl, e1, hl⟩ | ⟨ne, hj⟩
    · cases e1
    · rcases setGet hk with ⟨rfl, e1, hl⟩ | ⟨ne', hk⟩
      · cases e1
      · rw [List.getElem?_set_ne ne] at aj
        rw [List.getElem?_set_ne ne'] at ak
        exact s.sep j k ds es p hj hk aj ak
/-- a slot weakened -/
theorem Slots.forget (s : Slots U B S H σ ρ) (i : Nat) : Slots U B S H σ (ρ.set i .no) := by
  refine ⟨by rw [List.length_set, s.len], fun j e hj => ?_, fun j ds hj => ?_, fun j k ds es p hj hk aj ak => ?_, s.nw⟩
  · rcases setGet hj with ⟨rfl, e1, hl⟩ | ⟨ne, hj⟩
    · cases e1
    · exact s.sh j e hj
  · rcases setGet hj with ⟨rfl, e1, hl⟩ | ⟨ne, hj⟩
    · cases e1
    · exact s.own j ds hj
  · rcases setGet hj with ⟨rfl, e1, hl⟩ | ⟨ne, hj⟩
    · cases e1
    · rcases setGet hk with ⟨rfl, e1, hl⟩ | ⟨ne', hk⟩
      · cases e1
      · exact s.sep j k ds es p hj hk aj ak
theorem Slots.setOwn (s : Slots U B S H σ ρ) {ds : List D} (i : Nat) {p : Addr} {vs : List V} (h1 : H p = some (.lst vs)) (h2 : S p = none) (h3 : B p = none) (z : vs.length ≤ sizeLine) (h4 : RepL U S vs ds)
    (hn : ∀ (j : Nat) (es : List D), j ≠ i → ρ[j]? = some (.own es) → σ[j]? ≠ some (some (.ref p))) : Slots U B S H (σ.set i (some (.ref p))) (ρ.set i (.own ds)) := by
  refine ⟨by rw [List.length_set, List.length_set, s.len], fun j e hj => ?_, fun j es hj => ?_, fun j k es fs q hj hk aj ak => ?_, s.nw⟩
  · rcases setGet hj with ⟨rfl, e1, hl⟩ | ⟨ne, hj⟩
    · cases e1
    · rw [List.getElem?_set_ne ne]
      exact s.sh j e hj
  · rcases setGet hj with ⟨rfl, e1, hl⟩ | ⟨ne, hj⟩
    · cases e1
      exact ⟨p, vs, by rw [List.getElem?_set_self (by rw [s.len]; exact hl)], h1, h2, h3, z, h4⟩
    · rw [List.getElem?_set_ne ne]
      exact s.own j es hj
  · rcases setGet hj with ⟨rfl, e1, hl⟩ | ⟨ne, hj⟩
    · rw [List.getElem?_set_self (by rw [s.len]; exact hl)] at aj
      have eq : V.ref p = V.ref q := Option.some.inj (Option.some.inj aj)
      rcases setGet hk with ⟨rfl, e1, hl'⟩ | ⟨ne', hk⟩
      · rfl
      · rw [List.getElem?_set_ne ne'] at ak
        rw [← eq] at ak
        exact absurd ak (hn k fs (Ne.symm ne') hk)
    · rw [List.getElem?_set_ne ne] at aj
      rcases setGet hk with ⟨rfl, e1, hl'⟩ | ⟨ne', hk⟩
      · rw [List.getElem?_set_self (by rw [s.len]; exact hl')] at ak
        have eq : V.ref p = V.ref q := Option.some.inj (Option.some.inj ak)
        rw [← eq] at aj
        exact absurd aj (hn j es (Ne.symm ne) hj)
      · rw [List.getElem?_set_ne ne'] at ak
        exact s.sep j k es fs q hj hk aj ak
end
end Mb
set_option Elab.async false
set_option linter.all false
set_option maxRecDepth 100000
set_option maxHeartbeats 4000000
namespace Mb
open PySem PySem.Spec PyProof.Rows L2

/-! ### contexts -/
structure Gx where
  U : Wd
  N : List Str
  sc : Scope
  fn : Str → Bool
  k : Nat
structure Gx.is (G : Gx) (X : Cx) : Prop where
  prog : X.prog = G.U.P
  w : X.w = G.U.w
  K : X.K = G.U.K
  mg : X.mg = G.U.mg
  base : X.base = G.U.base
  N : X.N = G.N
  sc : X.env.scope = G.sc
  fn : X.fn = G.fn
  calm : X.calm = true
  room : Room G.k X.A
/-- a comprehension's block -/
abbrev Gx.blk (G : Gx) (scope : Scope) : Gx := { G with sc := relS scope G.sc, fn := fun x => scope.names.lookup x == some .cell }
theorem Gx.is.blk {G : Gx} {X : Cx} (h : G.is X) {scope : Scope} (s : Shared) (H : Hp) (C : Addr) (cl : List (Str × Addr)) (fp : List Addr) : (G.blk scope).is (X.blk s H scope (compEnvC scope cl C X.env) fp) :=
  ⟨h.prog, h.w, h.K, h.mg, h.base, h.N, by show relS scope X.env.scope = _; rw [h.sc], rfl, h.calm, h.room⟩

/-! ### canonical readings -/
def tG (G : Gx) (e : Expr) : TE := fun σ H Q => ∀ X, G.is X → ∀ pins s, Inv X pins σ H s → wpAny (model X.prog X.w) X.A (eval e X.env) (EP X pins σ Q) X.xe s
def tGT (G : Gx) (e : Expr) : TT := fun σ H Q => ∀ X, G.is X → ∀ pins s, Inv X pins σ H s → wpAny (model X.prog X.w) X.A (isTrue e X.env (eval e X.env)) (TP X pins σ Q) X.xe s
def tGA (G : Gx) (es : List Expr) : TA := fun σ H Q => ∀ X, G.is X → ∀ pos pins s, Inv X pins σ H s → wpAny (model X.prog X.w) X.A (spliced (backTo pos (starEach es X.env))) (AP X pins σ Q) X.xe s
def tGI (G : Gx) (tg it : Expr) : TI := fun σ H R => ∀ X, G.is X → ∀ pins s, Inv X pins σ H s → wpAny (model X.prog X.w) X.A (eval it X.env) (fun v s1 => wpAny (model X.prog X.w) X.A (pyIter v) (PIE X pins σ tg R) X.xe s1) X.xe s
def tGTs (G : Gx) (ifs : List Expr) : TT := fun σ H Q => ∀ X, G.is X → ∀ t, PTs X ifs t → ∀ R : Prop, (t σ H Q → R) → R
section
variable {G : Gx} {X : Cx} {e : Expr}
theorem pe_of (h : G.is X) : PE X e (tG G e) := ⟨fun pins s σ H Q I q => q X h pins s I⟩
theorem pt_of (h : G.is X) : PT X e (tGT G e) := ⟨fun pins s σ H Q I q => q X h pins s I⟩
theorem pa_of {es : List Expr} (h : G.is X) : PA X es (tGA G es) := ⟨fun pos pins s σ H Q I q => q X h pos pins s I⟩
theorem pi_of {tg it : Expr} (h : G.is X) : PI X tg it (tGI G tg it) := ⟨fun pins s σ H Q I q => q X h pins s I⟩
end

/-! ### what evaluates to what -/
def EvD (U : Wd) (te : TE) (ρ : List Sl) (r : Rs) : Prop := ∀ (B S H : Hp) (σ : L2.St), Ex S H → Slots U B S H σ ρ → ∀ Q : VK, (∀ v S' H', Go S H S' H' → RepR U H S' H' v r → Q v H') → te σ H Q
def EvT (U : Wd) (tt : TT) (ρ : List Sl) (b : Bool) : Prop := ∀ (B S H : Hp) (σ : L2.St), Ex S H → Slots U B S H σ ρ → ∀ Q : Bool → Hp → Prop, (∀ S' H', Go S H S' H' → Q b H') → tt σ H Q
def EvA (U : Wd) (ta : TA) (ρ : List Sl) (ds : List D) : Prop := ∀ (B S H : Hp) (σ : L2.St), Ex S H → Slots U B S H σ ρ → ∀ Q : List V → Hp → Prop, (∀ vs S' H', Go S H S' H' → RepL U S' vs ds → Q vs H') → ta σ H Q
/-- what is walked: turn by turn these -/
def Wk (U : Wd) (S' H' : Hp) (J : It) (ds : List D) : Prop := ∀ S2 H2, Ex S' S2 → Ex S2 H2 → Ex H' H2 → ∀ i : Nat, (∀ d, ds[i]? = some d → J.go i H2 ∧ ∀ x H3, J.yld i H2 x H3 → H3 = H2 ∧ Rep U S2 x d) ∧ (ds.length ≤ i → J.stop i H2)
def WkF (U : Wd) (S' : Hp) (J : It) (ds : List D) : Prop := ∀ S2 H2, Ex S' S2 → Ex S2 H2 → ∀ i : Nat, (∀ d, ds[i]? = some d → J.go i H2 ∧ ∀ x H3, J.yld i H2 x H3 → H3 = H2 ∧ Rep U S2 x d) ∧ (ds.length ≤ i → J.stop i H2)
theorem WkF.wk {U : Wd} {S' H' : Hp} {J : It} {ds : List D} (h : WkF U S' J ds) : Wk U S' H' J ds := fun S2 H2 a b _ => h S2 H2 a b
def EvI (U : Wd) (wi : TI) (ρ : List Sl) (ds : List D) : Prop := ∀ (B S H : Hp) (σ : L2.St), Ex S H → Slots U B S H σ ρ → ∀ R : It → Hp → Prop, (∀ J S' H', Go S H S' H' → Wk U S' H' J ds → ds.length ≤ sizeLine → R J H') → wi σ H R
def EvF (U : Wd) (wi : TI) (ρ : List Sl) (ds : List D) : Prop := ∀ (B S H : Hp) (σ : L2.St), Ex S H → Slots U B S H σ ρ → ∀ R : It → Hp → Prop, (∀ J S' H', Go S H S' H' → WkF U S' J ds → R J H') → wi σ H R
theorem EvF.evI {U : Wd} {wi : TI} {ρ : List Sl} {ds : List D} (h : EvF U wi ρ ds) (hz : ds.length ≤ sizeLine) : EvI U wi ρ ds := fun B S H σ e s R q => h B S H σ e s R fun J S' H' g w => q J S' H' g w.wk hz

structure ED (G : Gx) (e : Expr) (ρ : List Sl) (r : Rs) : Prop where
  run : EvD G.U (tG G e) ρ r
structure TD (G : Gx) (e : Expr) (ρ : List Sl) (b : Bool) : Prop where
  run : EvT G.U (tGT G e) ρ b
structure AD (G : Gx) (es : List Expr) (ρ : List Sl) (ds : List D) : Prop where
  run : EvA G.U (tGA G es) ρ ds
structure IC (G : Gx) (tg it : Expr) (ρ : List Sl) (ds : List D) : Prop where
  run : EvI G.U (tGI G tg it) ρ ds
structure IF (G : Gx) (tg it : Expr) (ρ : List Sl) (ds : List D) : Prop where
  run : EvF G.U (tGI G tg it) ρ ds
instance {G : Gx} {e : Expr} {ρ : List Sl} {r : Rs} : CoeFun (ED G e ρ r) fun _ => EvD G.U (tG G e) ρ r := ⟨fun h => h.run⟩
instance {G : Gx} {e : Expr} {ρ : List Sl} {r : Bool} : CoeFun (TD G e ρ r) fun _ => EvT G.U (tGT G e) ρ r := ⟨fun h => h.run⟩
instance {G : Gx} {e : List Expr} {ρ : List Sl} {r : List D} : CoeFun (AD G e ρ r) fun _ => EvA G.U (tGA G e) ρ r := ⟨fun h => h.run⟩
instance {G : Gx} {e t : Expr} {ρ : List Sl} {r : List D} : CoeFun (IC G t e ρ r) fun _ => EvI G.U (tGI G t e) ρ r := ⟨fun h => h.run⟩
instance {G : Gx} {e t : Expr} {ρ : List Sl} {r : List D} : CoeFun (IF G t e ρ r) fun _ => EvF G.U (tGI G t e) ρ r := ⟨fun h => h.run⟩
section
variable {G : Gx} {e : Expr} {ρ : List Sl} {r : Rs}
theorem ED.of {te : TE} (h : ∀ X, G.is X → PE X e te) (ev : EvD G.U te ρ r) : ED G e ρ r := ⟨fun B S H σ x sl Q q X hX pins s I => (h X hX).run pins s σ H Q I (ev B S H σ x sl Q q)⟩
theorem TD.of {te : TT} {b : Bool} (h : ∀ X, G.is X → PT X e te) (ev : EvT G.U te ρ b) : TD G e ρ b := ⟨fun B S H σ x sl Q q X hX pins s I => (h X hX).run pins s σ H Q I (ev B S H σ x sl Q q)⟩
theorem AD.of {ta : TA} {es : List Expr} {ds : List D} (h : ∀ X, G.is X → PA X es ta) (ev : EvA G.U ta ρ ds) : AD G es ρ ds := ⟨fun B S H σ x sl Q q X hX pos pins s I => (h X hX).run pos pins s σ H Q I (ev B S H σ x sl Q q)⟩
theorem IC.of {wi : TI} {tg it : Expr} {ds : List D} (h : ∀ X, G.is X → PI X tg it wi) (ev : EvI G.U wi ρ ds) : IC G tg it ρ ds := ⟨fun B S H σ x sl Q q X hX pins s I => (h X hX).run pins s σ H Q I (ev B S H σ x sl Q q)⟩
theorem IF.of {wi : TI} {tg it : Expr} {ds : List D} (h : ∀ X, G.is X → PI X tg it wi) (ev : EvF G.U wi ρ ds) : IF G tg it ρ ds := ⟨fun B S H σ x sl Q q X hX pins s I => (h X hX).run pins s σ H Q I (ev B S H σ x sl Q q)⟩
theorem ED.cast {r' : Rs} (h : ED G e ρ r) (q : r = r') : ED G e ρ r' := q ▸ h
theorem TD.cast {b b' : Bool} (h : TD G e ρ b) (q : b = b') : TD G e ρ b' := q ▸ h
/-- a new list, counted among what stands -/
theorem ED.shr {ds : List D} (h : ED G e ρ (.fr ds)) : ED G e ρ (.sh (.lst ds)) := ⟨fun B S H σ x sl Q q => h B S H σ x sl Q fun v S' H' g ⟨p, vs, e1, h1, h2, h3, z, h4⟩ => by
  subst e1
  exact q _ (upd S' p (.lst vs)) H' (g.add h1 h2 h3) (.lst upd_same z (h4.mono (Ex.new h2)))⟩
end

/-! ### values: rules for two operands -/
def R2D (U : Wd) (r : R2) (x y z : Rs) : Prop := ∀ (S H : Hp) (v w : V), Ex S H → RepV U S H v x → RepV U S H w y → ∀ Q : VK, (∀ u S' H', Go S H S' H' → RepR U H S' H' u z → Q u H') → r v w H Q
section
variable {U : Wd} {ρ : List Sl} {ta tb : TE} {x y z : Rs} {r : R2}
theorem ev_op (ha : EvD U ta ρ x) (hb : EvD U tb ρ y) (hr : R2D U r x y z) : EvD U (tOp r ta tb) ρ z := fun B S H σ e sl Q q =>
  ha B S H σ e sl _ fun v S1 H1 g1 r1 => hb B S1 H1 σ g1.sh (sl.go g1) _ fun w S2 H2 g2 r2 =>
    hr S2 H2 v w g2.sh (r1.toV.mono g2.ss g2.bh) r2.toV Q fun u S3 H3 g3 r3 => q u S3 H3 ((g1.trans g2).trans g3) (r3.base (g1.bh.trans g2.bh))
theorem r2_val {d : D} (h : ∀ S H v w, Ex S H → RepV U S H v x → RepV U S H w y → ∀ Q : VK, (∀ u, Rep U S u d → Q u H) → r v w H Q) : R2D U r x y (.sh d) := fun S H v w e rv rw Q q => h S H v w e rv rw Q fun u ru => q u S H (Go.refl e) ru
theorem r2_I0 {f : Int → Int → Int} {i j : Int} : R2D U (rI0 fun i j => .int (f i j)) (.sh (.int i)) (.sh (.int j)) (.sh (.int (f i j))) := r2_val fun S H v w e rv rw Q q => by
  cases rv
  cases rw
  exact ⟨i, j, rfl, rfl, q _ (.int _)⟩
theorem r2_B0 {f : Int → Int → Bool} {i j : Int} : R2D U (rI0 fun i j => .bl (f i j)) (.sh (.int i)) (.sh (.int j)) (.sh (.bl (f i j))) := r2_val fun S H v w e rv rw Q q => by
  cases rv
  cases rw
  exact ⟨i, j, rfl, rfl, q _ (.bl _)⟩
theorem r2_I {C : Int → Int → Prop} {f : Int → Int → Int} {i j : Int} (hc : C i j) : R2D U (rI C fun i j => .int (f i j)) (.sh (.int i)) (.sh (.int j)) (.sh (.int (f i j))) := r2_val fun S H v w e rv rw Q q => by
  cases rv
  cases rw
  exact ⟨i, j, rfl, rfl, hc, q _ (.int _)⟩
theorem r2_cat {ds es : List D} (hx : x.ls = some ds) (hy : y.ls = some es) (hz : ds.length + es.length ≤ sizeLine) : R2D U rCat x y (.fr (ds ++ es)) := fun S H v w e rv rw Q q => by
  obtain ⟨p, vs, rfl, h1, z1, l1⟩ := rv.list hx e
  obtain ⟨p2, ws, rfl, h2, z2, l2⟩ := rw.list hy e
  have hl : vs.length + ws.length ≤ sizeLine := by rw [l1.length, l2.length]; exact hz
  refine ⟨p, p2, vs, ws, rfl, rfl, h1, h2, hl, fun a na => ?_⟩
  have ns : S a = none := e.back na
  exact q (.ref a) S _ ⟨Ex.refl S, e.trans (Ex.new na), Ex.new na, fun _ z => .inl z⟩ ⟨a, vs ++ ws, rfl, upd_same, ns, na, by rw [List.length_append]; exact hl, l1.append l2⟩
theorem atI_len {α β : Type} {xs : List α} {ys : List β} {i : Int} {y : β} (hl : xs.length = ys.length) (h : atI ys i = some y) : ∃ (j : Nat) (x : α), ys[j]? = some y ∧ xs[j]? = some x ∧ atI xs i = some x := by
  unfold atI at *
  rw [hl]
  cases e : ixN ys.length i with
  | none =>
    rw [e] at h
    cases h
  | some j =>
    rw [e] at h
    have h : ys[j]? = some y := h
    obtain ⟨hj, _⟩ := List.getElem?_eq_some_iff.mp h
    exact ⟨j, xs[j]'(by omega), h, List.getElem?_eq_getElem _, List.getElem?_eq_getElem _⟩
theorem r2_ixL {ds : List D} {i : Int} {d : D} (hx : x.ls = some ds) (ha : atI ds i = some d) : R2D U (rIxL U.K) x (.sh (.int i)) (.sh d) := r2_val fun S H v w e rv rw Q q => by
  obtain ⟨p, vs, rfl, h1, z1, l1⟩ := rv.list hx e
  cases rw
  obtain ⟨j, u, h2, h3, h4⟩ := atI_len l1.length ha
  obtain ⟨u', h5, h6⟩ := l1.get h2
  rw [h3] at h5
  cases h5
  exact ⟨p, vs, i, u, rfl, rfl, .of h1, h4, q _ h6⟩
theorem r2_ixT {ds : List D} {i : Int} {d : D} (ha : atI ds i = some d) : R2D U (rIxT U.K) (.sh (.tup ds)) (.sh (.int i)) (.sh d) := r2_val fun S H v w e rv rw Q q => by
  cases rv with
  | tup h1 z1 l1 =>
    cases rw
    obtain ⟨j, u, h2, h3, h4⟩ := atI_len l1.length ha
    obtain ⟨u', h5, h6⟩ := l1.get h2
    rw [h3] at h5
    cases h5
    exact ⟨_, _, i, u, rfl, rfl, .of (e _ _ h1), h4, q _ h6⟩
/-- of the script -/
theorem r2_ixS {ns : List Int} {i n : Int} (ha : atI ns i = some n) : R2D U (rIxL U.K) (.sh (.scr ns)) (.sh (.int i)) (.sh (.int n)) := r2_val fun S H v w e rv rw Q q => by
  cases rv with
  | scr h1 =>
    cases rw
    obtain ⟨j, u, h2, h3, h4⟩ := atI_len (xs := ns.map V.int) (by rw [List.length_map]) ha
    rw [List.getElem?_map, h2] at h3
    obtain rfl := Option.some.inj (show some (V.int n) = some u from h3)
    exact ⟨_, _, i, _, rfl, rfl, e.sql h1, h4, q _ (.int _)⟩
end

/-! ### equality of data -/
mutual
def D.py : D → PyData
  | .non => .none
  | .bl b => .bool b
  | .int i => .int i
  | .lst xs => .list (D.pyL xs)
  | .nls xs => .list (D.pyL xs)
  | .tup xs => .tuple (D.pyL xs)
  | _ => .none
def D.pyL : List D → List PyData
  | [] => []
  | d :: ds => d.py :: D.pyL ds
end
/-- plain data, nested at most n deep -/
inductive Dn : Nat → D → Prop
  | non (n : Nat) : Dn n .non
  | bl (n : Nat) (b : Bool) : Dn n (.bl b)
  | int (n : Nat) (i : Int) : Dn n (.int i)
  | lst (n : Nat) {ds : List D} (h : ∀ d ∈ ds, Dn n d) : Dn (n + 1) (.lst ds)
  | nls (n : Nat) {ds : List D} (h : ∀ d ∈ ds, Dn n d) : Dn (n + 1) (.nls ds)
  | tup (n : Nat) {ds : List D} (h : ∀ d ∈ ds, Dn n d) : Dn (n + 1) (.tup ds)
theorem pyL_shaped {n : Nat} : ∀ {ds : List D}, (∀ d ∈ ds, d.py.canLay0 = true ∧ d.py.depth ≤ n) → PyData.canLayAll0 (D.pyL ds) = true ∧ PyData.depthAll (D.pyL ds) ≤ n
  | [], _ => by
    rw [D.pyL]
    exact ⟨by rw [PyData.canLayAll0], by rw [PyData.depthAll]; exact Nat.zero_le _⟩
  | d :: ds, h => by
    obtain ⟨a1, a2⟩ := h d List.mem_cons_self
    obtain ⟨b1, b2⟩ := pyL_shaped (n := n) fun x hx => h x (List.mem_cons_of_mem _ hx)
    rw [D.pyL]
    refine ⟨by rw [PyData.canLayAll0, a1, b1]; rfl, by rw [PyData.depthAll]; exact Nat.max_le.mpr ⟨a2, b2⟩⟩
theorem Dn.lay {n : Nat} {d : D} (h : Dn n d) : d.py.canLay0 = true ∧ d.py.depth ≤ n := by
  induction h with
  | non n => exact ⟨by rw [D.py, PyData.canLay0], by rw [D.py, PyData.depth]; exact Nat.zero_le _⟩
  | bl n b => exact ⟨by rw [D.py, PyData.canLay0], by rw [D.py, PyData.depth]; exact Nat.zero_le _⟩
  | int n i => exact ⟨by rw [D.py, PyData.canLay0], by rw [D.py, PyData.depth]; exact Nat.zero_le _⟩
  | lst n h ih =>
    obtain ⟨a, b⟩ := pyL_shaped (n := n) ih
    exact ⟨by rw [D.py, PyData.canLay0]; exact a, by rw [D.py, PyData.depth]; exact Nat.succ_le_succ b⟩
  | nls n h ih =>
    obtain ⟨a, b⟩ := pyL_shaped (n := n) ih
    exact ⟨by rw [D.py, PyData.canLay0]; exact a, by rw [D.py, PyData.depth]; exact Nat.succ_le_succ b⟩
  | tup n h ih =>
    obtain ⟨a, b⟩ := pyL_shaped (n := n) ih
    exact ⟨by rw [D.py, PyData.canLay0]; exact a, by rw [D.py, PyData.depth]; exact Nat.succ_le_succ b⟩
theorem Dn.shaped {n : Nat} {d : D} (h : Dn n d) (hn : n ≤ 64) : SeqAt.shaped d.py = true := by
  obtain ⟨a, b⟩ := h.lay
  exact Bool.and_eq_true_iff.mpr ⟨a, decide_eq_true (Nat.le_trans b hn)⟩
theorem Dn.up {n m : Nat} {d : D} (h : Dn n d) (hm : n ≤ m) : Dn m d := by
  induction h generalizing m with
  | non n => exact .non m
  | bl n b => exact .bl m b
  | int n i => exact .int m i
  | lst n h ih =>
    obtain ⟨k, rfl⟩ : ∃ k, m = k + 1 := ⟨m - 1, by omega⟩
    exact .lst k fun d hd => ih d hd (by omega)
  | nls n h ih =>
    obtain ⟨k, rfl⟩ : ∃ k, m = k + 1 := ⟨m - 1, by omega⟩
    exact .nls k fun d hd => ih d hd (by omega)
  | tup n h ih =>
    obtain ⟨k, rfl⟩ : ∃ k, m = k + 1 := ⟨m - 1, by omega⟩
    exact .tup k fun d hd => ih d hd (by omega)
section
variable {U : Wd} {S H : Hp}
theorem RepL.dpL {ds : List D} (ih : ∀ d ∈ ds, ∀ v, Rep U S v d → Dp U.K H v d.py) : ∀ {vs : List V}, RepL U S vs ds → DpAll U.K H vs (D.pyL ds) := by
  induction ds with
  | nil =>
    intro vs h
    cases h
    rw [D.pyL]
    exact .nil
  | cons d ds ihd =>
    intro vs h
    cases h with
    | cons a b =>
      rw [D.pyL]
      exact .cons (ih d List.mem_cons_self _ a) (ihd (fun x hx => ih x (List.mem_cons_of_mem _ hx)) b)
theorem Rep.dp (e : Ex S H) {n : Nat} {d : D} (hn : Dn n d) : ∀ {v : V}, Rep U S v d → Dp U.K H v d.py := by
  induction hn with
  | non n => intro v h; cases h; rw [D.py]; exact .non
  | bl n b => intro v h; cases h; rw [D.py]; exact .bl b
  | int n i => intro v h; cases h; rw [D.py]; exact .int i
  | lst n hd ih =>
    intro v h
    cases h with
    | lst h1 z r =>
      rw [D.py]
      exact .lst (.of (e _ _ h1)) (r.dpL fun d m v hv => ih d m hv)
  | nls n hd ih =>
    intro v h
    cases h with
    | nls h1 z r _ =>
      rw [D.py]
      exact .lst (.of (e _ _ h1)) (r.dpL fun d m v hv => ih d m hv)
  | tup n hd ih =>
    intro v h
    cases h with
    | tup h1 z r =>
      rw [D.py]
      exact .tup (.of (e _ _ h1)) (r.dpL fun d m v hv => ih d m hv)
/-- the value a result is -/
def Rs.d : Rs → D
  | .sh d => d
  | .fr ds => .lst ds
  | .ow ds => .lst ds
theorem RepV.dp {n : Nat} {r : Rs} {v : V} (e : Ex S H) (hn : Dn n r.d) (h : RepV U S H v r) : Dp U.K H v r.d.py := by
  cases r with
  | sh d => exact Rep.dp e hn h
  | fr ds =>
    obtain ⟨p, vs, rfl, h1, z, h4⟩ := h
    cases hn with
    | lst n hd =>
      show Dp U.K H _ (D.lst ds).py
      rw [D.py]
      exact .lst (.of h1) (h4.dpL fun d m v hv => Rep.dp e (hd d m) hv)
  | ow ds =>
    obtain ⟨p, vs, rfl, h1, z, h4⟩ := h
    cases hn with
    | lst n hd =>
      show Dp U.K H _ (D.lst ds).py
      rw [D.py]
      exact .lst (.of h1) (h4.dpL fun d m v hv => Rep.dp e (hd d m) hv)
end
def deq (d e : D) : Bool := PyData.eqv d.py e.py
theorem pyL_any (d : D) : ∀ ds : List D, ((D.pyL ds).any fun z => PyData.eqv z d.py) = ds.any fun z => deq z d
  | [] => by rw [D.pyL] <;> rfl
  | x :: xs => by
    rw [D.pyL, List.any_cons, List.any_cons, pyL_any d xs]
    rfl
theorem deq_int (i j : Int) : deq (.int i) (.int j) = decide (i = j) := by
  unfold deq
  rw [D.py, D.py, PyData.eqv]
  exact Bool.beq_eq_decide_eq i j
theorem deq_bl (i j : Bool) : deq (.bl i) (.bl j) = decide (i = j) := by
  unfold deq
  rw [D.py, D.py, PyData.eqv]
  exact Bool.beq_eq_decide_eq i j
/-- a way to write things as data that == tells apart -/
def Enc {α : Type} [DecidableEq α] (f : α → D) : Prop := ∀ x y, deq (f x) (f y) = decide (x = y)
theorem Enc.int : Enc D.int := deq_int
theorem eqvAll_cons (a b : PyData) (as bs : List PyData) : PyData.eqvAll (a :: as) (b :: bs) = (PyData.eqv a b && PyData.eqvAll as bs) := by rw [PyData.eqvAll]
theorem Enc.all {α : Type} [DecidableEq α] {f : α → D} (h : Enc f) : ∀ xs ys : List α, PyData.eqvAll (D.pyL (xs.map f)) (D.pyL (ys.map f)) = decide (xs = ys)
  | [], [] => by simp [D.pyL, PyData.eqvAll]
  | [], y :: ys => by simp [D.pyL, PyData.eqvAll]
  | x :: xs, [] => by simp [D.pyL, PyData.eqvAll]
  | x :: xs, y :: ys => by
    have a := h x y
    have b := Enc.all h xs ys
    unfold deq at a
    rw [List.map_cons, List.map_cons, D.pyL, D.pyL, eqvAll_cons, a, b]
    by_cases e : x = y <;> by_cases e2 : xs = ys <;> simp [e, e2]
theorem Enc.lst {α : Type} [DecidableEq α] {f : α → D} (h : Enc f) : Enc fun xs : List α => D.lst (xs.map f) := fun xs ys => by
  unfold deq
  rw [D.py, D.py, PyData.eqv]
  exact h.all xs ys
theorem Enc.ints : Enc D.ints := Enc.lst Enc.int
theorem Enc.pair {α β : Type} [DecidableEq α] [DecidableEq β] {f : α → D} {g : β → D} (h : Enc f) (k : Enc g) : Enc fun p : α × β => D.tup [f p.1, g p.2] := fun x y => by
  obtain ⟨x1, x2⟩ := x
  obtain ⟨y1, y2⟩ := y
  have a := h x1 y1
  have b := k x2 y2
  unfold deq at *
  show PyData.eqv (D.tup [f x1, g x2]).py (D.tup [f y1, g y2]).py = _
  rw [D.py, D.py, PyData.eqv]
  simp only [D.pyL, PyData.eqvAll, a, b, Bool.and_true]
  by_cases e : x1 = y1 <;> by_cases e2 : x2 = y2 <;> simp [e, e2]
theorem Enc.any {α : Type} [DecidableEq α] {f : α → D} (h : Enc f) (x : α) : ∀ xs : List α, ((xs.map f).any fun z => deq z (f x)) = decide (x ∈ xs)
  | [] => by simp
  | y :: ys => by
    rw [List.map_cons, List.any_cons, h y x, Enc.any h x ys]
    by_cases e : y = x
    · subst e
      simp
    · by_cases e2 : x ∈ ys <;> simp [e, e2, Ne.symm e]
section
variable {U : Wd} {x y : Rs} {n m : Nat}
theorem r2_eq (h1 : Dn 60 x.d) (h2 : Dn 60 y.d) : R2D U (rEqD U.K) x y (.sh (.bl (deq x.d y.d))) := r2_val fun S H v w e rv rw Q q =>
  ⟨_, _, rv.dp e h1, rw.dp e h2, h1.shaped (by decide), h2.shaped (by decide), q _ (.bl _)⟩
theorem r2_ne (h1 : Dn 60 x.d) (h2 : Dn 60 y.d) : R2D U (rNeD U.K) x y (.sh (.bl (!deq x.d y.d))) := r2_val fun S H v w e rv rw Q q =>
  ⟨_, _, rv.dp e h1, rw.dp e h2, h1.shaped (by decide), h2.shaped (by decide), q _ (.bl _)⟩
theorem lstDn {ds : List D} (h2 : ∀ d ∈ ds, Dn 58 d) : Dn 60 (.lst ds) := Dn.up (Dn.lst 58 h2) (by decide)
theorem Rs.ls_d {ds : List D} (hy : y.ls = some ds) : y.d = .lst ds ∨ y.d = .nls ds := by
  cases y with
  | sh d =>
    cases d <;> first | (simp [Rs.ls] at hy; done) | skip
    · obtain rfl := Option.some.inj (show some _ = some ds from hy)
      exact .inl rfl
    · obtain rfl := Option.some.inj (show some _ = some ds from hy)
      exact .inr rfl
  | fr es =>
    obtain rfl := Option.some.inj (show some es = some ds from hy)
    exact .inl rfl
  | ow es =>
    obtain rfl := Option.some.inj (show some es = some ds from hy)
    exact .inl rfl
theorem Rs.ls_dn {ds : List D} (hy : y.ls = some ds) (h2 : ∀ d ∈ ds, Dn 58 d) : Dn 60 y.d ∧ y.d.py = .list (D.pyL ds) := by
  rcases Rs.ls_d hy with e | e
  · rw [e]
    exact ⟨lstDn h2, by rw [D.py]⟩
  · rw [e]
    exact ⟨Dn.up (Dn.nls 58 h2) (by decide), by rw [D.py]⟩
theorem r2_in {ds : List D} (hy : y.ls = some ds) (h1 : Dn 60 x.d) (h2 : ∀ d ∈ ds, Dn 58 d) : R2D U (rInD U.K) x y (.sh (.bl (ds.any fun z => deq z x.d))) := r2_val fun S H v w e rv rw Q q => by
  obtain ⟨a, dy⟩ := Rs.ls_dn hy h2
  have b := rw.dp e a
  have c := a.shaped (by decide)
  rw [dy] at b c
  refine ⟨_, _, rv.dp e h1, b, h1.shaped (by decide), c, ?_⟩
  rw [pyL_any]
  exact q _ (.bl _)
theorem r2_nin {ds : List D} (hy : y.ls = some ds) (h1 : Dn 60 x.d) (h2 : ∀ d ∈ ds, Dn 58 d) : R2D U (rNotInD U.K) x y (.sh (.bl (!ds.any fun z => deq z x.d))) := r2_val fun S H v w e rv rw Q q => by
  obtain ⟨a, dy⟩ := Rs.ls_dn hy h2
  have b := rw.dp e a
  have c := a.shaped (by decide)
  rw [dy] at b c
  refine ⟨_, _, rv.dp e h1, b, h1.shaped (by decide), c, ?_⟩
  rw [pyL_any]
  exact q _ (.bl _)
end
end Mb
set_option Elab.async false
set_option linter.all false
set_option maxRecDepth 100000
set_option maxHeartbeats 4000000
namespace Mb
open PySem PySem.Spec PyProof.Rows L2

/-! ### expressions -/
def visB (sc : Scope) (x : Str) : Bool := match sc.names.lookup x with
  | some .local => true
  | some .cell => true
  | some .free => true
  | _ => false
theorem vis_of {sc : Scope} {x : Str} (h : visB sc x = true) : Vis sc x := by
  unfold visB at h
  split at h
  · exact .inl ‹_›
  · exact .inr (.inl ‹_›)
  · exact .inr (.inr ‹_›)
  · cases h
def okName (x : Str) : Bool := !(x == ("__debug__" : Str)) && !(x == ("__classdict__" : Str))
theorem ixAt {N : List Str} {x : Str} (h : N.idxOf x < N.length) : N[N.idxOf x]? = some x := by
  rw [List.getElem?_eq_getElem h, List.getElem_idxOf h]
section
variable {G : Gx} {ρ : List Sl} {a b c e : Expr} {pos : Pos} {x y z : Rs}
theorem ed_name {n : Str} {r : Rs} (hv : visB G.sc n = true) (hd : okName n = true)
    (h : ∀ (B S H : Hp) (σ : L2.St), Ex S H → Slots G.U B S H σ ρ → ∃ v, σ[G.N.idxOf n]? = some (some v) ∧ RepR G.U H S H v r) : ED G (.Name n pos) ρ r := ⟨fun B S H σ ex sl Q q X hX pins s I => by
  obtain ⟨v, e1, e2⟩ := h B S H σ ex sl
  have hl : G.N.idxOf n < G.N.length := by
    have h1 := I.len
    rw [hX.N] at h1
    have h2 := (List.getElem?_eq_some_iff.mp e1).1
    omega
  have hN : X.N[G.N.idxOf n]? = some n := by rw [hX.N]; exact ixAt hl
  have hv' : Vis X.env.scope n := by rw [hX.sc]; exact vis_of hv
  unfold okName at hd
  rw [Bool.and_eq_true, Bool.not_eq_true', Bool.not_eq_true'] at hd
  exact (pe_var hN hv' hd.1 hd.2).run pins s σ H Q I ⟨v, e1, q v S H (Go.refl ex) e2⟩⟩
theorem ed_var {n : Str} {d : D} (h : ρ[G.N.idxOf n]? = some (.sh d)) (hv : visB G.sc n = true) (hd : okName n = true := by rfl) : ED G (.Name n pos) ρ (.sh d) := ed_name hv hd fun B S H σ ex sl => sl.sh _ _ h
theorem ed_varA {n : Str} {a : Addr} {d : D} (h : ρ[G.N.idxOf n]? = some (.sh (.ad a d))) (hv : visB G.sc n = true) (hd : okName n = true := by rfl) : ED G (.Name n pos) ρ (.sh d) := ed_name hv hd fun B S H σ ex sl => by
  obtain ⟨v, h1, h2⟩ := sl.sh _ _ h
  cases h2 with
  | ad h2 => exact ⟨_, h1, h2⟩
theorem ed_own {n : Str} {ds : List D} (h : ρ[G.N.idxOf n]? = some (.own ds)) (hv : visB G.sc n = true) (hd : okName n = true := by rfl) : ED G (.Name n pos) ρ (.ow ds) := ed_name hv hd fun B S H σ ex sl => by
  obtain ⟨p, vs, h1, h2, _, _, z, h5⟩ := sl.own _ _ h
  exact ⟨_, h1, p, vs, rfl, h2, z, h5⟩
theorem ed_c {v : V} {d : D} {te : TE} (h : ∀ X, G.is X → PE X e (tC v)) (r : ∀ S, Rep G.U S v d) : ED G e ρ (.sh d) := .of h fun B S H σ ex sl Q q => q v S H (Go.refl ex) (r S)
theorem ed_int {i : Int} {j} : ED G (.Constant (.int i) j pos) ρ (.sh (.int i)) := ed_c (te := tC (.int i)) (fun _ _ => pe_int) fun _ => .int i
theorem ed_bl {i : Bool} {j} : ED G (.Constant (.bool i) j pos) ρ (.sh (.bl i)) := ed_c (te := tC (.bl i)) (fun _ _ => pe_bl) fun _ => .bl i
theorem ed_non {j} : ED G (.Constant .none j pos) ρ (.sh .non) := ed_c (te := tC .non) (fun _ _ => pe_non) fun _ => .non
theorem ed_str {i : Str} {j} : ED G (.Constant (.str i) j pos) ρ (.sh (.str i)) := ed_c (te := tC (.str i)) (fun _ _ => pe_str) fun _ => .str i
/-- a name of the module -/
theorem ed_glob {n : Str} {v : V} {u : Value} {d : D} (hg : G.sc.names.lookup n = some .globalImplicit) (hm : G.U.mg n = some u) (r : RelV v u) (hr : ∀ S, Rep G.U S v d) (hd : (n == ("__debug__" : Str)) = false := by rfl) : ED G (.Name n pos) ρ (.sh d) :=
  ed_c (te := tC v) (fun X hX => pe_glob (by show X.env.scope.names.lookup n = _; rw [hX.sc]; exact hg) (by rw [hX.mg]; exact hm) r hd) hr
theorem ed_bltn {n : Str} {v : V} {u : Value} {d : D} (hg : G.sc.names.lookup n = some .globalImplicit) (hm : G.U.mg n = none) (hb : bootBuiltins n = some u) (r : RelV v u) (hr : ∀ S, Rep G.U S v d) (hn : n ≠ "__name__" := by decide) (hd : (n == ("__debug__" : Str)) = false := by rfl) : ED G (.Name n pos) ρ (.sh d) :=
  ed_c (te := tC v) (fun X hX => pe_bltn (by show X.env.scope.names.lookup n = _; rw [hX.sc]; exact hg) (by rw [hX.mg]; exact hm) hb r hn hd) hr

theorem ed_bin {op : Operator} {r : R2} (ho : ∀ X, G.is X → OpR X (binaryOp op) r) (ha : ED G a ρ x) (hb : ED G b ρ y) (hr : R2D G.U r x y z) : ED G (.BinOp a op b pos) ρ z :=
  .of (fun X h => pe_op (ho X h) (pe_of h) (pe_of h)) (ev_op ha.run hb.run hr)
variable {i j : Int}
theorem ed_add (ha : ED G a ρ (.sh (.int i))) (hb : ED G b ρ (.sh (.int j))) : ED G (.BinOp a .Add b pos) ρ (.sh (.int (i + j))) := ed_bin (fun _ _ => op_add) ha hb r2_I0
theorem ed_sub (ha : ED G a ρ (.sh (.int i))) (hb : ED G b ρ (.sh (.int j))) : ED G (.BinOp a .Sub b pos) ρ (.sh (.int (i - j))) := ed_bin (fun _ _ => op_sub) ha hb r2_I0
theorem ed_mul (ha : ED G a ρ (.sh (.int i))) (hb : ED G b ρ (.sh (.int j))) (hc : CMul i j) : ED G (.BinOp a .Mult b pos) ρ (.sh (.int (i * j))) := ed_bin (fun _ _ => op_mul) ha hb (r2_I hc)
theorem ed_fdiv (ha : ED G a ρ (.sh (.int i))) (hb : ED G b ρ (.sh (.int j))) (hc : CDivN i j) : ED G (.BinOp a .FloorDiv b pos) ρ (.sh (.int (i.fdiv j))) := ed_bin (fun _ _ => op_fdivN) ha hb (r2_I hc)
theorem ed_mod (ha : ED G a ρ (.sh (.int i))) (hb : ED G b ρ (.sh (.int j))) (hc : j ≠ 0) : ED G (.BinOp a .Mod b pos) ρ (.sh (.int (i.fmod j))) := ed_bin (fun _ _ => op_modN) ha hb (r2_I hc)
theorem ed_pow (ha : ED G a ρ (.sh (.int i))) (hb : ED G b ρ (.sh (.int j))) (hc : CPow i j) : ED G (.BinOp a .Pow b pos) ρ (.sh (.int (i ^ j.toNat))) := ed_bin (fun _ _ => op_pow) ha hb (r2_I hc)
theorem ed_cat {ds es : List D} (ha : ED G a ρ x) (hb : ED G b ρ y) (hx : x.ls = some ds) (hy : y.ls = some es) (hz : ds.length + es.length ≤ sizeLine) : ED G (.BinOp a .Add b pos) ρ (.fr (ds ++ es)) := ed_bin (fun _ _ => op_cat) ha hb (r2_cat hx hy hz)
theorem ed_neg (ha : ED G a ρ (.sh (.int i))) : ED G (.UnaryOp .USub a pos) ρ (.sh (.int (-i))) := .of (fun X h => pe_un un_neg (pe_of h)) fun B S H σ ex sl Q q => ha B S H σ ex sl _ fun v S1 H1 g1 r1 => by
  cases r1
  exact ⟨i, rfl, q _ S1 H1 g1 (.int _)⟩
/-! comparisons, as values and as tests -/
theorem cmpB {op : CmpOp} {r : R2} {b' : Bool} (ho : ∀ X, G.is X → OpR X (compareOp op) r) (ha : ED G a ρ x) (hb : ED G b ρ y) (hr : R2D G.U r x y (.sh (.bl b'))) (hm : behindInMarks op b = false) :
    ED G (.Compare a [op] [b] pos) ρ (.sh (.bl b')) ∧ TD G (.Compare a [op] [b] pos) ρ b' := by
  refine ⟨.of (fun X h => pe_cmpR (ho X h) (pe_of h) (pe_of h) hm) (ev_op ha.run hb.run hr), .of (fun X h => pt_cmpR (ho X h) (pe_of h) (pe_of h) hm) fun B S H σ ex sl Q q => ev_op ha.run hb.run hr B S H σ ex sl _ fun v S1 H1 g1 r1 => ?_⟩
  cases r1
  exact ⟨b', rfl, q S1 H1 g1⟩
theorem cp_lt (ha : ED G a ρ (.sh (.int i))) (hb : ED G b ρ (.sh (.int j))) : ED G (.Compare a [.Lt] [b] pos) ρ (.sh (.bl (decide (i < j)))) ∧ TD G (.Compare a [.Lt] [b] pos) ρ (decide (i < j)) := cmpB (fun _ _ => op_lt) ha hb (r2_B0 (f := fun i j => decide (i < j))) (nomark _)
theorem cp_le (ha : ED G a ρ (.sh (.int i))) (hb : ED G b ρ (.sh (.int j))) : ED G (.Compare a [.LtE] [b] pos) ρ (.sh (.bl (decide (i ≤ j)))) ∧ TD G (.Compare a [.LtE] [b] pos) ρ (decide (i ≤ j)) := cmpB (fun _ _ => op_le) ha hb (r2_B0 (f := fun i j => decide (i ≤ j))) (nomark _)
theorem cp_gt (ha : ED G a ρ (.sh (.int i))) (hb : ED G b ρ (.sh (.int j))) : ED G (.Compare a [.Gt] [b] pos) ρ (.sh (.bl (decide (j < i)))) ∧ TD G (.Compare a [.Gt] [b] pos) ρ (decide (j < i)) := cmpB (fun _ _ => op_gt) ha hb (r2_B0 (f := fun i j => decide (j < i))) (nomark _)
theorem cp_ge (ha : ED G a ρ (.sh (.int i))) (hb : ED G b ρ (.sh (.int j))) : ED G (.Compare a [.GtE] [b] pos) ρ (.sh (.bl (decide (j ≤ i)))) ∧ TD G (.Compare a [.GtE] [b] pos) ρ (decide (j ≤ i)) := cmpB (fun _ _ => op_ge) ha hb (r2_B0 (f := fun i j => decide (j ≤ i))) (nomark _)
theorem cp_eq (ha : ED G a ρ x) (hb : ED G b ρ y) (h1 : Dn 60 x.d) (h2 : Dn 60 y.d) : ED G (.Compare a [.Eq] [b] pos) ρ (.sh (.bl (deq x.d y.d))) ∧ TD G (.Compare a [.Eq] [b] pos) ρ (deq x.d y.d) :=
  cmpB (r := rEqD G.U.K) (fun X h => by rw [← h.K]; exact op_eqD h.room.units) ha hb (r2_eq h1 h2) (nomark _)
theorem cp_ne (ha : ED G a ρ x) (hb : ED G b ρ y) (h1 : Dn 60 x.d) (h2 : Dn 60 y.d) : ED G (.Compare a [.NotEq] [b] pos) ρ (.sh (.bl (!deq x.d y.d))) ∧ TD G (.Compare a [.NotEq] [b] pos) ρ (!deq x.d y.d) :=
  cmpB (r := rNeD G.U.K) (fun X h => by rw [← h.K]; exact op_neD h.room.units) ha hb (r2_ne h1 h2) (nomark _)
theorem room65 {k : Nat} {A : Around} (r : Room k A) : A.units + 65 < cLine := by have := r.un; omega
theorem cp_in {ds : List D} (ha : ED G a ρ x) (hb : ED G b ρ y) (hy : y.ls = some ds) (h1 : Dn 60 x.d) (h2 : ∀ d ∈ ds, Dn 58 d) (hm : behindInMarks .In b = false) :
    ED G (.Compare a [.In] [b] pos) ρ (.sh (.bl (ds.any fun z => deq z x.d))) ∧ TD G (.Compare a [.In] [b] pos) ρ (ds.any fun z => deq z x.d) :=
  cmpB (r := rInD G.U.K) (fun X h => by rw [← h.K]; exact op_inD (room65 h.room)) ha hb (r2_in hy h1 h2) hm
theorem cp_nin {ds : List D} (ha : ED G a ρ x) (hb : ED G b ρ y) (hy : y.ls = some ds) (h1 : Dn 60 x.d) (h2 : ∀ d ∈ ds, Dn 58 d) (hm : behindInMarks .NotIn b = false) :
    ED G (.Compare a [.NotIn] [b] pos) ρ (.sh (.bl (!ds.any fun z => deq z x.d))) ∧ TD G (.Compare a [.NotIn] [b] pos) ρ (!ds.any fun z => deq z x.d) :=
  cmpB (r := rNotInD G.U.K) (fun X h => by rw [← h.K]; exact op_notInD (room65 h.room)) ha hb (r2_nin hy h1 h2) hm
def D.isN : D → Bool
  | .non => true
  | _ => false
def Rs.isN : Rs → Bool
  | .sh d => d.isN
  | _ => false
theorem RepV.isN {U : Wd} {S H : Hp} {v : V} {r : Rs} (h : RepV U S H v r) : decide (v = .non) = r.isN := by
  cases r with
  | sh d => cases h <;> first | rfl | exact decide_eq_false fun z => nomatch z
  | fr ds =>
    obtain ⟨p, vs, rfl, _⟩ := h
    exact decide_eq_false fun z => nomatch z
  | ow ds =>
    obtain ⟨p, vs, rfl, _⟩ := h
    exact decide_eq_false fun z => nomatch z
theorem cp_isN {k p'} (ha : ED G a ρ x) : ED G (.Compare a [.Is] [.Constant .none k p'] pos) ρ (.sh (.bl x.isN)) ∧ TD G (.Compare a [.Is] [.Constant .none k p'] pos) ρ x.isN := by
  refine ⟨.of (fun X h => pe_cmp (pc_isN (pe_of h)) rfl) fun B S H σ ex sl Q q => ha B S H σ ex sl _ fun v S1 H1 g1 r1 => ?_, .of (fun X h => pt_cmp (pc_isN (pe_of h)) rfl) fun B S H σ ex sl Q q => ha B S H σ ex sl _ fun v S1 H1 g1 r1 => ?_⟩
  · rw [r1.toV.isN]
    exact q _ S1 H1 g1 (.bl _)
  · rw [r1.toV.isN]
    exact ⟨_, rfl, q S1 H1 g1⟩
theorem cp_notN {k p'} (ha : ED G a ρ x) : ED G (.Compare a [.IsNot] [.Constant .none k p'] pos) ρ (.sh (.bl (!x.isN))) ∧ TD G (.Compare a [.IsNot] [.Constant .none k p'] pos) ρ (!x.isN) := by
  refine ⟨.of (fun X h => pe_cmp (pc_notN (pe_of h)) rfl) fun B S H σ ex sl Q q => ha B S H σ ex sl _ fun v S1 H1 g1 r1 => ?_, .of (fun X h => pt_cmp (pc_notN (pe_of h)) rfl) fun B S H σ ex sl Q q => ha B S H σ ex sl _ fun v S1 H1 g1 r1 => ?_⟩
  · rw [r1.toV.isN]
    exact q _ S1 H1 g1 (.bl _)
  · rw [r1.toV.isN]
    exact ⟨_, rfl, q S1 H1 g1⟩
/-- a op b op' c on ints -/
theorem chainB {op op' : CmpOp} {f g : Int → Int → Bool} {k : Int} (ho : ∀ X, G.is X → OpR X (compareOp op) (rI0 fun i j => .bl (f i j))) (ho' : ∀ X, G.is X → OpR X (compareOp op') (rI0 fun i j => .bl (g i j)))
    (ha : ED G a ρ (.sh (.int i))) (hb : ED G b ρ (.sh (.int j))) (hc : ED G c ρ (.sh (.int k))) (hm : lastMarks [op, op'] [b, c] = false) : ED G (.Compare a [op, op'] [b, c] pos) ρ (.sh (.bl (f i j && g j k))) ∧ TD G (.Compare a [op, op'] [b, c] pos) ρ (f i j && g j k) := by
  have body : ∀ (B S H : Hp) (σ : L2.St), Ex S H → Slots G.U B S H σ ρ → ∀ Q : VK, (∀ v S' H', Go S H S' H' → v = .bl (f i j && g j k) → Q v H') → tChain (rI0 fun i j => .bl (f i j)) (rI0 fun i j => .bl (g i j)) (tG G a) (tG G b) (tG G c) σ H Q := fun B S H σ ex sl Q q =>
    ha B S H σ ex sl _ fun v S1 H1 g1 r1 => hb B S1 H1 σ g1.sh (sl.go g1) _ fun w S2 H2 g2 r2 => by
      cases r1
      cases r2
      refine ⟨i, j, rfl, rfl, f i j, rfl, ?_⟩
      cases hf : f i j with
      | false =>
        rw [if_neg Bool.false_ne_true]
        exact q _ S2 H2 (g1.trans g2) (by rw [hf]; rfl)
      | true =>
        rw [if_pos rfl]
        refine hc B S2 H2 σ g2.sh ((sl.go g1).go g2) _ fun u S3 H3 g3 r3 => ?_
        cases r3
        exact ⟨j, k, rfl, rfl, q _ S3 H3 ((g1.trans g2).trans g3) (by rw [hf]; rfl)⟩
  refine ⟨.of (fun X h => pe_chain (ho X h) (ho' X h) (pe_of h) (pe_of h) (pe_of h) (hm := hm)) fun B S H σ ex sl Q q => body B S H σ ex sl Q fun v S' H' g1 e => q v S' H' g1 (by rw [e]; exact .bl _), .of (fun X h => pt_chain (ho X h) (ho' X h) (pe_of h) (pe_of h) (pe_of h) (hm := hm)) fun B S H σ ex sl Q q => body B S H σ ex sl _ fun v S' H' g1 e => ⟨_, e, q S' H' g1⟩⟩
theorem ch_le_lt {k : Int} (ha : ED G a ρ (.sh (.int i))) (hb : ED G b ρ (.sh (.int j))) (hc : ED G c ρ (.sh (.int k))) (hm : lastMarks [.LtE, .Lt] [b, c] = false := by rfl) : ED G (.Compare a [.LtE, .Lt] [b, c] pos) ρ (.sh (.bl (decide (i ≤ j) && decide (j < k)))) ∧ TD G (.Compare a [.LtE, .Lt] [b, c] pos) ρ (decide (i ≤ j) && decide (j < k)) :=
  chainB (f := fun i j => decide (i ≤ j)) (g := fun i j => decide (i < j)) (fun _ _ => op_le) (fun _ _ => op_lt) ha hb hc hm
theorem ch_le_le {k : Int} (ha : ED G a ρ (.sh (.int i))) (hb : ED G b ρ (.sh (.int j))) (hc : ED G c ρ (.sh (.int k))) (hm : lastMarks [.LtE, .LtE] [b, c] = false := by rfl) : ED G (.Compare a [.LtE, .LtE] [b, c] pos) ρ (.sh (.bl (decide (i ≤ j) && decide (j ≤ k)))) ∧ TD G (.Compare a [.LtE, .LtE] [b, c] pos) ρ (decide (i ≤ j) && decide (j ≤ k)) :=
  chainB (f := fun i j => decide (i ≤ j)) (g := fun i j => decide (i ≤ j)) (fun _ _ => op_le) (fun _ _ => op_le) ha hb hc hm
/-! not, and, or -/
theorem ed_not {k : Bool} (ha : ED G a ρ (.sh (.bl k))) : ED G (.UnaryOp .Not a pos) ρ (.sh (.bl (!k))) := .of (fun X h => pe_not (pe_of h)) fun B S H σ ex sl Q q => ha B S H σ ex sl _ fun v S1 H1 g1 r1 => by
  cases r1
  exact ⟨k, rfl, q _ S1 H1 g1 (.bl _)⟩
theorem ed_one {op} (ha : ED G a ρ x) : ED G (.BoolOp op [a] pos) ρ x := .of (fun X h => pe_one (pe_of h)) ha.run
theorem ed_and {rest : List Expr} {k l : Bool} (ha : ED G a ρ (.sh (.bl k))) (hb : k = true → ED G (.BoolOp .And (b :: rest) pos) ρ (.sh (.bl l))) : ED G (.BoolOp .And (a :: b :: rest) pos) ρ (.sh (.bl (k && l))) :=
  .of (fun X h => pe_and (pe_of h) (pe_of h)) fun B S H σ ex sl Q q => ha B S H σ ex sl _ fun v S1 H1 g1 r1 => by
    cases r1
    refine ⟨k, rfl, ?_⟩
    cases k with
    | false => exact q _ S1 H1 g1 (.bl _)
    | true => exact hb rfl B S1 H1 σ g1.sh (sl.go g1) Q fun u S2 H2 g2 r2 => q u S2 H2 (g1.trans g2) (r2.base g1.bh)
theorem ed_or {rest : List Expr} {k l : Bool} (ha : ED G a ρ (.sh (.bl k))) (hb : k = false → ED G (.BoolOp .Or (b :: rest) pos) ρ (.sh (.bl l))) : ED G (.BoolOp .Or (a :: b :: rest) pos) ρ (.sh (.bl (k || l))) :=
  .of (fun X h => pe_or (pe_of h) (pe_of h)) fun B S H σ ex sl Q q => ha B S H σ ex sl _ fun v S1 H1 g1 r1 => by
    cases r1
    refine ⟨k, rfl, ?_⟩
    cases k with
    | true => exact q _ S1 H1 g1 (.bl _)
    | false => exact hb rfl B S1 H1 σ g1.sh (sl.go g1) Q fun u S2 H2 g2 r2 => q u S2 H2 (g1.trans g2) (r2.base g1.bh)
def tGW (G : Gx) (e : Expr) : TT := fun σ H Q => ∀ X, G.is X → ∀ whole pins s, Inv X pins σ H s → wpAny (model X.prog X.w) X.A (isTrue e X.env whole) (TP X pins σ Q) X.xe s
theorem pw_of {X : Cx} (h : G.is X) : PW X e (tGW G e) := ⟨fun wh pins s σ H Q I q => q X h wh pins s I⟩
structure TW (G : Gx) (e : Expr) (ρ : List Sl) (b : Bool) : Prop where
  run : EvT G.U (tGW G e) ρ b
instance {G : Gx} {e : Expr} {ρ : List Sl} {r : Bool} : CoeFun (TW G e ρ r) fun _ => EvT G.U (tGW G e) ρ r := ⟨fun h => h.run⟩
theorem TW.of {te : TT} {k : Bool} (h : ∀ X, G.is X → PW X e te) (ev : EvT G.U te ρ k) : TW G e ρ k := ⟨fun B S H σ x sl Q q X hX wh pins s I => (h X hX).run wh pins s σ H Q I (ev B S H σ x sl Q q)⟩
theorem td_bool {k : Bool} (h : TW G e ρ k) : TD G e ρ k := .of (fun X hX => (pw_of hX).pt) h.run
theorem tw_and1 {k : Bool} (ha : TD G a ρ k) : TW G (.BoolOp .And [a] pos) ρ k := .of (fun X h => pw_and1 (pt_of h)) ha.run
theorem tw_or1 {k : Bool} (ha : TD G a ρ k) : TW G (.BoolOp .Or [a] pos) ρ k := .of (fun X h => pw_or1 (pt_of h)) ha.run
theorem tw_and {rest : List Expr} {k l : Bool} (ha : TD G a ρ k) (hb : k = true → TW G (.BoolOp .And (b :: rest) pos) ρ l) : TW G (.BoolOp .And (a :: b :: rest) pos) ρ (k && l) :=
  .of (fun X h => pw_and (pt_of h) (pw_of h)) fun B S H σ ex sl Q q => ha B S H σ ex sl _ fun S1 H1 g1 => by
    cases k with
    | false => exact q S1 H1 g1
    | true => exact hb rfl B S1 H1 σ g1.sh (sl.go g1) Q fun S2 H2 g2 => q S2 H2 (g1.trans g2)
theorem tw_or {rest : List Expr} {k l : Bool} (ha : TD G a ρ k) (hb : k = false → TW G (.BoolOp .Or (b :: rest) pos) ρ l) : TW G (.BoolOp .Or (a :: b :: rest) pos) ρ (k || l) :=
  .of (fun X h => pw_or (pt_of h) (pw_of h)) fun B S H σ ex sl Q q => ha B S H σ ex sl _ fun S1 H1 g1 => by
    cases k with
    | true => exact q S1 H1 g1
    | false => exact hb rfl B S1 H1 σ g1.sh (sl.go g1) Q fun S2 H2 g2 => q S2 H2 (g1.trans g2)
theorem td_not {k : Bool} (ha : TD G a ρ k) : TD G (.UnaryOp .Not a pos) ρ (!k) := .of (fun X h => pt_not (pt_of h)) fun B S H σ ex sl Q q => ha B S H σ ex sl _ fun S1 H1 g1 => q S1 H1 g1
theorem td_val {k : Bool} (h : ED G e ρ (.sh (.bl k))) (he : ∀ env whole, isTrue e env whole = (do let v ← whole; standAt e.pos; holding [v] (truthy v)) := by intros; rfl) : TD G e ρ k :=
  .of (fun X hX => pt_val (pe_of hX) (he X.env)) fun B S H σ ex sl Q q => h B S H σ ex sl _ fun v S1 H1 g1 r1 => by
    cases r1
    exact ⟨k, rfl, q S1 H1 g1⟩
theorem ed_ifExp {t : Expr} {k : Bool} (ht : TD G t ρ k) (ha : k = true → ED G a ρ x) (hb : k = false → ED G b ρ x) : ED G (.IfExp t a b pos) ρ x := .of (fun X h => pe_ifExp (pt_of h) (pe_of h) (pe_of h)) fun B S H σ ex sl Q q => ht B S H σ ex sl _ fun S1 H1 g1 => by
  cases k with
  | true => exact ha rfl B S1 H1 σ g1.sh (sl.go g1) Q fun u S2 H2 g2 r2 => q u S2 H2 (g1.trans g2) (r2.base g1.bh)
  | false => exact hb rfl B S1 H1 σ g1.sh (sl.go g1) Q fun u S2 H2 g2 r2 => q u S2 H2 (g1.trans g2) (r2.base g1.bh)
/-! subscripts -/
theorem ed_ixL {ds : List D} {d : D} (ha : ED G a ρ x) (hb : ED G b ρ (.sh (.int i))) (hx : x.ls = some ds) (h : atI ds i = some d) (hs : PlainIx b := by intros _ _; rfl) : ED G (.Subscript a b pos) ρ (.sh d) :=
  .of (te := tOp (rIxL G.U.K) (tG G a) (tG G b)) (fun X k => by rw [← k.K]; exact pe_ix ix_list (pe_of k) (pe_of k) hs) (ev_op ha.run hb.run (r2_ixL hx h))
theorem ed_ixT {ds : List D} {d : D} (ha : ED G a ρ (.sh (.tup ds))) (hb : ED G b ρ (.sh (.int i))) (h : atI ds i = some d) (hs : PlainIx b := by intros _ _; rfl) : ED G (.Subscript a b pos) ρ (.sh d) :=
  .of (te := tOp (rIxT G.U.K) (tG G a) (tG G b)) (fun X k => by rw [← k.K]; exact pe_ix ix_tup (pe_of k) (pe_of k) hs) (ev_op ha.run hb.run (r2_ixT h))
theorem ed_ixS {ns : List Int} {n : Int} (ha : ED G a ρ (.sh (.scr ns))) (hb : ED G b ρ (.sh (.int i))) (h : atI ns i = some n) (hs : PlainIx b := by intros _ _; rfl) : ED G (.Subscript a b pos) ρ (.sh (.int n)) :=
  .of (te := tOp (rIxL G.U.K) (tG G a) (tG G b)) (fun X k => by rw [← k.K]; exact pe_ix ix_list (pe_of k) (pe_of k) hs) (ev_op ha.run hb.run (r2_ixS h))
/-! slices of lists -/
def cutD {α : Type} (xs : List α) (lo hi : Option Int) : List α := (xs.drop (HT.sIx xs.length 0 lo)).take (HT.sIx xs.length xs.length hi - HT.sIx xs.length 0 lo)
def OD (G : Gx) (e : Option Expr) (ρ : List Sl) (o : Option Int) : Prop := ∃ to : TO, (∀ X, G.is X → PO X e to) ∧ ∀ (B S H : Hp) (σ : L2.St), Ex S H → Slots G.U B S H σ ρ → ∀ Q : Option Int → Hp → Prop, (∀ S' H', Go S H S' H' → Q o H') → to σ H Q
theorem od_none : OD G none ρ none := ⟨_, fun _ _ => po_none, fun B S H σ ex sl Q q => q S H (Go.refl ex)⟩
theorem od_some (h : ED G a ρ (.sh (.int i))) : OD G (some a) ρ (some i) := ⟨_, fun _ k => po_some (pe_of k), fun B S H σ ex sl Q q => h B S H σ ex sl _ fun v S1 H1 g1 r1 => by
  cases r1
  exact ⟨i, rfl, q S1 H1 g1⟩⟩
theorem ed_sl {ds : List D} {lo hi : Option Expr} {l u : Option Int} {p2 : Pos} (ha : ED G a ρ x) (hx : x.ls = some ds) (hl : OD G lo ρ l) (hu : OD G hi ρ u) : ED G (.Subscript a (.Slice lo hi none p2) pos) ρ (.fr (cutD ds l u)) := by
  obtain ⟨tl, pl, el⟩ := hl
  obtain ⟨tu, pu, eu⟩ := hu
  refine .of (te := tSl (rSlL G.U.K) (tG G a) tl tu) (fun X k => by rw [← k.K]; exact pe_slice sl_list (pe_of k) (pl X k) (pu X k)) fun B S H σ ex sl Q q => ?_
  refine ha B S H σ ex sl _ fun v S1 H1 g1 r1 => el B S1 H1 σ g1.sh (sl.go g1) _ fun S2 H2 g2 => eu B S2 H2 σ g2.sh ((sl.go g1).go g2) _ fun S3 H3 g3 => ?_
  obtain ⟨p, vs, rfl, h1, z, h4⟩ := (r1.toV.mono (g2.ss.trans g3.ss) (g2.bh.trans g3.bh)).list hx g3.sh
  refine ⟨p, vs, rfl, .of h1, fun a na => ?_⟩
  have ns : S3 a = none := g3.sh.back na
  have g13 := (g1.trans g2).trans g3
  refine q (.ref a) S3 _ ⟨g13.ss, g3.sh.trans (Ex.new na), g13.bh.trans (Ex.new na), g13.nw⟩ ⟨a, _, rfl, upd_same, ns, g13.bh.back na, Nat.le_trans (cutV_length _ _ _) z, ?_⟩
  unfold cutV cutD
  rw [h4.length]
  exact (h4.drop _).take _
/-! displays -/
theorem ad_nil : AD G [] ρ [] := .of (fun _ _ => pa_nil) fun B S H σ ex sl Q q => q [] S H (Go.refl ex) .nil
theorem ad_cons {es : List Expr} {d : D} {ds : List D} (h : ED G e ρ (.sh d)) (hr : AD G es ρ ds) (hs : ∀ env, starEach (e :: es) env = (false, eval e env) :: starEach es env := by intro _; rfl) : AD G (e :: es) ρ (d :: ds) :=
  .of (fun X k => pa_cons (pe_of k) (pa_of k) (hs _)) fun B S H σ ex sl Q q => h B S H σ ex sl _ fun v S1 H1 g1 r1 => hr B S1 H1 σ g1.sh (sl.go g1) _ fun vs S2 H2 g2 r2 =>
    q (v :: vs) S2 H2 (g1.trans g2) (.cons (Rep.mono g2.ss r1) r2)
theorem ed_tup {es : List Expr} {ds : List D} {k} (h : AD G es ρ ds) (hz : ds.length ≤ sizeLine) : ED G (.Tuple es k pos) ρ (.sh (.tup ds)) := .of (fun X k => pe_tup (pa_of k)) fun B S H σ ex sl Q q => h B S H σ ex sl _ fun vs S1 H1 g1 r1 => by
  have z : vs.length ≤ sizeLine := by rw [r1.length]; exact hz
  refine ⟨z, fun p hp => ?_⟩
  have hs : S1 p = none := g1.sh.back hp
  have g2 : Go S H S1 (upd H1 p (.tup vs)) := ⟨g1.ss, g1.sh.trans (Ex.new hp), g1.bh.trans (Ex.new hp), g1.nw⟩
  exact q (.ref p) (upd S1 p (.tup vs)) _ (g2.add upd_same hs (g1.bh.back hp)) (.tup upd_same z (r1.mono (Ex.new hs)))
theorem ed_lst {es : List Expr} {ds : List D} (h : AD G es ρ ds) (hz : ds.length ≤ sizeLine) : ED G (.List es pos) ρ (.fr ds) := .of (fun X k => pe_lst (pa_of k)) fun B S H σ ex sl Q q => h B S H σ ex sl _ fun vs S1 H1 g1 r1 => by
  have z : vs.length ≤ sizeLine := by rw [r1.length]; exact hz
  refine ⟨z, fun p hp => ?_⟩
  have hs : S1 p = none := g1.sh.back hp
  exact q (.ref p) S1 _ ⟨g1.ss, g1.sh.trans (Ex.new hp), g1.bh.trans (Ex.new hp), g1.nw⟩ ⟨p, vs, rfl, upd_same, hs, g1.bh.back hp, z, r1⟩
/-- what is owned may be read; only a plain value comes of it -/
def thaw (ρ : List Sl) : List Sl := ρ.map fun
  | .own ds => .sh (.lst ds)
  | s => s
def D.scalar : D → Bool
  | .non => true
  | .bl _ => true
  | .int _ => true
  | _ => false
theorem scalar_rep {U : Wd} {S S' : Hp} {v : V} {d : D} (hd : d.scalar = true) (h : Rep U S v d) : Rep U S' v d := by
  cases h <;> first | (cases hd; done) | constructor
end
end Mb
set_option Elab.async false
set_option linter.all false
set_option maxRecDepth 100000
set_option maxHeartbeats 4000000
namespace Mb
open PySem PySem.Spec PyProof.Rows L2

/-! ### what is owned is read for a plain value -/
section
variable {G : Gx} {ρ : List Sl} {a b c e : Expr} {pos : Pos} {x y z : Rs}
theorem slots_thaw {U : Wd} {B S H : Hp} {σ : L2.St} (ex : Ex S H) (sl : Slots U B S H σ ρ) : ∃ S1, Ex S S1 ∧ Ex S1 H ∧ Slots U (fun _ => none) S1 H σ (thaw ρ) := by
  classical
  let P : Addr → Prop := fun a => ∃ (i : Nat) (ds : List D), ρ[i]? = some (Sl.own ds) ∧ σ[i]? = some (some (V.ref a))
  let S1 : Hp := fun a => if P a then H a else S a
  have e1 : Ex S S1 := fun a o h => by
    show (if P a then H a else S a) = some o
    by_cases p : P a
    · rw [if_pos p]
      exact ex a o h
    · rw [if_neg p]
      exact h
  refine ⟨S1, e1, fun a o h => ?_, by rw [sl.len, thaw, List.length_map], fun i d h => ?_, fun i ds h => ?_, fun i j ds es p h => ?_, sl.nw⟩
  · have h : (if P a then H a else S a) = some o := h
    by_cases p : P a
    · rw [if_pos p] at h
      exact h
    · rw [if_neg p] at h
      exact ex a o h
  · unfold thaw at h
    rw [List.getElem?_map] at h
    cases q : ρ[i]? with
    | none =>
      rw [q] at h
      cases h
    | some s =>
      rw [q] at h
      cases s with
      | no => cases h
      | sh d' =>
        obtain rfl : d' = d := by
          have := Option.some.inj h
          injection this
        obtain ⟨v, h1, h2⟩ := sl.sh i _ q
        exact ⟨v, h1, h2.mono e1⟩
      | own ds =>
        obtain rfl : D.lst ds = d := by
          have := Option.some.inj h
          injection this
        obtain ⟨p, vs, h1, h2, h3, h4, zz, h5⟩ := sl.own i _ q
        refine ⟨_, h1, .lst (xs := vs) ?_ zz (h5.mono e1)⟩
        show (if P p then H p else S p) = _
        rw [if_pos ⟨i, ds, q, h1⟩]
        exact h2
  · unfold thaw at h
    rw [List.getElem?_map] at h
    cases q : ρ[i]? with
    | none =>
      rw [q] at h
      cases h
    | some s =>
      rw [q] at h
      cases s <;> cases h
  · unfold thaw at h
    rw [List.getElem?_map] at h
    cases q : ρ[i]? with
    | none =>
      rw [q] at h
      cases h
    | some s =>
      rw [q] at h
      cases s <;> cases h
theorem ed_thaw {d : D} (h : ED G e (thaw ρ) (.sh d)) (hd : d.scalar = true := by rfl) : ED G e ρ (.sh d) := ⟨fun B S H σ ex sl Q q => by
  obtain ⟨S1, e1, e2, s1⟩ := slots_thaw ex sl
  refine h _ S1 H σ e2 s1 Q fun v S' H' g r => ?_
  exact q v S H' ⟨Ex.refl S, (e1.trans g.ss).trans g.sh, g.bh, fun _ h => .inl h⟩ (scalar_rep hd r)⟩
theorem td_thaw {k : Bool} (h : TD G e (thaw ρ) k) : TD G e ρ k := ⟨fun B S H σ ex sl Q q => by
  obtain ⟨S1, e1, e2, s1⟩ := slots_thaw ex sl
  refine h _ S1 H σ e2 s1 Q fun S' H' g => ?_
  exact q S H' ⟨Ex.refl S, (e1.trans g.ss).trans g.sh, g.bh, fun _ h => .inl h⟩⟩

/-! ### built-ins -/
abbrev GlN (G : Gx) (n : Str) : Prop := G.sc.names.lookup n = some .globalImplicit
theorem gl_of {n : Str} {X : Cx} (hX : G.is X) (hg : GlN G n) : Gl X n := by
  show X.env.scope.names.lookup n = _
  rw [hX.sc]
  exact hg
/-- one value in, one out -/
def R1D (U : Wd) (r : List V → Hp → VK → Prop) (x z : Rs) : Prop := ∀ (S H : Hp) (v : V), Ex S H → RepV U S H v x → ∀ Q : VK, (∀ u S' H', Go S H S' H' → RepR U H S' H' u z → Q u H') → r [v] H Q
theorem r1_val {U : Wd} {r : List V → Hp → VK → Prop} {d : D} (h : ∀ S H v, Ex S H → RepV U S H v x → ∀ Q : VK, (∀ u, Rep U S u d → Q u H) → r [v] H Q) : R1D U r x (.sh d) := fun S H v e rv Q q => h S H v e rv Q fun u ru => q u S H (Go.refl e) ru
theorem ev_b1 {U : Wd} {ta : TE} {r : List V → Hp → VK → Prop} (ha : EvD U ta ρ x) (hr : R1D U r x z) : EvD U (tCB r (tCons ta tNil)) ρ z := fun B S H σ ex sl Q q =>
  ha B S H σ ex sl _ fun v S1 H1 g1 r1 => hr S1 H1 v g1.sh r1.toV Q fun u S2 H2 g2 r2 => q u S2 H2 (g1.trans g2) (r2.base g1.bh)
abbrev Star1 (a : Expr) : Prop := ∀ env, starEach (a :: []) env = (false, eval a env) :: starEach [] env
theorem ed_b1 {n : Str} {id : String} {p : Pos} {r : List V → Hp → VK → Prop} (hc : ∀ X, G.is X → CallR X (.builtin id) r) (hg : GlN G n) (hm : G.U.mg n = none) (hb : bootBuiltins n = some (.builtin id)) (hn : n ≠ "__name__") (hd : (n == ("__debug__" : Str)) = false)
    (hs : Star1 a) (ha : ED G a ρ x) (hr : R1D G.U r x z) : ED G (.Call (.Name n p) [a] [] pos) ρ z :=
  .of (fun X h => pe_callB (hc X h) (gl_of h hg) (by rw [h.mg]; exact hm) hb (pa_cons (pe_of h) pa_nil (hs := hs _)) hn hd (hs _)) (ev_b1 ha.run hr)
theorem ed_t1 {n : Str} {id : String} {p : Pos} {r : List V → Hp → VK → Prop} (hc : ∀ X, G.is X → CallR X (.type id) r) (hg : GlN G n) (hm : G.U.mg n = none) (hb : bootBuiltins n = some (.type id)) (hn : n ≠ "__name__") (hd : (n == ("__debug__" : Str)) = false)
    (hs : Star1 a) (ha : ED G a ρ x) (hr : R1D G.U r x z) : ED G (.Call (.Name n p) [a] [] pos) ρ z :=
  .of (fun X h => pe_callTy (hc X h) (gl_of h hg) (by rw [h.mg]; exact hm) hb (pa_cons (pe_of h) pa_nil (hs := hs _)) hn hd (hs _)) (ev_b1 ha.run hr)
/-- how many: a list, a tuple, the script -/
def Rs.len : Rs → Option Nat
  | .sh (.lst ds) => some ds.length
  | .sh (.nls ds) => some ds.length
  | .sh (.tup ds) => some ds.length
  | .sh (.scr ns) => some ns.length
  | .fr ds => some ds.length
  | .ow ds => some ds.length
  | _ => none
theorem r1_len {U : Wd} {n : Nat} (hn : x.len = some n) : R1D U (fun xs H Q => ∃ p ys, xs = [.ref p] ∧ (SqL U.K H p ys ∨ SqT U.K H p ys) ∧ Q (.int ys.length) H) x (.sh (.int n)) := r1_val fun S H v e rv Q q => by
  cases x with
  | sh d =>
    cases rv with
    | lst h1 z h2 =>
      obtain rfl := Option.some.inj (show some _ = some n from hn)
      exact ⟨_, _, rfl, .inl (.of (e _ _ h1)), by rw [h2.length]; exact q _ (.int _)⟩
    | nls h1 z h2 _ =>
      obtain rfl := Option.some.inj (show some _ = some n from hn)
      exact ⟨_, _, rfl, .inl (.of (e _ _ h1)), by rw [h2.length]; exact q _ (.int _)⟩
    | tup h1 z h2 =>
      obtain rfl := Option.some.inj (show some _ = some n from hn)
      exact ⟨_, _, rfl, .inr (.of (e _ _ h1)), by rw [h2.length]; exact q _ (.int _)⟩
    | scr h1 =>
      obtain rfl := Option.some.inj (show some _ = some n from hn)
      exact ⟨_, _, rfl, .inl (e.sql h1), by rw [List.length_map]; exact q _ (.int _)⟩
    | _ => cases hn
  | fr ds =>
    obtain rfl := Option.some.inj (show some _ = some n from hn)
    obtain ⟨p, vs, rfl, h1, z, h4⟩ := rv
    exact ⟨p, vs, rfl, .inl (.of h1), by rw [h4.length]; exact q _ (.int _)⟩
  | ow ds =>
    obtain rfl := Option.some.inj (show some _ = some n from hn)
    obtain ⟨p, vs, rfl, h1, z, h4⟩ := rv
    exact ⟨p, vs, rfl, .inl (.of h1), by rw [h4.length]; exact q _ (.int _)⟩
/-- the names of built-ins, not taken by the module -/
structure Bl (mg : Str → Option Value) : Prop where
  len : mg "len" = none
  list : mg "list" = none
  all : mg "all" = none
  any : mg "any" = none
  sorted : mg "sorted" = none
  sum : mg "sum" = none
  max : mg "max" = none
  min : mg "min" = none
  int : mg "int" = none
  bool : mg "bool" = none
  tuple : mg "tuple" = none
  isinstance : mg "isinstance" = none
  range : mg "range" = none
  reversed : mg "reversed" = none
variable {p : Pos} (T : Bl G.U.mg)
include T
theorem ed_len {n : Nat} (ha : ED G a ρ x) (hn : x.len = some n) (hg : GlN G "len") (hs : Star1 a := by intro _; rfl) : ED G (.Call (.Name "len" p) [a] [] pos) ρ (.sh (.int n)) :=
  ed_b1 (id := "len") (fun X h => by rw [← h.K]; exact call_len_seq) hg T.len PySem.boot_len (by decide) (by rfl) hs ha (r1_len hn)
theorem ed_list {ds : List D} (ha : ED G a ρ x) (hx : x.ls = some ds) (hg : GlN G "list") (hs : Star1 a := by intro _; rfl) : ED G (.Call (.Name "list" p) [a] [] pos) ρ (.fr ds) :=
  ed_t1 (id := "list") (r := fun xs H Q => ∃ p ys, xs = [.ref p] ∧ (SqL G.U.K H p ys ∨ SqT G.U.K H p ys) ∧ ∀ l, H l = none → Q (.ref l) (upd H l (.lst ys))) (fun X h => by rw [← h.K]; exact call_list_of) hg T.list (by decide +kernel) (by decide) (by rfl) hs ha fun S H v e rv Q q => by
    obtain ⟨p, vs, rfl, h1, z, h4⟩ := rv.list hx e
    refine ⟨p, vs, rfl, .inl (.of h1), fun l hl => ?_⟩
    exact q (.ref l) S _ ⟨Ex.refl S, e.trans (Ex.new hl), Ex.new hl, fun _ h => .inl h⟩ ⟨l, vs, rfl, upd_same, e.back hl, hl, z, h4⟩
theorem ed_all {α : Type} {xs : List α} {f : α → Bool} (ha : ED G a ρ x) (hx : x.ls = some (xs.map fun i => D.bl (f i))) (hg : GlN G "all") (hs : Star1 a := by intro _; rfl) : ED G (.Call (.Name "all" p) [a] [] pos) ρ (.sh (.bl (xs.all f))) :=
  ed_b1 (id := "all") (r := rAll G.U.K) (fun X h => by rw [← h.K]; exact cr_all h.calm) hg T.all (by decide +kernel) (by decide) (by rfl) hs ha (r1_val fun S H v e rv Q q => by
    obtain ⟨p, vs, rfl, h1, z, h4⟩ := rv.list hx e
    have e2 : vs = (xs.map f).map V.bl := RepL.bls (U := G.U) (S := S) (by rw [List.map_map]; exact h4)
    subst e2
    refine ⟨p, _, rfl, .of h1, ?_⟩
    rw [List.all_map]
    exact q _ (.bl _))
theorem ed_any {α : Type} {xs : List α} {f : α → Bool} (ha : ED G a ρ x) (hx : x.ls = some (xs.map fun i => D.bl (f i))) (hg : GlN G "any") (hs : Star1 a := by intro _; rfl) : ED G (.Call (.Name "any" p) [a] [] pos) ρ (.sh (.bl (xs.any f))) :=
  ed_b1 (id := "any") (r := rAny G.U.K) (fun X h => by rw [← h.K]; exact cr_any h.calm) hg T.any (by decide +kernel) (by decide) (by rfl) hs ha (r1_val fun S H v e rv Q q => by
    obtain ⟨p, vs, rfl, h1, z, h4⟩ := rv.list hx e
    have e2 : vs = (xs.map f).map V.bl := RepL.bls (U := G.U) (S := S) (by rw [List.map_map]; exact h4)
    subst e2
    refine ⟨p, _, rfl, .of h1, ?_⟩
    rw [List.any_map]
    exact q _ (.bl _))
theorem ed_sum {ns : List Int} (ha : ED G a ρ x) (hx : x.ls = some (ns.map D.int)) (hg : GlN G "sum") (hs : Star1 a := by intro _; rfl) : ED G (.Call (.Name "sum" p) [a] [] pos) ρ (.sh (.int ns.sum)) :=
  ed_b1 (id := "sum") (r := rSum G.U.K) (fun X h => by rw [← h.K]; exact cr_sum h.calm) hg T.sum (by decide +kernel) (by decide) (by rfl) hs ha (r1_val fun S H v e rv Q q => by
    obtain ⟨p, vs, rfl, h1, z, h4⟩ := rv.list hx e
    have e2 := RepL.ints h4
    subst e2
    exact ⟨p, _, rfl, .of h1, q _ (.int _)⟩)
/-- sorted, of whole numbers -/
def isort (ns : List Int) : List Int := ns.mergeSort fun a b => decide (a ≤ b)
omit T in
theorem isort_perm (ns : List Int) : (isort ns).Perm ns := List.mergeSort_perm _ _
omit T in
theorem isort_le (ns : List Int) : (isort ns).Pairwise (· ≤ ·) := by
  have h := List.pairwise_mergeSort (le := fun a b : Int => decide (a ≤ b)) (fun a b c h1 h2 => decide_eq_true (Int.le_trans (of_decide_eq_true h1) (of_decide_eq_true h2))) (fun a b => by
    rcases Int.le_total a b with h | h
    · simp [h]
    · simp [h]) ns
  exact h.imp fun h => of_decide_eq_true h
omit T in
theorem sorted_one : ∀ {xs ys : List Int}, xs.Perm ys → xs.Pairwise (· ≤ ·) → ys.Pairwise (· ≤ ·) → xs = ys
  | [], ys, h, _, _ => (List.Perm.nil_eq h)
  | x :: xs, [], h, _, _ => absurd h.length_eq (by simp)
  | x :: xs, y :: ys, h, hx, hy => by
    have a := List.pairwise_cons.mp hx
    have b := List.pairwise_cons.mp hy
    have e : x = y := by
      have h1 : x ∈ y :: ys := h.mem_iff.mp List.mem_cons_self
      have h2 : y ∈ x :: xs := h.mem_iff.mpr List.mem_cons_self
      have l1 : y ≤ x := by
        rcases List.mem_cons.mp h1 with e | m
        · omega
        · exact b.1 x m
      have l2 : x ≤ y := by
        rcases List.mem_cons.mp h2 with e | m
        · omega
        · exact a.1 y m
      omega
    subst e
    rw [sorted_one h.cons_inv a.2 b.2]
theorem ed_sorted {ns : List Int} (ha : ED G a ρ x) (hx : x.ls = some (ns.map D.int)) (hg : GlN G "sorted") (hs : Star1 a := by intro _; rfl) : ED G (.Call (.Name "sorted" p) [a] [] pos) ρ (.fr ((isort ns).map D.int)) :=
  ed_b1 (id := "sorted") (r := rSortedI G.U.K) (fun X h => by rw [← h.K]; exact cr_sortedI) hg T.sorted (by decide +kernel) (by decide) (by rfl) hs ha fun S H v e rv Q q => by
    obtain ⟨p, vs, rfl, h1, z, h4⟩ := rv.list hx e
    have e2 := RepL.ints h4
    subst e2
    refine ⟨p, ns, rfl, .of h1, fun ns' l hp hw hl => ?_⟩
    have e3 : ns' = isort ns := sorted_one (hp.trans (isort_perm ns).symm) hw (isort_le ns)
    subst e3
    exact q (.ref l) S _ ⟨Ex.refl S, e.trans (Ex.new hl), Ex.new hl, fun _ h => .inl h⟩ ⟨l, _, rfl, upd_same, e.back hl, hl, by rw [List.length_map, (isort_perm ns).length_eq]; rw [List.length_map] at z; exact z, RepL.ofInts _⟩
theorem ed_intB {k : Bool} (ha : ED G a ρ (.sh (.bl k))) (hg : GlN G "int") (hs : Star1 a := by intro _; rfl) : ED G (.Call (.Name "int" p) [a] [] pos) ρ (.sh (.int (if k then 1 else 0))) :=
  ed_t1 (id := "int") (fun X h => call_int1) hg T.int (by decide +kernel) (by decide) (by rfl) hs ha (r1_val fun S H v e rv Q q => by
    cases rv
    exact .inr ⟨k, rfl, q _ (.int _)⟩)
omit T in
theorem ev_b2 {U : Wd} {ta tb : TE} {r : List V → Hp → VK → Prop} (ha : EvD U ta ρ x) (hb : EvD U tb ρ y) (hr : R2D U (fun v w H Q => r [v, w] H Q) x y z) : EvD U (tCB r (tCons ta (tCons tb tNil))) ρ z := fun B S H σ e sl Q q =>
  ha B S H σ e sl _ fun v S1 H1 g1 r1 => hb B S1 H1 σ g1.sh (sl.go g1) _ fun w S2 H2 g2 r2 =>
    hr S2 H2 v w g2.sh (r1.toV.mono g2.ss g2.bh) r2.toV Q fun u S3 H3 g3 r3 => q u S3 H3 ((g1.trans g2).trans g3) (r3.base (g1.bh.trans g2.bh))
omit T in
abbrev Star2 (a b : Expr) : Prop := (∀ env, starEach (a :: [b]) env = (false, eval a env) :: starEach [b] env) ∧ Star1 b ∧ ∀ env (pos : Pos), (backTo pos (starEach [b] env)).any (·.1) = false
omit T in
theorem ed_b2 {n : Str} {id : String} {p : Pos} {r : List V → Hp → VK → Prop} (hc : ∀ X, G.is X → CallR X (.builtin id) r) (hg : GlN G n) (hm : G.U.mg n = none) (hb : bootBuiltins n = some (.builtin id)) (hn : n ≠ "__name__") (hd : (n == ("__debug__" : Str)) = false)
    (hs : Star2 a b) (ha : ED G a ρ x) (hbb : ED G b ρ y) (hr : R2D G.U (fun v w H Q => r [v, w] H Q) x y z) : ED G (.Call (.Name n p) [a, b] [] pos) ρ z :=
  .of (fun X h => pe_callB (hc X h) (gl_of h hg) (by rw [h.mg]; exact hm) hb (pa_cons (pe_of h) (pa_cons (pe_of h) pa_nil (hs := hs.2.1 _)) (hs := hs.1 _)) hn hd (hs.1 _) (hs.2.2 _ _)) (ev_b2 ha.run hbb.run hr)
theorem ed_max {i j : Int} (ha : ED G a ρ (.sh (.int i))) (hb : ED G b ρ (.sh (.int j))) (hg : GlN G "max") (hs : Star2 a b := by exact ⟨by intro _; rfl, by intro _; rfl, by intros; rfl⟩) : ED G (.Call (.Name "max" p) [a, b] [] pos) ρ (.sh (.int (if j > i then j else i))) :=
  ed_b2 (id := "max") (fun X h => call_max2 h.calm) hg T.max (by decide +kernel) (by decide) (by rfl) hs ha hb (r2_val fun S H v w e rv rw Q q => by
    cases rv
    cases rw
    exact ⟨i, j, rfl, q _ (.int _)⟩)
theorem ed_min {i j : Int} (ha : ED G a ρ (.sh (.int i))) (hb : ED G b ρ (.sh (.int j))) (hg : GlN G "min") (hs : Star2 a b := by exact ⟨by intro _; rfl, by intro _; rfl, by intros; rfl⟩) : ED G (.Call (.Name "min" p) [a, b] [] pos) ρ (.sh (.int (if j < i then j else i))) :=
  ed_b2 (id := "min") (fun X h => call_min2 h.calm) hg T.min (by decide +kernel) (by decide) (by rfl) hs ha hb (r2_val fun S H v w e rv rw Q q => by
    cases rv
    cases rw
    exact ⟨i, j, rfl, q _ (.int _)⟩)
/-- the built-in type of a value -/
def Rs.tyN : Rs → Option String
  | .sh .non => some "NoneType"
  | .sh (.bl _) => some "bool"
  | .sh (.int _) => some "int"
  | .sh (.lst _) => some "list"
  | .sh (.nls _) => some "list"
  | .sh (.tup _) => some "tuple"
  | .fr _ => some "list"
  | .ow _ => some "list"
  | _ => none
omit T in
theorem RepV.ty {U : Wd} {S H : Hp} {v : V} {r : Rs} {t : String} (h : RepV U S H v r) (e : Ex S H) (ht : r.tyN = some t) : TyX U.K H v (.type t) := by
  cases r with
  | sh d =>
    cases h with
    | non => cases ht; exact .base .non
    | bl b => cases ht; exact .base (.bl b)
    | int b => cases ht; exact .base (.int b)
    | lst h1 _ _ => cases ht; exact .base (.lst (e _ _ h1))
    | nls h1 _ _ _ => cases ht; exact .base (.lst (e _ _ h1))
    | tup h1 _ _ => cases ht; exact .base (.tup (e _ _ h1))
    | _ => cases ht
  | fr ds =>
    obtain ⟨p, vs, rfl, h1, z, h4⟩ := h
    cases ht
    exact .base (.lst h1)
  | ow ds =>
    obtain ⟨p, vs, rfl, h1, z, h4⟩ := h
    cases ht
    exact .base (.lst h1)
theorem ed_isi {t u : String} {k : Bool} (ha : ED G a ρ x) (hb : ED G b ρ (.sh (.ty u))) (ht : x.tyN = some t) (hk : kitB t u = some k) (hg : GlN G "isinstance") (hs : Star2 a b := by exact ⟨by intro _; rfl, by intro _; rfl, by intros; rfl⟩) :
    ED G (.Call (.Name "isinstance" p) [a, b] [] pos) ρ (.sh (.bl k)) :=
  ed_b2 (id := "isinstance") (r := rIsi G.U.K) (fun X h => by rw [← h.K]; exact call_isi) hg T.isinstance PyProof.Rows.boot_isinstance (by decide) (by rfl) hs ha hb (r2_val fun S H v w e rv rw Q q => by
    cases rw
    exact ⟨v, .ty u, .type t, .type u, k, rfl, .ty u, rv.ty e ht, kit_ty hk, q _ (.bl _)⟩)
/-- list(range(n)) -/
theorem ed_listRange {i : Int} {pr pos' : Pos} (ha : ED G a ρ (.sh (.int i))) (h1 : i ≤ 16777216) (h0 : -16777216 ≤ i) (hg : GlN G "list") (hg2 : GlN G "range") (hs : Star1 a := by intro _; rfl) :
    ED G (.Call (.Name "list" p) [.Call (.Name "range" pr) [a] [] pos'] [] pos) ρ (.fr ((List.range i.toNat).map fun (j : Nat) => D.int (j : Int))) :=
  .of (te := tLstRg (tRg1 (tG G a))) (fun X h => pe_listRg h.calm (gl_of h hg) (by rw [h.mg]; exact T.list) (prg_1 (gl_of h hg2) (by rw [h.mg]; exact T.range) (pe_of h) (hs _)) rfl) fun B S H σ ex sl Q q => ha B S H σ ex sl _ fun v S1 H1 g1 r1 => by
    cases r1
    refine ⟨i, rfl, ⟨by omega, by omega, by omega, by omega, ?_⟩, fun l hl => ?_⟩
    · have : (2 : Nat) ^ 24 = 16777216 := by decide
      omega
    · have e : rgV 0 i = (List.range i.toNat).map fun (j : Nat) => V.int (j : Int) := by
        unfold rgV
        rw [Int.sub_zero]
        exact List.map_congr_left fun j _ => by rw [Int.zero_add]
      have z : (rgV 0 i).length ≤ sizeLine := by
        rw [rgV_length, sizeLine_eq]
        omega
      refine q (.ref l) S1 _ ⟨g1.ss, g1.sh.trans (Ex.new hl), g1.bh.trans (Ex.new hl), g1.nw⟩ ⟨l, _, rfl, upd_same, g1.sh.back hl, g1.bh.back hl, z, ?_⟩
      rw [e]
      have : ∀ l : List Nat, RepL G.U S1 (l.map fun (j : Nat) => V.int (j : Int)) (l.map fun (j : Nat) => D.int (j : Int)) := fun l => by
        induction l with
        | nil => exact .nil
        | cons x xs ih => exact .cons (.int _) ih
      exact this _
end
end Mb
set_option Elab.async false
set_option linter.all false
set_option maxRecDepth 100000
set_option maxHeartbeats 4000000
namespace Mb
open PySem PySem.Spec PyProof.Rows L2

/-! ### what is walked -/
section
variable {G : Gx} {ρ : List Sl} {a b c e tg it : Expr} {pos p : Pos} {x y z : Rs}
theorem ic_list {ds : List D} (ha : ED G it ρ x) (hx : x.ls = some ds) : IC G tg it ρ ds := .of (wi := iList G.U.K (tG G it)) (fun X h => by rw [← h.K]; exact pi_list (pe_of h)) fun B S H σ ex sl R q => ha B S H σ ex sl _ fun v S1 H1 g1 r1 => by
  obtain ⟨p, vs, rfl, h1, z, h4⟩ := r1.toV.list hx g1.sh
  refine ⟨p, rfl, ⟨vs, .of h1⟩, q _ S1 H1 g1 (fun S2 H2 e1 e2 e3 i => ⟨fun d hd => ?_, fun hi => ?_⟩) (by rw [← h4.length]; exact z)⟩
  · obtain ⟨v, hv, rv⟩ := h4.get hd
    have h2 : SqL G.U.K H2 p vs := .of (e3 _ _ h1)
    refine ⟨⟨vs, v, h2, hv⟩, fun y H3 hy => ⟨hy.1, ?_⟩⟩
    have e4 := hy.2 vs h2
    rw [hv] at e4
    cases e4
    exact rv.mono e1
  · exact ⟨vs, .of (e3 _ _ h1), by rw [h4.length]; exact hi⟩
/-- a list that the loop does not change -/
theorem if_list {ds : List D} (ha : ED G it ρ (.sh (.lst ds))) : IF G tg it ρ ds := .of (wi := iList G.U.K (tG G it)) (fun X h => by rw [← h.K]; exact pi_list (pe_of h)) fun B S H σ ex sl R q => ha B S H σ ex sl _ fun v S1 H1 g1 r1 => by
  cases r1 with
  | @lst p vs _ h1 z h4 =>
    refine ⟨p, rfl, ⟨vs, .of (g1.sh _ _ h1)⟩, q _ S1 H1 g1 fun S2 H2 e1 e2 i => ⟨fun d hd => ?_, fun hi => ?_⟩⟩
    · obtain ⟨v, hv, rv⟩ := h4.get hd
      have h2 : SqL G.U.K H2 p vs := .of (e2 _ _ (e1 _ _ h1))
      refine ⟨⟨vs, v, h2, hv⟩, fun y H3 hy => ⟨hy.1, ?_⟩⟩
      have e4 := hy.2 vs h2
      rw [hv] at e4
      cases e4
      exact rv.mono e1
    · exact ⟨vs, .of (e2 _ _ (e1 _ _ h1)), by rw [h4.length]; exact hi⟩
/-- a list at a new place is a list -/
theorem ED.unN {e : Expr} {ds : List D} (h : ED G e ρ (.sh (.nls ds))) : ED G e ρ (.sh (.lst ds)) := ⟨fun B S H σ x sl Q q => h B S H σ x sl Q fun v S' H' g r => by
  cases r with
  | nls a z l _ => exact q _ S' H' g (.lst a z l)⟩
theorem if_nls {ds : List D} (ha : ED G it ρ (.sh (.nls ds))) : IF G tg it ρ ds := if_list ha.unN
theorem if_fr {ds : List D} (ha : ED G it ρ (.fr ds)) : IF G tg it ρ ds := if_list ha.shr
theorem if_tup {ds : List D} (ha : ED G it ρ (.sh (.tup ds))) : IF G tg it ρ ds := .of (wi := iTup G.U.K (tG G it)) (fun X h => by rw [← h.K]; exact pi_tup (pe_of h)) fun B S H σ ex sl R q => ha B S H σ ex sl _ fun v S1 H1 g1 r1 => by
  cases r1 with
  | @tup p vs _ h1 z h4 =>
    refine ⟨p, rfl, ⟨vs, .of (g1.sh _ _ h1)⟩, q _ S1 H1 g1 fun S2 H2 e1 e2 i => ⟨fun d hd => ?_, fun hi => ?_⟩⟩
    · obtain ⟨v, hv, rv⟩ := h4.get hd
      have h2 : SqT G.U.K H2 p vs := .of (e2 _ _ (e1 _ _ h1))
      refine ⟨⟨vs, v, h2, hv⟩, fun y H3 hy => ⟨hy.1, ?_⟩⟩
      have e4 := hy.2 vs h2
      rw [hv] at e4
      cases e4
      exact rv.mono e1
    · exact ⟨vs, .of (e2 _ _ (e1 _ _ h1)), by rw [h4.length]; exact hi⟩
abbrev Star1' (a : Expr) : Prop := ∀ env, starEach [a] env = [(false, eval a env)]
theorem if_range {i : Int} (T : Bl G.U.mg) (ha : ED G a ρ (.sh (.int i))) (h1 : i < 2 ^ 62) (h0 : -(2 ^ 62) ≤ i) (hg : GlN G "range") (hs : Star1' a := by intro _; rfl) : IF G tg (.Call (.Name "range" p) [a] [] pos) ρ ((List.range i.toNat).map fun (j : Nat) => D.int (j : Int)) :=
  .of (wi := iRng1 (tCons (tG G a) tNil)) (fun X h => pi_range1 (gl_of h hg) (by rw [h.mg]; exact T.range) (pa_cons (pe_of h) pa_nil (hs := hs _)) (hs _)) fun B S H σ ex sl R q => ha B S H σ ex sl _ fun v S1 H1 g1 r1 => by
    cases r1
    refine ⟨i, rfl, h0, h1, q _ S1 H1 g1 fun S2 H2 e1 e2 k => ⟨fun d hd => ?_, fun hk => ?_⟩⟩
    · rw [List.getElem?_map] at hd
      cases hr : (List.range i.toNat)[k]? with
      | none =>
        rw [hr] at hd
        cases hd
      | some w =>
        rw [hr] at hd
        obtain ⟨hk, ew⟩ := List.getElem?_eq_some_iff.mp hr
        rw [List.getElem_range] at ew
        rw [List.length_range] at hk
        subst ew
        obtain rfl : D.int (k : Int) = d := Option.some.inj hd
        refine ⟨hk, fun y H3 hy => ⟨hy.1, ?_⟩⟩
        rw [hy.2, Int.zero_add]
        exact .int _
    · rw [List.length_map, List.length_range] at hk
      exact hk
theorem if_range2 {i j : Int} (T : Bl G.U.mg) (ha : ED G a ρ (.sh (.int i))) (hb : ED G b ρ (.sh (.int j))) (h1 : -(2 ^ 62) ≤ i ∧ i < 2 ^ 62 ∧ -(2 ^ 62) ≤ j ∧ j < 2 ^ 62) (hg : GlN G "range")
    (hs : (∀ env, starEach [a, b] env = [(false, eval a env), (false, eval b env)]) ∧ Star1' b := by exact ⟨by intro _; rfl, by intro _; rfl⟩) : IF G tg (.Call (.Name "range" p) [a, b] [] pos) ρ ((List.range (j - i).toNat).map fun (k : Nat) => D.int (i + (k : Int))) :=
  .of (wi := iRng2 (tCons (tG G a) (tCons (tG G b) tNil))) (fun X h => pi_range2 (gl_of h hg) (by rw [h.mg]; exact T.range) (pa_cons (pe_of h) (pa_cons (pe_of h) pa_nil (hs := hs.2 _)) (hs := by rw [hs.1, hs.2])) (hs.1 _) (hs.2 _)) fun B S H σ ex sl R q =>
    ha B S H σ ex sl _ fun v S1 H1 g1 r1 => hb B S1 H1 σ g1.sh (sl.go g1) _ fun w S2 H2 g2 r2 => by
    cases r1
    cases r2
    refine ⟨i, j, rfl, h1, q _ S2 H2 (g1.trans g2) fun S3 H3 e1 e2 k => ⟨fun d hd => ?_, fun hk => ?_⟩⟩
    · rw [List.getElem?_map] at hd
      cases hr : (List.range (j - i).toNat)[k]? with
      | none =>
        rw [hr] at hd
        cases hd
      | some w =>
        rw [hr] at hd
        obtain ⟨hk, ew⟩ := List.getElem?_eq_some_iff.mp hr
        rw [List.getElem_range] at ew
        rw [List.length_range] at hk
        subst ew
        obtain rfl : D.int (i + (k : Int)) = d := Option.some.inj hd
        refine ⟨hk, fun y H3 hy => ⟨hy.1, ?_⟩⟩
        rw [hy.2]
        exact .int _
    · rw [List.length_map, List.length_range] at hk
      exact hk
theorem IF.ic {ds : List D} (h : IF G tg it ρ ds) (hz : ds.length ≤ sizeLine) : IC G tg it ρ ds := ⟨EvF.evI h.run hz⟩
end

/-! ### comprehensions -/
def wipeR (ρ : List Sl) : List Nat → List Sl
  | [] => ρ
  | v :: vs => (wipeR ρ vs).set v .no
theorem slots_wipe {U : Wd} {B S H : Hp} {σ : L2.St} {ρ : List Sl} (s : Slots U B S H σ ρ) : ∀ vs : List Nat, Slots U B S H (wipe σ vs) (wipeR ρ vs)
  | [] => s
  | v :: vs => (slots_wipe s vs).setNo v
theorem wipe_none {σ : L2.St} {j : Nat} : ∀ {vs : List Nat}, j ∈ vs → j < σ.length → (wipe σ vs)[j]? = some none
  | v :: vs, h, hl => by
    show ((wipe σ vs).set v none)[j]? = some none
    by_cases e : v = j
    · subst e
      rw [List.getElem?_set_self (by rw [wipe_length]; exact hl)]
    · rw [List.getElem?_set_ne e]
      exact wipe_none ((List.mem_cons.mp h).resolve_left (Ne.symm e)) hl
theorem wipe_ext {σ τ : L2.St} {vs : List Nat} (hl : σ.length = τ.length) (h : ∀ i, i ∉ vs → σ[i]? = τ[i]?) : wipe σ vs = wipe τ vs := by
  refine List.ext_getElem? fun i => ?_
  by_cases hi : i ∈ vs
  · by_cases hb : i < σ.length
    · rw [wipe_none hi hb, wipe_none hi (by omega)]
    · rw [List.getElem?_eq_none (by rw [wipe_length]; omega), List.getElem?_eq_none (by rw [wipe_length]; omega)]
  · rw [wipe_out hi, wipe_out hi, h i hi]
theorem nej {vs : List Nat} {i j : Nat} (hi : i ∉ vs) (hj : j ∈ vs) : j ≠ i := fun e => hi (by rw [← e]; exact hj)
theorem wipe_set {σ : L2.St} {vs : List Nat} {j : Nat} {v : Option V} (hj : j ∈ vs) : wipe ((wipe σ vs).set j v) vs = wipe σ vs :=
  wipe_ext (by rw [List.length_set, wipe_length]) fun i hi => by
    rw [List.getElem?_set_ne (nej hi hj), wipe_out hi]
theorem wipe_set2 {σ : L2.St} {vs : List Nat} {j k : Nat} {v w : Option V} (hj : j ∈ vs) (hk : k ∈ vs) : wipe (((wipe σ vs).set j v).set k w) vs = wipe σ vs :=
  wipe_ext (by rw [List.length_set, List.length_set, wipe_length]) fun i hi => by
    rw [List.getElem?_set_ne (nej hi hk), List.getElem?_set_ne (nej hi hj), wipe_out hi]
/-- what a target makes of an item: the slots behind it -/
structure GD (K : PySem.W.Frag) (g : TG) (vs : List Nat) (d : D) (set : List Sl → List Sl) : Prop where
  run : ∀ (U : Wd) (B S H : Hp) (σ : L2.St) (ρ : List Sl) (v : V), U.K = K → Ex S H → Slots U B S H σ ρ → Rep U S v d → ∀ Q : L2.St → Hp → Prop, (∀ σ', (∀ i, i ∉ vs → σ'[i]? = σ[i]?) → σ'.length = σ.length → Slots U B S H σ' (set ρ) → Q σ' H) → g v σ H Q
theorem gd_name {K : PySem.W.Frag} {d : D} {j : Nat} {vs : List Nat} (hj : j ∈ vs) : GD K (gName j) vs d fun ρ => ρ.set j (.sh d) := ⟨fun U B S H σ ρ v _ e s r Q q =>
  q _ (fun i hi => List.getElem?_set_ne (nej hi hj)) List.length_set (s.setSh j r)⟩
theorem gd_pair {K : PySem.W.Frag} {d d' : D} {j k : Nat} {vs : List Nat} (hj : j ∈ vs) (hk : k ∈ vs) : GD K (gTup K 2 (gCons (gName j) (gCons (gName k) gNil))) vs (.tup [d, d']) fun ρ => (ρ.set j (.sh d)).set k (.sh d') := ⟨fun U B S H σ ρ v hK e s r Q q => by
  subst hK
  cases r with
  | tup h1 z h2 =>
    cases h2 with
    | cons a h2 =>
      cases h2 with
      | cons b h2 =>
        cases h2
        refine ⟨_, _, rfl, .of (e _ _ h1), rfl, _, _, rfl, _, _, rfl, rfl, ?_⟩
        refine q _ (fun i hi => ?_) (by rw [List.length_set, List.length_set]) ((s.setSh j a).setSh k b)
        rw [List.getElem?_set_ne (nej hi hk), List.getElem?_set_ne (nej hi hj)]⟩
/-- the tests of a comprehension -/
def TsD (G : Gx) (ifs : List Expr) (ρ : List Sl) (b : Bool) : Prop := match ifs with
  | [] => b = true
  | [c] => TD G c ρ b
  | _ => False
theorem lc_core' {G : Gx} {ρ : List Sl} {elt tgt it : Expr} {ifs : List Expr} {scope : Scope} {own : List (Str × Nat)} {α : Type} {xs : List α} {enc : α → D} {pr : α → Bool} {f : α → D} {g : TG} {set : α → List Sl → List Sl} {tt : TT}
    (hN : G.N.Nodup) (hi : IC G tgt it ρ (xs.map enc)) (ok : blkC G.N G.sc scope own = true)
    (hg : ∀ X, (G.blk scope).is X → PG X tgt g) (gd : ∀ i : α, GD G.U.K g (own.map (·.2)) (enc i) (set i)) (hts : ∀ X, (G.blk scope).is X → PTs X ifs tt)
    (ht : ∀ i ∈ xs, EvT G.U tt (set i (wipeR ρ (own.map (·.2)))) (pr i))
    (he : ∀ i ∈ xs, pr i = true → ED (G.blk scope) elt (set i (wipeR ρ (own.map (·.2)))) (.sh (f i))) :
    EvD G.U (tLc (tGI G tgt it) g tt (tG (G.blk scope) elt) (own.map (·.2))) ρ (.fr ((xs.filter pr).map f)) := fun B S H σ ex sl Q q => by
  refine hi B S H σ ex sl _ fun J S1 H1 g1 wk hz0 => fun Dl hD => ?_
  have hz : xs.length ≤ sizeLine := by rw [List.length_map] at hz0; exact hz0
  have nS : S1 Dl = none := g1.sh.back hD
  refine ⟨fun i m H' => m = xs.length - i ∧ i ≤ xs.length ∧ ∃ S' acc, Ex S1 S' ∧ Ex S' H' ∧ Ex H1 H' ∧ (∀ a, S' a ≠ none → S1 a ≠ none ∨ H1 a = none) ∧ S' Dl = none ∧ H' Dl = some (.lst acc) ∧ RepL G.U S' acc (((xs.take i).filter pr).map f),
    ⟨xs.length, rfl, Nat.zero_le _, S1, [], Ex.refl _, g1.sh.trans (Ex.new hD), Ex.new hD, fun _ h => .inl h, nS, upd_same, .nil⟩, ?_⟩
  rintro i m H' ⟨rfl, hle, S', acc, e1, e2, e3, nw, sD, hacc, rl⟩
  obtain ⟨wgo, wstop⟩ := wk S' H' e1 e2 e3 i
  by_cases hlt : i < xs.length
  · have gi : xs[i]? = some xs[i] := List.getElem?_eq_getElem hlt
    obtain ⟨go, hy⟩ := wgo (enc xs[i]) (by rw [List.getElem?_map, gi]; rfl)
    have hmem : xs[i] ∈ xs := List.getElem_mem hlt
    have tk : xs.take (i + 1) = xs.take i ++ [xs[i]] := by rw [List.take_add_one, gi]; rfl
    refine .inr ⟨go, fun H2 => ∃ S2 acc2, Ex S1 S2 ∧ Ex S2 H2 ∧ Ex H1 H2 ∧ (∀ a, S2 a ≠ none → S1 a ≠ none ∨ H1 a = none) ∧ S2 Dl = none ∧ H2 Dl = some (.lst acc2) ∧ RepL G.U S2 acc2 (((xs.take (i + 1)).filter pr).map f), fun H2 h2 => ⟨xs.length - (i + 1), by omega, rfl, hlt, h2⟩, fun y H2 hy2 => ?_⟩
    obtain ⟨rfl, ry⟩ := hy y H2 hy2
    have slw : Slots G.U B S' H2 (wipe σ (own.map (·.2))) (wipeR ρ (own.map (·.2))) := slots_wipe (((sl.go g1).go ⟨e1, e2, e3, nw⟩)) _
    refine (gd xs[i]).run G.U B S' H2 _ _ y rfl e2 slw ry _ fun σ' ho hl' sl' => ?_
    refine ⟨wipe_ext (by rw [hl', wipe_length]) fun k hk => ?_, ?_⟩
    · rw [ho k hk, wipe_out hk]
    refine ht xs[i] hmem B S' H2 σ' e2 sl' _ fun S3 H3 g3 => ?_
    have s3D : S3 Dl = none := g3.own hacc sD
    have h3D : H3 Dl = some (.lst acc) := g3.bh _ _ hacc
    have nw3 : ∀ a, S3 a ≠ none → S1 a ≠ none ∨ H1 a = none := fun a h => (g3.nw a h).elim (nw a) fun z => .inr (e3.back z)
    cases hp : pr xs[i] with
    | false =>
      rw [if_neg Bool.false_ne_true]
      refine ⟨S3, acc, e1.trans g3.ss, g3.sh, e3.trans g3.bh, nw3, s3D, h3D, ?_⟩
      rw [tk, List.filter_append, List.filter_cons_of_neg (by rw [hp]; exact Bool.false_ne_true), List.filter_nil, List.append_nil]
      exact rl.mono g3.ss
    | true =>
      rw [if_pos rfl]
      refine he xs[i] hmem hp B S3 H3 σ' g3.sh (sl'.go g3) _ fun u S4 H4 g4 r4 => ?_
      have s4D : S4 Dl = none := g4.own h3D s3D
      have h4D : H4 Dl = some (.lst acc) := g4.bh _ _ h3D
      refine ⟨acc, h4D, ?_, S4, acc ++ [u], (e1.trans g3.ss).trans g4.ss, Ex.mut g4.sh s4D, Ex.mut ((e3.trans g3.bh).trans g4.bh) hD, fun a h => (g4.nw a h).elim (nw3 a) fun z => .inr ((e3.trans g3.bh).back z), s4D, upd_same, ?_⟩
      · rw [rl.length, List.length_map]
        have := List.length_filter_le pr (xs.take i)
        rw [List.length_take] at this
        omega
      · rw [tk, List.filter_append, List.filter_cons_of_pos hp, List.filter_nil, List.map_append]
        exact (rl.mono (g3.ss.trans g4.ss)).append (.cons r4 .nil)
  · have ei : i = xs.length := by omega
    refine .inl ⟨wstop (by rw [List.length_map]; omega), q _ S' H' ⟨g1.ss.trans e1, e2, g1.bh.trans e3, fun a h => (nw a h).elim (g1.nw a) fun z => .inr (g1.bh.back z)⟩ ⟨Dl, acc, rfl, hacc, sD, g1.bh.back hD, ?_, ?_⟩⟩
    · rw [rl.length, List.length_map]
      have := List.length_filter_le pr (xs.take i)
      rw [List.length_take] at this
      omega
    · rw [ei, List.take_length] at rl
      exact rl
section
variable {G : Gx} {ρ : List Sl} {elt it : Expr} {scope : Scope} {own : List (Str × Nat)} {pos p p1 p2 : Pos} {α : Type} {xs : List α} {enc : α → D} {pr : α → Bool} {f : α → D}
abbrev fnOf (scope : Scope) : Str → Bool := fun x => scope.names.lookup x == some .cell
/-- a comprehension: as a value, and as what a name is given -/
structure LD (G : Gx) (e : Expr) (ρ : List Sl) (ds : List D) : Prop where
  ex : ∃ te : TE, (∀ X, G.is X → PE X e te) ∧ (∀ X, G.is X → ∀ (i : Nat) (y : Str) (py spos : Pos), X.N[i]? = some y → X.env.scope.names.lookup y = some .local → swapsWith e (some (.Name y py)) spos.line X.env = pure true → PS X (.Assign [.Name y py] e spos) (tAsg te (gName i))) ∧ EvD G.U te ρ (.fr ds)
theorem LD.ed {e : Expr} {ds : List D} (h : LD G e ρ ds) : ED G e ρ (.fr ds) := by
  obtain ⟨te, h1, _, h3⟩ := h.ex
  exact .of h1 h3
/-- [elt for n in it] -/
theorem pgn {n : Str} {j : Nat} (hN : G.N.Nodup) (hj : G.N[j]? = some n) (hl : Loc (relS scope G.sc) n) (hf : fnOf scope n = true ∨ (relS scope G.sc).names.lookup n = some .local) : ∀ X, (G.blk scope).is X → PG X (.Name n p) (gName j) := fun X h =>
  pg_name (by rw [h.N]; exact hN) (by rw [h.N]; exact hj) (by rw [h.sc]; exact hl) (by rw [h.fn, h.sc]; exact hf)
/-- in one line: the name is a local or a cell of the block -/
def ownC (sc scope : Scope) (n : Str) : Bool := (decide ((relS scope sc).names.lookup n = some .local) || (decide ((relS scope sc).names.lookup n = some .cell) && fnOf scope n))
theorem ownC_loc {n : Str} (h : ownC G.sc scope n = true) : Loc (relS scope G.sc) n ∧ (fnOf scope n = true ∨ (relS scope G.sc).names.lookup n = some .local) := by
  unfold ownC at h
  rw [Bool.or_eq_true, Bool.and_eq_true] at h
  rcases h with h | ⟨h1, h2⟩
  · exact ⟨.inl (of_decide_eq_true h), .inr (of_decide_eq_true h)⟩
  · exact ⟨.inr (of_decide_eq_true h1), .inl h2⟩
theorem blk1 {n : Str} (hN : G.N.Nodup) (hj : G.N.idxOf n < G.N.length) (ok : blkC G.N G.sc scope [(n, G.N.idxOf n)] = true) (hl : ownC G.sc scope n = true) : ∀ X, (G.blk scope).is X → PG X (.Name n p) (gName (G.N.idxOf n)) := pgn hN (ixAt hj) (ownC_loc hl).1 (ownC_loc hl).2
theorem ld_lc0 {n : Str} {pn : Pos} (hN : G.N.Nodup) (hi : IC G (.Name n pn) it ρ (xs.map enc)) (hj : G.N.idxOf n < G.N.length) (ok : blkC G.N G.sc scope [(n, G.N.idxOf n)] = true) (hl : ownC G.sc scope n = true)
    (he : ∀ i ∈ xs, ED (G.blk scope) elt ((wipeR ρ [G.N.idxOf n]).set (G.N.idxOf n) (.sh (enc i))) (.sh (f i))) (hs : ∀ env x, foldedSetIterable it env x = pure x := by intros; rfl) :
    LD G (.ListComp elt [⟨.Name n pn, it, [], 0⟩] scope pos) ρ (xs.map f) := by
  have h := lc_core' (pr := fun _ => true) (tt := tYes) hN hi ok (blk1 hN hj ok hl) (fun i => gd_name (by simp)) (fun _ _ => pts_nil) (fun i _ B S H σ ex sl Q q => q S H (Go.refl ex)) (fun i hi _ => he i hi)
  rw [List.filter_eq_self.mpr fun _ _ => rfl] at h
  exact ⟨_, fun X k => pe_lc k.calm (by rw [k.N]; exact hN) (pi_of k) (by rw [k.N, k.sc]; exact blkOk_by ok) (fun s H C cl fp => blk1 hN hj ok hl _ (k.blk s H C cl fp)) (fun s H C cl fp => pts_nil) (fun s H C cl fp => pe_of (k.blk s H C cl fp)) (hs _),
    fun X k i y py spos hy hyl hsw => ps_setLc k.calm (by rw [k.N]; exact hN) hy hyl hsw (pi_of k) (by rw [k.N, k.sc]; exact blkOk_by ok) (fun s H C cl fp => blk1 hN hj ok hl _ (k.blk s H C cl fp)) (fun s H C cl fp => pts_nil) (fun s H C cl fp => pe_of (k.blk s H C cl fp)) (hs _), h⟩
theorem ld_lc1 {n : Str} {pn : Pos} {c : Expr} (hN : G.N.Nodup) (hi : IC G (.Name n pn) it ρ (xs.map enc)) (hj : G.N.idxOf n < G.N.length) (ok : blkC G.N G.sc scope [(n, G.N.idxOf n)] = true) (hl : ownC G.sc scope n = true)
    (ht : ∀ i ∈ xs, TD (G.blk scope) c ((wipeR ρ [G.N.idxOf n]).set (G.N.idxOf n) (.sh (enc i))) (pr i))
    (he : ∀ i ∈ xs, pr i = true → ED (G.blk scope) elt ((wipeR ρ [G.N.idxOf n]).set (G.N.idxOf n) (.sh (enc i))) (.sh (f i))) (hs : ∀ env x, foldedSetIterable it env x = pure x := by intros; rfl) :
    LD G (.ListComp elt [⟨.Name n pn, it, [c], 0⟩] scope pos) ρ ((xs.filter pr).map f) :=
  ⟨_, fun X k => pe_lc k.calm (by rw [k.N]; exact hN) (pi_of k) (by rw [k.N, k.sc]; exact blkOk_by ok) (fun s H C cl fp => blk1 hN hj ok hl _ (k.blk s H C cl fp)) (fun s H C cl fp => pts_one (pt_of (k.blk s H C cl fp))) (fun s H C cl fp => pe_of (k.blk s H C cl fp)) (hs _),
    fun X k i y py spos hy hyl hsw => ps_setLc k.calm (by rw [k.N]; exact hN) hy hyl hsw (pi_of k) (by rw [k.N, k.sc]; exact blkOk_by ok) (fun s H C cl fp => blk1 hN hj ok hl _ (k.blk s H C cl fp)) (fun s H C cl fp => pts_one (pt_of (k.blk s H C cl fp))) (fun s H C cl fp => pe_of (k.blk s H C cl fp)) (hs _),
    (lc_core' hN hi ok (blk1 hN hj ok hl) (fun i => gd_name (by simp)) (fun X h => pts_one (pt_of h)) (fun i hi => (ht i hi).run) he)⟩
/-- [elt for n, m in it] -/
theorem blk2 {n m : Str} {pn pm : Pos} {k} (hN : G.N.Nodup) (hj : G.N.idxOf n < G.N.length) (hj2 : G.N.idxOf m < G.N.length) (hl : ownC G.sc scope n = true) (hl2 : ownC G.sc scope m = true) :
    ∀ X, (G.blk scope).is X → PG X (.Tuple [.Name n pn, .Name m pm] k p) (gTup G.U.K 2 (gCons (gName (G.N.idxOf n)) (gCons (gName (G.N.idxOf m)) gNil))) := fun X h => by
  have hk : X.K = G.U.K := h.K
  rw [← hk]
  exact pg_tup h.calm (pgs_cons (pgn hN (ixAt hj) (ownC_loc hl).1 (ownC_loc hl).2 X h) (pgs_cons (pgn hN (ixAt hj2) (ownC_loc hl2).1 (ownC_loc hl2).2 X h) pgs_nil))
theorem ld_lcp0 {n m : Str} {pn pm : Pos} {k} {e1 e2 : α → D} (hN : G.N.Nodup) (hi : IC G (.Tuple [.Name n pn, .Name m pm] k p) it ρ (xs.map fun i => D.tup [e1 i, e2 i])) (hj : G.N.idxOf n < G.N.length) (hj2 : G.N.idxOf m < G.N.length) (ok : blkC G.N G.sc scope [(n, G.N.idxOf n), (m, G.N.idxOf m)] = true) (hl : ownC G.sc scope n = true) (hl2 : ownC G.sc scope m = true)
    (he : ∀ i ∈ xs, ED (G.blk scope) elt (((wipeR ρ [G.N.idxOf n, G.N.idxOf m]).set (G.N.idxOf n) (.sh (e1 i))).set (G.N.idxOf m) (.sh (e2 i))) (.sh (f i))) (hs : ∀ env x, foldedSetIterable it env x = pure x := by intros; rfl) :
    LD G (.ListComp elt [⟨.Tuple [.Name n pn, .Name m pm] k p, it, [], 0⟩] scope pos) ρ (xs.map f) := by
  have h := lc_core' (pr := fun _ => true) (tt := tYes) hN hi ok (blk2 hN hj hj2 hl hl2) (fun i => gd_pair (by simp) (by simp)) (fun _ _ => pts_nil) (fun i _ B S H σ ex sl Q q => q S H (Go.refl ex)) (fun i hi _ => he i hi)
  rw [List.filter_eq_self.mpr fun _ _ => rfl] at h
  exact ⟨_, fun X q => pe_lc q.calm (by rw [q.N]; exact hN) (pi_of q) (by rw [q.N, q.sc]; exact blkOk_by ok) (fun s H C cl fp => blk2 hN hj hj2 hl hl2 _ (q.blk s H C cl fp)) (fun s H C cl fp => pts_nil) (fun s H C cl fp => pe_of (q.blk s H C cl fp)) (hs _),
    fun X q i y py spos hy hyl hsw => ps_setLc q.calm (by rw [q.N]; exact hN) hy hyl hsw (pi_of q) (by rw [q.N, q.sc]; exact blkOk_by ok) (fun s H C cl fp => blk2 hN hj hj2 hl hl2 _ (q.blk s H C cl fp)) (fun s H C cl fp => pts_nil) (fun s H C cl fp => pe_of (q.blk s H C cl fp)) (hs _), h⟩
theorem ld_lcp1 {n m : Str} {pn pm : Pos} {k} {c : Expr} {e1 e2 : α → D} (hN : G.N.Nodup) (hi : IC G (.Tuple [.Name n pn, .Name m pm] k p) it ρ (xs.map fun i => D.tup [e1 i, e2 i])) (hj : G.N.idxOf n < G.N.length) (hj2 : G.N.idxOf m < G.N.length) (ok : blkC G.N G.sc scope [(n, G.N.idxOf n), (m, G.N.idxOf m)] = true) (hl : ownC G.sc scope n = true) (hl2 : ownC G.sc scope m = true)
    (ht : ∀ i ∈ xs, TD (G.blk scope) c (((wipeR ρ [G.N.idxOf n, G.N.idxOf m]).set (G.N.idxOf n) (.sh (e1 i))).set (G.N.idxOf m) (.sh (e2 i))) (pr i))
    (he : ∀ i ∈ xs, pr i = true → ED (G.blk scope) elt (((wipeR ρ [G.N.idxOf n, G.N.idxOf m]).set (G.N.idxOf n) (.sh (e1 i))).set (G.N.idxOf m) (.sh (e2 i))) (.sh (f i))) (hs : ∀ env x, foldedSetIterable it env x = pure x := by intros; rfl) :
    LD G (.ListComp elt [⟨.Tuple [.Name n pn, .Name m pm] k p, it, [c], 0⟩] scope pos) ρ ((xs.filter pr).map f) :=
  ⟨_, fun X q => pe_lc q.calm (by rw [q.N]; exact hN) (pi_of q) (by rw [q.N, q.sc]; exact blkOk_by ok) (fun s H C cl fp => blk2 hN hj hj2 hl hl2 _ (q.blk s H C cl fp)) (fun s H C cl fp => pts_one (pt_of (q.blk s H C cl fp))) (fun s H C cl fp => pe_of (q.blk s H C cl fp)) (hs _),
    fun X q i y py spos hy hyl hsw => ps_setLc q.calm (by rw [q.N]; exact hN) hy hyl hsw (pi_of q) (by rw [q.N, q.sc]; exact blkOk_by ok) (fun s H C cl fp => blk2 hN hj hj2 hl hl2 _ (q.blk s H C cl fp)) (fun s H C cl fp => pts_one (pt_of (q.blk s H C cl fp))) (fun s H C cl fp => pe_of (q.blk s H C cl fp)) (hs _),
    (lc_core' hN hi ok (blk2 hN hj hj2 hl hl2) (fun i => gd_pair (by simp) (by simp)) (fun X h => pts_one (pt_of h)) (fun i hi => (ht i hi).run) he)⟩
end
end Mb
set_option Elab.async false
set_option linter.all false
set_option maxRecDepth 100000
set_option maxHeartbeats 4000000
namespace Mb
open PySem PySem.Spec PyProof.Rows L2

/-! ### promises of defs -/
abbrev Ot := Rs ⊕ Addr
def spX (U : Wd) (A : List D → Ot → Prop) : Sp := fun vs H Q E => ∃ ds o S, A ds o ∧ Ex S H ∧ (∀ a, H a = none → U.nw a) ∧ RepL U S vs ds ∧ (∀ r, o = .inl r → ∀ v S' H', Go S H S' H' → RepR U H S' H' v r → Q v H') ∧ (∀ c, o = .inr c → ∀ H', Ex H H' → E (.ref c) none H')
/-- a def of the module that keeps A -/
structure FnT (U : Wd) (x : Str) (k : Nat) (A : List D → Ot → Prop) : Prop where
  ex : ∃ f fd ps, U.mg x = some (.ref f) ∧ PySem.W.keepIn U.K (.ref f) = true ∧ Binds U.K fd ps [] ∧ FnOk U.P U.w U.K U.mg U.base (L2.CX U.P U.w) k f fd ps (spX U A)
/-- a method of the table's class -/
structure MtT (U : Wd) (m : Str) (k : Nat) (A : List D → Ot → Prop) : Prop where
  ex : ∃ f fd ps, Meth U.K U.C m f ∧ Binds U.K fd ps [] ∧ FnOk U.P U.w U.K U.mg U.base (L2.CX U.P U.w) k f fd ps (spX U A)
/-- the table's class as it stands -/
structure TabOk (U : Wd) : Prop where
  cls : Cls U.K U.C
  nM : NoAttr U.K U.C "many"
  nR : NoAttr U.K U.C "rows"
section
variable {G : Gx} {ρ : List Sl} {a b e o : Expr} {es : List Expr} {pos p apos : Pos} {r : Rs} {x m : Str} {k : Nat} {A : List D → Ot → Prop} {ds : List D}
theorem FnOk.at {X : Cx} (h : G.is X) {CX : CXT} {f : Addr} {fd : FuncData} {ps : List Str} {sp : Sp} (F : FnOk G.U.P G.U.w G.U.K G.U.mg G.U.base CX k f fd ps sp) : FnOk X.prog X.w X.K X.mg X.base CX k f fd ps sp := by
  rw [h.prog, h.w, h.K, h.mg, h.base]
  exact F
theorem CX_at {X : Cx} (h : G.is X) : L2.CX G.U.P G.U.w = L2.CX X.prog X.w := by rw [h.prog, h.w]
abbrev StarN (e : Expr) (es : List Expr) : Prop := (∀ env, starEach (e :: es) env = (false, eval e env) :: starEach es env) ∧ ∀ env (pos : Pos), (backTo pos (starEach es env)).any (·.1) = false
theorem ed_call (T : FnT G.U x k A) (hk : k ≤ G.k) (hg : GlN G x) (ha : AD G (e :: es) ρ ds) (hA : A ds (.inl r)) (hd : (x == ("__debug__" : Str)) = false := by rfl)
    (hs : StarN e es := by exact ⟨by intro _; rfl, by intros; rfl⟩) : ED G (.Call (.Name x p) (e :: es) [] pos) ρ r := by
  obtain ⟨f, fd, ps, gm, kp, bd, F⟩ := T.ex
  refine .of (te := tCall (spX G.U A) [] E0 (tGA G (e :: es))) (fun X h => pe_call (CX := L2.CX G.U.P G.U.w) (ds := []) (FnOk.at h F) (h.room.mono hk) (gl_of h hg) (by rw [h.mg]; exact gm) (by rw [h.K]; exact kp) (by rw [h.K]; exact bd) .nil (by rw [CX_at h]; exact passL) (pa_of h) hd (hs.1 _) (hs.2 _ _)) ?_
  intro B S H σ ex sl Q q
  refine ha B S H σ ex sl _ fun vs S1 H1 g1 r1 => ?_
  rw [List.append_nil]
  exact ⟨ds, .inl r, S1, hA, g1.sh, (sl.go g1).nw, r1, fun r' hr v S2 H2 g2 r2 => by
    cases hr
    exact q v S2 H2 (g1.trans g2) (r2.base g1.bh), fun c hc => nomatch hc⟩
abbrev MethEv (o : Expr) (m : Str) (apos : Pos) (es : List Expr) (pos : Pos) : Prop := ∀ env, ∃ pl : Sem Bool, eval (.Call (.Attribute o m apos) es [] pos) env = (do
      let ov ← eval o env
      standAt apos.atName
      let (f, first) ← holding [ov] (getMethod ov m pl)
      callWith pos f first (backTo pos (starEach es env)) (backToKw pos (keywordEach [] env)))
theorem tab_look {U : Wd} {S : Hp} {v : V} {i : Int} {rows : List (List Int)} (h : Rep U S v (.tab i rows)) : ∃ a dx rp, v = .ref a ∧ S a = some (.ins U.C dx [("many", .int i), ("rows", .ref rp)]) ∧ Rep U S (.ref rp) (.lst (rows.map fun r => D.ints r)) := by
  cases h with
  | tab h1 h2 z h3 => exact ⟨_, _, _, rfl, h1, .lst h2 z h3⟩
/-- a table, made or being made, with its count -/
def D.many? : D → Option Int
  | .tab i _ => some i
  | .par _ i => some i
  | _ => none
theorem obj_look {U : Wd} {S : Hp} {v : V} {d : D} {i : Int} (h : Rep U S v d) (hd : d.many? = some i) : ∃ a dx fs, v = .ref a ∧ S a = some (.ins U.C dx fs) ∧ List.lookup ("many" : Str) fs = some (V.int i) ∧ ∀ m : Str, (m == ("many" : Str)) = false → (m == ("rows" : Str)) = false → List.lookup m fs = none := by
  cases h with
  | tab h1 h2 z h3 =>
    obtain rfl := Option.some.inj (show some _ = some i from hd)
    exact ⟨_, _, _, rfl, h1, rfl, fun m a b => by rw [List.lookup_cons, a, List.lookup_cons, b] <;> rfl⟩
  | par h1 =>
    obtain rfl := Option.some.inj (show some _ = some i from hd)
    exact ⟨_, _, _, rfl, h1, rfl, fun m a b => by rw [List.lookup_cons, a] <;> rfl⟩
  | _ => cases hd
abbrev MethN (m : Str) : Prop := (m == ("many" : Str)) = false ∧ (m == ("rows" : Str)) = false
theorem ed_meth {d : D} {i : Int} (C : TabOk G.U) (T : MtT G.U m k A) (hk : k ≤ G.k) (ho : ED G o ρ (.sh d)) (hd : d.many? = some i) (ha : AD G (e :: es) ρ ds) (hA : A (d :: ds) (.inl r))
    (hm : MethN m := by exact ⟨by rfl, by rfl⟩)
    (hs : StarN e es := by exact ⟨by intro _; rfl, by intros; rfl⟩) (ht : MethEv o m apos (e :: es) pos := by exact fun _ => ⟨_, rfl⟩) : ED G (.Call (.Attribute o m apos) (e :: es) [] pos) ρ r := by
  obtain ⟨f, fd, ps, mt, bd, F⟩ := T.ex
  refine .of (te := tMeth G.U.C m (spX G.U A) [] E0 (tG G o) (tGA G (e :: es))) (fun X h => ?_) ?_
  · obtain ⟨pl, ht⟩ := ht X.env
    exact pe_meth (CX := L2.CX G.U.P G.U.w) (ds := []) (pl := pl) (pe_of h) (by rw [h.K]; exact C.cls) (by rw [h.K]; exact mt) (FnOk.at h F) (h.room.mono hk) (by rw [h.K]; exact bd) .nil (by rw [CX_at h]; exact passL) (pa_of h) (hs.1 _) (hs.2 _ _) ht
  intro B S H σ ex sl Q q
  refine ho B S H σ ex sl _ fun v S1 H1 g1 r1 => ?_
  obtain ⟨a, dx, fs, rfl, h1, _, h2⟩ := obj_look r1 hd
  refine ⟨a, dx, _, rfl, g1.sh _ _ h1, h2 m hm.1 hm.2, ?_⟩
  refine ha B S1 H1 σ g1.sh (sl.go g1) _ fun vs S2 H2 g2 r2 => ?_
  rw [List.append_nil]
  exact ⟨_, .inl r, S2, hA, g2.sh, ((sl.go g1).go g2).nw, .cons (Rep.mono g2.ss r1) r2, fun r' hr v S3 H3 g3 r3 => by
    cases hr
    exact q v S3 H3 ((g1.trans g2).trans g3) (r3.base (g1.bh.trans g2.bh)), fun c hc => nomatch hc⟩
theorem ed_many {d : D} {i : Int} (C : TabOk G.U) (ho : ED G o ρ (.sh d)) (hd : d.many? = some i) (hb : ∀ env, attributeBase o "many" env (eval o env) = eval o env := by intro _; rfl) : ED G (.Attribute o "many" pos) ρ (.sh (.int i)) :=
  .of (te := tFld G.U.K (tG G o) "many") (fun X h => by rw [← h.K]; exact pe_fld (pe_of h) (hb _)) fun B S H σ ex sl Q q => ho B S H σ ex sl _ fun v S1 H1 g1 r1 => by
    obtain ⟨a, dx, fs, rfl, h1, h2, _⟩ := obj_look r1 hd
    exact ⟨a, G.U.C, dx, _, .int i, rfl, g1.sh _ _ h1, C.cls, C.nM, h2, q _ S1 H1 g1 (.int i)⟩
theorem ed_rows {i : Int} {rows : List (List Int)} (C : TabOk G.U) (ho : ED G o ρ (.sh (.tab i rows))) (hb : ∀ env, attributeBase o "rows" env (eval o env) = eval o env := by intro _; rfl) : ED G (.Attribute o "rows" pos) ρ (.sh (.lst (rows.map fun r => D.ints r))) :=
  .of (te := tFld G.U.K (tG G o) "rows") (fun X h => by rw [← h.K]; exact pe_fld (pe_of h) (hb _)) fun B S H σ ex sl Q q => ho B S H σ ex sl _ fun v S1 H1 g1 r1 => by
    obtain ⟨a, dx, rp, rfl, h1, h2⟩ := tab_look r1
    exact ⟨a, G.U.C, dx, _, .ref rp, rfl, g1.sh _ _ h1, C.cls, C.nR, rfl, q _ S1 H1 g1 h2⟩
end

/-! ### contexts of statements -/
structure Gx.iss (G : Gx) (X : Cx) : Prop where
  is : G.is X
  own : PassesOwn (model X.prog X.w) X.A X.env X.xe
  stack : X.stack = X.env :: X.outer
  frame : X.env.frame = some X.env.locals
inductive Oc where
  | nx (ρ : List Sl) | rt (r : Rs) | bk (ρ : List Sl) | ct (ρ : List Sl) | ex (c : Addr) (ρ : List Sl)
structure Cn (U : Wd) (S B : Hp) (R : Oc → Prop) (D : Ends) (W : WX) : Prop where
  nx : ∀ ρ' S' H' σ', R (.nx ρ') → Go S B S' H' → Slots U B S' H' σ' ρ' → D.nx σ' H'
  rt : ∀ r v S' H', R (.rt r) → Go S B S' H' → RepR U B S' H' v r → D.rt v H'
  bk : ∀ ρ' S' H' σ', R (.bk ρ') → Go S B S' H' → Slots U B S' H' σ' ρ' → D.bk σ' H'
  ct : ∀ ρ' S' H' σ', R (.ct ρ') → Go S B S' H' → Slots U B S' H' σ' ρ' → D.ct σ' H'
  ex : ∀ c ρ' S' H' σ', R (.ex c ρ') → Go S B S' H' → Slots U B S' H' σ' ρ' → W (.ref c) none σ' H'
theorem Cn.go {U : Wd} {S B S1 H1 : Hp} {R : Oc → Prop} {D : Ends} {W : WX} (c : Cn U S B R D W) (g : Go S B S1 H1) : Cn U S1 B R D W :=
  ⟨fun a b d e f h i => c.nx a b d e f (g.transB h) i, fun a b d e f h i => c.rt a b d e f (g.transB h) i, fun a b d e f h i => c.bk a b d e f (g.transB h) i, fun a b d e f h i => c.ct a b d e f (g.transB h) i, fun a b d e i f h j => c.ex a b d e i f (g.transB h) j⟩
theorem Cn.imp {U : Wd} {S B : Hp} {R R' : Oc → Prop} {D : Ends} {W : WX} (c : Cn U S B R D W) (h : ∀ o, R' o → R o) : Cn U S B R' D W :=
  ⟨fun a b d e f => c.nx a b d e (h _ f), fun a b d e f => c.rt a b d e (h _ f), fun a b d e f => c.bk a b d e (h _ f), fun a b d e f => c.ct a b d e (h _ f), fun a b d e i f => c.ex a b d e i (h _ f)⟩
def tS (G : Gx) (W : WX) (ss : List Stmt) : TS := fun D σ H => ∀ X, G.iss X → Takes X W → ∀ pins s, Inv X pins σ H s → wpAny (model X.prog X.w) X.A (execs ss X.env) (SP X pins D) X.xe s
def tS1 (G : Gx) (W : WX) (st : Stmt) : TS := fun D σ H => ∀ X, G.iss X → Takes X W → ∀ pins s, Inv X pins σ H s → wpAny (model X.prog X.w) X.A (exec st X.env) (SP X pins D) X.xe s
def tX (G : Gx) (W : WX) (e : Expr) : TE := fun σ H Q => ∀ X, G.iss X → Takes X W → ∀ pins s, Inv X pins σ H s → wpAny (model X.prog X.w) X.A (eval e X.env) (EP X pins σ Q) X.xe s
structure SD (G : Gx) (ss : List Stmt) (ρ : List Sl) (R : Oc → Prop) : Prop where
  run : ∀ (W : WX) (B S H : Hp) (σ : L2.St) (D : Ends), Ex S H → Ex B H → Slots G.U B S H σ ρ → Cn G.U S B R D W → tS G W ss D σ H
structure S1 (G : Gx) (st : Stmt) (ρ : List Sl) (R : Oc → Prop) : Prop where
  run : ∀ (W : WX) (B S H : Hp) (σ : L2.St) (D : Ends), Ex S H → Ex B H → Slots G.U B S H σ ρ → Cn G.U S B R D W → tS1 G W st D σ H
/-- an expression that may raise -/
structure XD (G : Gx) (e : Expr) (ρ : List Sl) (O : Ot → Prop) : Prop where
  run : ∀ (W : WX) (B S H : Hp) (σ : L2.St), Ex S H → Slots G.U B S H σ ρ → ∀ Q : VK, (∀ r v S' H', O (.inl r) → Go S H S' H' → RepR G.U H S' H' v r → Q v H') → (∀ c H', O (.inr c) → Ex H H' → W (.ref c) none σ H') → tX G W e σ H Q
instance {G : Gx} {e : List Stmt} {ρ : List Sl} {R : Oc → Prop} : CoeFun (SD G e ρ R) fun _ => ∀ (W : WX) (B S H : Hp) (σ : L2.St) (D : Ends), Ex S H → Ex B H → Slots G.U B S H σ ρ → Cn G.U S B R D W → tS G W e D σ H := ⟨fun h => h.run⟩
instance {G : Gx} {e : Stmt} {ρ : List Sl} {R : Oc → Prop} : CoeFun (S1 G e ρ R) fun _ => ∀ (W : WX) (B S H : Hp) (σ : L2.St) (D : Ends), Ex S H → Ex B H → Slots G.U B S H σ ρ → Cn G.U S B R D W → tS1 G W e D σ H := ⟨fun h => h.run⟩
instance {G : Gx} {e : Expr} {ρ : List Sl} {O : Ot → Prop} : CoeFun (XD G e ρ O) fun _ => ∀ (W : WX) (B S H : Hp) (σ : L2.St), Ex S H → Slots G.U B S H σ ρ → ∀ Q : VK, (∀ r v S' H', O (.inl r) → Go S H S' H' → RepR G.U H S' H' v r → Q v H') → (∀ c H', O (.inr c) → Ex H H' → W (.ref c) none σ H') → tX G W e σ H Q := ⟨fun h => h.run⟩
section
variable {G : Gx} {W : WX} {X : Cx} {ss : List Stmt} {st : Stmt} {ρ : List Sl} {R : Oc → Prop} {e : Expr} {r : Rs}
theorem pss_of (h : G.iss X) (tk : Takes X W) : PSs X ss (tS G W ss) := ⟨fun pins s σ H D I q => q X h tk pins s I⟩
theorem ps_of (h : G.iss X) (tk : Takes X W) : PS X st (tS1 G W st) := ⟨fun pins s σ H D I q => q X h tk pins s I⟩
theorem px_of (h : G.iss X) (tk : Takes X W) : PE X e (tX G W e) := ⟨fun pins s σ H Q I q => q X h tk pins s I⟩
theorem S1.of {t : WX → TS} (h : ∀ X W, G.iss X → Takes X W → PS X st (t W)) (ev : ∀ (W : WX) (B S H : Hp) (σ : L2.St) (D : Ends), Ex S H → Ex B H → Slots G.U B S H σ ρ → Cn G.U S B R D W → t W D σ H) : S1 G st ρ R :=
  ⟨fun W B S H σ D ex eb sl cn X hX tk pins s I => (h X W hX tk).run pins s σ H D I (ev W B S H σ D ex eb sl cn)⟩
theorem ED.x (h : ED G e ρ r) {O : Ot → Prop} (q : O (.inl r)) : XD G e ρ O := ⟨fun W B S H σ ex sl Q q1 _ X hX tk pins s I => h B S H σ ex sl Q (fun v S' H' g rr => q1 r v S' H' q g rr) X hX.is pins s I⟩
theorem SD.imp {R' : Oc → Prop} (h : SD G ss ρ R') (q : ∀ o, R' o → R o) : SD G ss ρ R := ⟨fun W B S H σ D ex eb sl cn => h W B S H σ D ex eb sl (cn.imp q)⟩
theorem S1.imp {R' : Oc → Prop} (h : S1 G st ρ R') (q : ∀ o, R' o → R o) : S1 G st ρ R := ⟨fun W B S H σ D ex eb sl cn => h W B S H σ D ex eb sl (cn.imp q)⟩
/-- behind a statement the rest -/
def Sq (G : Gx) (ss : List Stmt) (R : Oc → Prop) : Oc → Prop
  | .nx ρ => SD G ss ρ R
  | o => R o
theorem sd_nil (h : R (.nx ρ)) : SD G [] ρ R := ⟨fun W B S H σ D ex eb sl cn X hX tk pins s I => pss_nil.run pins s σ H D I (cn.nx ρ S H σ h ⟨Ex.refl S, ex, eb, fun _ z => .inl z⟩ sl)⟩
theorem sd_cons (h : S1 G st ρ (Sq G ss R)) : SD G (st :: ss) ρ R := ⟨fun W B S H σ D ex eb sl cn X hX tk pins s I =>
  (pss_cons (ps_of hX tk) (pss_of hX tk)).run pins s σ H D I (h W B S H σ { D with nx := tS G W ss D } ex eb sl
    ⟨fun ρ' S' H' σ' a g s' => SD.run a W B S' H' σ' D g.sh g.bh s' (cn.go g), fun a b c d x => cn.rt a b c d x, fun a b c d x => cn.bk a b c d x, fun a b c d x => cn.ct a b c d x, fun a b c d i x => cn.ex a b c d i x⟩)⟩
/-- what is owned is counted among what stands -/
theorem slots_freeze {U : Wd} {B S H : Hp} {σ : L2.St} {ds : List D} {i : Nat} (ex : Ex S H) (eb : Ex B H) (sl : Slots U B S H σ ρ) (h : ρ[i]? = some (.own ds)) : ∃ S', Go S B S' H ∧ Slots U B S' H σ (ρ.set i (.sh (.lst ds))) := by
  obtain ⟨p, vs, h1, h2, h3, h4, z, h5⟩ := sl.own i ds h
  have g : Go S B (upd S p (.lst vs)) H := Go.add ⟨Ex.refl S, ex, eb, fun _ z => .inl z⟩ h2 h3 h4
  refine ⟨_, g, by rw [List.length_set]; exact sl.len, fun j d hj => ?_, fun j es hj => ?_, fun j k es fs q hj hk aj ak => ?_, sl.nw⟩
  · rcases setGet hj with ⟨rfl, e1, hl⟩ | ⟨ne, hj⟩
    · cases e1
      exact ⟨_, h1, .lst upd_same z (h5.mono g.ss)⟩
    · obtain ⟨v, a, b⟩ := sl.sh j d hj
      exact ⟨v, a, b.mono g.ss⟩
  · rcases setGet hj with ⟨rfl, e1, hl⟩ | ⟨ne, hj⟩
    · cases e1
    · obtain ⟨q, ws, a1, a2, a3, a4, z', a5⟩ := sl.own j es hj
      have npq : q ≠ p := fun e => ne (sl.sep i j ds es p h hj h1 (e ▸ a1))
      exact ⟨q, ws, a1, a2, by rw [upd_ne npq]; exact a3, a4, z', a5.mono g.ss⟩
  · rcases setGet hj with ⟨rfl, e1, hl⟩ | ⟨ne, hj⟩
    · cases e1
    · rcases setGet hk with ⟨rfl, e1, hl⟩ | ⟨ne', hk⟩
      · cases e1
      · exact sl.sep j k es fs q hj hk aj ak
theorem sd_freeze (i : Nat) {ds : List D} (h : ρ[i]? = some (.own ds)) (k : SD G ss (ρ.set i (.sh (.lst ds))) R) : SD G ss ρ R := ⟨fun W B S H σ D ex eb sl cn => by
  obtain ⟨S', g, s'⟩ := slots_freeze ex eb sl h
  exact k W B S' H σ D g.sh eb s' (cn.go g)⟩
theorem sd_forget (i : Nat) (k : SD G ss (ρ.set i .no) R) : SD G ss ρ R := ⟨fun W B S H σ D ex eb sl cn => k W B S H σ D ex eb (sl.forget i) cn⟩
end

/-! ### statements -/
section
variable {G : Gx} {ρ : List Sl} {R : Oc → Prop} {e tg it c : Expr} {pos p : Pos} {n : Str} {d : D} {ds : List D} {r : Rs} {body orelse : List Stmt}
def setOk (sc : Scope) (fn : Str → Bool) (n : Str) : Bool := decide (sc.names.lookup n = some .local) || (decide (sc.names.lookup n = some .cell) && fn n)
theorem setOk_loc (h : setOk G.sc G.fn n = true) : Loc G.sc n ∧ (G.fn n = true ∨ G.sc.names.lookup n = some .local) := by
  unfold setOk at h
  rw [Bool.or_eq_true, Bool.and_eq_true] at h
  rcases h with h | ⟨h1, h2⟩
  · exact ⟨.inl (of_decide_eq_true h), .inr (of_decide_eq_true h)⟩
  · exact ⟨.inr (of_decide_eq_true h1), .inl h2⟩
abbrev NoSwap (G : Gx) (e : Expr) (n : Str) (p pos : Pos) : Prop := ∀ X, G.iss X → swapsWith e (some (.Name n p)) pos.line X.env = pure false
theorem ps_setG {te : WX → TE} (hN : G.N.Nodup) (hi : G.N.idxOf n < G.N.length) (ok : setOk G.sc G.fn n = true) (hs : NoSwap G e n p pos) (he : ∀ X W, G.iss X → Takes X W → PE X e (te W)) : ∀ X W, G.iss X → Takes X W → PS X (.Assign [.Name n p] e pos) (tAsg (te W) (gName (G.N.idxOf n))) := fun X W h tk =>
  ps_set (by rw [h.is.N]; exact hN) (by rw [h.is.N]; exact ixAt hi) (by rw [h.is.sc]; exact (setOk_loc ok).1) (he X W h tk) (hs X h) (by rw [h.is.fn, h.is.sc]; exact (setOk_loc ok).2)
theorem asgG {te : WX → TE} {i : Nat} (ev : ∀ (W : WX) (B S H : Hp) (σ : L2.St), Ex S H → Slots G.U B S H σ ρ → ∀ Q : VK, (∀ v S' H', Go S H S' H' → RepR G.U H S' H' v (.sh d) → Q v H') → te W σ H Q) (hR : R (.nx (ρ.set i (.sh d)))) :
    ∀ (W : WX) (B S H : Hp) (σ : L2.St) (D : Ends), Ex S H → Ex B H → Slots G.U B S H σ ρ → Cn G.U S B R D W → tAsg (te W) (gName i) D σ H := fun W B S H σ D ex eb sl cn => ev W B S H σ ex sl _ fun v S1 H1 g1 r1 =>
  cn.nx _ S1 H1 _ hR (Go.keepB eb g1) (((sl.go g1)).setSh _ r1)
theorem asgO {te : WX → TE} {i : Nat} (ev : ∀ (W : WX) (B S H : Hp) (σ : L2.St), Ex S H → Slots G.U B S H σ ρ → ∀ Q : VK, (∀ v S' H', Go S H S' H' → RepR G.U H S' H' v (.fr ds) → Q v H') → te W σ H Q) (hR : R (.nx (ρ.set i (.own ds)))) :
    ∀ (W : WX) (B S H : Hp) (σ : L2.St) (D : Ends), Ex S H → Ex B H → Slots G.U B S H σ ρ → Cn G.U S B R D W → tAsg (te W) (gName i) D σ H := fun W B S H σ D ex eb sl cn => ev W B S H σ ex sl _ fun v S1 H1 g1 ⟨p, vs, e1, h1, h2, h3, z, h4⟩ => by
  subst e1
  refine cn.nx _ S1 H1 _ hR (Go.keepB eb g1) ((sl.go g1).setOwn _ h1 h2 (eb.back h3) z h4 fun j es hj hr hσ => ?_)
  obtain ⟨q, ws, a1, a2, _⟩ := sl.own j es hr
  rw [a1] at hσ
  obtain rfl : q = p := by
    have := Option.some.inj (Option.some.inj hσ)
    injection this
  rw [h3] at a2
  cases a2
theorem s_set (he : ED G e ρ (.sh d)) (hR : R (.nx (ρ.set (G.N.idxOf n) (.sh d)))) (hN : G.N.Nodup) (hi : G.N.idxOf n < G.N.length) (ok : setOk G.sc G.fn n = true) (hs : NoSwap G e n p pos := by intros _ _; rfl) : S1 G (.Assign [.Name n p] e pos) ρ R :=
  .of (ps_setG hN hi ok hs fun X W h tk => pe_of h.is) (asgG (te := fun _ => tG G e) (fun W => he.run) hR)
theorem s_own (he : ED G e ρ (.fr ds)) (hR : R (.nx (ρ.set (G.N.idxOf n) (.own ds)))) (hN : G.N.Nodup) (hi : G.N.idxOf n < G.N.length) (ok : setOk G.sc G.fn n = true) (hs : NoSwap G e n p pos := by intros _ _; rfl) : S1 G (.Assign [.Name n p] e pos) ρ R :=
  .of (ps_setG hN hi ok hs fun X W h tk => pe_of h.is) (asgO (te := fun _ => tG G e) (fun W => he.run) hR)
/-- n = [..], n a local name -/
theorem ps_lcG {te : TE} (hi : G.N.idxOf n < G.N.length) (ok : G.sc.names.lookup n = some .local) (hs : ∀ X, G.iss X → swapsWith e (some (.Name n p)) pos.line X.env = pure true)
    (he : ∀ X, G.is X → ∀ (i : Nat) (y : Str) (py spos : Pos), X.N[i]? = some y → X.env.scope.names.lookup y = some .local → swapsWith e (some (.Name y py)) spos.line X.env = pure true → PS X (.Assign [.Name y py] e spos) (tAsg te (gName i))) :
    ∀ X (W : WX), G.iss X → Takes X W → PS X (.Assign [.Name n p] e pos) (tAsg te (gName (G.N.idxOf n))) := fun X W h tk =>
  he X h.is _ _ _ _ (by rw [h.is.N]; exact ixAt hi) (by rw [h.is.sc]; exact ok) (hs X h)
theorem swapT {elt : Expr} {gs : List Comprehension} {scope : Scope} (hk : G.sc.kind = .function) (hy : G.sc.names.lookup n = some .local) (hl : (p.line == pos.line) = true) (ha : (scope.names.any fun (m, k) => m == n && (k == .local || k == .cell)) = false) {l : Nat} : ∀ X, G.iss X → swapsWith (.ListComp elt gs scope pos) (some (.Name n p)) l X.env = pure true := fun X h =>
  sw_true (by rw [h.is.sc]; exact hk) (by rw [h.is.sc]; exact hy) hl ha
theorem swapF {elt : Expr} {gs : List Comprehension} {scope : Scope} (hy : G.sc.names.lookup n = some .cell) {l : Nat} : ∀ X, G.iss X → swapsWith (.ListComp elt gs scope pos) (some (.Name n p)) l X.env = pure false := fun X h => by
  have ky : X.env.kindOf n = some .cell := by
    show X.env.scope.names.lookup n = _
    rw [h.is.sc]
    exact hy
  unfold swapsWith
  simp only [ky]
  have e2 : (NameKind.cell == NameKind.local) = false := rfl
  simp [e2]
theorem s_lc {elt : Expr} {gs : List Comprehension} {scope : Scope} {spos : Pos} (he : LD G (.ListComp elt gs scope pos) ρ ds) (hR : R (.nx (ρ.set (G.N.idxOf n) (.sh (.lst ds))))) (hi : G.N.idxOf n < G.N.length) (hk : G.sc.kind = .function) (hy : G.sc.names.lookup n = some .local) (hl : (p.line == pos.line) = true)
    (ha : (scope.names.any fun (m, k) => m == n && (k == .local || k == .cell)) = false) : S1 G (.Assign [.Name n p] (.ListComp elt gs scope pos) spos) ρ R := by
  obtain ⟨te, h1, h2, h3⟩ := he.ex
  exact .of (ps_lcG hi hy (swapT hk hy hl ha) h2) (asgG (te := fun _ => te) (fun W => fun B S H σ x sl Q q => h3 B S H σ x sl Q fun v S' H' g ⟨p, vs, e1, a1, a2, a3, z, a4⟩ => by
    subst e1
    exact q _ (upd S' p (.lst vs)) H' (g.add a1 a2 a3) (.lst upd_same z (a4.mono (Ex.new a2)))) hR)
theorem s_lcO {elt : Expr} {gs : List Comprehension} {scope : Scope} {spos : Pos} (he : LD G (.ListComp elt gs scope pos) ρ ds) (hR : R (.nx (ρ.set (G.N.idxOf n) (.own ds)))) (hi : G.N.idxOf n < G.N.length) (hk : G.sc.kind = .function) (hy : G.sc.names.lookup n = some .local) (hl : (p.line == pos.line) = true)
    (ha : (scope.names.any fun (m, k) => m == n && (k == .local || k == .cell)) = false) : S1 G (.Assign [.Name n p] (.ListComp elt gs scope pos) spos) ρ R := by
  obtain ⟨te, h1, h2, h3⟩ := he.ex
  exact .of (ps_lcG hi hy (swapT hk hy hl ha) h2) (asgO (te := fun _ => te) (fun W => h3) hR)
theorem s_ret (he : ED G e ρ r) (hR : R (.rt r)) : S1 G (.Return (some e) pos) ρ R := .of (fun X W h tk => ps_ret (pe_of h.is)) fun W B S H σ D ex eb sl cn => he B S H σ ex sl _ fun v S1 H1 g1 r1 =>
  cn.rt r v S1 H1 hR (Go.keepB eb g1) (r1.base eb)
theorem s_retX {O : Ot → Prop} (he : XD G e ρ O) (hR : ∀ r, O (.inl r) → R (.rt r)) (hE : ∀ c, O (.inr c) → R (.ex c ρ)) : S1 G (.Return (some e) pos) ρ R := .of (fun X W h tk => ps_ret (px_of h tk)) fun W B S H σ D ex eb sl cn => he W B S H σ ex sl _ (fun r v S1 H1 o g1 r1 =>
  cn.rt r v S1 H1 (hR r o) (Go.keepB eb g1) (r1.base eb)) fun c H1 o e1 => cn.ex c ρ S H1 σ (hE c o) ⟨Ex.refl S, ex.trans e1, eb.trans e1, fun _ z => .inl z⟩ (sl.go ⟨Ex.refl S, ex.trans e1, e1, fun _ z => .inl z⟩)
theorem s_retN (hR : R (.rt (.sh .non))) : S1 G (.Return none pos) ρ R := .of (fun X W h tk => ps_retN) fun W B S H σ D ex eb sl cn => cn.rt _ .non S H hR ⟨Ex.refl S, ex, eb, fun _ z => .inl z⟩ .non
/-- what is owned is handed out as a new list -/
theorem s_retO (h : ρ[G.N.idxOf n]? = some (.own ds)) (hv : visB G.sc n = true) (hR : R (.rt (.fr ds))) (hd : okName n = true := by rfl) : S1 G (.Return (some (.Name n p)) pos) ρ R := .of (t := fun _ => tRet (tVar (G.N.idxOf n))) (fun X W k tk => by
    refine ⟨fun pins s σ H D I q => ?_⟩
    obtain ⟨v, e1, q⟩ := id q
    have hl : G.N.idxOf n < G.N.length := by
      have h1 := I.len
      rw [k.is.N] at h1
      have h2 := (List.getElem?_eq_some_iff.mp e1).1
      omega
    unfold okName at hd
    rw [Bool.and_eq_true, Bool.not_eq_true', Bool.not_eq_true'] at hd
    exact (ps_ret (pe_var (by rw [k.is.N]; exact ixAt hl) (by rw [k.is.sc]; exact vis_of hv) hd.1 hd.2)).run pins s σ H D I ⟨v, e1, q⟩) fun W B S H σ D ex eb sl cn => by
  obtain ⟨p, vs, h1, h2, h3, h4, z, h5⟩ := sl.own _ _ h
  exact ⟨_, h1, cn.rt _ _ S H hR ⟨Ex.refl S, ex, eb, fun _ z => .inl z⟩ ⟨p, vs, rfl, h2, h3, h4, z, h5⟩⟩
theorem s_expr (he : ED G e ρ r) (hR : R (.nx ρ)) (hs : ∀ env, swapsWith e none pos.line env = pure false := by intro _; rfl) : S1 G (.Expr e pos) ρ R := .of (fun X W h tk => ps_expr (pe_of h.is) (hs _)) fun W B S H σ D ex eb sl cn => he B S H σ ex sl _ fun v S1 H1 g1 r1 =>
  cn.nx ρ S1 H1 σ hR (Go.keepB eb g1) (sl.go g1)
theorem s_exprX {O : Ot → Prop} (he : XD G e ρ O) (hR : ∀ r, O (.inl r) → R (.nx ρ)) (hE : ∀ c, O (.inr c) → R (.ex c ρ)) (hs : ∀ env, swapsWith e none pos.line env = pure false := by intro _; rfl) : S1 G (.Expr e pos) ρ R := .of (fun X W h tk => ps_expr (px_of h tk) (hs _)) fun W B S H σ D ex eb sl cn => he W B S H σ ex sl _ (fun r v S1 H1 o g1 r1 =>
  cn.nx ρ S1 H1 σ (hR r o) (Go.keepB eb g1) (sl.go g1)) fun c H1 o e1 => cn.ex c ρ S H1 σ (hE c o) ⟨Ex.refl S, ex.trans e1, eb.trans e1, fun _ z => .inl z⟩ (sl.go ⟨Ex.refl S, ex.trans e1, e1, fun _ z => .inl z⟩)
theorem s_doc {x : Str} {j} : (R (.nx ρ)) → S1 G (.Expr (.Constant (.str x) j p) pos) ρ R := fun hR => .of (fun X W h tk => ps_doc) fun W B S H σ D ex eb sl cn => cn.nx ρ S H σ hR ⟨Ex.refl S, ex, eb, fun _ z => .inl z⟩ sl
theorem s_pass (hR : R (.nx ρ)) : S1 G (.Pass pos) ρ R := .of (fun X W h tk => ps_pass) fun W B S H σ D ex eb sl cn => cn.nx ρ S H σ hR ⟨Ex.refl S, ex, eb, fun _ z => .inl z⟩ sl
theorem s_break (hR : R (.bk ρ)) : S1 G (.Break pos) ρ R := .of (fun X W h tk => ps_break) fun W B S H σ D ex eb sl cn => cn.bk ρ S H σ hR ⟨Ex.refl S, ex, eb, fun _ z => .inl z⟩ sl
theorem s_if {k : Bool} (hc : TD G c ρ k) (h1 : k = true → SD G body ρ R) (h2 : k = false → SD G orelse ρ R) : S1 G (.If c body orelse pos) ρ R := .of (fun X W h tk => ps_if (pt_of h.is) (pss_of h tk) (pss_of h tk)) fun W B S H σ D ex eb sl cn => hc B S H σ ex sl _ fun S1 H1 g1 => by
  have g := Go.keepB eb g1
  cases k with
  | true =>
    rw [if_pos rfl]
    exact h1 rfl W B S1 H1 σ D g1.sh g.bh (sl.go g1) (cn.go g)
  | false =>
    rw [if_neg Bool.false_ne_true]
    exact h2 rfl W B S1 H1 σ D g1.sh g.bh (sl.go g1) (cn.go g)
/-- a list that a name owns is changed -/
theorem Slots.mut {U : Wd} {B S H : Hp} {σ : L2.St} {i : Nat} {es : List D} {q : Addr} {vs ws : List V} (sl : Slots U B S H σ ρ) (h : ρ[i]? = some (.own ds)) (hq : σ[i]? = some (some (.ref q))) (z : ws.length ≤ sizeLine) (hw : RepL U S ws es) : Slots U B S (upd H q (.lst ws)) σ (ρ.set i (.own es)) := by
  obtain ⟨p, us, h1, h2, h3, h4, z', h5⟩ := sl.own i ds h
  obtain rfl : p = q := by
    rw [h1] at hq
    have := Option.some.inj (Option.some.inj hq)
    injection this
  refine ⟨by rw [List.length_set]; exact sl.len, fun j d hj => ?_, fun j fs hj => ?_, fun j k fs gs q hj hk aj ak => ?_, fun a ha => sl.nw a ?_⟩
  · rcases setGet hj with ⟨rfl, e1, hl⟩ | ⟨ne, hj⟩
    · cases e1
    · exact sl.sh j d hj
  · rcases setGet hj with ⟨rfl, e1, hl⟩ | ⟨ne, hj⟩
    · cases e1
      exact ⟨p, ws, h1, upd_same, h3, h4, z, hw⟩
    · obtain ⟨q, xs, a1, a2, a3, a4, a5, a6⟩ := sl.own j fs hj
      have nq : q ≠ p := fun e => ne (sl.sep i j ds fs p h hj h1 (e ▸ a1))
      exact ⟨q, xs, a1, by rw [upd_ne nq]; exact a2, a3, a4, a5, a6⟩
  · rcases setGet hj with ⟨rfl, e1, hl⟩ | ⟨ne, hj⟩
    · cases e1
      rcases setGet hk with ⟨rfl, e2, hl'⟩ | ⟨ne', hk⟩
      · rfl
      · exact sl.sep _ _ _ _ _ h hk aj ak
    · rcases setGet hk with ⟨rfl, e2, hl'⟩ | ⟨ne', hk⟩
      · cases e2
        exact sl.sep _ _ _ _ _ hj h aj ak
      · exact sl.sep j k fs gs q hj hk aj ak
  · by_cases hp : a = p
    · subst hp
      rw [upd_same] at ha
      cases ha
    · rw [upd_ne hp] at ha
      exact ha
/-- what the look at a method's call asks of its text -/
abbrev BmOk (o : Expr) (name : Str) (e : Expr) (es : List Expr) (apos cpos : Pos) : Prop := (∀ env, attributeBase o name env (eval o env) = eval o env) ∧
  (∀ env, ((backTo cpos (starEach (e :: es) env)).all (fun x => !x.1) && (backToKw cpos (keywordEach [] env)).all (fun x => x.1.isSome) && decide ((e :: es).length + ([] : List Keyword).length + (if ([] : List Keyword).isEmpty then 0 else 1) < 30)) = true) ∧
  (apos.endLine == cpos.line) = true ∧ StarN e es
theorem name_pe {X : Cx} {σ : L2.St} {pins : List (Addr × Obj)} {H : Hp} {s : Shared} {v : V} (k : G.is X) (I : Inv X pins σ H s) (e1 : σ[G.N.idxOf n]? = some v) (hv : visB G.sc n = true) (hd : okName n = true) : PE X (.Name n p) (tVar (G.N.idxOf n)) := by
  have hl : G.N.idxOf n < G.N.length := by
    have h1 := I.len
    rw [k.N] at h1
    have h2 := (List.getElem?_eq_some_iff.mp e1).1
    omega
  unfold okName at hd
  rw [Bool.and_eq_true, Bool.not_eq_true', Bool.not_eq_true'] at hd
  exact pe_var (by rw [k.N]; exact ixAt hl) (by rw [k.sc]; exact vis_of hv) hd.1 hd.2
theorem s_app {apos : Pos} {pos' : Pos} (he : ED G e ρ (.sh d)) (h : ρ[G.N.idxOf n]? = some (.own ds)) (hv : visB G.sc n = true) (hz : ds.length < sizeLine) (hR : R (.nx (ρ.set (G.N.idxOf n) (.own (ds ++ [d]))))) (hd : okName n = true := by rfl)
    (hb : BmOk (.Name n p) "append" e [] apos pos := by exact ⟨by intro _; rfl, by intro _; rfl, rfl, by intro _; rfl, by intros; rfl⟩) : S1 G (.Expr (.Call (.Attribute (.Name n p) "append" apos) [e] [] pos) pos') ρ R := by
  refine .of (t := fun _ => tDrop (tBM G.U.K "list" rAppend (tVar (G.N.idxOf n)) (tCons (tG G e) tNil))) (fun X W k tk => ?_) fun W B S H σ D ex eb sl cn => ?_
  · refine ⟨fun pins s σ H D I q => ?_⟩
    obtain ⟨v, e1, q'⟩ := id q
    obtain ⟨b1, b2, b3, b4, b5⟩ := hb
    have hpe := pe_bm (apos := apos) (cpos := pos) PySem.F.plainAttrs_list PySem.F.slot_list_append PySem.F.type_list_append mt_append (name_pe k.is I e1 hv hd) (pa_cons (pe_of k.is) pa_nil (hs := b4 _)) (b1 _) (b2 _) b3 (b4 _) (b5 _ _)
    rw [k.is.K] at hpe
    exact (ps_expr hpe).run pins s σ H D I q
  · obtain ⟨q, vs, h1, h2, h3, h4, z, h5⟩ := sl.own _ _ h
    refine ⟨_, h1, .inl ⟨rfl, _, .of h2⟩, ?_⟩
    refine he B S H σ ex sl _ fun v S1 H1 g1 r1 => ?_
    have g := Go.keepB eb g1
    have hq1 := g1.bh _ _ h2
    have hs1 := g1.own h2 h3
    refine ⟨q, vs, v, rfl, rfl, hq1, by rw [h5.length]; exact hz, ?_⟩
    have sl1 := sl.go g1
    refine cn.nx _ S1 _ σ hR ⟨g.ss, Ex.mut g.sh hs1, Ex.mut g.bh h4, g.nw⟩ (Slots.mut (vs := vs) sl1 h h1 ?_ ((h5.mono g1.ss).append (.cons r1 .nil)))
    rw [List.length_append, h5.length]
    exact hz
end
end Mb
set_option Elab.async false
set_option linter.all false
set_option maxRecDepth 100000
set_option maxHeartbeats 4000000
namespace Mb
open PySem PySem.Spec PyProof.Rows L2

/-! ### loops -/
section
variable {G : Gx} {ρ : List Sl} {R : Oc → Prop} {tg it c : Expr} {pos p pn : Pos} {n : Str} {ds : List D} {body : List Stmt}
/-- what a turn is to reach -/
def Lp (Nx : List Sl → Prop) (R : Oc → Prop) : Oc → Prop
  | .nx ρ => Nx ρ
  | .ct ρ => Nx ρ
  | .bk ρ => R (.nx ρ)
  | .rt r => R (.rt r)
  | .ex c ρ => R (.ex c ρ)
theorem for_core {g : TG} {vs : List Nat} {set : D → List Sl → List Sl} (hi : IF G tg it ρ ds) (hg : ∀ X, G.iss X → PG X tg g) (gd : ∀ d ∈ ds, GD G.U.K g vs d (set d)) (Inv : Nat → List Sl → Prop) (h0 : Inv 0 ρ)
    (hs : ∀ i d ρ', ds[i]? = some d → Inv i ρ' → SD G body (set d ρ') (Lp (Inv (i + 1)) R)) (hd : ∀ ρ', Inv ds.length ρ' → R (.nx ρ')) (hf : ∀ env x, foldedSetIterable it env x = pure x) : S1 G (.For tg it body [] pos) ρ R := by
  refine .of (t := fun W => tFor (tGI G tg it) g (tS G W body)) (fun X W h tk => ps_for h.own h.is.calm (pi_of h.is) (hg X h) (pss_of h tk) (hf _)) fun W B S H σ D ex eb sl cn => ?_
  refine hi B S H σ ex sl _ fun J S1 H1 g1 wk => ?_
  have gb := Go.keepB eb g1
  refine ⟨fun i m σ' H' => m = ds.length - i ∧ i ≤ ds.length ∧ ∃ ρ' S', Inv i ρ' ∧ Go S1 B S' H' ∧ Slots G.U B S' H' σ' ρ', ⟨ds.length, rfl, Nat.zero_le _, ρ, S1, h0, ⟨Ex.refl _, g1.sh, gb.bh, fun _ z => .inl z⟩, sl.go g1⟩, ?_⟩
  rintro i m σ' H' ⟨rfl, hle, ρ', S', inv, g2, sl2⟩
  obtain ⟨wgo, wstop⟩ := wk S' H' g2.ss g2.sh i
  by_cases hlt : i < ds.length
  · have gi : ds[i]? = some ds[i] := List.getElem?_eq_getElem hlt
    obtain ⟨go, hy⟩ := wgo ds[i] gi
    refine .inr ⟨go, fun σ2 H2 => ∃ ρ2 S2, Inv (i + 1) ρ2 ∧ Go S1 B S2 H2 ∧ Slots G.U B S2 H2 σ2 ρ2, fun σ2 H2 h2 => ⟨ds.length - (i + 1), by omega, rfl, hlt, h2⟩, fun x H2 hy2 => ?_⟩
    obtain ⟨rfl, rx⟩ := hy x H2 hy2
    refine (gd ds[i] (List.getElem_mem hlt)).run G.U B S' H2 σ' ρ' x rfl g2.sh sl2 rx _ fun σ2 _ _ sl3 => ?_
    refine hs i ds[i] ρ' gi inv W B S' H2 σ2 _ g2.sh g2.bh sl3 ⟨fun ρ3 S3 H3 σ3 r3 g3 s3 => ⟨ρ3, S3, r3, g2.transB g3, s3⟩, fun r v S3 H3 r3 g3 s3 => cn.rt r v S3 H3 r3 ((gb.transB g2).transB g3) s3, fun ρ3 S3 H3 σ3 r3 g3 s3 => cn.nx ρ3 S3 H3 σ3 r3 ((gb.transB g2).transB g3) s3, fun ρ3 S3 H3 σ3 r3 g3 s3 => ⟨ρ3, S3, r3, g2.transB g3, s3⟩, fun c ρ3 S3 H3 σ3 r3 g3 s3 => cn.ex c ρ3 S3 H3 σ3 r3 ((gb.transB g2).transB g3) s3⟩
  · have ei : i = ds.length := by omega
    subst ei
    exact .inl ⟨wstop (Nat.le_refl _), cn.nx ρ' S' H' σ' (hd ρ' inv) (gb.transB g2) sl2⟩
theorem pgd (hN : G.N.Nodup) (hi : G.N.idxOf n < G.N.length) (ok : setOk G.sc G.fn n = true) : ∀ X, G.iss X → PG X (.Name n p) (gName (G.N.idxOf n)) := fun X h =>
  pg_name (by rw [h.is.N]; exact hN) (by rw [h.is.N]; exact ixAt hi) (by rw [h.is.sc]; exact (setOk_loc ok).1) (by rw [h.is.fn, h.is.sc]; exact (setOk_loc ok).2)
theorem s_for (hi : IF G (.Name n pn) it ρ ds) (Inv : Nat → List Sl → Prop) (h0 : Inv 0 ρ) (hs : ∀ i d ρ', ds[i]? = some d → Inv i ρ' → SD G body (ρ'.set (G.N.idxOf n) (.sh d)) (Lp (Inv (i + 1)) R)) (hd : ∀ ρ', Inv ds.length ρ' → R (.nx ρ'))
    (hN : G.N.Nodup) (hx : G.N.idxOf n < G.N.length) (ok : setOk G.sc G.fn n = true) (hf : ∀ env x, foldedSetIterable it env x = pure x := by intros; rfl) : S1 G (.For (.Name n pn) it body [] pos) ρ R :=
  for_core (set := fun d ρ => ρ.set (G.N.idxOf n) (.sh d)) hi (pgd hN hx ok) (fun d _ => gd_name (vs := [G.N.idxOf n]) (by simp)) Inv h0 hs hd hf
theorem s_for2 {m : Str} {pm : Pos} {k} {α : Type} {xs : List α} {e1 e2 : α → D} (hi : IF G (.Tuple [.Name n pn, .Name m pm] k p) it ρ (xs.map fun i => D.tup [e1 i, e2 i])) (Inv : Nat → List Sl → Prop) (h0 : Inv 0 ρ)
    (hs : ∀ i x ρ', xs[i]? = some x → Inv i ρ' → SD G body ((ρ'.set (G.N.idxOf n) (.sh (e1 x))).set (G.N.idxOf m) (.sh (e2 x))) (Lp (Inv (i + 1)) R)) (hd : ∀ ρ', Inv xs.length ρ' → R (.nx ρ'))
    (hN : G.N.Nodup) (hx : G.N.idxOf n < G.N.length) (hx2 : G.N.idxOf m < G.N.length) (ok : setOk G.sc G.fn n = true) (ok2 : setOk G.sc G.fn m = true) (hf : ∀ env x, foldedSetIterable it env x = pure x := by intros; rfl) : S1 G (.For (.Tuple [.Name n pn, .Name m pm] k p) it body [] pos) ρ R := by
  refine for_core (g := gTup G.U.K 2 (gCons (gName (G.N.idxOf n)) (gCons (gName (G.N.idxOf m)) gNil))) (vs := [G.N.idxOf n, G.N.idxOf m])
    (set := fun d ρ => match d with
      | .tup [a, b] => (ρ.set (G.N.idxOf n) (.sh a)).set (G.N.idxOf m) (.sh b)
      | _ => ρ) hi (fun X h => ?_) (fun d hd => ?_) Inv h0 (fun i d ρ' hd inv => ?_) (fun ρ' h => hd ρ' (by rw [List.length_map] at h; exact h)) hf
  · have hk : X.K = G.U.K := h.is.K
    rw [← hk]
    exact pg_tup h.is.calm (pgs_cons (pgd hN hx ok X h) (pgs_cons (pgd hN hx2 ok2 X h) pgs_nil))
  · obtain ⟨x, _, rfl⟩ := List.mem_map.mp hd
    exact gd_pair (by simp) (by simp)
  · rw [List.getElem?_map] at hd
    cases e : xs[i]? with
    | none =>
      rw [e] at hd
      cases hd
    | some x =>
      rw [e] at hd
      obtain rfl := Option.some.inj (show some _ = some d from hd)
      exact hs i x ρ' e inv
theorem s_while (Wd : Nat → List Sl → Prop) {m0 : Nat} (h0 : Wd m0 ρ)
    (hs : ∀ m ρ', Wd m ρ' → ∃ k, TD G c ρ' k ∧ (k = true → SD G body ρ' (Lp (fun ρ2 => ∃ m', m' < m ∧ Wd m' ρ2) R)) ∧ (k = false → R (.nx ρ'))) : S1 G (.While c body [] pos) ρ R := by
  refine .of (t := fun W => tWhile (tGT G c) (tS G W body)) (fun X W h tk => ps_while h.own (pt_of h.is) (pss_of h tk)) fun W B S H σ D ex eb sl cn => ?_
  refine ⟨fun m σ' H' => ∃ ρ' S', Wd m ρ' ∧ Go S B S' H' ∧ Slots G.U B S' H' σ' ρ', ⟨m0, ρ, S, h0, ⟨Ex.refl _, ex, eb, fun _ z => .inl z⟩, sl⟩, ?_⟩
  rintro m σ' H' ⟨ρ', S', w, g, sl'⟩
  obtain ⟨k, ht, h1, h2⟩ := hs m ρ' w
  refine ht B S' H' σ' g.sh sl' _ fun S1 H1 g1 => ?_
  have g2 := g.transB (Go.keepB g.bh g1)
  cases k with
  | false =>
    rw [if_neg Bool.false_ne_true]
    exact cn.nx ρ' S1 H1 σ' (h2 rfl) g2 (sl'.go g1)
  | true =>
    rw [if_pos rfl]
    refine ⟨fun σ2 H2 => ∃ m', m' < m ∧ ∃ ρ2 S2, Wd m' ρ2 ∧ Go S B S2 H2 ∧ Slots G.U B S2 H2 σ2 ρ2, fun σ2 H2 h => h, ?_⟩
    refine h1 rfl W B S1 H1 σ' _ g1.sh g2.bh (sl'.go g1) ⟨fun ρ3 S3 H3 σ3 r3 g3 s3 => ?_, fun r v S3 H3 r3 g3 s3 => cn.rt r v S3 H3 r3 (g2.transB g3) s3, fun ρ3 S3 H3 σ3 r3 g3 s3 => cn.nx ρ3 S3 H3 σ3 r3 (g2.transB g3) s3, fun ρ3 S3 H3 σ3 r3 g3 s3 => ?_, fun c ρ3 S3 H3 σ3 r3 g3 s3 => cn.ex c ρ3 S3 H3 σ3 r3 (g2.transB g3) s3⟩
    · obtain ⟨m', hm, w'⟩ := r3
      exact ⟨m', hm, ρ3, S3, w', g2.transB g3, s3⟩
    · obtain ⟨m', hm, w'⟩ := r3
      exact ⟨m', hm, ρ3, S3, w', g2.transB g3, s3⟩
end

/-! ### a, b = a pair -/
section
variable {G : Gx} {ρ : List Sl} {R : Oc → Prop} {e : Expr} {pos p pn pm : Pos} {n m : Str} {d1 d2 : D} {k : Nat}
theorem s_set2 {k} (he : ED G e ρ (.sh (.tup [d1, d2]))) (hR : R (.nx ((ρ.set (G.N.idxOf n) (.sh d1)).set (G.N.idxOf m) (.sh d2)))) (hN : G.N.Nodup) (hx : G.N.idxOf n < G.N.length) (hx2 : G.N.idxOf m < G.N.length) (ok : setOk G.sc G.fn n = true) (ok2 : setOk G.sc G.fn m = true)
    (hs : (∀ env, swapsWithSole [.Tuple [.Name n pn, .Name m pm] k p] e pos.line env = pure false) ∧ (∀ env, swappedStores [.Tuple [.Name n pn, .Name m pm] k p] e env = pure none) := by exact ⟨by intro _; rfl, by intro _; rfl⟩) : S1 G (.Assign [.Tuple [.Name n pn, .Name m pm] k p] e pos) ρ R := by
  refine .of (t := fun W => tAsg (tG G e) (gTup G.U.K 2 (gCons (gName (G.N.idxOf n)) (gCons (gName (G.N.idxOf m)) gNil)))) (fun X W h tk => ?_) fun W B S H σ D ex eb sl cn => he B S H σ ex sl _ fun v S1 H1 g1 r1 => ?_
  · have hk : X.K = G.U.K := h.is.K
    rw [← hk]
    exact ps_asg (pe_of h.is) (pg_tup h.is.calm (pgs_cons (pgd hN hx ok X h) (pgs_cons (pgd hN hx2 ok2 X h) pgs_nil))) (hs.1 _) (hs.2 _)
  · exact (gd_pair (vs := [G.N.idxOf n, G.N.idxOf m]) (by simp) (by simp)).run G.U B S1 H1 σ ρ v rfl g1.sh (sl.go g1) r1 _ fun σ2 _ _ sl2 => cn.nx _ S1 H1 σ2 hR (Go.keepB eb g1) sl2
end

/-! ### errors -/
/-- an own error class of the module -/
structure ExT (U : Wd) (x : Str) (C : Addr) : Prop where
  g : U.mg x = some (.ref C)
  k : PySem.W.keepIn U.K (.ref C) = true
  q : PySem.W.excIn U.K C [.type "ValueError", .type "Exception", .type "BaseException", .type "object"] "ValueError.__new__" = true
  s : PySem.W.subIn U.K (.ref C) (.type "BaseException") = some true
  t : PySem.W.typeIn U.K (.ref C) = some (.type "type")
section
variable {G : Gx} {ρ : List Sl} {R : Oc → Prop} {pos p p2 pos2 : Pos} {x m : Str} {C : Addr}
theorem s_raise {j} (T : ExT G.U x C) (hg : GlN G x) (hR : R (.ex C ρ)) (hd : (x == ("__debug__" : Str)) = false := by rfl) : S1 G (.Raise (some (.Call (.Name x p) [.Constant (.str m) j p2] [] pos)) none pos2) ρ R :=
  .of (t := fun W _ σ H => W (.ref C) none σ H) (fun X W h tk => ps_raise h.is.calm tk (pmk_own PySem.F.excBase_ValueError (by rw [h.is.K]; exact T.q) (by rw [h.is.mg]; exact T.g) (by rw [h.is.K]; exact T.k) (raises_own (by rw [h.is.K]; exact T.s) (by rw [h.is.K]; exact T.t)) (gl_of h.is hg) hd)) fun W B S H σ D ex eb sl cn =>
    cn.ex C ρ S H σ hR ⟨Ex.refl S, ex, eb, fun _ z => .inl z⟩ sl
end

/-! ### calls that may raise -/
section
variable {G : Gx} {ρ : List Sl} {a b e o : Expr} {es : List Expr} {pos p apos : Pos} {r : Rs} {x m : Str} {k : Nat} {A : List D → Ot → Prop} {ds : List D} {O : Ot → Prop} {ot : Ot}
theorem XD.of {te : WX → TE} (h : ∀ X W, G.iss X → Takes X W → PE X e (te W)) (ev : ∀ (W : WX) (B S H : Hp) (σ : L2.St), Ex S H → Slots G.U B S H σ ρ → ∀ Q : VK, (∀ r v S' H', O (.inl r) → Go S H S' H' → RepR G.U H S' H' v r → Q v H') → (∀ c H', O (.inr c) → Ex H H' → W (.ref c) none σ H') → te W σ H Q) : XD G e ρ O :=
  ⟨fun W B S H σ ex sl Q q1 q2 X hX tk pins s I => (h X W hX tk).run pins s σ H Q I (ev W B S H σ ex sl Q q1 q2)⟩
theorem XD.imp {O' : Ot → Prop} (h : XD G e ρ O') (q : ∀ o, O' o → O o) : XD G e ρ O := ⟨fun W B S H σ ex sl Q q1 q2 => h W B S H σ ex sl Q (fun r v S' H' o g rr => q1 r v S' H' (q _ o) g rr) fun c H' o g => q2 c H' (q _ o) g⟩
theorem XD.shr {O' : Ot → Prop} (h : XD G e ρ O') (q1 : ∀ r, O' (.inl r) → O (.inl (.sh r.d)) ∧ ∀ ds, r ≠ .ow ds) (q2 : ∀ c, O' (.inr c) → O (.inr c)) : XD G e ρ O := ⟨fun W B S H σ ex sl Q k1 k2 => h W B S H σ ex sl Q (fun r v S' H' o g rr => by
  obtain ⟨o1, o2⟩ := q1 r o
  cases r with
  | sh d => exact k1 _ v S' H' o1 g rr
  | fr ds =>
    obtain ⟨p, vs, e1, h1, h2, h3, z, h4⟩ := rr
    subst e1
    exact k1 _ _ (upd S' p (.lst vs)) H' o1 (g.add h1 h2 h3) (.lst upd_same z (h4.mono (Ex.new h2)))
  | ow ds => exact absurd rfl (o2 ds)) fun c H' o g => k2 c H' (q2 c o) g⟩
theorem xd_thaw (h : XD G e (thaw ρ) O) (hd : ∀ r, O (.inl r) → ∃ d, r = .sh d ∧ d.scalar = true) : XD G e ρ O := ⟨fun W B S H σ ex sl Q q1 q2 => by
  obtain ⟨S1, e1, e2, s1⟩ := slots_thaw ex sl
  refine h W _ S1 H σ e2 s1 Q (fun r v S' H' o g rr => ?_) q2
  obtain ⟨d, rfl, sc⟩ := hd r o
  exact q1 _ v S H' o ⟨Ex.refl S, (e1.trans g.ss).trans g.sh, g.bh, fun _ h => .inl h⟩ (scalar_rep sc rr)⟩
theorem xd_call (T : FnT G.U x k A) (hk : k ≤ G.k) (hg : GlN G x) (ha : AD G (e :: es) ρ ds) (hA : A ds ot) (hO : O ot) (hd : (x == ("__debug__" : Str)) = false := by rfl)
    (hs : StarN e es := by exact ⟨by intro _; rfl, by intros; rfl⟩) : XD G (.Call (.Name x p) (e :: es) [] pos) ρ O := by
  obtain ⟨f, fd, ps, gm, kp, bd, F⟩ := T.ex
  refine .of (te := fun W => tCallS (spX G.U A) (WE W) (tGA G (e :: es))) (fun X W h tk => pe_callS (CX := L2.CX X.prog X.w) (by rw [← CX_at h.is]; exact FnOk.at h.is F) (h.is.room.mono hk) (gl_of h.is hg) (by rw [h.is.mg]; exact gm) (by rw [h.is.K]; exact kp) (by rw [h.is.K]; exact bd) (fun σ => passAt tk σ) (pa_of h.is) hd (hs.1 _) (hs.2 _ _)) ?_
  intro W B S H σ ex sl Q q1 q2
  refine ha B S H σ ex sl _ fun vs S1 H1 g1 r1 => ?_
  refine ⟨ds, ot, S1, hA, g1.sh, (sl.go g1).nw, r1, fun r' hr v S2 H2 g2 r2 => ?_, fun c hc H2 e2 => ?_⟩
  · subst hr
    exact q1 r' v S2 H2 hO (g1.trans g2) (r2.base g1.bh)
  · subst hc
    exact q2 c H2 hO (g1.bh.trans e2)
/-- o.m(e, ..), what leaves the method told at the slots -/
def tMethS (C : Addr) (m : Str) (sp : Sp) (E : L2.St → XK) (ta : TE) (t : TA) : TE := fun σ H Q => ta σ H fun x H1 => ∃ a dx fs, x = .ref a ∧ H1 a = some (.ins C dx fs) ∧ fs.lookup m = none ∧ t σ H1 fun vs H2 => sp (x :: vs) H2 Q (E σ)
theorem pe_methX {X : Cx} {CX : CXT} {C f : Addr} {fd : FuncData} {ps : List Str} {sp : Sp} {E : L2.St → XK} {ta : TE} {t : TA} {pl : Sem Bool} (he : PE X o ta) (c : Cls X.K C) (hm : Meth X.K C m f) (F : FnOk X.prog X.w X.K X.mg X.base CX k f fd ps sp) (hr : Room k X.A) (hb : Binds X.K fd ps [])
    (hx : ∀ σ, PassesAt CX X σ (E σ)) (ha : PA X (e :: es) t) (hst : starEach (e :: es) X.env = (false, eval e X.env) :: starEach es X.env) (hpl : (backTo pos (starEach es X.env)).any (·.1) = false)
    (ht : eval (.Call (.Attribute o m apos) (e :: es) [] pos) X.env = (do
      let ov ← eval o X.env
      standAt apos.atName
      let (f, first) ← holding [ov] (getMethod ov m pl)
      callWith pos f first (backTo pos (starEach (e :: es) X.env)) (backToKw pos (keywordEach [] X.env)))) : PE X (.Call (.Attribute o m apos) (e :: es) [] pos) (tMethS C m sp E ta t) := by
  refine ⟨fun pins s σ H Q I h => PySem.W.methodCall_KW (pl := pl) (thn (he.run pins s σ H _ I h) fun u s1 h1 => ?_) ht⟩
  obtain ⟨x, H1, I1, rx, a, dx, fs, ex, ea, l, q⟩ := h1
  subst ex
  obtain rfl : u = Value.ref a := rx
  refine getmeth_ok I1 ea c hm l ?_
  refine PySem.W.callWith_K (first := [.ref a]) (h₀ := X.base) I.ok.mod.kin hm.kp (thn (ha.run pos pins s1 σ H1 _ I1 q) fun us s2 h2 => ?_) hst hpl
  obtain ⟨vs, H2, I2, r, q2⟩ := h2
  exact ⟨I2.kIn, run_fnS (us := .ref a :: us) (vs := .ref a :: vs) F hr hb (hx σ) I2 (.cons rfl r) q2⟩
theorem xd_meth {d : D} {i : Int} (C : TabOk G.U) (T : MtT G.U m k A) (hk : k ≤ G.k) (ho : ED G o ρ (.sh d)) (hd : d.many? = some i) (ha : AD G (e :: es) ρ ds) (hA : A (d :: ds) ot) (hO : O ot)
    (hm : MethN m := by exact ⟨by rfl, by rfl⟩)
    (hs : StarN e es := by exact ⟨by intro _; rfl, by intros; rfl⟩) (ht : MethEv o m apos (e :: es) pos := by exact fun _ => ⟨_, rfl⟩) : XD G (.Call (.Attribute o m apos) (e :: es) [] pos) ρ O := by
  obtain ⟨f, fd, ps, mt, bd, F⟩ := T.ex
  refine .of (te := fun W => tMethS G.U.C m (spX G.U A) (WE W) (tG G o) (tGA G (e :: es))) (fun X W h tk => ?_) ?_
  · obtain ⟨pl, ht⟩ := ht X.env
    exact pe_methX (CX := L2.CX X.prog X.w) (pl := pl) (pe_of h.is) (by rw [h.is.K]; exact C.cls) (by rw [h.is.K]; exact mt) (by rw [← CX_at h.is]; exact FnOk.at h.is F) (h.is.room.mono hk) (by rw [h.is.K]; exact bd) (fun σ => passAt tk σ) (pa_of h.is) (hs.1 _) (hs.2 _ _) ht
  intro W B S H σ ex sl Q q1 q2
  refine ho B S H σ ex sl _ fun v S1 H1 g1 r1 => ?_
  obtain ⟨a, dx, fs, rfl, h1, _, h2⟩ := obj_look r1 hd
  refine ⟨a, dx, _, rfl, g1.sh _ _ h1, h2 m hm.1 hm.2, ?_⟩
  refine ha B S1 H1 σ g1.sh (sl.go g1) _ fun vs S2 H2 g2 r2 => ?_
  refine ⟨_, ot, S2, hA, g2.sh, ((sl.go g1).go g2).nw, .cons (Rep.mono g2.ss r1) r2, fun r' hr v S3 H3 g3 r3 => ?_, fun c hc H3 e3 => ?_⟩
  · subst hr
    exact q1 r' v S3 H3 hO ((g1.trans g2).trans g3) (r3.base (g1.bh.trans g2.bh))
  · subst hc
    exact q2 c H3 hO ((g1.bh.trans g2.bh).trans e3)
/-- o.m(e), e may raise -/
theorem xd_meth1 {d : D} {i : Int} {O1 : Ot → Prop} (C : TabOk G.U) (T : MtT G.U m k A) (hk : k ≤ G.k) (ho : ED G o ρ (.sh d)) (hd : d.many? = some i) (he : XD G e ρ O1)
    (h1 : ∀ r, O1 (.inl r) → ∃ d1 ot, r = .sh d1 ∧ A [d, d1] ot ∧ O ot) (h2 : ∀ c, O1 (.inr c) → O (.inr c)) (hm : MethN m := by exact ⟨by rfl, by rfl⟩)
    (hs : StarN e [] := by exact ⟨by intro _; rfl, by intros; rfl⟩) (ht : MethEv o m apos [e] pos := by exact fun _ => ⟨_, rfl⟩) : XD G (.Call (.Attribute o m apos) [e] [] pos) ρ O := by
  obtain ⟨f, fd, ps, mt, bd, F⟩ := T.ex
  refine .of (te := fun W => tMethS G.U.C m (spX G.U A) (WE W) (tG G o) (tCons (tX G W e) tNil)) (fun X W h tk => ?_) ?_
  · obtain ⟨pl, ht⟩ := ht X.env
    exact pe_methX (CX := L2.CX X.prog X.w) (pl := pl) (pe_of h.is) (by rw [h.is.K]; exact C.cls) (by rw [h.is.K]; exact mt) (by rw [← CX_at h.is]; exact FnOk.at h.is F) (h.is.room.mono hk) (by rw [h.is.K]; exact bd) (fun σ => passAt tk σ) (pa_cons (px_of h tk) pa_nil (hs := hs.1 _)) (hs.1 _) (hs.2 _ _) ht
  intro W B S H σ ex sl Q q1 q2
  refine ho B S H σ ex sl _ fun v S1 H1 g1 r1 => ?_
  obtain ⟨a, dx, fs, rfl, k1, _, k2⟩ := obj_look r1 hd
  refine ⟨a, dx, _, rfl, g1.sh _ _ k1, k2 m hm.1 hm.2, ?_⟩
  refine he W B S1 H1 σ g1.sh (sl.go g1) _ (fun r u S2 H2 o2 g2 r2 => ?_) fun c H2 o2 e2 => q2 c H2 (h2 c o2) (g1.bh.trans e2)
  obtain ⟨d1, ot, rfl, hA, hO⟩ := h1 r o2
  refine ⟨_, ot, S2, hA, g2.sh, ((sl.go g1).go g2).nw, .cons (Rep.mono g2.ss r1) (.cons r2 .nil), fun r' hr v S3 H3 g3 r3 => ?_, fun c hc H3 e3 => ?_⟩
  · subst hr
    exact q1 r' v S3 H3 hO ((g1.trans g2).trans g3) (r3.base (g1.bh.trans g2.bh))
  · subst hc
    exact q2 c H3 hO ((g1.bh.trans g2.bh).trans e3)
end

/-! ### a def -/
def Done (o : Ot) : Oc → Prop
  | .nx _ => o = .inl (.sh .non)
  | .rt r => o = .inl r
  | .ex c _ => o = .inr c
  | _ => False
def begin_ (N : List Str) (ds : List D) : List Sl := ds.map .sh ++ List.replicate (N.length - ds.length) .no
theorem slots_begin {U : Wd} {B S H : Hp} {N : List Str} {vs : List V} {ds : List D} (h : RepL U S vs ds) (nw : ∀ a, H a = none → U.nw a) : Slots U B S H (L2.start N vs) (begin_ N ds) := by
  have hl := h.length
  refine ⟨by unfold L2.start begin_; simp [hl], fun i d hd => ?_, fun i es hd => ?_, fun i j es fs p hd => ?_, nw⟩
  · unfold begin_ at hd
    by_cases hi : i < ds.length
    · rw [List.getElem?_append_left (by rw [List.length_map]; exact hi), List.getElem?_map] at hd
      cases e : ds[i]? with
      | none =>
        rw [e] at hd
        cases hd
      | some d' =>
        rw [e] at hd
        obtain rfl : d' = d := by
          have := Option.some.inj hd
          injection this
        obtain ⟨v, h1, h2⟩ := h.get e
        refine ⟨v, ?_, h2⟩
        unfold L2.start
        rw [List.getElem?_append_left (by rw [List.length_map]; omega), List.getElem?_map, h1]
        rfl
    · rw [List.getElem?_append_right (by rw [List.length_map]; omega)] at hd
      have := List.mem_replicate.mp (List.mem_of_getElem? hd)
      cases this.2
  all_goals
    unfold begin_ at hd
    have := List.mem_of_getElem? hd
    rcases List.mem_append.mp this with q | q
    · obtain ⟨d, _, e⟩ := List.mem_map.mp q
      cases e
    · cases (List.mem_replicate.mp q).2
theorem fn_ok {U : Wd} {x qual : Str} {st : Stmt} {f : Addr} {fd : FuncData} {N ps : List Str} {k : Nat} {A : List D → Ot → Prop} (F : Fun U.K x qual st f fd) (S : FnScope N ps (defScope st)) (len : ∀ ds o, A ds o → ds.length = ps.length)
    (body : ∀ ds o, A ds o → SD ⟨U, N, defScope st, fun _ => true, k⟩ (defBody st) (begin_ N ds) (Done o)) : FnOk U.P U.w U.K U.mg U.base (L2.CX U.P U.w) (k + 1) f fd ps (spX U A) := by
  refine F.okX S (fun vs H Q E h => ?_) (fun cdv A0 outer s H vs Q E hr h => ?_)
  · obtain ⟨ds, o, S, hA, _, _, rl, _⟩ := h
    rw [rl.length, len ds o hA]
  · obtain ⟨ds, o, S, hA, ex, nw, rl, q1, q2⟩ := h
    refine ⟨tS ⟨U, N, defScope st, fun _ => true, k⟩ (fun cls d _ H => E cls d H) (defBody st), pss_of ⟨⟨rfl, rfl, rfl, rfl, rfl, rfl, rfl, rfl, rfl, hr⟩, passes_of rfl, rfl, rfl⟩ (takes_of rfl rfl rfl rfl), ?_⟩
    refine body ds o hA _ H S H (L2.start N vs) _ ex (Ex.refl H) (slots_begin rl nw) ⟨fun ρ' S' H' σ' r g s => ?_, fun r v S' H' e g rr => q1 r e v S' H' g rr, fun ρ' S' H' σ' r g s => r.elim, fun ρ' S' H' σ' r g s => r.elim, fun c ρ' S' H' σ' r g s => q2 c r H' g.bh⟩
    exact q1 _ r .non S' H' g .non
end Mb
set_option Elab.async false
set_option linter.all false
set_option maxRecDepth 100000
set_option maxHeartbeats 4000000
namespace Mb
open PySem PySem.Spec PyProof.Rows L2

/-! ### rules that choose by what has come -/
inductive ToSh : Rs → D → Prop
  | sh (d : D) : ToSh (.sh d) d
  | fr (ds : List D) : ToSh (.fr ds) (.lst ds)
  | nw (ds : List D) : ToSh (.fr ds) (.nls ds)
  | un (ds : List D) : ToSh (.sh (.nls ds)) (.lst ds)
section
variable {G : Gx} {ρ : List Sl} {a b c e it tg : Expr} {pos p : Pos} {x y z r : Rs} {d d' : D}
theorem ED.toSh (h : ED G e ρ r) (t : ToSh r d) (q : d = d') : ED G e ρ (.sh d') := by
  subst q
  cases t with
  | sh d => exact h
  | fr ds => exact h.shr
  | nw ds => exact ⟨fun B S H σ x sl Q q => h B S H σ x sl Q fun v S' H' g ⟨p, vs, e1, h1, h2, h3, z, h4⟩ => by
      subst e1
      exact q _ (upd S' p (.lst vs)) H' (g.add h1 h2 h3) (.nls upd_same z (h4.mono (Ex.new h2)) (sl.nw p h3))⟩
  | un ds => exact h.unN
theorem ad_cons' {es : List Expr} {ds : List D} (h : ED G e ρ r) (t : ToSh r d) (hr : AD G es ρ ds) (hs : ∀ env, starEach (e :: es) env = (false, eval e env) :: starEach es env := by intro _; rfl) : AD G (e :: es) ρ (d :: ds) := ad_cons (h.toSh t rfl) hr hs
inductive AddR : Rs → Rs → Rs → Prop
  | int (i j : Int) : AddR (.sh (.int i)) (.sh (.int j)) (.sh (.int (i + j)))
  | cat {x y : Rs} {ds es : List D} (hx : x.ls = some ds) (hy : y.ls = some es) (hz : ds.length + es.length ≤ sizeLine) : AddR x y (.fr (ds ++ es))
theorem ed_addR (ha : ED G a ρ x) (hb : ED G b ρ y) (h : AddR x y z) : ED G (.BinOp a .Add b pos) ρ z := by
  cases h with
  | int i j => exact ed_add ha hb
  | cat hx hy hz => exact ed_cat ha hb hx hy hz
inductive IxD : Rs → Int → D → Prop
  | list {x : Rs} {ds : List D} {i : Int} {d : D} (hx : x.ls = some ds) (h : atI ds i = some d) : IxD x i d
  | tup {ds : List D} {i : Int} {d : D} (h : atI ds i = some d) : IxD (.sh (.tup ds)) i d
  | scr {ns : List Int} {i n : Int} (h : atI ns i = some n) : IxD (.sh (.scr ns)) i (.int n)
theorem ed_ixR {i : Int} (ha : ED G a ρ x) (hb : ED G b ρ (.sh (.int i))) (h : IxD x i d) (hs : PlainIx b := by intros _ _; rfl) : ED G (.Subscript a b pos) ρ (.sh d) := by
  cases h with
  | list hx h => exact ed_ixL ha hb hx h hs
  | tup h => exact ed_ixT ha hb h hs
  | scr h => exact ed_ixS ha hb h hs
theorem ic_range {i : Int} (T : Bl G.U.mg) (ha : ED G a ρ (.sh (.int i))) (h1 : i ≤ 16777216) (h0 : -(2 ^ 62) ≤ i) (hg : GlN G "range") (hs : Star1' a := by intro _; rfl) : IC G tg (.Call (.Name "range" p) [a] [] pos) ρ ((List.range i.toNat).map fun (j : Nat) => D.int (j : Int)) :=
  (if_range T ha (by omega) h0 hg hs).ic (by rw [List.length_map, List.length_range, sizeLine_eq]; omega)
theorem ic_cast {ds es : List D} (h : IC G tg it ρ ds) (q : ds = es) : IC G tg it ρ es := q ▸ h
theorem if_cast {ds es : List D} (h : IF G tg it ρ ds) (q : ds = es) : IF G tg it ρ es := q ▸ h
theorem LD.cast {ds es : List D} (h : LD G e ρ ds) (q : ds = es) : LD G e ρ es := q ▸ h
theorem ed_ty {n : Str} {t : String} (hg : GlN G n) (hm : G.U.mg n = none) (hb : bootBuiltins n = some (.type t)) (hn : n ≠ "__name__" := by decide) (hd : (n == ("__debug__" : Str)) = false := by rfl) : ED G (.Name n pos) ρ (.sh (.ty t)) :=
  ed_bltn (v := .ty t) hg hm hb rfl (fun _ => .ty t) hn hd
end
theorem bootInt : bootBuiltins "int" = some (.type "int") := by decide +kernel
theorem bootBool : bootBuiltins "bool" = some (.type "bool") := by decide +kernel
theorem bootList : bootBuiltins "list" = some (.type "list") := by decide +kernel
theorem bootTuple : bootBuiltins "tuple" = some (.type "tuple") := by decide +kernel
section
variable {G : Gx} {ρ : List Sl} {pos : Pos} (T : Bl G.U.mg)
include T
theorem ed_tyInt (hg : GlN G "int") : ED G (.Name "int" pos) ρ (.sh (.ty "int")) := ed_ty hg T.int bootInt
theorem ed_tyBool (hg : GlN G "bool") : ED G (.Name "bool" pos) ρ (.sh (.ty "bool")) := ed_ty hg T.bool bootBool
theorem ed_tyList (hg : GlN G "list") : ED G (.Name "list" pos) ρ (.sh (.ty "list")) := ed_ty hg T.list bootList
theorem ed_tyTuple (hg : GlN G "tuple") : ED G (.Name "tuple" pos) ρ (.sh (.ty "tuple")) := ed_ty hg T.tuple bootTuple
end
theorem sd_at {G : Gx} {ss : List Stmt} {ρ ρ' : List Sl} {R : Oc → Prop} (h : ρ = ρ') (k : SD G ss ρ' R) : SD G ss ρ R := by rw [h]; exact k
theorem atI_get {α : Type} {xs : List α} {z : Int} {d : α} (h0 : 0 ≤ z) (h : z < (xs.length : Int)) : atI xs z = some (xs.getD z.toNat d) := by
  have hz : z = ((z.toNat : Nat) : Int) := by omega
  have hl : z.toNat < xs.length := by omega
  have h2 : atI xs ((z.toNat : Nat) : Int) = some (xs[z.toNat]) := atI_nat (List.getElem?_eq_getElem hl)
  rw [← hz] at h2
  rw [h2, List.getD_eq_getElem?_getD, List.getElem?_eq_getElem hl]
  rfl
theorem atI_ints {α : Type} {f : α → D} {d : α} {xs : List α} {z : Int} (h0 : 0 ≤ z) (h : z < (xs.length : Int)) : atI (xs.map f) z = some (f (xs.getD z.toNat d)) := by
  have h1 := atI_get (d := f d) h0 (xs := xs.map f) (by rw [List.length_map]; exact h)
  rw [h1, List.getD_eq_getElem?_getD, List.getD_eq_getElem?_getD, List.getElem?_map]
  cases xs[z.toNat]? <;> rfl
def toInts : List D → List Int
  | .int i :: ds => i :: toInts ds
  | _ :: ds => 0 :: toInts ds
  | [] => []
theorem atI_lit {ds : List D} {z : Int} (h0 : 0 ≤ z) (h : z < (ds.length : Int)) (e : (toInts ds).map D.int = ds) : atI ds z = some (.int ((toInts ds).getD z.toNat 0)) := by
  have hl : (toInts ds).length = ds.length := by
    have := congrArg List.length e
    rw [List.length_map] at this
    exact this
  have h1 := atI_ints (f := D.int) (d := 0) (xs := toInts ds) h0 (by rw [hl]; exact h)
  rw [e] at h1
  exact h1
/-! ### plain data -/
theorem dn_map {α : Type} {n : Nat} {f : α → D} {xs : List α} (h : ∀ x, Dn n (f x)) : Dn (n + 1) (.lst (xs.map f)) := .lst n fun d hd => by
  obtain ⟨x, _, rfl⟩ := List.mem_map.mp hd
  exact h x
theorem dm_map {α : Type} {n : Nat} {f : α → D} {xs : List α} (h : ∀ x, Dn n (f x)) : ∀ d ∈ xs.map f, Dn n d := fun d hd => by
  obtain ⟨x, _, rfl⟩ := List.mem_map.mp hd
  exact h x
theorem dm_nil {n : Nat} : ∀ d ∈ ([] : List D), Dn n d := fun _ h => nomatch h
theorem dm_cons {n : Nat} {d : D} {ds : List D} (h : Dn n d) (k : ∀ d ∈ ds, Dn n d) : ∀ e ∈ d :: ds, Dn n e := fun e he => by
  rcases List.mem_cons.mp he with rfl | he
  · exact h
  · exact k e he
theorem dm_app {n : Nat} {ds es : List D} (h : ∀ d ∈ ds, Dn n d) (k : ∀ d ∈ es, Dn n d) : ∀ e ∈ ds ++ es, Dn n e := fun e he => by
  rcases List.mem_append.mp he with he | he
  · exact h e he
  · exact k e he
theorem dn_lst {n : Nat} {ds : List D} (h : ∀ d ∈ ds, Dn n d) : Dn (n + 1) (.lst ds) := .lst n h
theorem dn_nls {n : Nat} {ds : List D} (h : ∀ d ∈ ds, Dn n d) : Dn (n + 1) (.nls ds) := .nls n h
theorem dn_tup {n : Nat} {ds : List D} (h : ∀ d ∈ ds, Dn n d) : Dn (n + 1) (.tup ds) := .tup n h
/-! ### what == and in say of written data -/
theorem any_int (x : Int) (xs : List Int) : ((xs.map D.int).any fun z => deq z (.int x)) = decide (x ∈ xs) := Enc.int.any x xs
theorem deq_ints (xs ys : List Int) : deq (.lst (xs.map D.int)) (.lst (ys.map D.int)) = decide (xs = ys) := Enc.ints xs ys
theorem deq_nil (xs : List Int) : deq (.lst (xs.map D.int)) (.lst []) = decide (xs = []) := Enc.ints xs []
theorem deq_lnil : ∀ ds : List D, deq (.lst ds) (.lst []) = decide (ds = [])
  | [] => by
    unfold deq
    simp [D.py, D.pyL, PyData.eqv, PyData.eqvAll]
  | d :: ds => by
    unfold deq
    simp [D.py, D.pyL, PyData.eqv, PyData.eqvAll]
end Mb
set_option Elab.async false
set_option linter.all false
set_option maxRecDepth 100000
set_option maxHeartbeats 4000000
namespace Mb
open PySem PySem.Spec PyProof.Rows L2

/-! ### each number once, rising -/
def nubStep (acc : List Int) (n : Int) : List Int := if n ∈ acc then acc else acc ++ [n]
def nubL (ns : List Int) : List Int := ns.foldl nubStep []
def plainL (ns : List Int) : List Int := isort (nubL ns)
theorem nub_go (ns : List Int) : ∀ acc : List Int, acc.Nodup → (ns.foldl nubStep acc).Nodup ∧ ∀ x, x ∈ ns.foldl nubStep acc ↔ x ∈ acc ∨ x ∈ ns := by
  induction ns with
  | nil => exact fun acc h => ⟨h, fun x => by simp⟩
  | cons n ns ih =>
    intro acc h
    have hs : (nubStep acc n).Nodup := by
      unfold nubStep
      split
      · exact h
      · rename_i hn
        rw [List.nodup_append]
        exact ⟨h, by simp, fun a ha b hb e => hn (by rw [List.mem_singleton] at hb; rw [← hb, ← e]; exact ha)⟩
    have hm : ∀ x, x ∈ nubStep acc n ↔ x ∈ acc ∨ x = n := fun x => by
      unfold nubStep
      split
      · rename_i hn
        exact ⟨.inl, fun z => z.elim id fun e => e ▸ hn⟩
      · simp
    obtain ⟨a, b⟩ := ih (nubStep acc n) hs
    refine ⟨a, fun x => ?_⟩
    rw [List.foldl_cons, b x, hm x, List.mem_cons]
    constructor
    · rintro ((h | h) | h)
      · exact .inl h
      · exact .inr (.inl h)
      · exact .inr (.inr h)
    · rintro (h | h | h)
      · exact .inl (.inl h)
      · exact .inl (.inr h)
      · exact .inr h
theorem nub_nodup (ns : List Int) : (nubL ns).Nodup := (nub_go ns [] List.nodup_nil).1
theorem mem_nub (ns : List Int) (x : Int) : x ∈ nubL ns ↔ x ∈ ns := by
  rw [nubL, (nub_go ns [] List.nodup_nil).2 x]
  simp
theorem mem_plain (ns : List Int) (x : Int) : x ∈ plainL ns ↔ x ∈ ns := ((isort_perm _).mem_iff).trans (mem_nub ns x)
theorem plain_lt (ns : List Int) : (plainL ns).Pairwise (· < ·) := by
  have h1 := isort_le (nubL ns)
  have h2 : (plainL ns).Nodup := (isort_perm _).nodup_iff.mpr (nub_nodup ns)
  exact (h1.and h2).imp fun ⟨a, b⟩ => by omega
theorem nub_len (ns : List Int) : (nubL ns).length ≤ ns.length := by
  have go : ∀ (ns acc : List Int), (ns.foldl nubStep acc).length ≤ acc.length + ns.length := by
    intro ns
    induction ns with
    | nil => exact fun acc => Nat.le_refl _
    | cons n ns ih =>
      intro acc
      have h := ih (nubStep acc n)
      have h2 : (nubStep acc n).length ≤ acc.length + 1 := by
        unfold nubStep
        split
        · omega
        · simp
      rw [List.foldl_cons, List.length_cons]
      omega
  have := go ns []
  simpa [nubL] using this
theorem plain_len (ns : List Int) : (plainL ns).length ≤ ns.length := by
  have h := (isort_perm (nubL ns)).length_eq
  have h2 := nub_len ns
  unfold plainL
  omega
/-- there is one rising list of a set -/
theorem rising_one : ∀ {xs ys : List Int}, xs.Pairwise (· < ·) → ys.Pairwise (· < ·) → (∀ x, x ∈ xs ↔ x ∈ ys) → xs = ys := by
  intro xs ys hx hy h
  have nx : xs.Nodup := hx.imp fun h => by omega
  have ny : ys.Nodup := hy.imp fun h => by omega
  have p : xs.Perm ys := by
    refine (List.perm_ext_iff_of_nodup nx ny).mpr h
  exact sorted_one p (hx.imp fun h => by omega) (hy.imp fun h => by omega)
theorem plain_self {ns : List Int} (h : ns.Pairwise (· < ·)) : plainL ns = ns := rising_one (plain_lt ns) h (mem_plain ns)
/-! the dict of a set -/
def kvT (ns : List Int) : List (Key × V) := ns.map fun n => (Sum.inl n, V.bl true)
theorem kvT_put (acc : List Int) (n : Int) : putK (kvT acc) (Sum.inl n) (V.bl true) = kvT (nubStep acc n) := by
  unfold putK nubStep
  have e : ((kvT acc).any fun kv => decide (kv.1 = Sum.inl n)) = decide (n ∈ acc) := by
    unfold kvT
    rw [List.any_map]
    induction acc with
    | nil => simp
    | cons a acc ih =>
      rw [List.any_cons, ih]
      show (decide ((Sum.inl a : Key) = Sum.inl n) || _) = _
      by_cases h : a = n
      · subst h
        simp
      · have h2 : ¬ (Sum.inl a : Key) = Sum.inl n := fun z => h (Sum.inl.inj z)
        by_cases h3 : n ∈ acc <;> simp [h2, h3, Ne.symm h]
  rw [e]
  by_cases h : n ∈ acc
  · rw [if_pos (by simp [h]), if_pos h]
    unfold kvT
    rw [List.map_map]
    refine List.map_congr_left fun a _ => ?_
    show (if (Sum.inl a : Key) = Sum.inl n then ((Sum.inl a : Key), V.bl true) else (Sum.inl a, V.bl true)) = _
    split <;> rfl
  · rw [if_neg (by simp [h]), if_neg h]
    unfold kvT
    rw [List.map_append]
    rfl
theorem nub_take {ns : List Int} {i : Nat} {n : Int} (h : ns[i]? = some n) : nubL (ns.take (i + 1)) = nubStep (nubL (ns.take i)) n := by
  unfold nubL
  rw [List.take_add_one, h, List.foldl_append]
  rfl
def A_plain : List D → Ot → Prop := fun ds o => ∃ ns : List Int, ds = [.ints ns] ∧ o = .inl (.fr ((plainL ns).map D.int))
/-- found = {}; for number in numbers: found[number] = True; return sorted(list(found)) -/
theorem plain_run {U : Wd} {vs : List V} {H : Hp} {Q : VK} {E : XK} {R : Ends} (h : spX U A_plain vs H Q E) (hR : R.rt = Q) :
    tSeq (tAsg tDNewK (gName 1)) (tSeq (tFor (iList U.K (tVar 0)) (gName 2) (sDPut (tVar 1) (tVar 2) (tC (.bl true)))) (tRet (tCB (rSortedI U.K) (tCons (tCB rListD (tCons (tVar 1) tNil)) tNil)))) R (L2.start ["numbers", "found", "number"] vs) H := by
  obtain ⟨ds, o, S, ⟨ns, rfl, rfl⟩, ex, _, rl, q1, _⟩ := h
  cases rl with
  | cons ra rl =>
    cases rl
    cases ra with
    | @lst a vs _ h1 z h2 =>
      have e2 := RepL.ints h2
      subst e2
      rw [List.length_map] at z
      intro d hd
      refine ⟨_, rfl, a, rfl, ⟨_, .of (Ex.new hd _ _ (ex _ _ h1))⟩, ?_⟩
      refine for_list (K := U.K) (a := a) (xs := ns.map V.int) (fun i σ H' => ∃ x, σ = [some (.ref a), some (.ref d), x] ∧ Ex H H' ∧ H' d = some (.dK (kvT (nubL (ns.take i))))) ⟨none, rfl, Ex.new hd, upd_same⟩ (fun i σ H' _ p => ?_) (fun i x σ H' hx p => ?_) (fun σ H' p => ?_)
      · obtain ⟨_, _, e, _⟩ := p
        exact .of (e _ _ (ex _ _ h1))
      · obtain ⟨y, rfl, e, hdk⟩ := p
        rw [List.getElem?_map] at hx
        cases hn : ns[i]? with
        | none =>
          rw [hn] at hx
          cases hx
        | some n =>
          rw [hn] at hx
          obtain rfl := Option.some.inj (show some (V.int n) = some x from hx)
          refine ⟨_, rfl, _, rfl, d, _, rfl, DPut.k (k := Sum.inl n) hdk ?_, some (V.int n), rfl, Ex.mut e hd, ?_⟩
          · unfold kvT
            rw [List.length_map]
            have h3 := nub_len (ns.take i)
            have h4 := (List.getElem?_eq_some_iff.mp hn).1
            rw [List.length_take] at h3
            omega
          · rw [upd_same, kvT_put, nub_take hn]
      · obtain ⟨y, rfl, e, hdk⟩ := p
        rw [List.length_map, List.take_length] at hdk
        refine ⟨_, rfl, d, _, rfl, hdk, fun l hl => ?_⟩
        have el : ((kvT (nubL ns)).map fun kv => kV kv.1) = (nubL ns).map V.int := by
          unfold kvT
          rw [List.map_map]
          rfl
        rw [el]
        refine ⟨l, _, rfl, .of upd_same, fun ns' p hp hw hnp => ?_⟩
        have e3 : ns' = plainL ns := sorted_one (hp.trans (isort_perm _).symm) hw (isort_le _)
        subst e3
        rw [hR]
        have e4 : Ex H (upd (upd H' l (.lst ((nubL ns).map V.int))) p (.lst ((plainL ns).map V.int))) := (e.trans (Ex.new hl)).trans (Ex.new hnp)
        have np : H p = none := (e.trans (Ex.new hl)).back hnp
        exact q1 _ rfl (.ref p) S _ ⟨Ex.refl S, ex.trans e4, e4, fun _ z => .inl z⟩ ⟨p, _, rfl, upd_same, ex.back np, np, by rw [List.length_map]; exact Nat.le_trans (plain_len ns) z, RepL.ofInts _⟩
end Mb
set_option Elab.async false
set_option linter.all false
set_option maxRecDepth 100000
set_option maxHeartbeats 4000000
namespace Mb
open PySem PySem.Spec PyProof.Rows L2
/-! ### what the program's defs compute -/
abbrev Rule := List Int × List Int
abbrev encR (r : Rule) : D := .tup [.ints r.1, .ints r.2]
abbrev D.rules (rs : List Rule) : D := .lst (rs.map encR)
def withinB (xs ys : List Int) : Bool := xs.all fun x => decide (x ∈ ys)
def metB (r : Rule) (ms : List Int) : Bool := !(withinB r.1 ms) || withinB r.2 ms
abbrev A_within : List D → Ot → Prop := fun ds o => ∃ xs ys : List Int, ds = [.ints xs, .ints ys] ∧ o = .inl (.sh (.bl (withinB xs ys)))
abbrev A_met : List D → Ot → Prop := fun ds o => ∃ (a b ms : List Int), ds = [.tup [.ints a, .ints b], .ints ms] ∧ o = .inl (.sh (.bl (metB (a, b) ms)))
theorem withinB_iff {xs ys : List Int} : withinB xs ys = true ↔ ∀ x ∈ xs, x ∈ ys := by
  unfold withinB
  rw [List.all_eq_true]
  simp
theorem metB_iff {r : Rule} {ms : List Int} : metB r ms = true ↔ ((∀ x ∈ r.1, x ∈ ms) → ∀ x ∈ r.2, x ∈ ms) := by
  unfold metB
  rw [Bool.or_eq_true, Bool.not_eq_true', withinB_iff]
  constructor
  · rintro (h | h) h2
    · rw [withinB_iff.mpr h2] at h
      cases h
    · exact h
  · intro h
    cases e : withinB r.1 ms with
    | false => exact .inl rfl
    | true => exact .inr (h (withinB_iff.mp e))
/-! grown -/
def growStep (f : List Int) (r : Rule) : List Int := if metB r f then f else plainL (f ++ r.2)
def growPass (rs : List Rule) (f : List Int) : List Int := rs.foldl growStep f
def growN (rs : List Rule) : Nat → List Int → List Int
  | 0, f => f
  | n + 1, f => growN rs n (growPass rs f)
def univ (rs : List Rule) (ms : List Int) : List Int := ms ++ (rs.map (·.2)).flatten
def grownL (rs : List Rule) (ms : List Int) : List Int := growN rs ((univ rs ms).length + 1) (plainL ms)
structure Grown (rs : List Rule) (ms f : List Int) : Prop where
  rise : f.Pairwise (· < ·)
  has : ∀ x ∈ ms, x ∈ f
  meets : ∀ r ∈ rs, metB r f = true
  least : ∀ t : List Int, (∀ x ∈ ms, x ∈ t) → (∀ r ∈ rs, metB r t = true) → ∀ x ∈ f, x ∈ t
theorem Grown.one {rs : List Rule} {ms f g : List Int} (a : Grown rs ms f) (b : Grown rs ms g) : f = g :=
  rising_one a.rise b.rise fun x => ⟨fun h => a.least g b.has b.meets x h, fun h => b.least f a.has a.meets x h⟩
/-- a set on the way -/
structure Way (rs : List Rule) (ms f : List Int) : Prop where
  rise : f.Pairwise (· < ·)
  has : ∀ x ∈ ms, x ∈ f
  in_ : ∀ x ∈ f, x ∈ univ rs ms
  least : ∀ t : List Int, (∀ x ∈ ms, x ∈ t) → (∀ r ∈ rs, metB r t = true) → ∀ x ∈ f, x ∈ t
section
variable {rs : List Rule} {ms f : List Int}
theorem Way.start : Way rs ms (plainL ms) := ⟨plain_lt ms, fun x h => (mem_plain ms x).mpr h, fun x h => List.mem_append_left _ ((mem_plain ms x).mp h), fun t h _ x hx => h x ((mem_plain ms x).mp hx)⟩
theorem Way.step (w : Way rs ms f) {r : Rule} (hr : r ∈ rs) : Way rs ms (growStep f r) ∧ ∀ x ∈ f, x ∈ growStep f r := by
  unfold growStep
  split
  · exact ⟨w, fun _ h => h⟩
  · rename_i hm
    have hf : withinB r.1 f = true := by
      unfold metB at hm
      cases e : withinB r.1 f with
      | true => rfl
      | false =>
        rw [e] at hm
        exact absurd rfl hm
    have hm2 : ∀ x, x ∈ plainL (f ++ r.2) ↔ x ∈ f ∨ x ∈ r.2 := fun x => by rw [mem_plain, List.mem_append]
    refine ⟨⟨plain_lt _, fun x h => (hm2 x).mpr (.inl (w.has x h)), fun x h => ?_, fun t h1 h2 x h => ?_⟩, fun x h => (hm2 x).mpr (.inl h)⟩
    · rcases (hm2 x).mp h with h | h
      · exact w.in_ x h
      · exact List.mem_append_right _ (List.mem_flatten.mpr ⟨r.2, List.mem_map.mpr ⟨r, hr, rfl⟩, h⟩)
    · have l := w.least t h1 h2
      rcases (hm2 x).mp h with h | h
      · exact l x h
      · exact metB_iff.mp (h2 r hr) (fun y hy => l y (withinB_iff.mp hf y hy)) x h
theorem Way.len (w : Way rs ms f) : f.length ≤ (univ rs ms).length := List.Nodup.length_le_of_subset (w.rise.imp fun h => by omega) fun x h => w.in_ x h
theorem Way.go (w : Way rs ms f) : ∀ {l : List Rule}, (∀ r ∈ l, r ∈ rs) → Way rs ms (l.foldl growStep f) ∧ ∀ x ∈ f, x ∈ l.foldl growStep f := by
  intro l
  induction l generalizing f with
  | nil => exact fun _ => ⟨w, fun _ h => h⟩
  | cons r l ih =>
    intro h
    obtain ⟨a, b⟩ := w.step (h r List.mem_cons_self)
    obtain ⟨c, d⟩ := ih a fun x hx => h x (List.mem_cons_of_mem _ hx)
    exact ⟨c, fun x hx => d x (b x hx)⟩
theorem Way.pass (w : Way rs ms f) : Way rs ms (growPass rs f) ∧ ∀ x ∈ f, x ∈ growPass rs f := w.go fun _ h => h
theorem rise_eq {f g : List Int} (hf : f.Pairwise (· < ·)) (hg : g.Pairwise (· < ·)) (h : ∀ x ∈ f, x ∈ g) (hl : g.length ≤ f.length) : f = g := by
  refine rising_one hf hg fun x => ⟨h x, fun hx => ?_⟩
  have nf : f.Nodup := hf.imp fun h => by omega
  have ng : g.Nodup := hg.imp fun h => by omega
  by_cases hm : x ∈ f
  · exact hm
  · exfalso
    have h1 : (x :: f).Nodup := List.nodup_cons.mpr ⟨hm, nf⟩
    have h2 := List.Nodup.length_le_of_subset h1 (l₂ := g) fun y hy => by
      rcases List.mem_cons.mp hy with rfl | hy
      · exact hx
      · exact h y hy
    rw [List.length_cons] at h2
    omega
/-- where a pass changes nothing, all rules are met -/
theorem Way.done (w : Way rs ms f) (e : growPass rs f = f) : Grown rs ms f := by
  refine ⟨w.rise, w.has, fun r hr => ?_, w.least⟩
  -- no step of the pass changes the set
  have key : ∀ (l : List Rule) (f : List Int), Way rs ms f → (∀ r ∈ l, r ∈ rs) → l.foldl growStep f = f → ∀ r ∈ l, growStep f r = f := by
    intro l
    induction l with
    | nil => exact fun _ _ _ _ r h => nomatch h
    | cons q l ih =>
      intro f w hl e r hr
      obtain ⟨a, b⟩ := w.step (hl q List.mem_cons_self)
      obtain ⟨c, d⟩ := a.go (l := l) fun x hx => hl x (List.mem_cons_of_mem _ hx)
      rw [List.foldl_cons] at e
      have e1 : growStep f q = f := by
        refine (rise_eq w.rise a.rise b ?_).symm
        refine List.Nodup.length_le_of_subset (a.rise.imp fun h => by omega) fun x hx => ?_
        have := d x hx
        rw [e] at this
        exact this
      rw [e1] at e
      rcases List.mem_cons.mp hr with rfl | hr
      · exact e1
      · exact ih f w (fun x hx => hl x (List.mem_cons_of_mem _ hx)) e r hr
  have k := key rs f w (fun _ h => h) e r hr
  unfold growStep at k
  split at k
  · assumption
  · rename_i hm
    exfalso
    apply hm
    refine metB_iff.mpr fun _ x hx => ?_
    rw [← k, mem_plain]
    exact List.mem_append_right _ hx
theorem growN_stay (e : growPass rs f = f) : ∀ n, growN rs n f = f
  | 0 => rfl
  | n + 1 => by
    show growN rs n (growPass rs f) = f
    rw [e]
    exact growN_stay e n
theorem Way.all : ∀ (n : Nat) {f : List Int}, Way rs ms f → Way rs ms (growN rs n f)
  | 0, _, w => w
  | n + 1, _, w => Way.all n w.pass.1
theorem growN_done : ∀ (n : Nat) {f : List Int}, Way rs ms f → (univ rs ms).length < n + f.length → growPass rs (growN rs n f) = growN rs n f
  | 0, f, w, h => by
    have := w.len
    omega
  | n + 1, f, w, h => by
    obtain ⟨a, b⟩ := w.pass
    by_cases e : growPass rs f = f
    · rw [growN_stay e]
      exact e
    · refine growN_done n a ?_
      have : f.length < (growPass rs f).length := by
        rcases Nat.lt_or_ge f.length (growPass rs f).length with h | h
        · exact h
        · exact absurd (rise_eq w.rise a.rise b h).symm e
      omega
theorem grown_is (rs : List Rule) (ms : List Int) : Grown rs ms (grownL rs ms) := (Way.all _ Way.start).done (growN_done _ Way.start (by omega))
end
abbrev A_grown : List D → Ot → Prop := fun ds o => ∃ (rs : List Rule) (ms : List Int), ds = [.rules rs, .ints ms] ∧ (univ rs ms).length + (univ rs ms).length ≤ 1000000 ∧ o = .inl (.fr ((grownL rs ms).map D.int))
end Mb
set_option Elab.async false
set_option linter.all false
set_option maxRecDepth 100000
set_option maxHeartbeats 4000000
namespace Mb
open PySem PySem.Spec PyProof.Rows L2
/-! ### what the laws' own defs compute -/
def cellI (ns : List Int) (k : Int) : Int := ns.getD k.toNat 0
abbrev A_cell : List D → Ot → Prop := fun ds o => ∃ (ns : List Int) (k : Int), ds = [.scr ns, .int k] ∧ 0 ≤ k ∧ o = .inl (.sh (.int (cellI ns k)))
abbrev A_whole : List D → Ot → Prop := fun ds o => ∃ i : Int, ds = [.int i] ∧ o = .inl (.sh (.bl true))
theorem fmod_lo {a b : Int} (h : 0 < b) : 0 ≤ a.fmod b := Int.fmod_nonneg_of_pos a h
theorem fmod_hi {a b : Int} (h : 0 < b) : a.fmod b < b := Int.fmod_lt_of_pos a h
def lacksL (xs ys : List Int) : List Int := xs.filter fun x => !decide (x ∈ ys)
abbrev A_lacks : List D → Ot → Prop := fun ds o => ∃ (xs ys : List Int), ds = [.ints xs, .ints ys] ∧ o = .inl (.fr ((lacksL xs ys).map D.int))
theorem lacks_nil {xs ys : List Int} : lacksL xs ys = [] ↔ ∀ x ∈ xs, x ∈ ys := by
  unfold lacksL
  rw [List.filter_eq_nil_iff]
  constructor
  · intro h x hx
    have := h x hx
    simpa using this
  · intro h x hx
    have := h x hx
    simpa using this
theorem lacks_within {xs ys : List Int} : decide (lacksL xs ys = []) = withinB xs ys := by
  cases e : withinB xs ys with
  | true => exact decide_eq_true (lacks_nil.mpr (withinB_iff.mp e))
  | false => exact decide_eq_false fun h => by rw [withinB_iff.mpr (lacks_nil.mp h)] at e; cases e
theorem atI_lastR {α : Type} {f : α → D} {d : α} {xs : List α} (h : xs ≠ []) : atI (xs.map f) (-1) = some (f (xs.getLastD d)) := by
  have e : xs = xs.dropLast ++ [xs.getLast h] := (List.dropLast_concat_getLast h).symm
  have e2 : xs.getLastD d = xs.getLast h := by
    rw [List.getLastD_eq_getLast?, List.getLast?_eq_getLast h]
    rfl
  rw [e2]
  have : xs.map f = xs.dropLast.map f ++ [f (xs.getLast h)] := by
    conv => lhs; rw [e]
    rw [List.map_append]
    rfl
  rw [this]
  exact atI_last _ _
end Mb
set_option Elab.async false
set_option linter.all false
set_option maxRecDepth 100000
set_option maxHeartbeats 4000000
namespace Mb
open PySem PySem.Spec PyProof.Rows L2
section
variable {G : Gx} {ρ : List Sl} {R : Oc → Prop} {e c : Expr} {pos p pos' : Pos} {n : Str} {d d0 d' : D}
/-- if c: n = e, told by what n has behind it -/
theorem s_ifset {k : Bool} (hc : TD G c ρ k) (he : k = true → ED G e ρ (.sh d)) (h1 : k = true → d = d') (h2 : k = false → d0 = d') (h0 : ρ[G.N.idxOf n]? = some (.sh d0)) (hR : R (.nx (ρ.set (G.N.idxOf n) (.sh d')))) (hN : G.N.Nodup) (hi : G.N.idxOf n < G.N.length) (ok : setOk G.sc G.fn n = true) (hs : NoSwap G e n p pos := by intros _ _; rfl) :
    S1 G (.If c [.Assign [.Name n p] e pos] [] pos') ρ R := by
  refine s_if hc (fun hk => sd_cons (s_set (d := d') (h1 hk ▸ he hk) (sd_nil hR) hN hi ok hs)) fun hk => sd_nil ?_
  have e2 : ρ.set (G.N.idxOf n) (.sh d') = ρ := by
    rw [← h2 hk]
    refine List.ext_getElem? fun j => ?_
    by_cases hj : G.N.idxOf n = j
    · subst hj
      have := (List.getElem?_eq_some_iff.mp h0).1
      rw [List.getElem?_set_self this, h0]
    · rw [List.getElem?_set_ne hj]
  rw [e2] at hR
  exact hR
end
section
variable {G : Gx} {ρ : List Sl} {R : Oc → Prop} {it : Expr} {pos pn : Pos} {n : Str} {body : List Stmt}
/-- over 0, 1, .. -/
theorem s_forR {m : Nat} (hi : IF G (.Name n pn) it ρ ((List.range m).map fun (j : Nat) => D.int (j : Int))) (Inv : Nat → List Sl → Prop) (h0 : Inv 0 ρ) (hs : ∀ (i : Nat) (ρ' : List Sl), i < m → Inv i ρ' → SD G body (ρ'.set (G.N.idxOf n) (.sh (.int (i : Int)))) (Lp (Inv (i + 1)) R)) (hd : ∀ ρ', Inv m ρ' → R (.nx ρ'))
    (hN : G.N.Nodup) (hx : G.N.idxOf n < G.N.length) (ok : setOk G.sc G.fn n = true) (hf : ∀ env x, foldedSetIterable it env x = pure x := by intros; rfl) : S1 G (.For (.Name n pn) it body [] pos) ρ R :=
  s_for hi Inv h0 (fun i d ρ' hd inv => by
    rw [List.getElem?_map] at hd
    cases e : (List.range m)[i]? with
    | none =>
      rw [e] at hd
      cases hd
    | some x =>
      rw [e] at hd
      obtain ⟨hk, ew⟩ := List.getElem?_eq_some_iff.mp e
      rw [List.getElem_range] at ew
      rw [List.length_range] at hk
      subst ew
      obtain rfl := Option.some.inj (show some _ = some d from hd)
      exact hs i ρ' hk inv) (fun ρ' h => hd ρ' (by rw [List.length_map, List.length_range] at h; exact h)) hN hx ok hf
/-- over a typed list -/
theorem s_forL {α : Type} {xs : List α} {enc : α → D} (hi : IF G (.Name n pn) it ρ (xs.map enc)) (Inv : Nat → List Sl → Prop) (h0 : Inv 0 ρ) (hs : ∀ (i : Nat) (x : α) (ρ' : List Sl), xs[i]? = some x → Inv i ρ' → SD G body (ρ'.set (G.N.idxOf n) (.sh (enc x))) (Lp (Inv (i + 1)) R)) (hd : ∀ ρ', Inv xs.length ρ' → R (.nx ρ'))
    (hN : G.N.Nodup) (hx : G.N.idxOf n < G.N.length) (ok : setOk G.sc G.fn n = true) (hf : ∀ env x, foldedSetIterable it env x = pure x := by intros; rfl) : S1 G (.For (.Name n pn) it body [] pos) ρ R :=
  s_for hi Inv h0 (fun i d ρ' hd inv => by
    rw [List.getElem?_map] at hd
    cases e : xs[i]? with
    | none =>
      rw [e] at hd
      cases hd
    | some x =>
      rw [e] at hd
      obtain rfl := Option.some.inj (show some _ = some d from hd)
      exact hs i x ρ' e inv) (fun ρ' h => hd ρ' (by rw [List.length_map] at h; exact h)) hN hx ok hf
end
theorem Enc.rule : Enc encR := Enc.pair Enc.ints Enc.ints
theorem Enc.rules : Enc D.rules := Enc.lst Enc.rule
theorem deq_rules (xs ys : List Rule) : deq (.lst (xs.map encR)) (.lst (ys.map encR)) = decide (xs = ys) := Enc.rules xs ys
end Mb
set_option Elab.async false
set_option linter.all false
set_option maxRecDepth 100000
set_option maxHeartbeats 4000000
namespace Mb
open PySem PySem.Spec PyProof.Rows L2
/-! ### the table's making -/
def inR (m : Int) (xs : List Int) : Bool := xs.all fun x => decide (0 ≤ x) && decide (x < m)
theorem inR_iff {m : Int} {xs : List Int} : inR m xs = true ↔ ∀ x ∈ xs, 0 ≤ x ∧ x < m := by
  unfold inR
  rw [List.all_eq_true]
  constructor
  · intro h x hx
    simpa using h x hx
  · intro h x hx
    simpa using h x hx
def tooBig (m : Int) (rows : List (List Int)) : Bool := !(decide (0 ≤ m) && decide (m ≤ 8)) || decide (12 < rows.length)
/-- what the making of a table ends with -/
def mkT (cS cM : Addr) (m : Int) (rows : List (List Int)) : Ot := if tooBig m rows then .inr cS else if rows.all (inR m) then .inl (.sh (.tab m (rows.map plainL))) else .inr cM
abbrev encS (r : List Int) : D := D.ints r
abbrev D.sets (rows : List (List Int)) : D := .lst (rows.map encS)
/-- what has come since B -/
structure Nw (B N H' : Hp) : Prop where
  nw : ∀ a, N a ≠ none → B a = none
  nh : Ex N H'
  bh : Ex B H'
def orH (S N : Hp) : Hp := fun a => match S a with
  | some o => some o
  | none => N a
theorem orH_l (S N : Hp) : Ex S (orH S N) := fun a o h => by
  unfold orH
  rw [h]
theorem Nw.r {S B N H' : Hp} (n : Nw B N H') (e : Ex S B) : Ex N (orH S N) := fun a o h => by
  unfold orH
  cases q : S a with
  | none => exact h
  | some u =>
    have := n.nw a (by rw [h]; exact fun z => nomatch z)
    rw [e a u q] at this
    cases this
theorem Nw.go {S B N H' : Hp} (n : Nw B N H') (e : Ex S B) : Go S B (orH S N) H' := ⟨orH_l S N, fun a o h => by
  unfold orH at h
  cases q : S a with
  | none =>
    rw [q] at h
    exact n.nh a o h
  | some u =>
    rw [q] at h
    cases h
    exact n.bh _ _ (e _ _ q), n.bh, fun a h => by
  unfold orH at h
  cases q : S a with
  | none =>
    rw [q] at h
    exact .inr (n.nw a h)
  | some u => exact .inl fun z => nomatch z⟩
theorem mkT_inl {cS cM : Addr} {m : Int} {rows : List (List Int)} {r : Rs} (h : mkT cS cM m rows = .inl r) : tooBig m rows = false ∧ rows.all (inR m) = true ∧ r = .sh (.tab m (rows.map plainL)) := by
  unfold mkT at h
  cases e : tooBig m rows with
  | true =>
    rw [e, if_pos rfl] at h
    cases h
  | false =>
    rw [e, if_neg Bool.false_ne_true] at h
    cases e2 : rows.all (inR m) with
    | true =>
      rw [e2, if_pos rfl] at h
      cases h
      exact ⟨rfl, rfl, rfl⟩
    | false =>
      rw [e2, if_neg Bool.false_ne_true] at h
      cases h
theorem mkT_ok (cS cM : Addr) {m : Int} {rows : List (List Int)} (h1 : tooBig m rows = false) (h2 : rows.all (inR m) = true) : mkT cS cM m rows = .inl (.sh (.tab m (rows.map plainL))) := by
  unfold mkT
  rw [h1, h2, if_neg Bool.false_ne_true, if_pos rfl]
def spI (U : Wd) (cS cM : Addr) : Sp := fun vs H Q E => ∃ p dx B S v m rows, vs = [.ref p, .int m, v] ∧ B p = none ∧ B dx = none ∧ dx ≠ p ∧ H = upd (upd B dx (.own p)) p (.ins U.C dx []) ∧ Ex S B ∧ Rep U S v (D.sets rows) ∧
  (tooBig m rows = false → rows.all (inR m) = true → ∀ N H', Nw B N H' → Rep U N (.ref p) (.tab m (rows.map plainL)) → Q .non H') ∧ (∀ c, mkT cS cM m rows = .inr c → ∀ H', Ex B H' → E (.ref c) none H')
structure MkT (U : Wd) (cS cM : Addr) (k : Nat) : Prop where
  ex : ∃ f fd ps, U.mg "Table" = some (.ref U.C) ∧ Mk U.K U.C f ∧ Binds U.K fd ps [] ∧ FnOk U.P U.w U.K U.mg U.base (L2.CX U.P U.w) k f fd ps (spI U cS cM)
section
variable {X : Cx} {CX : CXT} {k : Nat} {f C : Addr} {fd : FuncData} {ps : List Str} {sp : Sp} {E : L2.St → XK} {x : Str} {p pos : Pos} {e : Expr} {es : List Expr} {t : TA}
def tMkS (C : Addr) (sp : Sp) (E : L2.St → XK) (t : TA) : TE := fun σ H Q => t σ H fun vs H1 => ∀ a dx, H1 a = none → H1 dx = none → dx ≠ a → sp (.ref a :: vs) (upd (upd H1 dx (.own a)) a (.ins C dx [])) (fun v H2 => v = .non ∧ Q (.ref a) H2) (E σ)
theorem pe_mkS (M : Mk X.K C f) (F : FnOk X.prog X.w X.K X.mg X.base CX k f fd ps sp) (hr : Room (k + 1) X.A) (hg : Gl X x) (hm : X.mg x = some (.ref C)) (hb : Binds X.K fd ps []) (hx : ∀ σ, PassesAt CX X σ (E σ)) (ha : PA X (e :: es) t)
    (hdb : (x == ("__debug__" : Str)) = false) (he : starEach (e :: es) X.env = (false, eval e X.env) :: starEach es X.env) (hpl : (backTo pos (starEach es X.env)).any (·.1) = false) : PE X (.Call (.Name x p) (e :: es) [] pos) (tMkS C sp E t) := by
  refine ⟨fun pins s σ H Q I h => wpAny_Call_Name_kw (ld_glob I hg hm (PySem.W.callWith_K (h₀ := X.base) I.ok.mod.kin M.kp (thn (ha.run pos pins s σ H _ I h) fun us s1 hh => ?_) he hpl) hdb)⟩
  obtain ⟨vs, H1, I1, r, q⟩ := hh
  refine ⟨I1.kIn, ?_⟩
  have n1 : s1.heap.objs.size ≠ s1.heap.objs.size + 1 := Nat.ne_of_lt (Nat.lt_succ_self _)
  have q1 := q (s1.heap.objs.size + 1) s1.heap.objs.size (I1.hok.fresh (Nat.le_succ _)) (I1.hok.fresh (Nat.le_refl _)) n1
  have I2 := Inv.made (C := C) I1
  have r2 : Vals (V.ref (s1.heap.objs.size + 1) :: vs) (Value.ref (s1.heap.objs.size + 1) :: us) := .cons rfl r
  have hl : (Value.ref (s1.heap.objs.size + 1) :: us).length = ps.length := r2.length.symm.trans (F.len _ _ _ _ q1)
  have b := hb _ (Value.ref (s1.heap.objs.size + 1) :: us) I2.kIn (by rw [List.append_nil]; exact hl)
  rw [List.append_nil] at b
  have run := F.run _ X.stack _ _ ⟨Value.ref (s1.heap.objs.size + 1) :: us, []⟩ _ _ _ _ (hr.make C us []) (I2.env0.make C us []) b r2 q1
  refine wpAny_call (make_map (f := f) I1.kIn M.makes M.init (beq_iff_eq.mp M.fn) (codeAny_mono run fun r s' z => ?_))
  cases r with
  | error e => exact hx σ pins _ _ e s' I2 z
  | ok fl =>
    cases fl with
    | ret u =>
      obtain ⟨v, H', I3, rv, ev, q3⟩ := I2.after z
      rw [ev] at rv
      exact ⟨rv, V.ref (s1.heap.objs.size + 1), H', I3, rfl, q3⟩
    | next => exact z.elim
    | brk => exact z.elim
    | cont => exact z.elim
end
theorem spI_at {U : Wd} {cS cM : Addr} {H1 S1 : Hp} {v : V} {m : Int} {rows : List (List Int)} {a dx : Addr} {Q : VK} {E : XK} (h1 : H1 a = none) (h2 : H1 dx = none) (h3 : dx ≠ a) (e : Ex S1 H1) (rv : Rep U S1 v (D.sets rows))
    (q1 : tooBig m rows = false → rows.all (inR m) = true → ∀ N H', Nw H1 N H' → Rep U N (.ref a) (.tab m (rows.map plainL)) → Q .non H') (q2 : ∀ c, mkT cS cM m rows = .inr c → ∀ H', Ex H1 H' → E (.ref c) none H') : spI U cS cM [.ref a, .int m, v] (upd (upd H1 dx (.own a)) a (.ins U.C dx [])) Q E :=
  ⟨a, dx, H1, S1, v, m, rows, rfl, h1, h2, h3, rfl, e, rv, q1, q2⟩
section
variable {G : Gx} {ρ : List Sl} {a b : Expr} {pos p : Pos} {k : Nat} {cS cM : Addr} {m : Int} {rows : List (List Int)} {O : Ot → Prop} {r : Rs}
theorem ed_make (T : MkT G.U cS cM k) (hk : k + 1 ≤ G.k) (hg : GlN G "Table") (ha : ED G a ρ (.sh (.int m))) (hb : ED G b ρ (.sh (D.sets rows))) (hA : mkT cS cM m rows = .inl r)
    (hs : StarN a [b] ∧ StarN b [] := by exact ⟨⟨by intro _; rfl, by intros; rfl⟩, ⟨by intro _; rfl, by intros; rfl⟩⟩) : ED G (.Call (.Name "Table" p) [a, b] [] pos) ρ r := by
  obtain ⟨f, fd, ps, gm, M, bd, F⟩ := T.ex
  refine .of (te := tMake G.U.C (spI G.U cS cM) [] E0 (tCons (tG G a) (tCons (tG G b) tNil))) (fun X h => pe_make (CX := L2.CX G.U.P G.U.w) (ds := []) (by rw [h.K]; exact M) (FnOk.at h F) (h.room.mono hk) (gl_of h hg) (by rw [h.mg]; exact gm) (by rw [h.K]; exact bd) .nil (by rw [CX_at h]; exact passL) (pa_cons (pe_of h) (pa_cons (pe_of h) pa_nil (hs := hs.2.1 _)) (hs := hs.1.1 _)) rfl (hs.1.1 _) (hs.1.2 _ _)) ?_
  intro B S H σ ex sl Q q
  refine ha B S H σ ex sl _ fun v S1 H1 g1 r1 => hb B S1 H1 σ g1.sh (sl.go g1) _ fun w S2 H2 g2 r2 => ?_
  cases r1
  intro x dx n1 n2 n3
  refine spI_at n1 n2 n3 g2.sh r2 (fun k1 k2 N H3 n r3 => ⟨rfl, ?_⟩) fun c hc => ?_
  · obtain ⟨_, _, e⟩ := mkT_inl hA
    subst e
    exact q _ _ H3 ((g1.trans g2).trans (n.go g2.sh)) (Rep.mono (n.r g2.sh) r3)
  · rw [hA] at hc
    cases hc
theorem xd_make (T : MkT G.U cS cM k) (hk : k + 1 ≤ G.k) (hg : GlN G "Table") (ha : ED G a ρ (.sh (.int m))) (hb : ED G b ρ (.sh (D.sets rows))) (hO : O (mkT cS cM m rows))
    (hs : StarN a [b] ∧ StarN b [] := by exact ⟨⟨by intro _; rfl, by intros; rfl⟩, ⟨by intro _; rfl, by intros; rfl⟩⟩) : XD G (.Call (.Name "Table" p) [a, b] [] pos) ρ O := by
  obtain ⟨f, fd, ps, gm, M, bd, F⟩ := T.ex
  refine .of (te := fun W => tMkS G.U.C (spI G.U cS cM) (WE W) (tCons (tG G a) (tCons (tG G b) tNil))) (fun X W h tk => pe_mkS (CX := L2.CX X.prog X.w) (by rw [h.is.K]; exact M) (by rw [← CX_at h.is]; exact FnOk.at h.is F) (h.is.room.mono hk) (gl_of h.is hg) (by rw [h.is.mg]; exact gm) (by rw [h.is.K]; exact bd) (fun σ => passAt tk σ) (pa_cons (pe_of h.is) (pa_cons (pe_of h.is) pa_nil (hs := hs.2.1 _)) (hs := hs.1.1 _)) rfl (hs.1.1 _) (hs.1.2 _ _)) ?_
  intro W B S H σ ex sl Q q1 q2
  refine ha B S H σ ex sl _ fun v S1 H1 g1 r1 => hb B S1 H1 σ g1.sh (sl.go g1) _ fun w S2 H2 g2 r2 => ?_
  cases r1
  intro x dx n1 n2 n3
  refine spI_at n1 n2 n3 g2.sh r2 (fun k1 k2 N H3 n r3 => ⟨rfl, ?_⟩) fun c hc H3 e3 => ?_
  · rw [mkT_ok cS cM k1 k2] at hO
    exact q1 (.sh (.tab m (rows.map plainL))) _ _ H3 hO ((g1.trans g2).trans (n.go g2.sh)) (Rep.mono (n.r g2.sh) r3)
  · rw [hc] at hO
    exact q2 c H3 hO ((g1.bh.trans g2.bh).trans e3)
end
theorem ed_globI {G : Gx} {ρ : List Sl} {pos : Pos} {n : Str} {i : Int} {t : Tok} (hg : G.sc.names.lookup n = some .globalImplicit) (hm : G.U.mg n = some (.int i t)) (hd : (n == ("__debug__" : Str)) = false := by rfl) : ED G (.Name n pos) ρ (.sh (.int i)) :=
  ed_glob (v := .int i) hg hm ⟨t, rfl⟩ (fun _ => .int i) hd
theorem slots4 {U : Wd} {B S H : Hp} {σ : L2.St} {a b c : D} (nw : ∀ a, H a = none → U.nw a) (hl : σ.length = 4) (h0 : ∃ v, σ[0]? = some (some v) ∧ Rep U S v a) (h1 : ∃ v, σ[1]? = some (some v) ∧ Rep U S v b) (h2 : ∃ v, σ[2]? = some (some v) ∧ Rep U S v c) : Slots U B S H σ [.sh a, .sh b, .sh c, .no] := by
  refine ⟨hl, fun i d e => ?_, fun i ds e => ?_, fun i j ds es p e => ?_, nw⟩
  · match i, e with
    | 0, e => cases e; exact h0
    | 1, e => cases e; exact h1
    | 2, e => cases e; exact h2
    | 3, e => cases e
    | n + 4, e => cases e
  · match i, e with
    | 0, e => cases e
    | 1, e => cases e
    | 2, e => cases e
    | 3, e => cases e
    | n + 4, e => cases e
  · match i, e with
    | 0, e => cases e
    | 1, e => cases e
    | 2, e => cases e
    | 3, e => cases e
    | n + 4, e => cases e
/-- the same world, other places counting as new -/
abbrev Wd.at (U : Wd) (n : Addr → Prop) : Wd := { U with nw := n }
abbrev encN (r : List Int) : D := .nls (r.map D.int)
theorem RepL.sets_at {U : Wd} {n : Addr → Prop} {S : Hp} : ∀ {vs : List V} {xs : List (List Int)}, RepL U S vs (xs.map encS) → RepL (U.at n) S vs (xs.map encS)
  | _, [], .nil => .nil
  | _, x :: xs, .cons r t => by
    refine .cons ?_ (RepL.sets_at t)
    cases r with
    | lst h1 z r =>
      have e := RepL.ints r
      subst e
      exact .lst h1 z (RepL.ofInts _)
theorem Rep.sets_at {U : Wd} {n : Addr → Prop} {S : Hp} {v : V} {xs : List (List Int)} (h : Rep U S v (D.sets xs)) : Rep (U.at n) S v (D.sets xs) := by
  cases h with
  | lst h1 z r => exact .lst h1 z r.sets_at
theorem ExT.at {U : Wd} {x : Str} {C : Addr} (h : ExT U x C) (n : Addr → Prop) : ExT (U.at n) x C := ⟨h.g, h.k, h.q, h.s, h.t⟩
theorem TabOk.at {U : Wd} (h : TabOk U) (n : Addr → Prop) : TabOk (U.at n) := ⟨h.cls, h.nM, h.nR⟩
theorem RepL.new_sets {U : Wd} {n : Addr → Prop} {S N : Hp} (h : ∀ a l, n a → S a = some (.lst l) → N a = some (.lst l)) : ∀ {vs : List V} {xs : List (List Int)}, RepL (U.at n) S vs (xs.map encN) → RepL U N vs (xs.map encS)
  | _, [], .nil => .nil
  | _, x :: xs, .cons r t => by
    refine .cons ?_ (RepL.new_sets h t)
    cases r with
    | nls h1 z r q =>
      have e := RepL.ints r
      subst e
      exact .lst (h _ _ q h1) z (RepL.ofInts _)
theorem RepL.ints_skip {U : Wd} {S : Hp} {p : Addr} {o : HO} (h : ∀ l, S p ≠ some (.lst l)) : ∀ {vs : List V} {xs : List (List Int)}, RepL U S vs (xs.map encS) → RepL U (upd S p o) vs (xs.map encS)
  | _, [], .nil => .nil
  | _, x :: xs, .cons r t => by
    refine .cons ?_ (RepL.ints_skip h t)
    cases r with
    | lst h1 z r =>
      have e := RepL.ints r
      subst e
      refine .lst ?_ z (RepL.ofInts _)
      rw [upd_ne]
      · exact h1
      · intro e
        subst e
        exact h _ h1
def asgV : Stmt → Expr
  | .Assign _ e _ => e
  | _ => .Constant .none 0 ⟨0, 0, 0, 0⟩
end Mb
set_option Elab.async false
set_option linter.all false
set_option maxRecDepth 100000
set_option maxHeartbeats 4000000
namespace Mb
open PySem PySem.Spec PyProof.Rows L2
/-! ### order of data; sorting by it -/
theorem pyL_map {α : Type} (enc : α → D) : ∀ xs : List α, D.pyL (xs.map enc) = xs.map fun x => (enc x).py
  | [] => by rw [List.map_nil, D.pyL, List.map_nil]
  | x :: xs => by rw [List.map_cons, D.pyL, pyL_map enc xs, List.map_cons]
theorem py_ints (ns : List Int) : (D.ints ns).py = .list (ns.map .int) := by
  rw [D.py, pyL_map]
  exact congrArg PyData.list (List.map_congr_left fun x _ => by rw [D.py])
def ltD (x y : D) : Bool := PySem.W.dataLt x.py y.py
def leS (a b : List Int) : Bool := decide (a.length < b.length ∨ (a.length = b.length ∧ a ≤ b))
abbrev encL (s : List Int) : D := .tup [.int (s.length : Int), .ints s]
theorem ltD_ints (a b : List Int) : ltD (.ints a) (.ints b) = decide (a < b) := by
  unfold ltD
  rw [py_ints, py_ints, PySem.W.dataLt_list]
  exact PySem.W.dataLt_ints a b
theorem alike_two (a b : List Int) : PySem.W.alike (.list (a.map .int)) (.list (b.map .int)) = true := by
  simp only [PySem.W.alike]
  exact PySem.W.alike_ints a b
theorem py_pair (x y : D) : (D.tup [x, y]).py = .tuple [x.py, y.py] := by
  rw [D.py, D.pyL, D.pyL, D.pyL]
theorem py_int (i : Int) : (D.int i).py = .int i := by rw [D.py]
theorem eqv_list (a b : List Int) : PyData.eqv (.list (a.map .int)) (.list (b.map .int)) = decide (a = b) := by
  have := deq_ints a b
  unfold deq at this
  rw [py_ints, py_ints] at this
  exact this
theorem ltD_pair (i j : Int) (a b : List Int) : ltD (.tup [.int i, .ints a]) (.tup [.int j, .ints b]) = decide (i < j ∨ (i = j ∧ a < b)) := by
  unfold ltD
  rw [py_pair, py_pair, py_int, py_int, py_ints, py_ints, PySem.W.dataLt_pair (by simp [PySem.W.alike]) (alike_two a b), eqv_list, PySem.W.dataLt_int, PySem.W.dataLt_list]
  rw [show PyProof.Rows.lexLt PyProof.Rows.itemOrd (PySem.W.keyToksAll (a.map .int)) (PySem.W.keyToksAll (b.map .int)) = decide (a < b) from PySem.W.dataLt_ints a b]
  simp only [PyData.eqv, beq_iff_eq, decide_eq_true_eq]
  by_cases h1 : i = j
  · subst h1
    by_cases h2 : a = b
    · subst h2
      simp [List.lt_irrefl]
    · simp [h2]
  · simp [h1]
theorem le_encL (a b : List Int) : leS a b = !ltD (encL b) (encL a) := by
  rw [ltD_pair]
  unfold leS
  rw [Bool.eq_iff_iff]
  simp only [decide_eq_true_eq, Bool.not_eq_true', decide_eq_false_iff_not, not_or, not_and, Int.ofNat_lt, Int.ofNat_inj]
  constructor
  · rintro (h | ⟨h1, h2⟩)
    · exact ⟨by omega, fun e => by omega⟩
    · exact ⟨by omega, fun _ h => List.not_le.mpr h h2⟩
  · rintro ⟨h1, h2⟩
    by_cases h : a.length = b.length
    · exact .inr ⟨h, List.not_lt.mp (h2 h.symm)⟩
    · exact .inl (by omega)
theorem py_encL (s : List Int) : (encL s).py = .tuple [.int (s.length : Int), .list (s.map .int)] := by
  rw [py_pair, py_int, py_ints]
/-! the rules -/
theorem each_of {β : Type} {val : β → V} : ∀ {bs : List β} {us : List Value}, Vals (bs.map val) us → PySem.W.EachIs (fun v b => RelV (val b) v) us bs
  | [], _, .nil => .nil
  | _ :: _, _, .cons r t => .cons r (each_of t)
theorem of_each {β : Type} {val : β → V} : ∀ {bs : List β} {us : List Value}, PySem.W.EachIs (fun v b => RelV (val b) v) us bs → Vals (bs.map val) us
  | _, _, .nil => .nil
  | _, _, .cons r t => .cons r (of_each t)
theorem each_all {α β : Type} {R R' : α → β → Prop} : ∀ {as : List α} {bs : List β}, PySem.W.EachIs R as bs → (∀ a b, b ∈ bs → R a b → R' a b) → PySem.W.EachIs R' as bs
  | _, _, .nil, _ => .nil
  | _, _, .cons r t, h => .cons (h _ _ List.mem_cons_self r) (each_all t fun a b m => h a b (List.mem_cons_of_mem _ m))
def rSortedD (K : PySem.W.Frag) : List V → Hp → VK → Prop := fun vs H Q => ∃ (β : Type) (bs : List β) (enc : β → PyData) (val : β → V) (a : Addr), vs = [.ref a] ∧ SqL K H a (bs.map val) ∧ (∀ b ∈ bs, Dp K H (val b) (enc b) ∧ (enc b).depth ≤ 60) ∧
  PySem.W.AllAlike (bs.map enc) ∧ PySem.W.Sortable (bs.map enc) ∧ ∀ p, H p = none → Q (.ref p) (upd H p (.lst ((bs.mergeSort (PySem.W.dataLe false enc)).map val)))
theorem cr_sortedD {X : Cx} (hu : X.A.units + 64 < cLine) : CallR X (.builtin "sorted") (rSortedD X.K) := by
  intro pins s σ H vs us Q I r h
  obtain ⟨β, bs, enc, val, a, rfl, hs, hd, hal, hk, q⟩ := h
  obtain ⟨its, rv, hl, hz⟩ := I.list hs
  rw [Vals.ref1 r]
  have e1 := each_of rv
  have e2 : PySem.W.EachIs (fun v b => ∃ as, Reads s.heap v (enc b) as) its bs := each_all e1 fun v b m rr => Dp.reads I (enc b) (val b) v (hd b m).1 rr
  refine PySem.W.sorted_data hl.isList e1 e2 hal hk (by rw [List.length_map] at hz; exact hz) (fun b m => by have := (hd b m).2; omega) fun out hlen eo => ?_
  obtain ⟨ep, he'⟩ := PyProof.Rows.sortedAll_at s.heap its out.toArray
  have hlen2 : ((bs.mergeSort (PySem.W.dataLe false enc)).map val).length ≤ sizeLine := by
    rw [List.length_map, List.length_mergeSort]
    rw [List.length_map] at hz
    exact hz
  exact ⟨.ref _, upd H (s.heap.objs.size + 1) (.lst ((bs.mergeSort (PySem.W.dataLe false enc)).map val)), I.laid (t' := s.toks) (fun _ _ => PyProof.Rows.sortedAll_old) (Nat.le_succ _) ⟨hlen2, out, ep, of_each eo, he'⟩, rfl, q _ (I.hok.fresh (Nat.le_succ _))⟩
section
variable {U : Wd} {S : Hp} {α : Type} {enc : α → D}
theorem RepL.zip {xs : List α} : ∀ {vs : List V} {xs : List α}, RepL U S vs (xs.map enc) → ∀ b ∈ vs.zip xs, Rep U S b.1 (enc b.2)
  | _, [], .nil => fun b h => nomatch h
  | _, x :: xs, .cons r t => fun b h => by
    rcases List.mem_cons.mp h with e | h
    · rw [e]
      exact r
    · exact RepL.zip (xs := xs) t b h
theorem RepL.ofAll : ∀ {bs : List (V × α)}, (∀ b ∈ bs, Rep U S b.1 (enc b.2)) → RepL U S (bs.map (·.1)) (bs.map fun b => enc b.2)
  | [], _ => .nil
  | b :: bs, h => .cons (h b List.mem_cons_self) (RepL.ofAll fun c m => h c (List.mem_cons_of_mem _ m))
end
section
variable {G : Gx} {ρ : List Sl} {a b : Expr} {pos p : Pos} {x y : Rs}
theorem ed_sortedD {α : Type} {xs : List α} {enc : α → D} {le : α → α → Bool} (T : Bl G.U.mg) (ha : ED G a ρ x) (hx : x.ls = some (xs.map enc)) (hd : ∀ y ∈ xs, Dn 60 (enc y)) (hal : PySem.W.AllAlike (xs.map fun y => (enc y).py)) (hk : PySem.W.Sortable (xs.map fun y => (enc y).py))
    (hle : ∀ x y, le x y = !ltD (enc y) (enc x)) (hg : GlN G "sorted") (hs : Star1 a := by intro _; rfl) : ED G (.Call (.Name "sorted" p) [a] [] pos) ρ (.fr ((xs.mergeSort le).map enc)) :=
  ed_b1 (id := "sorted") (r := rSortedD G.U.K) (fun X h => by rw [← h.K]; exact cr_sortedD h.room.units) hg T.sorted (by decide +kernel) (by decide) (by rfl) hs ha fun S H v e rv Q q => by
    obtain ⟨p, vs, rfl, h1, z, h4⟩ := rv.list hx e
    have hl : vs.length = xs.length := by rw [h4.length, List.length_map]
    have z1 : (vs.zip xs).map (·.1) = vs := List.map_fst_zip (by omega)
    have z2 : (vs.zip xs).map (·.2) = xs := List.map_snd_zip (by omega)
    have hz := RepL.zip (xs := xs) h4
    have z3 : (vs.zip xs).map (fun b => (enc b.2).py) = xs.map fun y => (enc y).py := by
      conv => rhs; rw [← z2]
      rw [List.map_map]
      rfl
    refine ⟨V × α, vs.zip xs, fun b => (enc b.2).py, (·.1), p, rfl, by rw [z1]; exact .of h1, fun b m => ?_, by rw [z3]; exact hal, by rw [z3]; exact hk, fun l hl' => ?_⟩
    · have hm : b.2 ∈ xs := by
        rw [← z2]
        exact List.mem_map.mpr ⟨b, m, rfl⟩
      exact ⟨Rep.dp e (hd _ hm) (hz b m), (hd _ hm).lay.2⟩
    · have e1 : ((vs.zip xs).mergeSort (PySem.W.dataLe false fun b => (enc b.2).py)).map (·.2) = xs.mergeSort le := by
        rw [List.map_mergeSort (r := PySem.W.dataLe false fun (b : V × α) => (enc b.2).py) (s := le), z2]
        intro a _ b _
        rw [hle]
        rfl
      have e2 : (((vs.zip xs).mergeSort (PySem.W.dataLe false fun b => (enc b.2).py)).map fun b => enc b.2) = (xs.mergeSort le).map enc := by
        rw [← e1, List.map_map]
        rfl
      refine q (.ref l) S _ ⟨Ex.refl S, e.trans (Ex.new hl'), Ex.new hl', fun _ h => .inl h⟩ ⟨l, _, rfl, upd_same, e.back hl', hl', ?_, ?_⟩
      · rw [List.length_map, List.length_mergeSort, List.length_zip]
        omega
      · rw [← e2]
        exact RepL.ofAll fun b m => hz b ((List.mergeSort_perm _ _).mem_iff.mp m)
def rLtD (K : PySem.W.Frag) : R2 := fun x y H Q => ∃ d e, Dp K H x d ∧ Dp K H y e ∧ PySem.W.alike d e = true ∧ d ≠ .none ∧ d.depth ≤ 60 ∧ Q (.bl (PySem.W.dataLt d e)) H
def rGeD (K : PySem.W.Frag) : R2 := fun x y H Q => ∃ d e, Dp K H x d ∧ Dp K H y e ∧ PySem.W.alike d e = true ∧ d ≠ .none ∧ d.depth ≤ 60 ∧ Q (.bl (!PySem.W.dataLt d e)) H
theorem op_ltD {X : Cx} (hu : X.A.units + 64 < cLine) : OpR X (compareOp .Lt) (rLtD X.K) := by
  intro pins s σ H x y v u Q I rx ry h
  obtain ⟨d, e, hd, he, al, nn, dp, q⟩ := h
  obtain ⟨as, r1⟩ := Dp.reads I d x v hd rx
  obtain ⟨bs, r2⟩ := Dp.reads I e y u he ry
  exact PySem.W.lt_data r1 r2 al nn (by omega) ⟨.bl _, H, I, rfl, q⟩
theorem op_geD {X : Cx} (hu : X.A.units + 64 < cLine) : OpR X (compareOp .GtE) (rGeD X.K) := by
  intro pins s σ H x y v u Q I rx ry h
  obtain ⟨d, e, hd, he, al, nn, dp, q⟩ := h
  obtain ⟨as, r1⟩ := Dp.reads I d x v hd rx
  obtain ⟨bs, r2⟩ := Dp.reads I e y u he ry
  exact PySem.W.ge_data r1 r2 al nn (by omega) ⟨.bl _, H, I, rfl, q⟩
theorem cp_ltD (ha : ED G a ρ x) (hb : ED G b ρ y) (h1 : Dn 60 x.d) (h2 : Dn 60 y.d) (al : PySem.W.alike x.d.py y.d.py = true) (nn : x.d.py ≠ .none) : ED G (.Compare a [.Lt] [b] pos) ρ (.sh (.bl (ltD x.d y.d))) ∧ TD G (.Compare a [.Lt] [b] pos) ρ (ltD x.d y.d) :=
  cmpB (r := rLtD G.U.K) (fun X h => by rw [← h.K]; exact op_ltD h.room.units) ha hb (r2_val fun S H v w e rv rw Q q => ⟨_, _, rv.dp e h1, rw.dp e h2, al, nn, h1.lay.2, q _ (.bl _)⟩) (nomark _)
theorem cp_geD (ha : ED G a ρ x) (hb : ED G b ρ y) (h1 : Dn 60 x.d) (h2 : Dn 60 y.d) (al : PySem.W.alike x.d.py y.d.py = true) (nn : x.d.py ≠ .none) : ED G (.Compare a [.GtE] [b] pos) ρ (.sh (.bl (!ltD x.d y.d))) ∧ TD G (.Compare a [.GtE] [b] pos) ρ (!ltD x.d y.d) :=
  cmpB (r := rGeD G.U.K) (fun X h => by rw [← h.K]; exact op_geD h.room.units) ha hb (r2_val fun S H v w e rv rw Q q => ⟨_, _, rv.dp e h1, rw.dp e h2, al, nn, h1.lay.2, q _ (.bl _)⟩) (nomark _)
end
end Mb
set_option Elab.async false
set_option linter.all false
set_option maxRecDepth 100000
set_option maxHeartbeats 4000000
namespace Mb
open PySem PySem.Spec PyProof.Rows L2
/-! ### the table's other methods, as data -/
def thL (rows : List (List Int)) (ms : List Int) : List Nat := (List.range rows.length).filter fun i => withinB ms (rows.getD i [])
def rangeL (m : Int) : List Int := (List.range m.toNat).map fun (i : Nat) => (i : Int)
def mkL (m : Int) (rows : List (List Int)) (ts : List Int) : List Int := (rangeL m).filter fun x => ts.all fun t => decide (x ∈ rows.getD t.toNat [])
def thI (rows : List (List Int)) (ms : List Int) : List Int := (thL rows ms).map fun (i : Nat) => (i : Int)
def clL (m : Int) (rows : List (List Int)) (ms : List Int) : List Int := mkL m rows (thI rows ms)
abbrev A_things (cM : Addr) : List D → Ot → Prop := fun ds o => ∃ (m : Int) (rows : List (List Int)) (ms : List Int), ds = [.tab m rows, .ints ms] ∧ rows.length ≤ 12 ∧ o = if inR m ms then .inl (.fr ((thI rows ms).map D.int)) else .inr cM
abbrev A_marks (cT : Addr) : List D → Ot → Prop := fun ds o => ∃ (m : Int) (rows : List (List Int)) (ts : List Int), ds = [.tab m rows, .ints ts] ∧ (0 ≤ m ∧ m ≤ 8) ∧ o = if inR (rows.length : Int) ts then .inl (.fr ((mkL m rows ts).map D.int)) else .inr cT
abbrev A_closed (cM : Addr) : List D → Ot → Prop := fun ds o => ∃ (m : Int) (rows : List (List Int)) (ms : List Int), ds = [.tab m rows, .ints ms] ∧ (0 ≤ m ∧ m ≤ 8 ∧ rows.length ≤ 12) ∧ o = if inR m ms then .inl (.fr ((clL m rows ms).map D.int)) else .inr cM
theorem thI_in (rows : List (List Int)) (ms : List Int) : inR (rows.length : Int) (thI rows ms) = true := by
  rw [inR_iff]
  intro x hx
  unfold thI thL at hx
  obtain ⟨i, hi, rfl⟩ := List.mem_map.mp hx
  have := List.mem_range.mp (List.mem_filter.mp hi).1
  omega
theorem range_int {m : Int} : ((List.range m.toNat).map fun (j : Nat) => D.int (j : Int)) = (rangeL m).map D.int := by
  unfold rangeL
  rw [List.map_map]
  rfl
theorem mkL_step {m : Int} {rows : List (List Int)} {ts : List Int} {i : Nat} {t : Int} (h : ts[i]? = some t) : mkL m rows (ts.take (i + 1)) = (mkL m rows (ts.take i)).filter fun x => decide (x ∈ rows.getD t.toNat []) := by
  unfold mkL
  rw [List.filter_filter, List.take_add_one, h]
  congr 1
  funext x
  rw [List.all_append]
  simp [Bool.and_comm]
theorem mkL_nil {m : Int} {rows : List (List Int)} : mkL m rows [] = rangeL m := List.filter_eq_self.mpr fun _ _ => rfl
theorem mkL_len (m : Int) (rows : List (List Int)) (ts : List Int) : (mkL m rows ts).length ≤ m.toNat := by
  unfold mkL
  refine Nat.le_trans (List.length_filter_le _ _) ?_
  unfold rangeL
  rw [List.length_map, List.length_range]
  omega
/-! ### sets of marks, knots, the fewest rules: what the program's defs compute -/
abbrev encRn (r : Rule) : D := .tup [encN r.1, encN r.2]
inductive IsS : (List Int → D) → Prop
  | s : IsS encS
  | n : IsS encN
theorem py_nints (ns : List Int) : (encN ns).py = .list (ns.map .int) := by
  have := py_ints ns
  rw [D.py] at this
  rw [D.py]
  exact this
theorem deq_nn (xs ys : List Int) : deq (.nls (xs.map D.int)) (.nls (ys.map D.int)) = decide (xs = ys) := by
  have := deq_ints xs ys
  unfold deq at *
  rw [D.py, D.py] at *
  exact this
theorem deq_nl (xs ys : List Int) : deq (.nls (xs.map D.int)) (.lst (ys.map D.int)) = decide (xs = ys) := by
  have := deq_ints xs ys
  unfold deq at *
  rw [D.py, D.py] at *
  exact this
theorem deq_ln (xs ys : List Int) : deq (.lst (xs.map D.int)) (.nls (ys.map D.int)) = decide (xs = ys) := by
  have := deq_ints xs ys
  unfold deq at *
  rw [D.py, D.py] at *
  exact this
theorem Enc.nints : Enc encN := deq_nn
theorem IsS.py {enc : List Int → D} (h : IsS enc) (s : List Int) : (enc s).py = .list (s.map .int) := by
  cases h with
  | s => exact py_ints s
  | n => exact py_nints s
theorem IsS.dn {enc : List Int → D} (h : IsS enc) (s : List Int) : Dn 1 (enc s) := by
  cases h with
  | s => exact dn_lst (dm_map fun _ => Dn.int _ _)
  | n => exact dn_nls (dm_map fun _ => Dn.int _ _)
abbrev orderedL (xs : List (List Int)) : List (List Int) := xs.mergeSort leS
abbrev A_ordered : List D → Ot → Prop := fun ds o => ∃ (enc : List Int → D) (xs : List (List Int)), IsS enc ∧ ds = [.lst (xs.map enc)] ∧ o = .inl (.fr ((orderedL xs).map enc))
theorem IsS.ltD {enc : List Int → D} (h : IsS enc) (a b : List Int) : ltD (.tup [.int (a.length : Int), enc a]) (.tup [.int (b.length : Int), enc b]) = ltD (encL a) (encL b) := by
  unfold Mb.ltD
  rw [py_pair, py_pair, py_pair, py_pair, h.py, h.py, py_ints, py_ints]
theorem len_alike {enc : List Int → D} (h : IsS enc) (xs : List (List Int)) : PySem.W.AllAlike (xs.map fun y => (D.tup [.int (y.length : Int), enc y]).py) := by
  refine PySem.W.AllAlike.of fun a b => ?_
  rw [py_pair, py_pair, h.py, h.py, py_int, py_int]
  simp [PySem.W.alike, PySem.W.alikeAll, PySem.W.alike_ints]
theorem len_sortable {enc : List Int → D} (h : IsS enc) (xs : List (List Int)) : PySem.W.Sortable (xs.map fun y => (D.tup [.int (y.length : Int), enc y]).py) := by
  refine PySem.W.Sortable.tuples fun a => ?_
  rw [py_pair]
  exact ⟨_, _, rfl⟩
def bld : Nat → List (List Int)
  | 0 => [[]]
  | n + 1 => bld n ++ (bld n).map fun s => s ++ [(n : Int)]
theorem bld_len : ∀ n, (bld n).length = 2 ^ n
  | 0 => rfl
  | n + 1 => by
    rw [bld, List.length_append, List.length_map, bld_len n]
    omega
/-- all sets of marks below m, the smaller ones first -/
def allL (m : Int) : List (List Int) := orderedL (bld m.toNat)
abbrev A_all : List D → Ot → Prop := fun ds o => ∃ m : Int, ds = [.int m] ∧ (0 ≤ m ∧ m ≤ 8) ∧ o = .inl (.fr ((allL m).map encN))
def isKnotL (ms : List Int) (ps : List Rule) : Bool := ps.all fun p => !(withinB p.1 ms && !withinB p.2 ms)
abbrev A_knot : List D → Ot → Prop := fun ds o => ∃ (ms : List Int) (ps : List Rule), ds = [.ints ms, .lst (ps.map encRn)] ∧ o = .inl (.sh (.bl (isKnotL ms ps)))
def fewStep (m : Int) (rows : List (List Int)) (ps : List Rule) (ms : List Int) : List Rule := if (!decide (clL m rows ms = ms) && isKnotL ms ps) = true then ps ++ [(ms, clL m rows ms)] else ps
def fewP (m : Int) (rows : List (List Int)) (l : List (List Int)) : List Rule := l.foldl (fewStep m rows) []
def fewL (m : Int) (rows : List (List Int)) : List Rule := (fewP m rows (allL m)).map fun r => (r.1, lacksL r.2 r.1)
abbrev A_fewest : List D → Ot → Prop := fun ds o => ∃ (m : Int) (rows : List (List Int)), ds = [.tab m rows] ∧ (0 ≤ m ∧ m ≤ 8 ∧ rows.length ≤ 12) ∧ o = .inl (.fr ((fewL m rows).map encRn))
theorem bld_in : ∀ (n : Nat) (s : List Int), s ∈ bld n → ∀ x ∈ s, 0 ≤ x ∧ x < (n : Int)
  | 0, s, h, x, hx => by
    unfold bld at h
    rw [List.mem_singleton.mp h] at hx
    cases hx
  | n + 1, s, h, x, hx => by
    unfold bld at h
    rcases List.mem_append.mp h with h | h
    · have := bld_in n s h x hx
      omega
    · obtain ⟨t, ht, rfl⟩ := List.mem_map.mp h
      rcases List.mem_append.mp hx with hx | hx
      · have := bld_in n t ht x hx
        omega
      · rw [List.mem_singleton.mp hx]
        omega
theorem allL_mem {m : Int} {s : List Int} : s ∈ allL m ↔ s ∈ bld m.toNat := (List.mergeSort_perm _ _).mem_iff
theorem allL_in {m : Int} {s : List Int} (hm : 0 ≤ m) (h : s ∈ allL m) : inR m s = true := by
  rw [inR_iff]
  intro x hx
  have := bld_in _ s (allL_mem.mp h) x hx
  omega
theorem allL_len {m : Int} (h : m ≤ 8) : (allL m).length ≤ 256 := by
  unfold allL
  rw [List.length_mergeSort, bld_len]
  have : m.toNat ≤ 8 := by omega
  calc 2 ^ m.toNat ≤ 2 ^ 8 := Nat.pow_le_pow_right (by decide) this
    _ = 256 := by decide
theorem fewP_len (m : Int) (rows : List (List Int)) (l : List (List Int)) : (fewP m rows l).length ≤ l.length := by
  have h : ∀ (l : List (List Int)) (ps : List Rule), (l.foldl (fewStep m rows) ps).length ≤ ps.length + l.length := by
    intro l
    induction l with
    | nil => intro ps; exact Nat.le_refl _
    | cons a l ih =>
      intro ps
      rw [List.foldl_cons]
      refine Nat.le_trans (ih _) ?_
      unfold fewStep
      split
      · simp only [List.length_append, List.length_cons, List.length_nil]
        omega
      · rw [List.length_cons]
        omega
  have := h l []
  rw [List.length_nil, Nat.zero_add] at this
  exact this
end Mb
set_option Elab.async false
set_option linter.all false
set_option maxRecDepth 100000
set_option maxHeartbeats 4000000
namespace Mb
open PySem PySem.Spec PyProof.Rows L2
/-! ### closures -/
def Sub (a b : List Int) : Prop := ∀ x ∈ a, x ∈ b
theorem Sub.refl (a : List Int) : Sub a a := fun _ h => h
theorem Sub.trans {a b c : List Int} (h : Sub a b) (k : Sub b c) : Sub a c := fun x hx => k x (h x hx)
theorem sub_iff {a b : List Int} : withinB a b = true ↔ Sub a b := withinB_iff
/-- a set of marks below m as the program writes it: rising -/
structure InM (m : Int) (X : List Int) : Prop where
  rise : X.Pairwise (· < ·)
  inr : ∀ x ∈ X, 0 ≤ x ∧ x < m
theorem InM.nodup {m : Int} {X : List Int} (h : InM m X) : X.Nodup := h.rise.imp fun h => by omega
theorem InM.one {m n : Int} {X Y : List Int} (h : InM m X) (k : InM n Y) (a : Sub X Y) (b : Sub Y X) : X = Y := rising_one h.rise k.rise fun x => ⟨a x, b x⟩
theorem InM.filter {m : Int} {X : List Int} (h : InM m X) (p : Int → Bool) : InM m (X.filter p) := ⟨h.rise.filter p, fun x hx => h.inr x (List.mem_filter.mp hx).1⟩
theorem mem_range {m x : Int} : x ∈ rangeL m ↔ 0 ≤ x ∧ x < m := by
  unfold rangeL
  rw [List.mem_map]
  constructor
  · rintro ⟨i, hi, rfl⟩
    have := List.mem_range.mp hi
    omega
  · intro h
    exact ⟨x.toNat, List.mem_range.mpr (by omega), by omega⟩
theorem range_in (m : Int) : InM m (rangeL m) := by
  refine ⟨?_, fun x h => mem_range.mp h⟩
  unfold rangeL
  rw [List.pairwise_map]
  exact List.pairwise_lt_range.imp fun h => by omega
theorem mem_thI {rows : List (List Int)} {ms : List Int} {t : Int} : t ∈ thI rows ms ↔ ∃ i : Nat, i < rows.length ∧ t = (i : Int) ∧ Sub ms (rows.getD i []) := by
  unfold thI thL
  rw [List.mem_map]
  constructor
  · rintro ⟨i, hi, rfl⟩
    obtain ⟨h1, h2⟩ := List.mem_filter.mp hi
    exact ⟨i, List.mem_range.mp h1, rfl, sub_iff.mp h2⟩
  · rintro ⟨i, h1, rfl, h2⟩
    exact ⟨i, List.mem_filter.mpr ⟨List.mem_range.mpr h1, sub_iff.mpr h2⟩, rfl⟩
theorem th_in (rows : List (List Int)) (ms : List Int) : InM (rows.length : Int) (thI rows ms) := by
  refine ⟨?_, fun x h => ?_⟩
  · unfold thI thL
    rw [List.pairwise_map]
    exact (List.pairwise_lt_range.filter _).imp fun h => by omega
  · obtain ⟨i, h1, rfl, _⟩ := mem_thI.mp h
    omega
section
variable {m : Int} {rows : List (List Int)}
theorem mem_mkL {ts : List Int} {x : Int} : x ∈ mkL m rows ts ↔ (0 ≤ x ∧ x < m) ∧ ∀ t ∈ ts, x ∈ rows.getD t.toNat [] := by
  unfold mkL
  rw [List.mem_filter, mem_range, List.all_eq_true]
  simp only [decide_eq_true_eq]
theorem mk_in (ts : List Int) : InM m (mkL m rows ts) := (range_in m).filter _
theorem mem_clL {ms : List Int} {x : Int} : x ∈ clL m rows ms ↔ (0 ≤ x ∧ x < m) ∧ ∀ i : Nat, i < rows.length → Sub ms (rows.getD i []) → x ∈ rows.getD i [] := by
  unfold clL
  rw [mem_mkL]
  refine and_congr_right fun _ => ⟨fun h i hi hs => ?_, fun h t ht => ?_⟩
  · have := h (i : Int) (mem_thI.mpr ⟨i, hi, rfl, hs⟩)
    rwa [Int.toNat_natCast] at this
  · obtain ⟨i, hi, rfl, hs⟩ := mem_thI.mp ht
    rw [Int.toNat_natCast]
    exact h i hi hs
theorem cl_in (ms : List Int) : InM m (clL m rows ms) := mk_in _
theorem cl_ext {X : List Int} (h : InM m X) : Sub X (clL m rows X) := fun x hx => mem_clL.mpr ⟨h.inr x hx, fun _ _ hs => hs x hx⟩
theorem cl_mono {X Y : List Int} (h : Sub X Y) : Sub (clL m rows X) (clL m rows Y) := fun x hx => by
  obtain ⟨a, b⟩ := mem_clL.mp hx
  exact mem_clL.mpr ⟨a, fun i hi hs => b i hi (h.trans hs)⟩
theorem cl_idem (X : List Int) : clL m rows (clL m rows X) = clL m rows X := by
  refine (cl_in _).one (cl_in _) (fun x hx => ?_) (cl_ext (cl_in _))
  obtain ⟨a, b⟩ := mem_clL.mp hx
  exact mem_clL.mpr ⟨a, fun i hi hs => b i hi fun y hy => (mem_clL.mp hy).2 i hi hs⟩
theorem cl_least {X Y : List Int} (h : Sub X Y) (k : clL m rows Y = Y) : Sub (clL m rows X) Y := by
  have := cl_mono (m := m) (rows := rows) h
  rwa [k] at this
theorem cl_eq {X : List Int} (h : InM m X) (k : Sub (clL m rows X) X) : clL m rows X = X := (cl_in _).one h k (cl_ext h)
end
/-! ### all sets, in their order -/
theorem bld_rise : ∀ (n : Nat) (s : List Int), s ∈ bld n → s.Pairwise (· < ·)
  | 0, s, h => by
    unfold bld at h
    rw [List.mem_singleton.mp h]
    exact List.Pairwise.nil
  | n + 1, s, h => by
    unfold bld at h
    rcases List.mem_append.mp h with h | h
    · exact bld_rise n s h
    · obtain ⟨t, ht, rfl⟩ := List.mem_map.mp h
      refine List.pairwise_append.mpr ⟨bld_rise n t ht, List.pairwise_singleton _ _, fun a ha b hb => ?_⟩
      rw [List.mem_singleton.mp hb]
      exact (bld_in n t ht a ha).2
theorem bld_all : ∀ (n : Nat) (s : List Int), InM (n : Int) s → s ∈ bld n
  | 0, s, h => by
    unfold bld
    cases s with
    | nil => exact List.mem_singleton.mpr rfl
    | cons x s =>
      have := h.inr x List.mem_cons_self
      omega
  | n + 1, s, h => by
    unfold bld
    by_cases hn : (n : Int) ∈ s
    · refine List.mem_append_right _ (List.mem_map.mpr ⟨s.filter fun x => !decide (x = (n : Int)), bld_all n _ ⟨h.rise.filter _, fun x hx => ?_⟩, ?_⟩)
      · obtain ⟨h1, h2⟩ := List.mem_filter.mp hx
        have := h.inr x h1
        have h3 : ¬ x = (n : Int) := by simpa using h2
        omega
      · refine rising_one (List.pairwise_append.mpr ⟨h.rise.filter _, List.pairwise_singleton _ _, fun a ha b hb => ?_⟩) h.rise fun x => ?_
        · obtain ⟨h1, h2⟩ := List.mem_filter.mp ha
          rw [List.mem_singleton.mp hb]
          have := h.inr a h1
          have h3 : ¬ a = (n : Int) := by simpa using h2
          omega
        · rw [List.mem_append, List.mem_filter, List.mem_singleton]
          constructor
          · rintro (⟨h1, _⟩ | rfl)
            · exact h1
            · exact hn
          · intro hx
            by_cases e : x = (n : Int)
            · exact .inr e
            · exact .inl ⟨hx, by simpa using e⟩
    · refine List.mem_append_left _ (bld_all n s ⟨h.rise, fun x hx => ?_⟩)
      have := h.inr x hx
      have : x ≠ (n : Int) := fun e => hn (e ▸ hx)
      omega
theorem bld_nodup : ∀ n, (bld n).Nodup
  | 0 => by
    unfold bld
    exact List.nodup_cons.mpr ⟨List.not_mem_nil, List.nodup_nil⟩
  | n + 1 => by
    unfold bld
    refine List.nodup_append.mpr ⟨bld_nodup n, ?_, fun a ha b hb e => ?_⟩
    · exact List.Pairwise.map _ (fun a b h e => h (List.append_cancel_right e)) (bld_nodup n)
    · obtain ⟨t, ht, rfl⟩ := List.mem_map.mp hb
      have := bld_in n a ha (n : Int) (by rw [e]; exact List.mem_append_right _ (List.mem_singleton.mpr rfl))
      omega
theorem mem_allL {m : Int} (hm : 0 ≤ m) {X : List Int} : X ∈ allL m ↔ InM m X := by
  have e : ((m.toNat : Nat) : Int) = m := by omega
  rw [allL_mem]
  constructor
  · intro h
    refine ⟨bld_rise _ _ h, fun x hx => ?_⟩
    have := bld_in _ _ h x hx
    omega
  · intro h
    exact bld_all _ _ (by rw [e]; exact h)
theorem allL_nodup (m : Int) : (allL m).Nodup := (List.mergeSort_perm _ _).nodup_iff.mpr (bld_nodup _)
theorem leS_iff {a b : List Int} : leS a b = true ↔ a.length < b.length ∨ (a.length = b.length ∧ a ≤ b) := by
  unfold leS
  rw [decide_eq_true_eq]
theorem leS_trans (a b c : List Int) (h : leS a b = true) (k : leS b c = true) : leS a c = true := by
  rw [leS_iff] at *
  rcases h with h | ⟨h1, h2⟩
  · rcases k with k | ⟨k1, _⟩
    · exact .inl (by omega)
    · exact .inl (by omega)
  · rcases k with k | ⟨k1, k2⟩
    · exact .inl (by omega)
    · exact .inr ⟨by omega, List.le_trans h2 k2⟩
theorem leS_total (a b : List Int) : (leS a b || leS b a) = true := by
  rw [Bool.or_eq_true, leS_iff, leS_iff]
  by_cases h : a.length < b.length
  · exact .inl (.inl h)
  · by_cases h2 : b.length < a.length
    · exact .inr (.inl h2)
    · rcases List.le_total a b with k | k
      · exact .inl (.inr ⟨by omega, k⟩)
      · exact .inr (.inr ⟨by omega, k⟩)
theorem ordered_sorted (xs : List (List Int)) : (orderedL xs).Pairwise fun a b => leS a b = true := List.pairwise_mergeSort (fun a b c => leS_trans a b c) (fun a b => leS_total a b) xs
theorem leS_anti {a b : List Int} (h : leS a b = true) (k : leS b a = true) : a = b := by
  rw [leS_iff] at h k
  rcases h with h | h
  · rcases k with k | k
    · omega
    · omega
  · rcases k with k | k
    · omega
    · exact List.le_antisymm h.2 k.2
theorem snocInd {α : Type} {p : List α → Prop} (h0 : p []) (hs : ∀ l a, p l → p (l ++ [a])) (l : List α) : p l := by
  rw [← List.reverse_reverse l]
  induction l.reverse with
  | nil => exact h0
  | cons a t ih =>
    rw [List.reverse_cons]
    exact hs _ _ ih
/-! ### the fewest rules -/
section
variable {m : Int} {rows : List (List Int)}
theorem fewP_app (l1 l2 : List (List Int)) : ∃ ex, fewP m rows (l1 ++ l2) = fewP m rows l1 ++ ex ∧ ∀ r ∈ ex, r.1 ∈ l2 := by
  unfold fewP
  rw [List.foldl_append]
  generalize l1.foldl (fewStep m rows) [] = ps
  induction l2 generalizing ps with
  | nil => exact ⟨[], by rw [List.append_nil]; rfl, fun r h => nomatch h⟩
  | cons y l ih =>
    obtain ⟨ex, e1, e2⟩ := ih (fewStep m rows ps y)
    rw [List.foldl_cons, e1]
    unfold fewStep
    split
    · refine ⟨(y, clL m rows y) :: ex, by rw [List.append_assoc]; rfl, fun r hr => ?_⟩
      rcases List.mem_cons.mp hr with rfl | hr
      · exact List.mem_cons_self
      · exact List.mem_cons_of_mem _ (e2 r hr)
    · exact ⟨ex, rfl, fun r hr => List.mem_cons_of_mem _ (e2 r hr)⟩
theorem fewP_snoc (l : List (List Int)) (y : List Int) : fewP m rows (l ++ [y]) = fewStep m rows (fewP m rows l) y := by
  unfold fewP
  rw [List.foldl_append]
  rfl
/-- each pair has its place -/
theorem fewP_place : ∀ (l : List (List Int)) {r : Rule}, r ∈ fewP m rows l → ∃ l1 l2, l = l1 ++ r.1 :: l2 ∧ isKnotL r.1 (fewP m rows l1) = true ∧ clL m rows r.1 ≠ r.1 ∧ r.2 = clL m rows r.1 := by
  intro l
  refine snocInd (p := fun l => ∀ {r : Rule}, r ∈ fewP m rows l → ∃ l1 l2, l = l1 ++ r.1 :: l2 ∧ isKnotL r.1 (fewP m rows l1) = true ∧ clL m rows r.1 ≠ r.1 ∧ r.2 = clL m rows r.1) ?_ ?_ l
  · intro r h
    cases h
  · intro l y ih r h
    rw [fewP_snoc] at h
    unfold fewStep at h
    have old : r ∈ fewP m rows l → ∃ l1 l2, l ++ [y] = l1 ++ r.1 :: l2 ∧ isKnotL r.1 (fewP m rows l1) = true ∧ clL m rows r.1 ≠ r.1 ∧ r.2 = clL m rows r.1 := fun h => by
      obtain ⟨l1, l2, e, a⟩ := ih h
      exact ⟨l1, l2 ++ [y], by rw [e, List.append_assoc]; rfl, a⟩
    split at h
    · rename_i hk
      rcases List.mem_append.mp h with h | h
      · exact old h
      · rw [List.mem_singleton.mp h]
        rw [Bool.and_eq_true, Bool.not_eq_true', decide_eq_false_iff_not] at hk
        exact ⟨l, [], rfl, hk.2, hk.1, rfl⟩
    · exact old h
/-- what the fewest rules are: knots, each with its closure -/
structure Knots (m : Int) (rows : List (List Int)) (ps : List Rule) : Prop where
  inm : ∀ r ∈ ps, InM m r.1
  open_ : ∀ r ∈ ps, clL m rows r.1 ≠ r.1
  full : ∀ r ∈ ps, r.2 = clL m rows r.1
  knot : ∀ r ∈ ps, ∀ q ∈ ps, q.1 ≠ r.1 → Sub q.1 r.1 → Sub q.2 r.1
  all : ∀ X, InM m X → (∀ q ∈ ps, Sub q.1 X → Sub q.2 X) → clL m rows X = X
  nodup : (ps.map (·.1)).Nodup
  sorted : (ps.map (·.1)).Pairwise fun a b => leS a b = true
theorem sub_len {X Y : List Int} (h : X.Nodup) (s : Sub X Y) : X.length ≤ Y.length := List.Nodup.length_le_of_subset h fun x hx => s x hx
theorem sub_same {a b : Int} {X Y : List Int} (h : InM a X) (k : InM b Y) (s : Sub X Y) (l : Y.length ≤ X.length) : X = Y := rise_eq h.rise k.rise s l
theorem fewP_firsts (l : List (List Int)) : ((fewP m rows l).map (·.1)).Sublist l := by
  refine snocInd (p := fun l => ((fewP m rows l).map (·.1)).Sublist l) ?_ ?_ l
  · exact List.Sublist.refl _
  · intro l y ih
    rw [fewP_snoc]
    unfold fewStep
    split
    · rw [List.map_append]
      exact ih.append (List.Sublist.refl _)
    · exact ih.trans (List.sublist_append_left _ _)
theorem few_knots (hm : 0 ≤ m) : Knots m rows (fewP m rows (allL m)) := by
  have sl := fewP_firsts (m := m) (rows := rows) (allL m)
  have hi : ∀ r ∈ fewP m rows (allL m), InM m r.1 := fun r hr => (mem_allL hm).mp (sl.subset (List.mem_map.mpr ⟨r, hr, rfl⟩))
  have srt := ordered_sorted (bld m.toNat)
  refine ⟨hi, fun r hr => ?_, fun r hr => ?_, fun r hr q hq ne s => ?_, fun X hX h => ?_, sl.nodup (allL_nodup m), srt.sublist sl⟩
  · obtain ⟨_, _, _, _, a, _⟩ := fewP_place _ hr
    exact a
  · obtain ⟨_, _, _, _, _, a⟩ := fewP_place _ hr
    exact a
  · obtain ⟨l1, l2, e, kn, _, _⟩ := fewP_place _ hr
    have srt2 : (allL m).Pairwise fun a b => leS a b = true := srt
    have nd := allL_nodup m
    rw [e] at srt2 nd
    obtain ⟨ex, e1, e2⟩ := fewP_app (m := m) (rows := rows) l1 (r.1 :: l2)
    rw [e, e1] at hq
    rcases List.mem_append.mp hq with hq | hq
    · have := List.all_eq_true.mp kn q hq
      rw [Bool.not_eq_true', Bool.and_eq_false_imp] at this
      have h2 := this (sub_iff.mpr s)
      rw [Bool.not_eq_false'] at h2
      exact sub_iff.mp h2
    · exfalso
      rcases List.mem_cons.mp (e2 q hq) with h | h
      · exact ne h
      · have hq' : q ∈ fewP m rows (allL m) := by
          rw [e, e1]
          exact List.mem_append_right _ hq
        have le : leS r.1 q.1 = true := (List.pairwise_cons.mp (List.pairwise_append.mp srt2).2.1).1 q.1 h
        rw [leS_iff] at le
        have hl := sub_len (hi q hq').nodup s
        exact ne (sub_same (hi q hq') (hi r hr) s (by rcases le with le | le <;> omega))
  · refine Classical.byContradiction fun hc => ?_
    have hXa : X ∈ allL m := (mem_allL hm).mpr hX
    obtain ⟨l1, l2, e⟩ := List.append_of_mem hXa
    obtain ⟨ex, e1, _⟩ := fewP_app (m := m) (rows := rows) (l1 ++ [X]) l2
    obtain ⟨ex0, e0, _⟩ := fewP_app (m := m) (rows := rows) l1 (X :: l2)
    have e' : allL m = l1 ++ [X] ++ l2 := by rw [e, List.append_assoc]; rfl
    have kn : isKnotL X (fewP m rows l1) = true := by
      refine List.all_eq_true.mpr fun q hq => ?_
      rw [Bool.not_eq_true', Bool.and_eq_false_imp]
      intro hs
      rw [Bool.not_eq_false']
      refine sub_iff.mpr (h q ?_ (sub_iff.mp hs))
      rw [e, e0]
      exact List.mem_append_left _ hq
    have hin : (X, clL m rows X) ∈ fewP m rows (allL m) := by
      rw [e', e1, fewP_snoc]
      unfold fewStep
      rw [if_pos (by rw [kn, Bool.and_true, Bool.not_eq_true', decide_eq_false_iff_not]; exact hc)]
      exact List.mem_append_left _ (List.mem_append_right _ (List.mem_singleton.mpr rfl))
    exact hc (cl_eq hX (h _ hin (Sub.refl X)))
end
end Mb
set_option Elab.async false
set_option linter.all false
set_option maxRecDepth 100000
set_option maxHeartbeats 4000000
namespace Mb
open PySem PySem.Spec PyProof.Rows L2
/-! ### no fewer rules -/
section
variable {m : Int} {rows : List (List Int)}
theorem knots_min {ps rules : List Rule} (kn : Knots m rows ps) (h : ∀ X, InM m X → ((rules.all fun r => metB r X) = true ↔ clL m rows X = X)) : ps.length ≤ rules.length := by
  have pick : ∀ r ∈ ps, ∃ i : Nat, i < rules.length ∧ ∃ ru, rules[i]? = some ru ∧ Sub ru.1 r.1 ∧ ¬ Sub ru.2 r.1 := fun r hr => by
    have h1 : ¬ (rules.all fun q => metB q r.1) = true := fun z => kn.open_ r hr ((h r.1 (kn.inm r hr)).mp z)
    rw [List.all_eq_true] at h1
    obtain ⟨ru, h2⟩ := Classical.not_forall.mp h1
    obtain ⟨h3, h4⟩ := Classical.not_imp.mp h2
    rw [metB_iff] at h4
    obtain ⟨h5, h6⟩ := Classical.not_imp.mp h4
    obtain ⟨i, hi, e⟩ := List.mem_iff_getElem.mp h3
    exact ⟨i, hi, ru, by rw [List.getElem?_eq_getElem hi, e], h5, h6⟩
  have valid : ∀ (i : Nat) (ru : Rule), rules[i]? = some ru → ∀ Y, InM m Y → clL m rows Y = Y → Sub ru.1 Y → Sub ru.2 Y := fun i ru hi Y hY hc hs => by
    have := List.all_eq_true.mp ((h Y hY).mpr hc) ru (List.mem_of_getElem? hi)
    exact metB_iff.mp this hs
  obtain ⟨f, hf⟩ : ∃ f : Rule → Nat, ∀ r ∈ ps, f r < rules.length ∧ ∃ ru, rules[f r]? = some ru ∧ Sub ru.1 r.1 ∧ ¬ Sub ru.2 r.1 := by
    refine ⟨fun r => if hr : r ∈ ps then Classical.choose (pick r hr) else 0, fun r hr => ?_⟩
    dsimp only
    rw [dif_pos hr]
    exact Classical.choose_spec (pick r hr)
  -- below each other
  have below : ∀ r ∈ ps, ∀ q ∈ ps, r.1 ≠ q.1 → Sub r.1 q.1 → f r ≠ f q := fun r hr q hq ne s e => by
    obtain ⟨_, ru, e1, s1, n1⟩ := hf r hr
    obtain ⟨_, ru', e2, s2, n2⟩ := hf q hq
    rw [← e, e1] at e2
    cases e2
    refine n2 ?_
    have hcl : Sub ru.2 (clL m rows r.1) := valid _ _ e1 _ (cl_in _) (cl_idem _) (s1.trans (cl_ext (kn.inm r hr)))
    refine hcl.trans ?_
    have := kn.knot q hq r hr ne s
    rw [kn.full r hr] at this
    exact this
  have inj : ∀ r ∈ ps, ∀ q ∈ ps, r.1 ≠ q.1 → f r ≠ f q := fun r hr q hq ne e => by
    by_cases s1 : Sub r.1 q.1
    · exact below r hr q hq ne s1 e
    · by_cases s2 : Sub q.1 r.1
      · exact below q hq r hr ne.symm s2 e.symm
      · obtain ⟨_, ru, e1, t1, n1⟩ := hf r hr
        obtain ⟨_, ru', e2, t2, n2⟩ := hf q hq
        rw [← e, e1] at e2
        cases e2
        have hX : InM m (r.1.filter fun x => decide (x ∈ q.1)) := (kn.inm r hr).filter _
        have mem : ∀ x, x ∈ (r.1.filter fun x => decide (x ∈ q.1)) ↔ x ∈ r.1 ∧ x ∈ q.1 := fun x => by
          rw [List.mem_filter, decide_eq_true_eq]
        have hc : clL m rows (r.1.filter fun x => decide (x ∈ q.1)) = r.1.filter fun x => decide (x ∈ q.1) := by
          refine kn.all _ hX fun k hk hs x hx => ?_
          have k1 : Sub k.1 r.1 := fun y hy => ((mem y).mp (hs y hy)).1
          have k2 : Sub k.1 q.1 := fun y hy => ((mem y).mp (hs y hy)).2
          refine (mem x).mpr ⟨kn.knot r hr k hk (fun z => s1 (z ▸ k2)) k1 x hx, kn.knot q hq k hk (fun z => s2 (z ▸ k1)) k2 x hx⟩
        exact n1 fun x hx => ((mem x).mp (valid _ _ e1 _ hX hc (fun y hy => (mem y).mpr ⟨t1 y hy, t2 y hy⟩) x hx)).1
  have nd : (ps.map f).Nodup := by
    have h1 := kn.nodup
    unfold List.Nodup at h1 ⊢
    rw [List.pairwise_map] at h1 ⊢
    exact h1.imp_of_mem fun {a b} ha hb ne => inj a ha b hb ne
  have := List.Nodup.length_le_of_subset (l₂ := List.range rules.length) nd fun i hi => by
    obtain ⟨r, hr, rfl⟩ := List.mem_map.mp hi
    exact List.mem_range.mpr (hf r hr).1
  rw [List.length_map, List.length_range] at this
  exact this
end
/-! ### sets by their numbers -/
def worthL : List Int := [1, 2, 4, 8, 16, 32, 64, 128]
def setL (n m : Int) : List Int := (rangeL m).filter fun mk => decide ((n.fdiv (worthL.getD mk.toNat 0)).fmod 2 = 1)
theorem worth_eq {i : Nat} (h : i < 8) : worthL.getD i 0 = ((2 ^ i : Nat) : Int) := by
  revert i
  decide
theorem bits_of (X : Int → Bool) : ∀ k : Nat, ∃ n : Nat, n < 2 ^ k ∧ ∀ i : Nat, i < k → n.testBit i = X (i : Int)
  | 0 => ⟨0, by decide, fun i h => by omega⟩
  | k + 1 => by
    obtain ⟨n, h1, h2⟩ := bits_of X k
    cases hx : X (k : Int) with
    | false =>
      refine ⟨n, by rw [Nat.pow_succ]; omega, fun i hi => ?_⟩
      by_cases e : i = k
      · subst e
        rw [hx]
        exact Nat.testBit_lt_two_pow h1
      · exact h2 i (by omega)
    | true =>
      refine ⟨2 ^ k + n, by rw [Nat.pow_succ]; omega, fun i hi => ?_⟩
      by_cases e : i = k
      · subst e
        rw [hx, Nat.testBit_two_pow_add_eq, Nat.testBit_lt_two_pow h1]
        rfl
      · rw [Nat.testBit_two_pow_add_gt (by omega)]
        exact h2 i (by omega)
theorem set_in (n m : Int) : InM m (setL n m) := (range_in m).filter _
theorem bit_int (n : Nat) {i : Nat} (h : i < 8) : decide (((n : Int).fdiv (worthL.getD i 0)).fmod 2 = 1) = n.testBit i := by
  rw [worth_eq h, Nat.testBit_eq_decide_div_mod_eq]
  refine decide_eq_decide.mpr ?_
  rw [Int.fdiv_eq_ediv_of_nonneg _ (Int.natCast_nonneg _), Int.fmod_eq_emod_of_nonneg _ (by decide)]
  omega
theorem set_all {m : Int} (h0 : 0 ≤ m) (h8 : m ≤ 8) {X : List Int} (h : InM m X) : ∃ n : Nat, n < 2 ^ m.toNat ∧ setL (n : Int) m = X := by
  obtain ⟨n, h1, h2⟩ := bits_of (fun x => decide (x ∈ X)) m.toNat
  refine ⟨n, h1, (set_in _ _).one h (fun x hx => ?_) fun x hx => ?_⟩
  · unfold setL at hx
    obtain ⟨a, b⟩ := List.mem_filter.mp hx
    have r := mem_range.mp a
    rw [bit_int n (i := x.toNat) (by omega), h2 x.toNat (by omega)] at b
    have e : ((x.toNat : Nat) : Int) = x := by omega
    rw [e] at b
    exact of_decide_eq_true b
  · have r := h.inr x hx
    refine List.mem_filter.mpr ⟨mem_range.mpr r, ?_⟩
    rw [bit_int n (i := x.toNat) (by omega), h2 x.toNat (by omega)]
    have e : ((x.toNat : Nat) : Int) = x := by omega
    rw [e]
    exact decide_eq_true hx
theorem worth_pos {z : Int} (h0 : 0 ≤ z) (h8 : z < 8) : worthL.getD z.toNat 0 ≠ 0 ∧ (worthL.getD z.toNat 0).natAbs < 1073741824 := by
  have : z.toNat < 8 := by omega
  revert this
  generalize z.toNat = n
  revert n
  decide
theorem filter_range {m : Int} (p : Int → Bool) : ((rangeL m).filter p).map D.int = ((List.range m.toNat).filter fun (i : Nat) => p (i : Int)).map fun (i : Nat) => D.int (i : Int) := by
  unfold rangeL
  rw [List.filter_map, List.map_map]
  rfl
/-! ### what the laws' own defs compute -/
def mixM (ns : List Int) (f : Int) : Int := if 1 < (ns.length : Int) - f then (ns.length : Int) - f else 1
def mixI (ns : List Int) (f k : Int) : Int :=
  if k < mixM ns f then cellI ns (f + k.fmod (mixM ns f)) + (cellI ns (f + k.fmod (mixM ns f))).fmod 251 * 381840
  else (((cellI ns (f + k.fmod (mixM ns f))).fmod 1000003 + 7919 * k.fdiv (mixM ns f)) * 48271).fmod 1000003
theorem mixM_pos (ns : List Int) (f : Int) : 0 < mixM ns f := by
  unfold mixM
  split <;> omega
theorem mixM_le {ns : List Int} {f : Int} (h : 0 ≤ f) (hn : ns.length ≤ 63) : mixM ns f ≤ 63 := by
  unfold mixM
  split <;> omega
abbrev A_mix : List D → Ot → Prop := fun ds o => ∃ (ns : List Int) (f k : Int), ds = [.scr ns, .int f, .int k] ∧ (0 ≤ f ∧ 0 ≤ k ∧ ns.length ≤ 63) ∧ o = .inl (.sh (.int (mixI ns f k)))
def onB (l : List Int) (n mk way m : Int) : Bool :=
  if way = 0 then decide ((n.fdiv (l.getD mk.toNat 0)).fmod 2 = 1)
  else if way = 1 then decide ((n.fdiv (l.getD mk.toNat 0)).fmod 2 = 1) && decide (((n.fdiv 256).fdiv (l.getD mk.toNat 0)).fmod 2 = 1)
  else if way = 2 then decide ((n.fdiv (l.getD mk.toNat 0)).fmod 2 = 1) || decide (((n.fdiv 256).fdiv (l.getD mk.toNat 0)).fmod 2 = 1)
  else !decide (mk = n.fmod (m + 1))
abbrev A_on (l : List Int) : List D → Ot → Prop := fun ds o => ∃ (n mk way m : Int), ds = [.int n, .int mk, .int way, .int m] ∧ (0 ≤ mk ∧ mk < (l.length : Int) ∧ 0 ≤ m) ∧ o = .inl (.sh (.bl (onB l n mk way m)))
abbrev A_clos : List D → Ot → Prop := fun ds o => ∃ (m : Int) (rows : List (List Int)) (ms : List Int), ds = [.int m, D.sets rows, .ints ms] ∧ (0 ≤ m ∧ m ≤ 8 ∧ rows.length ≤ 12) ∧ o = .inl (.fr ((clL m rows ms).map D.int))
abbrev A_meets : List D → Ot → Prop := fun ds o => ∃ (r : Rule) (ms : List Int), ds = [encR r, .ints ms] ∧ o = .inl (.sh (.bl (metB r ms)))
abbrev A_setby : List D → Ot → Prop := fun ds o => ∃ n m : Int, ds = [.int n, .int m] ∧ (0 ≤ m ∧ m ≤ 8) ∧ o = .inl (.fr ((setL n m).map D.int))
end Mb
set_option Elab.async false
set_option linter.all false
set_option maxRecDepth 100000
set_option maxHeartbeats 4000000
namespace Mb
open PySem PySem.Spec PyProof.Rows L2
section
variable {G : Gx} {ρ : List Sl} {R : Oc → Prop} {e ix : Expr} {pos p sp : Pos} {n : Str} {d : D} {ds : List D}
/-- n[ix] = e, n's own list -/
theorem s_setIx {k : Int} {j : Nat} (he : ED G e ρ (.sh d)) (hx : ED G ix ρ (.sh (.int k))) (h : ρ[G.N.idxOf n]? = some (.own ds)) (hv : visB G.sc n = true) (hj : ixN ds.length k = some j) (hR : R (.nx (ρ.set (G.N.idxOf n) (.own (ds.set j d))))) (hd : okName n = true := by rfl)
    (hs : (∀ env, swapsWithSole [.Subscript (.Name n p) ix sp] e pos.line env = pure false) ∧ (∀ env, swappedStores [.Subscript (.Name n p) ix sp] e env = pure none) := by exact ⟨by intro _; rfl, by intro _; rfl⟩)
    (ha : ∀ (env : Env) (u : Value), assign (.Subscript (.Name n p) ix sp) env u = (do let a ← holding [u] (eval (.Name n p) env); let b ← holding [u, a] (eval ix env); standAt sp; holding [u, a, b] (setItem a b u); release [u, a, b] []) := by intro _ _; rfl) :
    S1 G (.Assign [.Subscript (.Name n p) ix sp] e pos) ρ R := by
  refine .of (t := fun _ => tAsg (tG G e) (gSub (tVar (G.N.idxOf n)) (tG G ix) rSetL)) (fun X W k' tk => ?_) fun W B S H σ D ex eb sl cn => ?_
  · refine ⟨fun pins s σ H D I q => ?_⟩
    have hl : G.N.idxOf n < G.N.length ∨ ¬ G.N.idxOf n < G.N.length := Classical.em _
    rcases hl with hl | hl
    · unfold okName at hd
      rw [Bool.and_eq_true, Bool.not_eq_true', Bool.not_eq_true'] at hd
      have hp : PE X (.Name n p) (tVar (G.N.idxOf n)) := pe_var (by rw [k'.is.N]; exact ixAt hl) (by rw [k'.is.sc]; exact vis_of hv) hd.1 hd.2
      exact (ps_asg (pe_of k'.is) (pg_sub hp (pe_of k'.is) set_list (ha := ha _)) (hs.1 _) (hs.2 _)).run pins s σ H D I q
    · have h1 := I.len
      rw [k'.is.N] at h1
      unfold okName at hd
      rw [Bool.and_eq_true, Bool.not_eq_true', Bool.not_eq_true'] at hd
      have hp : PE X (.Name n p) (tVar (G.N.idxOf n)) := ⟨fun pins s σ H Q I z => by
        obtain ⟨v, e1, _⟩ := id z
        have h2 := (List.getElem?_eq_some_iff.mp e1).1
        have h3 := I.len
        rw [k'.is.N] at h3
        exact absurd (by omega) hl⟩
      exact (ps_asg (pe_of k'.is) (pg_sub hp (pe_of k'.is) set_list (ha := ha _)) (hs.1 _) (hs.2 _)).run pins s σ H D I q
  · obtain ⟨q, vs, h1, h2, h3, h4, z, h5⟩ := sl.own _ _ h
    refine he B S H σ ex sl _ fun v S1 H1 g1 r1 => ?_
    refine ⟨_, h1, ?_⟩
    refine hx B S1 H1 σ g1.sh (sl.go g1) _ fun w S2 H2 g2 r2 => ?_
    cases r2
    have g := Go.keepB eb (g1.trans g2)
    have hq2 := g2.bh _ _ (g1.bh _ _ h2)
    have hs2 := g2.own (g1.bh _ _ h2) (g1.own h2 h3)
    refine ⟨q, vs, k, j, rfl, rfl, hq2, by rw [h5.length]; exact hj, ?_⟩
    have sl2 := (sl.go g1).go g2
    refine cn.nx _ S2 _ σ hR ⟨g.ss, Ex.mut g.sh hs2, Ex.mut g.bh h4, g.nw⟩ (Slots.mut (vs := vs) sl2 h h1 (by rw [List.length_set]; exact z) ?_)
    exact RepL.set (Rep.mono g2.ss r1) j (h5.mono (g1.ss.trans g2.ss))
end
theorem ixN_at {n j : Nat} (h : j < n) : ixN n (j : Int) = some j := by
  unfold ixN
  rw [if_pos (by omega), if_pos (by omega), Int.toNat_natCast]
theorem cutD_map {α β : Type} (f : α → β) (xs : List α) (lo hi : Option Int) : cutD (xs.map f) lo hi = (cutD xs lo hi).map f := by
  unfold cutD
  rw [List.length_map, List.map_take, List.map_drop]
theorem cutD_len {α : Type} (xs : List α) (lo hi : Option Int) : (cutD xs lo hi).length ≤ xs.length := by
  unfold cutD
  rw [List.length_take, List.length_drop]
  omega
end Mb
set_option Elab.async false
set_option linter.all false
set_option maxRecDepth 100000
set_option maxHeartbeats 4000000
namespace Mb
open PySem PySem.Spec PyProof.Rows L2
/-! ### results that are new throughout; they may be changed -/
/-- a def that keeps A whatever places count as new -/
structure FnA (U : Wd) (x : Str) (k : Nat) (A : List D → Ot → Prop) : Prop where
  ex : ∃ f fd ps, U.mg x = some (.ref f) ∧ PySem.W.keepIn U.K (.ref f) = true ∧ Binds U.K fd ps [] ∧ ∀ n, FnOk U.P U.w U.K U.mg U.base (L2.CX U.P U.w) k f fd ps (spX (U.at n) A)
theorem FnA.fn {U : Wd} {x : Str} {k : Nat} {A : List D → Ot → Prop} (h : FnA U x k A) : FnT U x k A := by
  obtain ⟨f, fd, ps, a, b, c, F⟩ := h.ex
  exact ⟨f, fd, ps, a, b, c, F U.nw⟩
/-- the promise with just what the call itself makes counting as new -/
def spN (U : Wd) (A : List D → Ot → Prop) : Sp := fun vs H Q E => spX (U.at fun a => H a = none) A vs H Q E
theorem FnA.ok {U : Wd} {A : List D → Ot → Prop} {k : Nat} {f : Addr} {fd : FuncData} {ps : List Str} (F : ∀ n, FnOk U.P U.w U.K U.mg U.base (L2.CX U.P U.w) k f fd ps (spX (U.at n) A)) : FnOk U.P U.w U.K U.mg U.base (L2.CX U.P U.w) k f fd ps (spN U A) :=
  ⟨fun vs H Q E h => (F _).len vs H Q E h, fun A0 outer s H args us vs Q E hr he hb hv h => (F fun a => H a = none).run A0 outer s H args us vs Q E hr he hb hv h⟩
/-- plain data stands whatever counts as new -/
def Flat (U : Wd) (d : D) : Prop := ∀ (S : Hp) (v : V) (n : Addr → Prop), Rep U S v d → Rep (U.at n) S v d
theorem flat_tab {U : Wd} {m : Int} {rows : List (List Int)} : Flat U (.tab m rows) := fun S v n h => by
  cases h with
  | tab h1 h2 z r => exact .tab h1 h2 z (RepL.sets_at r)
section
variable {G : Gx} {ρ : List Sl} {R : Oc → Prop} {e c ix it : Expr} {es : List Expr} {pos p apos : Pos} {n x : Str} {d : D} {ds : List D} {k : Nat} {A : List D → Ot → Prop}
/-- f(one) gives a list of pairs of lists, all new -/
theorem ev_newPairs {d1 : D} {xs : List Rule} (T : FnA G.U x k A) (hk : k ≤ G.k) (hg : GlN G x) (ha : ED G e ρ (.sh d1)) (hf : Flat G.U d1) (hA : A [d1] (.inl (.fr (xs.map encRn)))) (hd : (x == ("__debug__" : Str)) = false := by rfl)
    (hs : StarN e [] := by exact ⟨by intro _; rfl, by intros; rfl⟩) : ∃ te : TE, (∀ X, G.is X → PE X (.Call (.Name x p) [e] [] pos) te) ∧ ∀ (B S H : Hp) (σ : L2.St), Ex S H → Slots G.U B S H σ ρ → ∀ Q : VK, (∀ q vs H', Ex H H' → H q = none → H' q = some (.lst vs) → vs.length = xs.length →
      (∀ u ∈ vs, ∃ t a b ns ms, u = .ref t ∧ H' t = some (.tup [.ref a, .ref b]) ∧ H a = none ∧ H' a = some (.lst (ns.map V.int)) ∧ H b = none ∧ H' b = some (.lst (ms.map V.int)) ∧ (ns, ms) ∈ xs) → Q (.ref q) H') → te σ H Q := by
  obtain ⟨f, fd, ps, gm, kp, bd, F⟩ := T.ex
  refine ⟨tCall (spN G.U A) [] E0 (tCons (tG G e) tNil), fun X h => pe_call (CX := L2.CX G.U.P G.U.w) (ds := []) (FnOk.at h (FnA.ok F)) (h.room.mono hk) (gl_of h hg) (by rw [h.mg]; exact gm) (by rw [h.K]; exact kp) (by rw [h.K]; exact bd) .nil (by rw [CX_at h]; exact passL) (pa_cons (pe_of h) pa_nil (hs := hs.1 _)) hd (hs.1 _) (hs.2 _ _), ?_⟩
  intro B S H σ ex sl Q q
  refine ha B S H σ ex sl _ fun v S1 H1 g1 r1 => ?_
  refine ⟨[d1], .inl (.fr (xs.map encRn)), S1, hA, g1.sh, fun a h => h, .cons (hf _ _ _ r1) .nil, fun r' hr v S2 H2 g2 r2 => ?_, fun c hc => nomatch hc⟩
  cases hr
  obtain ⟨l, vs, rfl, hl, nSl, nHl, z, rl⟩ := r2
  refine q l vs H2 (g1.bh.trans g2.bh) (g1.bh.back nHl) hl (by rw [rl.length, List.length_map]) fun u hu => ?_
  obtain ⟨i, hi, rfl⟩ := List.mem_iff_getElem.mp hu
  obtain ⟨y, hy, ry⟩ := rl.getV (List.getElem?_eq_getElem hi)
  rw [List.getElem?_map] at hy
  cases hx : xs[i]? with
  | none =>
    rw [hx] at hy
    cases hy
  | some w =>
    rw [hx] at hy
    obtain rfl := Option.some.inj (show some (encRn w) = some y from hy)
    generalize vs[i] = u at ry
    cases ry with
    | tup h1 _ h2 =>
      cases h2 with
      | cons ra h2 =>
        cases h2 with
        | cons rb h2 =>
          cases h2
          cases ra with
          | nls a1 _ a2 a3 =>
            cases rb with
            | nls b1 _ b2 b3 =>
              have e1 := RepL.ints a2
              have e2 := RepL.ints b2
              subst e1
              subst e2
              exact ⟨_, _, _, w.1, w.2, rfl, g2.sh _ _ h1, g1.bh.back a3, g2.sh _ _ a1, g1.bh.back b3, g2.sh _ _ b1, List.mem_of_getElem? hx⟩
/-- E.append(e) on a list that nobody else holds -/
theorem s_appF {o : Expr} {pos' : Pos} (ho : ED G o ρ (.fr ds)) (he : ED G e ρ (.sh d)) (hz : ds.length < sizeLine) (hR : R (.nx ρ)) (hb : BmOk o "append" e [] apos pos := by exact ⟨by intro _; rfl, by intro _; rfl, rfl, by intro _; rfl, by intros; rfl⟩) :
    S1 G (.Expr (.Call (.Attribute o "append" apos) [e] [] pos) pos') ρ R := by
  refine .of (t := fun _ => tDrop (tBM G.U.K "list" rAppend (tG G o) (tCons (tG G e) tNil))) (fun X W k tk => ?_) fun W B S H σ D ex eb sl cn => ?_
  · obtain ⟨b1, b2, b3, b4, b5⟩ := hb
    have hpe := pe_bm (apos := apos) (cpos := pos) PySem.F.plainAttrs_list PySem.F.slot_list_append PySem.F.type_list_append mt_append (pe_of k.is) (pa_cons (pe_of k.is) pa_nil (hs := b4 _)) (b1 _) (b2 _) b3 (b4 _) (b5 _ _)
    rw [k.is.K] at hpe
    exact ps_expr hpe
  · refine ho B S H σ ex sl _ fun v S1 H1 g1 ⟨q, vs, e1, h1, h2, h3, z, h4⟩ => ?_
    subst e1
    refine ⟨.inl ⟨rfl, _, .of h1⟩, ?_⟩
    refine he B S1 H1 σ g1.sh (sl.go g1) _ fun v S2 H2 g2 r2 => ?_
    refine ⟨q, vs, v, rfl, rfl, g2.bh _ _ h1, by rw [h4.length]; exact hz, ?_⟩
    have eH : Ex H (upd H2 q (.lst (vs ++ [v]))) := Ex.mut (g1.bh.trans g2.bh) h3
    exact cn.nx ρ S _ σ hR ⟨Ex.refl S, ex.trans eH, eb.trans eH, fun _ z => .inl z⟩ (sl.go ⟨Ex.refl S, ex.trans eH, eH, fun _ z => .inl z⟩)
/-- what the look at a method's call without arguments asks of its text -/
abbrev BmOk0 (o : Expr) (name : Str) (apos cpos : Pos) : Prop := (∀ env, attributeBase o name env (eval o env) = eval o env) ∧ (apos.endLine == cpos.line) = true
/-- E.clear() of a list that nobody else holds -/
theorem s_clrF {o : Expr} {pos' : Pos} (ho : ED G o ρ (.fr ds)) (hR : R (.nx ρ)) (hb : BmOk0 o "clear" apos pos := by exact ⟨by intro _; rfl, rfl⟩) : S1 G (.Expr (.Call (.Attribute o "clear" apos) [] [] pos) pos') ρ R := by
  refine .of (t := fun _ => tDrop (tBM0 G.U.K "list" rClear (tG G o))) (fun X W k tk => ?_) fun W B S H σ D ex eb sl cn => ?_
  · have hpe := pe_bm0 (apos := apos) (cpos := pos) PySem.F.plainAttrs_list PySem.F.slot_list_clear PySem.F.type_list_clear mt_clear (pe_of k.is) (hb.1 _) hb.2
    rw [k.is.K] at hpe
    exact ps_expr hpe
  · refine ho B S H σ ex sl _ fun v S1 H1 g1 ⟨q, vs, e1, h1, h2, h3, z, h4⟩ => ?_
    subst e1
    refine ⟨.inl ⟨rfl, _, .of h1⟩, ?_⟩
    refine ⟨q, vs, rfl, rfl, h1, ?_⟩
    have eH : Ex H (upd H1 q (.lst [])) := Ex.mut g1.bh h3
    exact cn.nx ρ S _ σ hR ⟨Ex.refl S, ex.trans eH, eb.trans eH, fun _ z => .inl z⟩ (sl.go ⟨Ex.refl S, ex.trans eH, eH, fun _ z => .inl z⟩)
/-- while pairs of new lists are changed: lists of ints, each at a place that H did not have -/
structure NewP (H H' : Hp) (z : Nat) (u : V) : Prop where
  ex : ∃ (t a b : Addr) (ns ms : List Int), u = .ref t ∧ H' t = some (.tup [.ref a, .ref b]) ∧ H a = none ∧ H' a = some (.lst (ns.map V.int)) ∧ H b = none ∧ H' b = some (.lst (ms.map V.int)) ∧ ns.length ≤ z ∧ ms.length ≤ z
theorem NewP.step {H H' : Hp} {z : Nat} {u : V} {q : Addr} {ks : List Int} {cc : Int} (h : NewP H H' z u) (hq : H' q = some (.lst (ks.map V.int))) (hk : ks.length ≤ z) : NewP H (upd H' q (.lst ((ks ++ [cc]).map V.int))) (z + 1) u := by
  obtain ⟨t, a, b, ns, ms, e, h1, h2, h3, h4, h5, h6, h7⟩ := h.ex
  have tq : t ≠ q := fun e => by
    rw [e, hq] at h1
    cases h1
  have hl : (ks ++ [cc]).length ≤ z + 1 := by
    rw [List.length_append, List.length_singleton]
    omega
  by_cases aq : a = q
  · by_cases bq : b = q
    · exact ⟨t, a, b, ks ++ [cc], ks ++ [cc], e, by rw [upd_ne tq]; exact h1, h2, by rw [aq]; exact upd_same, h4, by rw [bq]; exact upd_same, hl, hl⟩
    · exact ⟨t, a, b, ks ++ [cc], ms, e, by rw [upd_ne tq]; exact h1, h2, by rw [aq]; exact upd_same, h4, by rw [upd_ne bq]; exact h5, hl, by omega⟩
  · by_cases bq : b = q
    · exact ⟨t, a, b, ns, ks ++ [cc], e, by rw [upd_ne tq]; exact h1, h2, by rw [upd_ne aq]; exact h3, h4, by rw [bq]; exact upd_same, by omega, hl⟩
    · exact ⟨t, a, b, ns, ms, e, by rw [upd_ne tq]; exact h1, h2, by rw [upd_ne aq]; exact h3, h4, by rw [upd_ne bq]; exact h5, by omega, by omega⟩
theorem NewP.mono {H H' H2 : Hp} {z : Nat} {u : V} (h : NewP H H' z u) (e : Ex H' H2) : NewP H H2 z u := by
  obtain ⟨t, a, b, ns, ms, e0, h1, h2, h3, h4, h5, h6, h7⟩ := h.ex
  exact ⟨t, a, b, ns, ms, e0, e _ _ h1, h2, e _ _ h3, h4, e _ _ h5, h6, h7⟩
theorem NewP.up {H H' : Hp} {z z' : Nat} {u : V} (h : NewP H H' z u) (e : z ≤ z') : NewP H H' z' u := by
  obtain ⟨t, a, b, ns, ms, e0, h1, h2, h3, h4, h5, h6, h7⟩ := h.ex
  exact ⟨t, a, b, ns, ms, e0, h1, h2, h3, h4, h5, by omega, by omega⟩
/-- a tuple is counted among what stands -/
def addT (S : Hp) (t : Addr) (xs : List V) : Hp := fun a => if a = t then some (.tup xs) else S a
theorem addT_ex {S H : Hp} {t : Addr} {xs : List V} (e : Ex S H) (h : H t = some (.tup xs)) : Ex S (addT S t xs) ∧ Ex (addT S t xs) H := by
  refine ⟨fun a o ha => ?_, fun a o ha => ?_⟩
  · unfold addT
    by_cases q : a = t
    · subst q
      rw [if_pos rfl, ← h]
      exact e _ _ ha
    · rw [if_neg q]
      exact ha
  · unfold addT at ha
    by_cases q : a = t
    · subst q
      rw [if_pos rfl] at ha
      rw [h]
      exact ha
    · rw [if_neg q] at ha
      exact e _ _ ha
theorem Slots.addT {U : Wd} {B S H : Hp} {σ : L2.St} {ρ : List Sl} {t : Addr} {xs : List V} (s : Slots U B S H σ ρ) (e : Ex S H) (h : H t = some (.tup xs)) : Slots U B (Mb.addT S t xs) H σ ρ := by
  refine ⟨s.len, fun i d q => ?_, fun i ds q => ?_, s.sep, s.nw⟩
  · obtain ⟨v, h1, h2⟩ := s.sh i d q
    exact ⟨v, h1, h2.mono (addT_ex e h).1⟩
  · obtain ⟨p, vs, h1, h2, h3, h4, z, h5⟩ := s.own i ds q
    refine ⟨p, vs, h1, h2, ?_, h4, z, h5.mono (addT_ex e h).1⟩
    unfold Mb.addT
    rw [if_neg]
    · exact h3
    · intro e0
      rw [e0, h] at h2
      cases h2
/-- for n in f(one): n[ix].append(c), what f gives being new throughout -/
theorem s_forNew {d1 : D} {xs : List Rule} {pn p2 sp pos' pos2 pos3 : Pos} {x : Str} {i : Int} {cc : Int} (T : FnA G.U x k A) (hk : k ≤ G.k) (hg : GlN G x) (ha : ED G e ρ (.sh d1)) (hf : Flat G.U d1) (hA : A [d1] (.inl (.fr (xs.map encRn))))
    (hz : xs.length ≤ 1000) (hx : ∀ r ∈ xs, r.1.length ≤ 1000 ∧ r.2.length ≤ 1000) (hi : i = 0 ∨ i = 1) (hix : ∀ d, ED G ix (ρ.set (G.N.idxOf n) (.sh d)) (.sh (.int i))) (hc : ∀ d, ED G c (ρ.set (G.N.idxOf n) (.sh d)) (.sh (.int cc)))
    (hR : R (.nx (ρ.set (G.N.idxOf n) .no))) (hN : G.N.Nodup) (hx1 : G.N.idxOf n < ρ.length) (hx2 : G.N.idxOf n < G.N.length) (ok : setOk G.sc G.fn n = true) (hv : visB G.sc n = true) (hokn : okName n = true := by rfl) (hd : (x == ("__debug__" : Str)) = false := by rfl)
    (hs : StarN e [] := by exact ⟨by intro _; rfl, by intros; rfl⟩) (hpl : PlainIx ix := by intros _ _; rfl)
    (hb : BmOk (.Subscript (.Name n p2) ix sp) "append" c [] apos pos' := by exact ⟨by intro _; rfl, by intro _; rfl, rfl, by intro _; rfl, by intros; rfl⟩)
    (hfo : ∀ env y, foldedSetIterable (.Call (.Name x p) [e] [] pos) env y = pure y := by intros; rfl) :
    S1 G (.For (.Name n pn) (.Call (.Name x p) [e] [] pos) [.Expr (.Call (.Attribute (.Subscript (.Name n p2) ix sp) "append" apos) [c] [] pos') pos2] [] pos3) ρ R := by
  obtain ⟨te, hte, ev⟩ := ev_newPairs (ρ := ρ) (p := p) (pos := pos) T hk hg ha hf hA hd hs
  refine .of (t := fun _ => tFor (iList G.U.K te) (gName (G.N.idxOf n)) (tDrop (tBM G.U.K "list" rAppend (tG G (.Subscript (.Name n p2) ix sp)) (tCons (tG G c) tNil)))) (fun X W h tk => ?_) fun W B S H σ D ex eb sl cn => ?_
  · obtain ⟨b1, b2, b3, b4, b5⟩ := hb
    have hpe := pe_bm (apos := apos) (cpos := pos') PySem.F.plainAttrs_list PySem.F.slot_list_append PySem.F.type_list_append mt_append (pe_of h.is) (pa_cons (pe_of h.is) pa_nil (hs := b4 _)) (b1 _) (b2 _) b3 (b4 _) (b5 _ _)
    rw [h.is.K] at hpe
    have hpi := pi_list (tg := .Name n pn) (hte X h.is)
    rw [h.is.K] at hpi
    exact ps_for h.own h.is.calm hpi (pgd hN hx2 ok X h) (pss_one (ps_expr hpe)) (hfo _)
  refine ev B S H σ ex sl _ fun q vs H1 e1 nq hq z hP => ?_
  refine ⟨q, rfl, ⟨vs, .of hq⟩, ?_⟩
  have hsl : G.N.idxOf n < σ.length := by rw [sl.len]; exact hx1
  have noq : ∀ (j : Nat) (t a : Addr) (ns : List Int) (H' : Hp), vs[j]? = some (.ref t) → H' q = some (.lst vs) → H' a = some (.lst (ns.map V.int)) → q ≠ a := fun j t a ns H' hj h1 h2 e => by
    rw [e, h2] at h1
    have h3 : ns.map V.int = vs := by
      have := Option.some.inj h1
      injection this
    rw [← h3, List.getElem?_map] at hj
    cases hn : ns[j]? with
    | none =>
      rw [hn] at hj
      cases hj
    | some y =>
      rw [hn] at hj
      cases hj
  refine for_list (K := G.U.K) (a := q) (xs := vs) (fun j σ' H' => Ex H H' ∧ H' q = some (.lst vs) ∧ (∀ u ∈ vs, NewP H H' (1000 + j) u) ∧ ∃ w, σ' = σ.set (G.N.idxOf n) w) ⟨e1, hq, fun u hu => ?_, σ[G.N.idxOf n], (List.set_getElem_self _).symm⟩ (fun j σ' H' _ pv => .of pv.2.1) (fun j u σ' H' hu pv => ?_) fun σ' H' pv => ?_
  · obtain ⟨t, a, b, ns, ms, e0, h1, h2, h3, h4, h5, h6⟩ := hP u hu
    exact ⟨t, a, b, ns, ms, e0, h1, h2, h3, h4, h5, (hx _ h6).1, (hx _ h6).2⟩
  · obtain ⟨eH, hq', hN', w, rfl⟩ := pv
    obtain ⟨t, a, b, ns, ms, rfl, h1, h2, h3, h4, h5, h6, h7⟩ := (hN' u (List.mem_of_getElem? hu)).ex
    have hj : j < vs.length := (List.getElem?_eq_some_iff.mp hu).1
    show tDrop _ _ ((σ.set (G.N.idxOf n) w).set (G.N.idxOf n) (some (.ref t))) H'
    rw [List.set_set]
    have exH := ex.trans eH
    have sl1 := (sl.go ⟨Ex.refl S, exH, eH, fun _ z => .inl z⟩).addT exH h1
    obtain ⟨x1, x2⟩ := addT_ex exH h1
    have rt : Rep G.U (addT S t [.ref a, .ref b]) (.ref t) (.tup [.cls a, .cls b]) := .tup (if_pos rfl) (by show 2 ≤ sizeLine; rw [sizeLine_eq]; omega) (.cons (.cls a) (.cons (.cls b) .nil))
    have sl2 := sl1.setSh (G.N.idxOf n) rt
    have hev : ∃ l ks, (l = a ∧ ks = ns ∨ l = b ∧ ks = ms) ∧ ED G (.Subscript (.Name n p2) ix sp) (ρ.set (G.N.idxOf n) (.sh (.tup [.cls a, .cls b]))) (.sh (.cls l)) := by
      have hv1 : ED G (.Name n p2) (ρ.set (G.N.idxOf n) (.sh (.tup [.cls a, .cls b]))) (.sh (.tup [.cls a, .cls b])) := ed_var (List.getElem?_set_self hx1) hv hokn
      rcases hi with rfl | rfl
      · exact ⟨a, ns, .inl ⟨rfl, rfl⟩, ed_ixT hv1 (hix _) (d := .cls a) rfl hpl⟩
      · exact ⟨b, ms, .inr ⟨rfl, rfl⟩, ed_ixT hv1 (hix _) (d := .cls b) rfl hpl⟩
    obtain ⟨l, ks, hlk, hE⟩ := hev
    have hl1 : H' l = some (.lst (ks.map V.int)) ∧ H l = none ∧ ks.length ≤ 1000 + j := by
      rcases hlk with ⟨rfl, rfl⟩ | ⟨rfl, rfl⟩
      · exact ⟨h3, h2, h6⟩
      · exact ⟨h5, h4, h7⟩
    obtain ⟨hl2, hl3, hl4⟩ := hl1
    refine hE.run B _ H' _ x2 sl2 _ fun v S3 H3 g3 r3 => ?_
    cases r3
    refine ⟨.inl ⟨rfl, _, .of (g3.bh _ _ hl2)⟩, ?_⟩
    refine (hc _).run B S3 H3 _ g3.sh (sl2.go g3) _ fun v2 S4 H4 g4 r4 => ?_
    cases r4
    have e34 := g3.bh.trans g4.bh
    refine ⟨l, ks.map V.int, .int cc, rfl, rfl, e34 _ _ hl2, by rw [List.length_map, sizeLine_eq]; omega, ?_⟩
    refine ⟨Ex.mut (eH.trans e34) hl3, ?_, fun u' hu' => ?_, _, rfl⟩
    · rw [upd_ne (noq j t l ks H' hu hq' hl2)]
      exact e34 _ _ hq'
    · have := ((hN' u' hu').mono e34).step (q := l) (ks := ks) (cc := cc) (e34 _ _ hl2) hl4
      rw [List.map_append] at this
      exact this
  · obtain ⟨eH, hq', hN', w, rfl⟩ := pv
    have exH := ex.trans eH
    exact cn.nx _ S H' _ hR ⟨Ex.refl S, exH, eb.trans eH, fun _ z => .inl z⟩ ((sl.go ⟨Ex.refl S, exH, eH, fun _ z => .inl z⟩).setNo _)
end
end Mb
set_option Elab.async false
set_option linter.all false
set_option maxRecDepth 100000
set_option maxHeartbeats 4000000
namespace Mb
open PySem PySem.Spec PyProof.Rows L2
/-! ### a table is made of a list that is then emptied -/
abbrev Gx.at (G : Gx) (n : Addr → Prop) : Gx := { G with U := G.U.at n }
/-- what stands on new places alone -/
structure EvNw (G : Gx) (e : Expr) (ρ : List Sl) (d : D) : Prop where
  run : ∀ (B S H : Hp) (σ : L2.St), Ex S H → Slots G.U B S H σ ρ → ∀ Q : VK, (∀ v N H', Nw H N H' → Rep G.U N v d → Q v H') → tG G e σ H Q
theorem Nw.back {B B' N H' : Hp} (n : Nw B N H') (e : Ex B' B) : Nw B' N H' := ⟨fun a h => e.back (n.nw a h), n.nh, e.trans n.bh⟩
section
variable {G : Gx} {ρ : List Sl} {a b : Expr} {pos p : Pos} {k : Nat} {cS cM : Addr} {m : Int} {rows : List (List Int)}
theorem en_make (T : MkT G.U cS cM k) (hk : k + 1 ≤ G.k) (hg : GlN G "Table") (ha : ED G a ρ (.sh (.int m))) (hb : ED G b ρ (.sh (D.sets rows))) (h1 : tooBig m rows = false) (h2 : rows.all (inR m) = true)
    (hs : StarN a [b] ∧ StarN b [] := by exact ⟨⟨by intro _; rfl, by intros; rfl⟩, ⟨by intro _; rfl, by intros; rfl⟩⟩) : EvNw G (.Call (.Name "Table" p) [a, b] [] pos) ρ (.tab m (rows.map plainL)) := by
  obtain ⟨f, fd, ps, gm, M, bd, F⟩ := T.ex
  refine ⟨fun B S H σ ex sl Q q X h pins s I => ?_⟩
  have hpe := pe_make (CX := L2.CX G.U.P G.U.w) (ds := []) (p := p) (pos := pos) (by rw [h.K]; exact M) (FnOk.at h F) (h.room.mono hk) (gl_of h hg) (by rw [h.mg]; exact gm) (by rw [h.K]; exact bd) .nil (by rw [CX_at h]; exact passL) (pa_cons (pe_of h) (pa_cons (pe_of h) pa_nil (hs := hs.2.1 _)) (hs := hs.1.1 _)) rfl (hs.1.1 _) (hs.1.2 _ _)
  refine hpe.run pins s σ H Q I ?_
  refine ha B S H σ ex sl _ fun v S1 H1 g1 r1 => hb B S1 H1 σ g1.sh (sl.go g1) _ fun w S2 H2 g2 r2 => ?_
  cases r1
  intro x dx n1 n2 n3
  refine spI_at n1 n2 n3 g2.sh r2 (fun k1 k2 N H3 n r3 => ⟨rfl, q _ N H3 (n.back (g1.bh.trans g2.bh)) r3⟩) fun c hc => ?_
  rw [mkT_ok cS cM h1 h2] at hc
  cases hc
end
theorem flat_no {U : Wd} {B S H : Hp} {σ : L2.St} {ρ ρe : List Sl} (s : Slots U B S H σ ρ) (hl : ρe.length = ρ.length) (h : ∀ (i : Nat) (x : Sl), ρe[i]? = some x → x = .no ∨ ∃ d, x = .sh d ∧ ρ[i]? = some (.sh d) ∧ Flat U d) : Slots (U.at fun a => H a = none) B S H σ ρe := by
  refine ⟨by rw [s.len, hl], fun i d q => ?_, fun i ds q => ?_, fun i j ds es p q => ?_, fun a h => h⟩
  · rcases h i _ q with e | ⟨d', e, h1, h2⟩
    · cases e
    · cases e
      obtain ⟨v, e1, e2⟩ := s.sh i _ h1
      exact ⟨v, e1, h2 _ _ _ e2⟩
  · rcases h i _ q with e | ⟨d', e, h1, h2⟩ <;> cases e
  · rcases h i _ q with e | ⟨d', e, h1, h2⟩ <;> cases e
theorem flat_sets {U : Wd} {xs : List (List Int)} : Flat U (D.sets xs) := fun S v n h => h.sets_at
theorem flat_int {U : Wd} {i : Int} : Flat U (.int i) := fun S v n h => by
  cases h
  exact .int _
theorem flat_pair {U : Wd} {d e : D} (h : Flat U d) (k : Flat U e) : Flat U (.tup [d, e]) := fun S v n r => by
  cases r with
  | tup h1 z r =>
    cases r with
    | cons a r =>
      cases r with
      | cons b r =>
        cases r
        exact .tup h1 z (.cons (h _ _ _ a) (.cons (k _ _ _ b) .nil))
theorem new_items {U : Wd} {n : Addr → Prop} {S : Hp} : ∀ {vs : List V} {xs : List (List Int)}, RepL (U.at n) S vs (xs.map encN) → ∀ u ∈ vs, ∃ (a : Addr) (l : List Int), u = .ref a ∧ n a ∧ S a = some (.lst (l.map V.int))
  | _, [], .nil => fun u h => nomatch h
  | _, x :: xs, .cons r t => fun u h => by
    rcases List.mem_cons.mp h with e | h
    · subst e
      cases r with
      | nls h1 z r q =>
        have e := RepL.ints r
        subst e
        exact ⟨_, _, rfl, q, h1⟩
    · exact new_items t u h
section
variable {G : Gx} {ρ ρe : List Sl} {R : Oc → Prop} {e2 elt it : Expr} {gs : List Comprehension} {scope : Scope} {ss : List Stmt} {ng nt nr : Str} {d2 : D} {rows : List (List Int)} {cpos p1 q1 p2 q2 p3 p4 p5 p6 p7 p8 p9 p10 a1 a2 : Pos}
theorem sd_given (hL : ∀ n, LD (G.at n) (.ListComp elt gs scope cpos) ρe (rows.map encN)) (hel : ρe.length = ρ.length) (hfl : ∀ (i : Nat) (x : Sl), ρe[i]? = some x → x = .no ∨ ∃ d, x = .sh d ∧ ρ[i]? = some (.sh d) ∧ Flat G.U d)
    (hE : EvNw G e2 (ρ.set (G.N.idxOf ng) (.sh (D.sets rows))) d2) (hrest : SD G ss (((ρ.set (G.N.idxOf ng) .no).set (G.N.idxOf nt) (.sh d2)).set (G.N.idxOf nr) .no) R)
    (hN : G.N.Nodup) (ig : G.N.idxOf ng < G.N.length) (it' : G.N.idxOf nt < G.N.length) (ir : G.N.idxOf nr < G.N.length) (lg : G.N.idxOf ng < ρ.length) (lr : G.N.idxOf nr < ρ.length) (ngt : G.N.idxOf ng ≠ G.N.idxOf nt) (ngr : G.N.idxOf ng ≠ G.N.idxOf nr)
    (okt : setOk G.sc G.fn nt = true) (okr : setOk G.sc G.fn nr = true) (vg : visB G.sc ng = true) (vr : visB G.sc nr = true)
    (hk : G.sc.kind = .function) (hy : G.sc.names.lookup ng = some .local) (hl : (p1.line == cpos.line) = true) (ha : (scope.names.any fun (m, k) => m == ng && (k == .local || k == .cell)) = false)
    (hs2 : NoSwap G e2 nt p2 q2 := by intros _ _; rfl) (og : okName ng = true := by rfl) (or_ : okName nr = true := by rfl) (hb1 : BmOk0 (.Name nr p6) "clear" a1 p7 := by exact ⟨by intro _; rfl, rfl⟩) (hb2 : BmOk0 (.Name ng p8) "clear" a2 p9 := by exact ⟨by intro _; rfl, rfl⟩)
    (hfo : ∀ env y, foldedSetIterable (.Name ng p4) env y = pure y := by intros; rfl) :
    SD G (.Assign [.Name ng p1] (.ListComp elt gs scope cpos) q1 :: .Assign [.Name nt p2] e2 q2 :: .For (.Name nr p3) (.Name ng p4) [.Expr (.Call (.Attribute (.Name nr p6) "clear" a1) [] [] p7) p5] [] p10 :: .Expr (.Call (.Attribute (.Name ng p8) "clear" a2) [] [] p9) q3 :: ss) ρ R := by
  refine ⟨fun W B S H σ En ex eb sl cn X hX tk pins s I => ?_⟩
  obtain ⟨te, h1, h2, h3⟩ := (hL fun a => H a = none).ex
  have og' := og
  have or' := or_
  unfold okName at og' or'
  rw [Bool.and_eq_true, Bool.not_eq_true', Bool.not_eq_true'] at og' or'
  have isn : (G.at fun a => H a = none).is X := ⟨hX.is.prog, hX.is.w, hX.is.K, hX.is.mg, hX.is.base, hX.is.N, hX.is.sc, hX.is.fn, hX.is.calm, hX.is.room⟩
  have ps1 : PS X (.Assign [.Name ng p1] (.ListComp elt gs scope cpos) q1) (tAsg te (gName (G.N.idxOf ng))) := h2 X isn _ _ _ _ (by rw [hX.is.N]; exact ixAt ig) (by rw [hX.is.sc]; exact hy) (swapT hk hy hl ha X hX)
  have ps2 := ps_setG (te := fun _ => tG G e2) hN it' okt hs2 (fun X W h tk => pe_of h.is) X W hX tk
  have pg : PE X (.Name ng p8) (tVar (G.N.idxOf ng)) := pe_var (by rw [hX.is.N]; exact ixAt ig) (by rw [hX.is.sc]; exact vis_of vg) og'.1 og'.2
  have pg4 : PE X (.Name ng p4) (tVar (G.N.idxOf ng)) := pe_var (by rw [hX.is.N]; exact ixAt ig) (by rw [hX.is.sc]; exact vis_of vg) og'.1 og'.2
  have pr : PE X (.Name nr p6) (tVar (G.N.idxOf nr)) := pe_var (by rw [hX.is.N]; exact ixAt ir) (by rw [hX.is.sc]; exact vis_of vr) or'.1 or'.2
  have hc1 := pe_bm0 (apos := a1) (cpos := p7) PySem.F.plainAttrs_list PySem.F.slot_list_clear PySem.F.type_list_clear mt_clear pr (hb1.1 _) hb1.2
  have hc2 := pe_bm0 (apos := a2) (cpos := p9) PySem.F.plainAttrs_list PySem.F.slot_list_clear PySem.F.type_list_clear mt_clear pg (hb2.1 _) hb2.2
  have hpi := pi_list (tg := .Name nr p3) pg4
  have kX := hX.is.K
  rw [kX] at hc1 hc2 hpi
  have ps3 := ps_for (pos := p10) hX.own hX.is.calm hpi (pgd hN ir okr X hX) (pss_one (ps_expr (pos := p5) hc1)) (hfo _)
  have ps4 := ps_expr (pos := q3) hc2
  refine (pss_cons ps1 (pss_cons ps2 (pss_cons ps3 (pss_cons ps4 (pss_of (W := W) hX tk))))).run pins s σ H En I ?_
  refine h3 B S H σ ex (flat_no sl hel hfl) _ fun v S1 H1 g1 r1 => ?_
  obtain ⟨p, vs, rfl, hp, nSp, nHp, z, rl⟩ := r1
  have its := new_items rl
  have g1' : Go S H (upd S1 p (.lst vs)) H1 := g1.add hp nSp nHp
  have rp : Rep G.U (upd S1 p (.lst vs)) (.ref p) (D.sets rows) := .lst upd_same z (RepL.new_sets (fun a l _ ha => Ex.new nSp _ _ ha) rl)
  have sl1 := (sl.go g1').setSh (G.N.idxOf ng) rp
  refine hE.run B _ H1 _ g1'.sh sl1 _ fun v2 N H2 nN r2 => ?_
  -- over the list
  have s2g : ((σ.set (G.N.idxOf ng) (some (.ref p))).set (G.N.idxOf nt) (some v2))[G.N.idxOf ng]? = some (some (.ref p)) := by
    rw [List.getElem?_set_ne (Ne.symm ngt), List.getElem?_set_self (by rw [sl.len]; exact lg)]
  refine ⟨.ref p, s2g, p, rfl, ⟨vs, .of (nN.bh _ _ hp)⟩, ?_⟩
  have nopa : ∀ (a : Addr) (l : List Int), V.ref a ∈ vs → H1 a = some (.lst (l.map V.int)) → p ≠ a := fun a l ha h1 e => by
    rw [← e, hp] at h1
    have h3 : vs = l.map V.int := by
      have := Option.some.inj h1
      injection this
    rw [h3] at ha
    obtain ⟨y, _, hy⟩ := List.mem_map.mp ha
    cases hy
  refine for_list (K := G.U.K) (a := p) (xs := vs) (fun j σ' H' => Ex H H' ∧ Ex N H' ∧ H' p = some (.lst vs) ∧ (∀ u ∈ vs, ∃ (a : Addr) (l : List V), u = .ref a ∧ H a = none ∧ N a = none ∧ p ≠ a ∧ H' a = some (.lst l)) ∧ ∃ w, σ' = ((σ.set (G.N.idxOf ng) (some (.ref p))).set (G.N.idxOf nt) (some v2)).set (G.N.idxOf nr) w)
    ⟨g1.bh.trans nN.bh, nN.nh, nN.bh _ _ hp, fun u hu => ?_, _, (List.set_getElem_self (by rw [List.length_set, List.length_set, sl.len]; exact lr)).symm⟩ (fun j σ' H' _ pv => .of pv.2.2.1) (fun j u σ' H' hu pv => ?_) fun σ' H' pv => ?_
  · obtain ⟨a, l, rfl, na, ha⟩ := its u hu
    have ha1 := g1.sh _ _ ha
    have nNa : N a = none := by
      cases hq : N a with
      | none => rfl
      | some o =>
        have := nN.nw a (by rw [hq]; exact fun z => nomatch z)
        rw [ha1] at this
        cases this
    exact ⟨a, l.map V.int, rfl, na, nNa, nopa a l hu ha1, nN.bh _ _ ha1⟩
  · obtain ⟨eH, eN, hp', hI, w, rfl⟩ := pv
    have hum := List.mem_of_getElem? hu
    obtain ⟨a, l, rfl, na, nNa, pa, ha⟩ := hI u hum
    show tDrop _ _ ((((σ.set (G.N.idxOf ng) (some (.ref p))).set (G.N.idxOf nt) (some v2)).set (G.N.idxOf nr) w).set (G.N.idxOf nr) (some (.ref a))) H'
    rw [List.set_set]
    refine ⟨.ref a, List.getElem?_set_self (by rw [List.length_set, List.length_set, sl.len]; exact lr), .inl ⟨rfl, _, .of ha⟩, a, l, rfl, rfl, ha, ?_⟩
    refine ⟨Ex.mut eH na, Ex.mut eN nNa, by rw [upd_ne pa]; exact hp', fun u' hu' => ?_, _, rfl⟩
    obtain ⟨a', l', e', na', nNa', pa', ha'⟩ := hI u' hu'
    by_cases e : a' = a
    · exact ⟨a', [], e', na', nNa', pa', by rw [e]; exact upd_same⟩
    · exact ⟨a', l', e', na', nNa', pa', by rw [upd_ne e]; exact ha'⟩
  · obtain ⟨eH, eN, hp', hI, w, rfl⟩ := pv
    refine ⟨.ref p, by rw [List.getElem?_set_ne (Ne.symm ngr)]; exact s2g, .inl ⟨rfl, _, .of hp'⟩, p, vs, rfl, rfl, hp', ?_⟩
    have nNp : N p = none := by
      cases hq : N p with
      | none => rfl
      | some o =>
        have := nN.nw p (by rw [hq]; exact fun z => nomatch z)
        rw [hp] at this
        cases this
    have nF : Nw H N (upd H' p (.lst [])) := ⟨fun a h => g1.bh.back (nN.nw a h), Ex.mut eN nNp, Ex.mut eH nHp⟩
    have gF := nF.go ex
    refine hrest.run W B (orH S N) _ _ En gF.sh (eb.trans gF.bh) ?_ (cn.go (Go.keepB eb gF))
    exact (((sl.go gF).setNo (G.N.idxOf ng)).setSh (G.N.idxOf nt) (Rep.mono (nF.r ex) r2)).setNo (G.N.idxOf nr)
end
end Mb
set_option Elab.async false
set_option linter.all false
set_option maxRecDepth 100000
set_option maxHeartbeats 4000000
namespace Mb
open PySem PySem.Spec PyProof.Rows L2
/-! ### boxes and steps: what the program's defs compute -/
def bothL (a b : List Int) : List Int := a.filter fun x => decide (x ∈ b)
abbrev A_both : List D → Ot → Prop := fun ds o => ∃ a b : List Int, ds = [.ints a, .ints b] ∧ o = .inl (.fr ((bothL a b).map D.int))
def addP (acc : List (List Int)) (p : List Int) : List (List Int) := if p ∈ acc then acc else acc ++ [p]
def boxRow (found : List (List Int)) (row : List Int) : List (List Int) := found.foldl (fun acc one => addP acc (bothL one row)) found
def boxF (m : Int) (rows : List (List Int)) : List (List Int) := rows.foldl boxRow [rangeL m]
def boxL (m : Int) (rows : List (List Int)) : List Rule := (orderedL (boxF m rows)).map fun ms => (thI rows ms, ms)
/-- sets of marks, none twice -/
structure SetsM (m : Int) (l : List (List Int)) : Prop where
  inm : ∀ x ∈ l, InM m x
  nodup : l.Nodup
theorem SetsM.len {m : Int} {l : List (List Int)} (h : SetsM m l) (h0 : 0 ≤ m) (h8 : m ≤ 8) : l.length ≤ 256 := by
  have h1 := List.Nodup.length_le_of_subset (l₂ := allL m) h.nodup fun x hx => (mem_allL h0).mpr (h.inm x hx)
  exact Nat.le_trans h1 (allL_len h8)
theorem SetsM.add {m : Int} {l : List (List Int)} {p : List Int} (h : SetsM m l) (hp : InM m p) : SetsM m (addP l p) := by
  unfold addP
  split
  · exact h
  · rename_i hn
    refine ⟨fun x hx => ?_, List.nodup_append.mpr ⟨h.nodup, List.nodup_cons.mpr ⟨List.not_mem_nil, List.nodup_nil⟩, fun a ha b hb e => ?_⟩⟩
    · rcases List.mem_append.mp hx with hx | hx
      · exact h.inm x hx
      · rw [List.mem_singleton.mp hx]
        exact hp
    · rw [List.mem_singleton.mp hb] at e
      exact hn (e ▸ ha)
theorem both_in {m : Int} {a : List Int} (h : InM m a) (b : List Int) : InM m (bothL a b) := h.filter _
theorem SetsM.fold {m : Int} {row : List Int} : ∀ {l acc : List (List Int)}, (∀ x ∈ l, InM m x) → SetsM m acc → SetsM m (l.foldl (fun acc one => addP acc (bothL one row)) acc)
  | [], _, _, h => h
  | x :: l, acc, hl, h => SetsM.fold (l := l) (fun y hy => hl y (List.mem_cons_of_mem _ hy)) (h.add (both_in (hl x List.mem_cons_self) row))
theorem SetsM.row {m : Int} {l : List (List Int)} (h : SetsM m l) (row : List Int) : SetsM m (boxRow l row) := SetsM.fold h.inm h
theorem SetsM.start (m : Int) : SetsM m [rangeL m] := ⟨fun x hx => by rw [List.mem_singleton.mp hx]; exact range_in m, List.nodup_cons.mpr ⟨List.not_mem_nil, List.nodup_nil⟩⟩
theorem SetsM.rows {m : Int} : ∀ {rows l : List (List Int)}, SetsM m l → SetsM m (rows.foldl boxRow l)
  | [], _, h => h
  | r :: rows, _, h => SetsM.rows (rows := rows) (h.row r)
theorem box_sets (m : Int) (rows : List (List Int)) : SetsM m (boxF m rows) := (SetsM.start m).rows
theorem box_len {m : Int} {rows : List (List Int)} (h0 : 0 ≤ m) (h8 : m ≤ 8) : (boxL m rows).length ≤ 256 := by
  unfold boxL
  rw [List.length_map, List.length_mergeSort]
  exact (box_sets m rows).len h0 h8
theorem box_mem {m : Int} {rows : List (List Int)} {b : Rule} (h : b ∈ boxL m rows) : InM m b.2 ∧ b.1 = thI rows b.2 ∧ b.2 ∈ boxF m rows := by
  obtain ⟨ms, hm, rfl⟩ := List.mem_map.mp h
  have hm := (List.mergeSort_perm _ _).mem_iff.mp hm
  exact ⟨(box_sets m rows).inm ms hm, rfl, hm⟩
theorem in_len {m : Int} {X : List Int} (h : InM m X) (h0 : 0 ≤ m) : X.length ≤ m.toNat := by
  have h1 := List.Nodup.length_le_of_subset (l₂ := rangeL m) h.nodup fun x hx => mem_range.mpr (h.inr x hx)
  refine Nat.le_trans h1 ?_
  unfold rangeL
  rw [List.length_map, List.length_range]
  omega
abbrev A_boxes : List D → Ot → Prop := fun ds o => ∃ (m : Int) (rows : List (List Int)), ds = [.tab m rows] ∧ (0 ≤ m ∧ m ≤ 8 ∧ rows.length ≤ 12) ∧ o = .inl (.fr ((boxL m rows).map encRn))
def liesB (a b : Rule) : Bool := decide (a.1.length < b.1.length) && withinB a.1 b.1
abbrev A_lies : List D → Ot → Prop := fun ds o => ∃ a b : Rule, ds = [encRn a, encRn b] ∧ o = .inl (.sh (.bl (liesB a b)))
def higherL (bs : List Rule) (k : Nat) : List Nat := (List.range bs.length).filter fun l => liesB (bs.getD k ([], [])) (bs.getD l ([], []))
def roverL (bs : List Rule) (k : Nat) : List Nat := (higherL bs k).filter fun l => !((higherL bs k).any fun j => liesB (bs.getD j ([], [])) (bs.getD l ([], [])))
abbrev encK (k : Nat) : D := .int (k : Int)
abbrev A_rover : List D → Ot → Prop := fun ds o => ∃ (bs : List Rule) (k : Nat), ds = [.lst (bs.map encRn), .int (k : Int)] ∧ (bs.length ≤ 256 ∧ k < bs.length) ∧ o = .inl (.fr ((roverL bs k).map encK))
def stepsL (bs : List Rule) : List (Nat × Nat) := (List.range bs.length).flatMap fun k => (roverL bs k).map fun l => (k, l)
abbrev encKK (p : Nat × Nat) : D := .tup [encK p.1, encK p.2]
abbrev A_steps : List D → Ot → Prop := fun ds o => ∃ (m : Int) (rows : List (List Int)), ds = [.tab m rows] ∧ (0 ≤ m ∧ m ≤ 8 ∧ rows.length ≤ 12) ∧ o = .inl (.fr ((stepsL (boxL m rows)).map encKK))
theorem rover_len (bs : List Rule) (k : Nat) : (roverL bs k).length ≤ bs.length := by
  unfold roverL higherL
  refine Nat.le_trans (List.length_filter_le _ _) (Nat.le_trans (List.length_filter_le _ _) ?_)
  rw [List.length_range]
  omega
theorem rover_in {bs : List Rule} {k l : Nat} (h : l ∈ higherL bs k) : l < bs.length := List.mem_range.mp (List.mem_filter.mp h).1
abbrev A_ahead : List D → Ot → Prop := fun ds o => ∃ (m : Int) (rows : List (List Int)) (cell : Int), ds = [.tab m rows, .int cell] ∧ (0 ≤ m ∧ m ≤ 8 ∧ rows.length ≤ 12) ∧ o = .inl (.sh .non)
end Mb
set_option Elab.async false
set_option linter.all false
set_option maxRecDepth 100000
set_option maxHeartbeats 4000000
namespace Mb
open PySem PySem.Spec PyProof.Rows L2
/-! ### a told list whose inner lists are changed while it is held -/
/-- what stands on S may be counted as n's -/
def Conv1 (U : Wd) (d d' : D) : Prop := ∀ (S : Hp) (v : V) (n : Addr → Prop), (∀ a, S a ≠ none → n a) → Rep U S v d → Rep (U.at n) S v d'
/-- what stands on n's places (and on tuples) stands when the others change -/
def Conv2 (U : Wd) (d' d : D) : Prop := ∀ (S S' : Hp) (v : V) (n : Addr → Prop), (∀ a o, n a → S a = some o → S' a = some o) → (∀ a xs, S a = some (.tup xs) → S' a = some (.tup xs)) → Rep (U.at n) S v d' → Rep U S' v d
theorem conv_int {U : Wd} {i : Int} : Conv1 U (.int i) (.int i) ∧ Conv2 U (.int i) (.int i) := ⟨fun S v n h r => by cases r; exact .int _, fun S S' v n h k r => by cases r; exact .int _⟩
theorem conv_sets_l {U : Wd} {S : Hp} {n : Addr → Prop} (h : ∀ a, S a ≠ none → n a) : ∀ {vs : List V} {xs : List (List Int)}, RepL U S vs (xs.map encS) → RepL (U.at n) S vs (xs.map encN)
  | _, [], .nil => .nil
  | _, x :: xs, .cons r t => by
    refine .cons ?_ (conv_sets_l h t)
    cases r with
    | lst h1 z r =>
      have e := RepL.ints r
      subst e
      exact .nls h1 z (RepL.ofInts _) (h _ (by rw [h1]; exact fun z => nomatch z))
theorem conv_sets {U : Wd} {xs : List (List Int)} : Conv1 U (D.sets xs) (.nls (xs.map encN)) := fun S v n h r => by
  cases r with
  | lst h1 z r => exact .nls h1 z (conv_sets_l h r) (h _ (by rw [h1]; exact fun z => nomatch z))
theorem back_sets {U : Wd} {xs : List (List Int)} : Conv2 U (.nls (xs.map encN)) (D.sets xs) := fun S S' v n h k r => by
  cases r with
  | nls h1 z r q => exact .lst (h _ _ q h1) z (RepL.new_sets (fun a l na ha => h a _ na ha) r)
theorem back_rules_l {U : Wd} {S S' : Hp} {n : Addr → Prop} (h : ∀ a o, n a → S a = some o → S' a = some o) (k : ∀ a xs, S a = some (.tup xs) → S' a = some (.tup xs)) : ∀ {vs : List V} {xs : List Rule}, RepL (U.at n) S vs (xs.map encRn) → RepL U S' vs (xs.map encR)
  | _, [], .nil => .nil
  | _, x :: xs, .cons r t => by
    refine .cons ?_ (back_rules_l h k t)
    cases r with
    | tup h1 z r =>
      cases r with
      | cons a r =>
        cases r with
        | cons b r =>
          cases r
          cases a with
          | nls a1 a2 a3 a4 =>
            cases b with
            | nls b1 b2 b3 b4 =>
              have e1 := RepL.ints a3
              have e2 := RepL.ints b3
              subst e1
              subst e2
              exact .tup (k _ _ h1) z (.cons (.lst (h _ _ a4 a1) a2 (RepL.ofInts _)) (.cons (.lst (h _ _ b4 b1) b2 (RepL.ofInts _)) .nil))
theorem back_rules {U : Wd} {xs : List Rule} : Conv2 U (.nls (xs.map encRn)) (D.rules xs) := fun S S' v n h k r => by
  cases r with
  | nls h1 z r q => exact .lst (h _ _ q h1) z (back_rules_l h k r)
end Mb
set_option Elab.async false
set_option linter.all false
set_option maxRecDepth 100000
set_option maxHeartbeats 4000000
namespace Mb
open PySem PySem.Spec PyProof.Rows L2
theorem RepL.loose {U : Wd} {S : Hp} {n n' : Addr → Prop} (h : ∀ a, n a → n' a) : ∀ {vs : List V} {xs : List Rule}, RepL (U.at n) S vs (xs.map encRn) → RepL (U.at n') S vs (xs.map encRn)
  | _, [], .nil => .nil
  | _, x :: xs, .cons r t => by
    refine .cons ?_ (RepL.loose h t)
    cases r with
    | tup h1 z r =>
      cases r with
      | cons a r =>
        cases r with
        | cons b r =>
          cases r
          cases a with
          | nls a1 a2 a3 a4 =>
            cases b with
            | nls b1 b2 b3 b4 =>
              have e1 := RepL.ints a3
              have e2 := RepL.ints b3
              subst e1
              subst e2
              exact .tup h1 z (.cons (.nls a1 a2 (RepL.ofInts _) (h _ a4)) (.cons (.nls b1 b2 (RepL.ofInts _) (h _ b4)) .nil))
/-- f(one) gives a list of pairs of lists, all new: what stands then -/
theorem ev_newFull {G : Gx} {ρ : List Sl} {e : Expr} {pos p : Pos} {x : Str} {k : Nat} {A : List D → Ot → Prop} {d1 : D} {xs : List Rule} (T : FnA G.U x k A) (hk : k ≤ G.k) (hg : GlN G x) (ha : ED G e ρ (.sh d1)) (hf : Flat G.U d1) (hA : A [d1] (.inl (.fr (xs.map encRn)))) (hd : (x == ("__debug__" : Str)) = false := by rfl)
    (hs : StarN e [] := by exact ⟨by intro _; rfl, by intros; rfl⟩) : ∃ te : TE, (∀ X, G.is X → PE X (.Call (.Name x p) [e] [] pos) te) ∧ ∀ (B S H : Hp) (σ : L2.St), Ex S H → Slots G.U B S H σ ρ → ∀ Q : VK, (∀ l vs S' H', Go S H S' H' → H l = none → S' l = none → H' l = some (.lst vs) → vs.length ≤ sizeLine → RepL (G.U.at fun a => H a = none) S' vs (xs.map encRn) → Q (.ref l) H') → te σ H Q := by
  obtain ⟨f, fd, ps, gm, kp, bd, F⟩ := T.ex
  refine ⟨tCall (spN G.U A) [] E0 (tCons (tG G e) tNil), fun X h => pe_call (CX := L2.CX G.U.P G.U.w) (ds := []) (FnOk.at h (FnA.ok F)) (h.room.mono hk) (gl_of h hg) (by rw [h.mg]; exact gm) (by rw [h.K]; exact kp) (by rw [h.K]; exact bd) .nil (by rw [CX_at h]; exact passL) (pa_cons (pe_of h) pa_nil (hs := hs.1 _)) hd (hs.1 _) (hs.2 _ _), ?_⟩
  intro B S H σ ex sl Q q
  refine ha B S H σ ex sl _ fun v S1 H1 g1 r1 => ?_
  refine ⟨[d1], .inl (.fr (xs.map encRn)), S1, hA, g1.sh, fun a h => h, .cons (hf _ _ _ r1) .nil, fun r' hr v S2 H2 g2 r2 => ?_, fun c hc => nomatch hc⟩
  cases hr
  obtain ⟨l, vs, rfl, hl, nSl, nHl, z, rl⟩ := r2
  refine q l vs S2 H2 (g1.trans g2) (g1.bh.back nHl) nSl hl z (rl.loose fun a h => g1.bh.back h)
theorem wp_app {M : Model} {A : Around} {env : Env} {b : List Stmt} {Q : Flow → Shared → Prop} {E : Value → Shared → Prop} {Γ : PySem.Ctx} (hΓ : Γ.In A) : ∀ (a : List Stmt) (p : Pos) (s : Shared), PySem.Sem.wp M Γ (execs a env) (fun f _ s' => match f with
    | .next => wpAny M A (execs b env) Q E s'
    | f => Q f s') (fun e _ s' => E e s') p s → PySem.Sem.wp M Γ (execs (a ++ b) env) (fun f _ s' => Q f s') (fun e _ s' => E e s') p s
  | [], p, s, h => by
    rw [execs_nil] at h
    exact h Γ p hΓ
  | st :: a, p, s, h => by
    rw [execs_cons, PySem.Sem.wp_bind'] at h
    rw [List.cons_append, execs_cons, PySem.Sem.wp_bind']
    refine PySem.Sem.wp_mono M Γ _ (fun f p' s' h' => ?_) (fun _ _ _ h' => h') _ _ h
    cases f with
    | next => exact wp_app hΓ a p' s' h'
    | _ => exact h'
/-- rows one behind the other -/
theorem pss_app {X : Cx} {a b : List Stmt} {t u : TS} (h1 : PSs X a t) (h2 : PSs X b u) : PSs X (a ++ b) (tSeq t u) := by
  refine ⟨fun pins s σ H D I h Γ p hΓ => wp_app hΓ a p s ?_⟩
  have k := h1.run pins s σ H { D with nx := u D } I h Γ p hΓ
  refine PySem.Sem.wp_mono _ _ _ (fun f p' s' q => ?_) (fun _ _ _ q => q) _ _ k
  cases f with
  | next =>
    obtain ⟨σ', H', I', q⟩ := q
    exact h2.run pins s' σ' H' D I' q
  | brk => exact q
  | cont => exact q
  | ret v => exact q
end Mb
set_option Elab.async false
set_option linter.all false
set_option maxRecDepth 100000
set_option maxHeartbeats 4000000
namespace Mb
open PySem PySem.Spec PyProof.Rows L2
/-- a is an inner list of what vs points at -/
def Inn (H1 : Hp) (vs : List V) (a : Addr) : Prop := ∃ t b c, V.ref t ∈ vs ∧ H1 t = some (.tup [.ref b, .ref c]) ∧ (a = b ∨ a = c)
/-- one of the pairs, its lists being changed -/
structure SpP (H1 H' : Hp) (z : Nat) (u : V) : Prop where
  ex : ∃ (t b c : Addr) (ns ms : List Int), u = .ref t ∧ H1 t = some (.tup [.ref b, .ref c]) ∧ H' t = some (.tup [.ref b, .ref c]) ∧ H' b = some (.lst (ns.map V.int)) ∧ H' c = some (.lst (ms.map V.int)) ∧ ns.length ≤ z ∧ ms.length ≤ z
theorem SpP.mono {H1 H' H2 : Hp} {z : Nat} {u : V} (h : SpP H1 H' z u) (e : Ex H' H2) : SpP H1 H2 z u := by
  obtain ⟨t, b, c, ns, ms, e0, h1, h2, h3, h4, h5, h6⟩ := h.ex
  exact ⟨t, b, c, ns, ms, e0, h1, e _ _ h2, e _ _ h3, e _ _ h4, h5, h6⟩
theorem SpP.step {H1 H' : Hp} {z : Nat} {u : V} {q : Addr} {ks : List Int} {cc : Int} (h : SpP H1 H' z u) (hq : H' q = some (.lst (ks.map V.int))) (hk : ks.length ≤ z) : SpP H1 (upd H' q (.lst ((ks ++ [cc]).map V.int))) (z + 1) u := by
  obtain ⟨t, b, c, ns, ms, e0, h1, h2, h3, h4, h5, h6⟩ := h.ex
  have tq : t ≠ q := fun e => by
    rw [e, hq] at h2
    cases h2
  have hl : (ks ++ [cc]).length ≤ z + 1 := by
    rw [List.length_append, List.length_singleton]
    omega
  by_cases bq : b = q
  · by_cases cq : c = q
    · exact ⟨t, b, c, ks ++ [cc], ks ++ [cc], e0, h1, by rw [upd_ne tq]; exact h2, by rw [bq]; exact upd_same, by rw [cq]; exact upd_same, hl, hl⟩
    · exact ⟨t, b, c, ks ++ [cc], ms, e0, h1, by rw [upd_ne tq]; exact h2, by rw [bq]; exact upd_same, by rw [upd_ne cq]; exact h4, hl, by omega⟩
  · by_cases cq : c = q
    · exact ⟨t, b, c, ns, ks ++ [cc], e0, h1, by rw [upd_ne tq]; exact h2, by rw [upd_ne bq]; exact h3, by rw [cq]; exact upd_same, by omega, hl⟩
    · exact ⟨t, b, c, ns, ms, e0, h1, by rw [upd_ne tq]; exact h2, by rw [upd_ne bq]; exact h3, by rw [upd_ne cq]; exact h4, by omega, by omega⟩
/-- after the changes: the pairs as data -/
theorem SpP.data {U : Wd} {H1 H' S' : Hp} {z : Nat} (hz : z ≤ sizeLine) : ∀ {vs : List V}, (∀ u ∈ vs, SpP H1 H' z u) → (∀ t xs, H' t = some (.tup xs) → V.ref t ∈ vs → S' t = some (.tup xs)) → (∀ b l, (∃ t c, V.ref t ∈ vs ∧ (H1 t = some (.tup [.ref b, .ref c]) ∨ H1 t = some (.tup [.ref c, .ref b]))) → H' b = some (.lst l) → S' b = some (.lst l)) →
    ∃ ys : List Rule, ys.length = vs.length ∧ (∀ y ∈ ys, y.1.length ≤ z ∧ y.2.length ≤ z) ∧ RepL U S' vs (ys.map encR) := by
  intro vs
  induction vs with
  | nil => intro _ _ _; exact ⟨[], rfl, (fun y hy => nomatch hy), .nil⟩
  | cons v vs ih =>
    intro h ht hl
    obtain ⟨ys, e1, e2, e3⟩ := ih (fun u hu => h u (List.mem_cons_of_mem _ hu)) (fun t xs a b => ht t xs a (List.mem_cons_of_mem _ b)) (fun b l ⟨t, c, a, q⟩ => hl b l ⟨t, c, List.mem_cons_of_mem _ a, q⟩)
    obtain ⟨t, b, c, ns, ms, e0, h1, h2, h3, h4, h5, h6⟩ := (h v List.mem_cons_self).ex
    subst e0
    refine ⟨(ns, ms) :: ys, by rw [List.length_cons, List.length_cons, e1], fun y hy => ?_, .cons (.tup (ht t _ h2 List.mem_cons_self) (by show 2 ≤ sizeLine; rw [sizeLine_eq]; omega) (.cons (.lst (hl b _ ⟨t, c, List.mem_cons_self, .inl h1⟩ h3) (by rw [List.length_map]; omega) (RepL.ofInts _)) (.cons (.lst (hl c _ ⟨t, b, List.mem_cons_self, .inr h1⟩ h4) (by rw [List.length_map]; omega) (RepL.ofInts _)) .nil))) e3⟩
    rcases List.mem_cons.mp hy with e | hy
    · rw [e]
      exact ⟨h5, h6⟩
    · exact e2 y hy
end Mb
set_option Elab.async false
set_option linter.all false
set_option maxRecDepth 100000
set_option maxHeartbeats 4000000
namespace Mb
open PySem PySem.Spec PyProof.Rows L2
theorem slots_no {U : Wd} {B S H : Hp} {σ : L2.St} {n : Nat} (hl : σ.length = n) (nw : ∀ a, H a = none → U.nw a) : Slots U B S H σ (List.replicate n .no) := by
  refine ⟨by rw [List.length_replicate, hl], fun i d h => ?_, fun i ds h => ?_, fun i j ds es p h => ?_, nw⟩
  all_goals
    have := List.mem_of_getElem? h
    cases (List.mem_replicate.mp this).2
theorem inn_facts {U : Wd} {H S : Hp} : ∀ {vs : List V} {xs : List Rule}, RepL (U.at fun a => H a = none) S vs (xs.map encRn) → ∀ u ∈ vs, ∃ (t b c : Addr) (r : Rule), u = .ref t ∧ r ∈ xs ∧ S t = some (.tup [.ref b, .ref c]) ∧ H b = none ∧ S b = some (.lst (r.1.map V.int)) ∧ H c = none ∧ S c = some (.lst (r.2.map V.int))
  | _, [], .nil => fun u h => nomatch h
  | _, x :: xs, .cons r t => fun u h => by
    rcases List.mem_cons.mp h with e | h
    · subst e
      cases r with
      | tup h1 z r =>
        cases r with
        | cons a r =>
          cases r with
          | cons b r =>
            cases r
            cases a with
            | nls a1 a2 a3 a4 =>
              cases b with
              | nls b1 b2 b3 b4 =>
                have e1 := RepL.ints a3
                have e2 := RepL.ints b3
                subst e1
                subst e2
                exact ⟨_, _, _, x, rfl, List.mem_cons_self, h1, a4, a1, b4, b1⟩
    · obtain ⟨t', b, c, r, e, q⟩ := inn_facts t u h
      exact ⟨t', b, c, r, e, List.mem_cons_of_mem _ q.1, q.2⟩
theorem iss_at {G : Gx} {n : Addr → Prop} {X : Cx} (h : G.iss X) : (G.at n).iss X := ⟨⟨h.is.prog, h.is.w, h.is.K, h.is.mg, h.is.base, h.is.N, h.is.sc, h.is.fn, h.is.calm, h.is.room⟩, h.2, h.3, h.4⟩
/-- one of a pair's lists gets a number more -/
theorem app_step {G : Gx} {e : Expr} {n ir : Nat} {σ : L2.St} {H' : Hp} {t b c q : Addr} {ks : List Int} {cc : Int} {D : Ends} (he : ED G e ((List.replicate n .no).set ir (.sh (.tup [.cls b, .cls c]))) (.sh (.cls q))) (hl : σ.length = n) (nw : ∀ a, H' a = none → G.U.nw a) (ht : H' t = some (.tup [.ref b, .ref c])) (hq : H' q = some (.lst (ks.map V.int))) (hk : ks.length < sizeLine)
    (hD : ∀ H2, Ex H' H2 → D.nx (σ.set ir (some (.ref t))) (upd H2 q (.lst ((ks ++ [cc]).map V.int)))) : tDrop (tBM G.U.K "list" rAppend (tG G e) (tCons (tC (.int cc)) tNil)) D (σ.set ir (some (.ref t))) H' := by
  have ex0 : Ex (fun _ => none) H' := fun a o h => nomatch h
  obtain ⟨x1, x2⟩ := addT_ex ex0 ht
  have rt : Rep G.U (addT (fun _ => none) t [.ref b, .ref c]) (.ref t) (.tup [.cls b, .cls c]) := .tup (if_pos rfl) (by show 2 ≤ sizeLine; rw [sizeLine_eq]; omega) (.cons (.cls b) (.cons (.cls c) .nil))
  have sl := ((slots_no (U := G.U) (B := fun _ => none) (S := fun _ => none) hl nw).addT ex0 ht).setSh ir rt
  refine he.run _ _ H' _ x2 sl _ fun v S4 H4 g4 r4 => ?_
  cases r4
  refine ⟨.inl ⟨rfl, _, .of (g4.bh _ _ hq)⟩, ?_⟩
  refine ⟨q, ks.map V.int, .int cc, rfl, rfl, g4.bh _ _ hq, by rw [List.length_map]; exact hk, ?_⟩
  have := hD H4 g4.bh
  rw [List.map_append] at this
  exact this
theorem SpP.up {H1 H' : Hp} {z z' : Nat} {u : V} (h : SpP H1 H' z u) (e : z ≤ z') : SpP H1 H' z' u := by
  obtain ⟨t, b, c, ns, ms, e0, h1, h2, h3, h4, h5, h6⟩ := h.ex
  exact ⟨t, b, c, ns, ms, e0, h1, h2, h3, h4, by omega, by omega⟩
/-- data that stands at a place -/
def D.rf : D → Bool
  | .lst _ => true
  | .tup _ => true
  | .nls _ => true
  | .scr _ => true
  | .tab _ _ => true
  | _ => false
theorem rf_ref {U : Wd} {S : Hp} {v : V} {d : D} (h : d.rf = true) (r : Rep U S v d) : ∃ a, v = .ref a := by
  cases r with
  | lst => exact ⟨_, rfl⟩
  | tup => exact ⟨_, rfl⟩
  | nls => exact ⟨_, rfl⟩
  | scr => exact ⟨_, rfl⟩
  | tab => exact ⟨_, rfl⟩
  | _ => cases h
theorem flat_scr {U : Wd} {ns : List Int} : Flat U (.scr ns) := fun S v n h => by
  cases h with
  | scr h => exact .scr h
/-- slots one by one -/
def slAll (P : Nat → Sl → Prop) : Nat → List Sl → Prop
  | _, [] => True
  | i, s :: l => P i s ∧ slAll P (i + 1) l
theorem slAll_nil {P : Nat → Sl → Prop} {i : Nat} : slAll P i [] := trivial
theorem slAll_cons {P : Nat → Sl → Prop} {i : Nat} {s : Sl} {l : List Sl} (h : P i s) (k : slAll P (i + 1) l) : slAll P i (s :: l) := ⟨h, k⟩
theorem slAll_get {P : Nat → Sl → Prop} : ∀ {l : List Sl} {k i : Nat} {s : Sl}, slAll P k l → l[i]? = some s → P (k + i) s
  | [], _, _, _, _, e => by simp at e
  | s :: l, k, 0, _, h, e => by
    obtain rfl := Option.some.inj (show some _ = some _ from e)
    exact h.1
  | s :: l, k, i + 1, t, h, e => by
    have := slAll_get (k := k + 1) (i := i) h.2 e
    rw [Nat.add_assoc, Nat.add_comm 1 i] at this
    exact this
theorem slAll_get0 {P : Nat → Sl → Prop} {l : List Sl} {i : Nat} {s : Sl} (h : slAll P 0 l) (e : l[i]? = some s) : P i s := by
  have := slAll_get h e
  rw [Nat.zero_add] at this
  exact this
/-- a slot in the middle: nothing, what is told, what is kept at its place, what is kept as it is -/
def SpM (U : Wd) (ρ : List Sl) (f : Nat) (xs : List Rule) (ad : Nat → Addr) (i : Nat) (y : Sl) : Prop := y = .no ∨ (i = f ∧ y = .sh (.ad (ad i) (D.rules xs))) ∨ (i ≠ f ∧ ∃ d, ρ[i]? = some (.sh d) ∧ y = .sh (.ad (ad i) d) ∧ Flat U d ∧ d.rf = true) ∨ (i ≠ f ∧ ∃ d d', ρ[i]? = some (.sh d) ∧ y = .sh d' ∧ Conv1 U d d')
section
variable {U : Wd} {ρ ρ' : List Sl} {f r i : Nat} {xs ys : List Rule} {ad : Nat → Addr} {d d' : D}
theorem SpM.no : SpM U ρ f xs ad i .no := .inl rfl
theorem SpM.told (h : i = f) : SpM U ρ f xs ad i (.sh (.ad (ad i) (D.rules xs))) := .inr (.inl ⟨h, rfl⟩)
theorem SpM.keep (h : i ≠ f) (e : ρ[i]? = some (.sh d)) (fl : Flat U d) (rf : d.rf = true) : SpM U ρ f xs ad i (.sh (.ad (ad i) d)) := .inr (.inr (.inl ⟨h, d, e, rfl, fl, rf⟩))
theorem SpM.conv (h : i ≠ f) (e : ρ[i]? = some (.sh d)) (c : Conv1 U d d') : SpM U ρ f xs ad i (.sh d') := .inr (.inr (.inr ⟨h, d, d', e, rfl, c⟩))
/-- a slot behind -/
def SpR (U : Wd) (ρ ρ' : List Sl) (f r : Nat) (ys : List Rule) (ad : Nat → Addr) (i : Nat) (y : Sl) : Prop := y = .no ∨ (i = f ∧ y = .sh (D.rules ys)) ∨ (i ≠ f ∧ i ≠ r ∧ ∃ d, ρ[i]? = some (.sh d) ∧ ρ'[i]? = some (.sh (.ad (ad i) d)) ∧ y = .sh d ∧ d.rf = true) ∨ (i ≠ r ∧ ∃ d d', ρ'[i]? = some (.sh d') ∧ y = .sh d ∧ Conv2 U d' d)
theorem SpR.no : SpR U ρ ρ' f r ys ad i .no := .inl rfl
theorem SpR.told (h : i = f) : SpR U ρ ρ' f r ys ad i (.sh (D.rules ys)) := .inr (.inl ⟨h, rfl⟩)
theorem SpR.keep (h : i ≠ f) (h' : i ≠ r) (e : ρ[i]? = some (.sh d)) (e' : ρ'[i]? = some (.sh (.ad (ad i) d))) (rf : d.rf = true) : SpR U ρ ρ' f r ys ad i (.sh d) := .inr (.inr (.inl ⟨h, h', d, e, e', rfl, rf⟩))
theorem SpR.conv (h : i ≠ r) (e : ρ'[i]? = some (.sh d')) (c : Conv2 U d' d) : SpR U ρ ρ' f r ys ad i (.sh d) := .inr (.inr (.inr ⟨h, d, d', e, rfl, c⟩))
end
section
variable {G : Gx} {ρ : List Sl} {R : Oc → Prop} {x nf nr : Str} {e : Expr} {k : Nat} {A : List D → Ot → Prop} {d1 : D} {xs : List Rule} {mid rest : List Stmt} {jnf jnr : Nat} {p1 p p3 p4 p5 p6 p7 p8 p9 p10 b1 b2 b3 b4 b5 b6 b7 b8 c1 c2 c3 c4 c5 c6 c7 : Pos} {pos q1 q3 : Pos} {j1 j2 j3 j4 : Nat}
theorem sd_spoil (T : FnA G.U x k A) (hk : k ≤ G.k) (hg : GlN G x) (ha : ED G e ρ (.sh d1)) (hf : Flat G.U d1) (hA : A [d1] (.inl (.fr (xs.map encRn)))) (hxs : xs.length ≤ 1000) (hxl : ∀ r ∈ xs, r.1.length ≤ 1000 ∧ r.2.length ≤ 1000)
    (ρm : (Nat → Addr) → List Sl) (E : (Nat → Addr) → List Sl → Prop) (ρr : List Rule → List Sl) (hml : ∀ ad, (ρm ad).length = ρ.length)
    (jf : G.N.idxOf nf = jnf) (jr : G.N.idxOf nr = jnr) (hm : ∀ ad : Nat → Addr, slAll (SpM G.U ρ jnf xs ad) 0 (ρm ad))
    (hmid : ∀ n ad, SD (G.at n) mid (ρm ad) fun o => ∃ ρ', o = .nx ρ' ∧ E ad ρ')
    (hE : ∀ ad ρ', E ad ρ' → ρ'.length = ρ.length ∧ ρ'[jnf]? = some (.sh (.ad (ad jnf) (D.rules xs))))
    (hr : ∀ (ad : Nat → Addr) (ρ' : List Sl) (ys : List Rule), E ad ρ' → slAll (SpR G.U ρ ρ' jnf jnr ys ad) 0 (ρr ys))
    (hrl : ∀ ys, (ρr ys).length = ρ.length) (hrest : ∀ ys : List Rule, ys.length ≤ 1001 → (∀ y ∈ ys, y.1.length ≤ 4000 ∧ y.2.length ≤ 4000) → SD G rest (ρr ys) R)
    (hN : G.N.Nodup) (i1 : G.N.idxOf nf < G.N.length) (i3 : G.N.idxOf nr < G.N.length) (l1 : G.N.idxOf nf < ρ.length) (l3 : G.N.idxOf nr < ρ.length) (nfr : G.N.idxOf nf ≠ G.N.idxOf nr)
    (okf : setOk G.sc G.fn nf = true) (okr : setOk G.sc G.fn nr = true) (vf : visB G.sc nf = true) (vr : visB G.sc nr = true) (of_ : okName nf = true := by rfl) (or_ : okName nr = true := by rfl) (hd : (x == ("__debug__" : Str)) = false := by rfl)
    (hs : StarN e [] := by exact ⟨by intro _; rfl, by intros; rfl⟩) (hsw : NoSwap G (.Call (.Name x p) [e] [] pos) nf p1 q1 := by intros _ _; rfl)
    (hb1 : BmOk (.Subscript (.Name nr p5) (.Constant (.int 0) j1 p6) p7) "append" (.Constant (.int 99) j2 b2) [] b1 b3 := by exact ⟨by intro _; rfl, by intro _; rfl, rfl, by intro _; rfl, by intros; rfl⟩)
    (hb2 : BmOk (.Subscript (.Name nr p8) (.Constant (.int 1) j3 p9) p10) "append" (.Constant (.int 99) j4 b6) [] b5 b7 := by exact ⟨by intro _; rfl, by intro _; rfl, rfl, by intro _; rfl, by intros; rfl⟩)
    (hb3 : BmOk (.Name nf c2) "append" (.Tuple [.List [] c4, .List [] c5] 0 c6) [] c3 c7 := by exact ⟨by intro _; rfl, by intro _; rfl, rfl, by intro _; rfl, by intros; rfl⟩)
    (hfo : ∀ env y, foldedSetIterable (.Name nf p4) env y = pure y := by intros; rfl) :
    SD G (.Assign [.Name nf p1] (.Call (.Name x p) [e] [] pos) q1 :: (mid ++ (.For (.Name nr p3) (.Name nf p4) [.Expr (.Call (.Attribute (.Subscript (.Name nr p5) (.Constant (.int 0) j1 p6) p7) "append" b1) [.Constant (.int 99) j2 b2] [] b3) b4, .Expr (.Call (.Attribute (.Subscript (.Name nr p8) (.Constant (.int 1) j3 p9) p10) "append" b5) [.Constant (.int 99) j4 b6] [] b7) b8] [] c1 ::
      .Expr (.Call (.Attribute (.Name nf c2) "append" c3) [.Tuple [.List [] c4, .List [] c5] 0 c6] [] c7) q3 :: rest))) ρ R := by
  subst jf jr
  refine ⟨fun W B S H σ En ex eb sl cn X hX tk pins s I => ?_⟩
  obtain ⟨te, hte, ev⟩ := ev_newFull (ρ := ρ) (p := p) (pos := pos) T hk hg ha hf hA hd hs
  have of' := of_
  have or' := or_
  unfold okName at of' or'
  rw [Bool.and_eq_true, Bool.not_eq_true', Bool.not_eq_true'] at of' or'
  obtain ⟨H0, hH0⟩ : ∃ H0, H0 = H := ⟨_, rfl⟩
  have ps1 := ps_setG (te := fun _ => te) hN i1 okf hsw (fun X W h tk => hte X h.is) X W hX tk
  have kX := hX.is.K
  have pf4 : PE X (.Name nf p4) (tVar (G.N.idxOf nf)) := pe_var (by rw [hX.is.N]; exact ixAt i1) (by rw [hX.is.sc]; exact vis_of vf) of'.1 of'.2
  have pf2 : PE X (.Name nf c2) (tVar (G.N.idxOf nf)) := pe_var (by rw [hX.is.N]; exact ixAt i1) (by rw [hX.is.sc]; exact vis_of vf) of'.1 of'.2
  obtain ⟨b11, b12, b13, b14, b15⟩ := hb1
  obtain ⟨b21, b22, b23, b24, b25⟩ := hb2
  obtain ⟨b31, b32, b33, b34, b35⟩ := hb3
  have hap1 := pe_bm (apos := b1) (cpos := b3) PySem.F.plainAttrs_list PySem.F.slot_list_append PySem.F.type_list_append mt_append (pe_of (e := .Subscript (.Name nr p5) (.Constant (.int 0) j1 p6) p7) hX.is) (pa_cons (pe_int (i := 99) (j := j2) (pos := b2)) pa_nil (hs := b14 _)) (b11 _) (b12 _) b13 (b14 _) (b15 _ _)
  have hap2 := pe_bm (apos := b5) (cpos := b7) PySem.F.plainAttrs_list PySem.F.slot_list_append PySem.F.type_list_append mt_append (pe_of (e := .Subscript (.Name nr p8) (.Constant (.int 1) j3 p9) p10) hX.is) (pa_cons (pe_int (i := 99) (j := j4) (pos := b6)) pa_nil (hs := b24 _)) (b21 _) (b22 _) b23 (b24 _) (b25 _ _)
  have hap3 := pe_bm (apos := c3) (cpos := c7) PySem.F.plainAttrs_list PySem.F.slot_list_append PySem.F.type_list_append mt_append pf2 (pa_cons (pe_of (e := .Tuple [.List [] c4, .List [] c5] 0 c6) hX.is) pa_nil (hs := b34 _)) (b31 _) (b32 _) b33 (b34 _) (b35 _ _)
  have hpi := pi_list (tg := .Name nr p3) pf4
  rw [kX] at hap1 hap2 hap3 hpi
  have ps3 := ps_for (pos := c1) hX.own hX.is.calm hpi (pgd hN i3 okr X hX) (pss_cons (ps_expr (pos := b4) hap1) (pss_one (ps_expr (pos := b8) hap2))) (hfo _)
  have ps4 := ps_expr (pos := q3) hap3
  refine (pss_cons ps1 (pss_app (pss_of (ss := mid) (W := W) hX tk) (pss_cons ps3 (pss_cons ps4 (pss_of (ss := rest) (W := W) hX tk))))).run pins s σ H En I ?_
  clear ps1 ps3 ps4 hap1 hap2 hap3 hpi pf4 pf2
  refine ev B S H σ ex sl _ fun l vs S2 H1 g nl n2 hl1 hz rl => ?_
  have F := inn_facts rl
  have lenv : vs.length = xs.length := by rw [rl.length, List.length_map]
  obtain ⟨ad, had⟩ : ∃ ad : Nat → Addr, ad = fun i => match (σ.set (G.N.idxOf nf) (some (.ref l)))[i]? with
    | some (some (.ref a)) => a
    | _ => 0 := ⟨_, rfl⟩
  have adf : ad (G.N.idxOf nf) = l := by
    rw [had]
    dsimp only
    rw [List.getElem?_set_self (by rw [sl.len]; exact l1)]
  have adi : ∀ i a, i ≠ G.N.idxOf nf → σ[i]? = some (some (.ref a)) → ad i = a := fun i a ni h => by
    rw [had]
    dsimp only
    rw [List.getElem?_set_ne (Ne.symm ni), h]
  -- inner lists
  have innF : ∀ a, Inn H1 vs a → H a = none ∧ ∃ ns : List Int, S2 a = some (.lst (ns.map V.int)) := fun a ⟨t, b, c, hm, h1, h2⟩ => by
    obtain ⟨t', b', c', r, e0, hr, q1, q2, q3, q4, q5⟩ := F _ hm
    cases e0
    have := g.sh _ _ q1
    rw [h1] at this
    cases this
    rcases h2 with rfl | rfl
    · exact ⟨q2, _, q3⟩
    · exact ⟨q4, _, q5⟩
  have lnotInn : ¬ Inn H1 vs l := fun h => by
    obtain ⟨_, ns, q⟩ := innF l h
    rw [n2] at q
    cases q
  let n : Addr → Prop := fun a => a ≠ l ∧ ¬ Inn H1 vs a
  have Sn : ∀ a, S a ≠ none → n a := fun a ha => by
    have hHa : H a ≠ none := fun e => ha (ex.back e)
    exact ⟨fun e => hHa (by rw [e]; exact nl), fun h => hHa (innF a h).1⟩
  -- the middle
  have exm : Ex (upd S2 l (.lst vs)) H1 := fun a o h => by
    by_cases e : a = l
    · subst e
      rw [upd_same] at h
      exact hl1.trans h
    · rw [upd_ne e] at h
      exact g.sh _ _ h
  have exSm : Ex S (upd S2 l (.lst vs)) := g.ss.trans (Ex.new n2)
  have slm : Slots (G.U.at n) H1 (upd S2 l (.lst vs)) H1 (σ.set (G.N.idxOf nf) (some (.ref l))) (ρm ad) := by
    refine ⟨by rw [List.length_set, sl.len, hml], fun i d h => ?_, fun i ds h => ?_, fun i j ds es p h => ?_, fun a h => ?_⟩
    · rcases slAll_get0 (hm ad) h with e | ⟨rfl, e⟩ | ⟨ne, d0, h0, e, fl, rf⟩ | ⟨ne, d0, d', h0, e, cv⟩
      · cases e
      · cases e
        rw [adf]
        exact ⟨_, List.getElem?_set_self (by rw [sl.len]; exact l1), .ad (.lst upd_same hz (back_rules_l (U := G.U.at n) (n := fun a => H a = none) (fun a o _ q => Ex.new n2 _ _ q) (fun a o q => Ex.new n2 _ _ q) rl))⟩
      · cases e
        obtain ⟨v, e1, e2⟩ := sl.sh _ _ h0
        obtain ⟨a, rfl⟩ := rf_ref rf e2
        rw [adi _ _ ne e1]
        exact ⟨_, by rw [List.getElem?_set_ne (Ne.symm ne)]; exact e1, .ad ((fl _ _ _ e2).mono exSm)⟩
      · cases e
        obtain ⟨v, e1, e2⟩ := sl.sh _ _ h0
        exact ⟨v, by rw [List.getElem?_set_ne (Ne.symm ne)]; exact e1, (cv _ _ _ Sn e2).mono exSm⟩
    · rcases slAll_get0 (hm ad) h with e | ⟨_, e⟩ | ⟨_, _, _, e, _⟩ | ⟨_, _, _, _, e, _⟩ <;> cases e
    · rcases slAll_get0 (hm ad) h with e | ⟨_, e⟩ | ⟨_, _, _, e, _⟩ | ⟨_, _, _, _, e, _⟩ <;> cases e
    · refine ⟨fun e => ?_, fun q => ?_⟩
      · rw [e, hl1] at h
        cases h
      · obtain ⟨_, ns, q⟩ := innF a q
        rw [g.sh _ _ q] at h
        cases h
  refine fun X' hX' tk' pins' s' I' => (hmid n ad).run W H1 _ H1 _ _ exm (Ex.refl H1) slm ?_ X' (iss_at hX') tk' pins' s' I'
  refine ⟨fun ρ3 S3 H3 σ3 hR3 g3 sl3 => ?_, fun _ _ _ _ h => (by obtain ⟨_, h, _⟩ := h; cases h), fun _ _ _ _ h => (by obtain ⟨_, h, _⟩ := h; cases h), fun _ _ _ _ h => (by obtain ⟨_, h, _⟩ := h; cases h), fun _ _ _ _ _ h => (by obtain ⟨_, h, _⟩ := h; cases h)⟩
  obtain ⟨ρ3', e3, hE3⟩ := hR3
  cases e3
  obtain ⟨E1, E2⟩ := hE _ _ hE3
  rw [adf] at E2
  obtain ⟨w3, f1, f2⟩ := sl3.sh _ _ E2
  obtain rfl : w3 = .ref l := by
    cases f2
    rfl
  have lσ3 : σ3.length = ρ.length := by rw [sl3.len, E1]
  have sp3 : ∀ u ∈ vs, SpP H1 H3 (1000 + 2 * 0) u := fun u hu => by
    obtain ⟨t', b', c', r, e0, hr, q1, q2, q3, q4, q5⟩ := F _ hu
    exact ⟨t', b', c', r.1, r.2, e0, g.sh _ _ q1, g3.bh _ _ (g.sh _ _ q1), g3.bh _ _ (g.sh _ _ q3), g3.bh _ _ (g.sh _ _ q5), (hxl r hr).1, (hxl r hr).2⟩
  have nw' : ∀ H', Ex H H' → ∀ a, H' a = none → G.U.nw a := fun H' e a h => sl.nw a (e.back h)
  have exH3 : Ex H H3 := g.bh.trans g3.bh
  -- what is not an inner list stands
  have keepH : ∀ H', (∀ a o, ¬ Inn H1 vs a → H3 a = some o → H' a = some o) → Ex H H' := fun H' k a o h => k a o (fun q => by
    rw [(innF a q).1] at h
    cases h) (exH3 _ _ h)
  refine ⟨.ref l, f1, l, rfl, ⟨vs, .of (g3.bh _ _ hl1)⟩, ?_⟩
  refine for_list (K := G.U.K) (a := l) (xs := vs) (fun j σ' H' => (∀ a o, ¬ Inn H1 vs a → H3 a = some o → H' a = some o) ∧ (∀ u ∈ vs, SpP H1 H' (1000 + 2 * j) u) ∧ ∃ w, σ' = σ3.set (G.N.idxOf nr) w)
    ⟨fun a o _ h => h, sp3, _, (List.set_getElem_self (by rw [lσ3]; exact l3)).symm⟩ (fun j σ' H' _ pv => .of (pv.1 _ _ lnotInn (g3.bh _ _ hl1))) (fun j u σ' H' hu pv => ?_) fun σ' H' pv => ?_
  · obtain ⟨k, sp, w, rfl⟩ := pv
    have hum := List.mem_of_getElem? hu
    have hj : j < vs.length := (List.getElem?_eq_some_iff.mp hu).1
    obtain ⟨t', b, c, ns, ms, rfl, h1, h2, h3, h4, h5, h6⟩ := (sp u hum).ex
    show tSeq _ _ _ ((σ3.set (G.N.idxOf nr) w).set (G.N.idxOf nr) (some (.ref t'))) H'
    rw [List.set_set]
    have hv1 : ED G (.Name nr p5) ((List.replicate ρ.length .no).set (G.N.idxOf nr) (.sh (.tup [.cls b, .cls c]))) (.sh (.tup [.cls b, .cls c])) := ed_var (List.getElem?_set_self (by rw [List.length_replicate]; exact l3)) vr or_
    have hv2 : ED G (.Name nr p8) ((List.replicate ρ.length .no).set (G.N.idxOf nr) (.sh (.tup [.cls b, .cls c]))) (.sh (.tup [.cls b, .cls c])) := ed_var (List.getElem?_set_self (by rw [List.length_replicate]; exact l3)) vr or_
    have ib : Inn H1 vs b := ⟨t', b, c, hum, h1, .inl rfl⟩
    have ic : Inn H1 vs c := ⟨t', b, c, hum, h1, .inr rfl⟩
    have exK := keepH H' k
    refine app_step (ed_ixT hv1 ed_int (d := .cls b) rfl) lσ3 (nw' H' exK) h2 h3 (by rw [sizeLine_eq]; omega) fun H4 e4 => ?_
    have k5 : ∀ a o, ¬ Inn H1 vs a → H3 a = some o → upd H4 b (.lst ((ns ++ [99]).map V.int)) a = some o := fun a o na h => by
      rw [upd_ne (fun e => na (by rw [e]; exact ib))]
      exact e4 _ _ (k a o na h)
    have sp5 : ∀ u ∈ vs, SpP H1 (upd H4 b (.lst ((ns ++ [99]).map V.int))) (1000 + 2 * j + 1) u := fun u hu => ((sp u hu).mono e4).step (e4 _ _ h3) h5
    generalize upd H4 b (.lst ((ns ++ [99]).map V.int)) = H5 at k5 sp5
    obtain ⟨t2, b2', c2', ns2, ms2, e0, g1, g2, g3', g4, g5, g6⟩ := (sp5 _ hum).ex
    cases e0
    rw [h1] at g1
    cases g1
    refine app_step (ed_ixT hv2 ed_int (d := .cls c) rfl) lσ3 (nw' H5 (keepH H5 k5)) g2 g4 (by rw [sizeLine_eq]; omega) fun H6 e6 => ?_
    refine ⟨fun a o na h => ?_, fun u hu => ?_, _, rfl⟩
    · rw [upd_ne (fun e => na (by rw [e]; exact ic))]
      exact e6 _ _ (k5 a o na h)
    · exact (((sp5 u hu).mono e6).step (e6 _ _ g4) g6).up (by omega)
  · obtain ⟨k, sp, w, rfl⟩ := pv
    have exK := keepH H' k
    have hl' : H' l = some (.lst vs) := k _ _ lnotInn (g3.bh _ _ hl1)
    refine ⟨.ref l, by rw [List.getElem?_set_ne (Ne.symm nfr)]; exact f1, .inl ⟨rfl, _, .of hl'⟩, ?_⟩
    have hev3 : ED G (.Tuple [.List [] c4, .List [] c5] 0 c6) (List.replicate ρ.length .no) (.sh (.tup [.lst [], .lst []])) := ed_tup (ad_cons (ED.shr (ed_lst ad_nil (Nat.zero_le _))) (ad_cons (ED.shr (ed_lst ad_nil (Nat.zero_le _))) ad_nil)) (by show 2 ≤ sizeLine; rw [sizeLine_eq]; omega)
    refine hev3.run (fun _ => none) (fun _ => none) H' _ (fun a o h => nomatch h) (slots_no (by rw [List.length_set, lσ3]) (nw' H' exK)) _ fun v7 S7 H7 g7 r7 => ?_
    refine ⟨l, vs, v7, rfl, rfl, g7.bh _ _ hl', by rw [lenv, sizeLine_eq]; omega, ?_⟩
    have hl7 := g7.bh _ _ hl'
    have sp7 : ∀ u ∈ vs, SpP H1 H7 (1000 + 2 * vs.length) u := fun u hu => (sp u hu).mono g7.bh
    have k7 : ∀ a o, ¬ Inn H1 vs a → H3 a = some o → H7 a = some o := fun a o na h => g7.bh _ _ (k a o na h)
    have ex7 : Ex H H7 := keepH H7 k7
    have ex8 : Ex H (upd H7 l (.lst (vs ++ [v7]))) := Ex.mut ex7 nl
    obtain ⟨Sf, hSf⟩ : ∃ Sf : Hp, Sf = fun a => if H a = none then upd H7 l (.lst (vs ++ [v7])) a else S a := ⟨_, rfl⟩
    have Sf1 : ∀ a, H a = none → Sf a = upd H7 l (.lst (vs ++ [v7])) a := fun a h => by rw [hSf]; exact if_pos h
    have Sf2 : ∀ a, H a ≠ none → Sf a = S a := fun a h => by rw [hSf]; exact if_neg h
    have exSf : Ex S Sf := fun a o h => by
      rw [Sf2 a (fun e => by rw [ex _ _ h] at e; cases e)]
      exact h
    have exSf8 : Ex Sf (upd H7 l (.lst (vs ++ [v7]))) := fun a o h => by
      by_cases q : H a = none
      · rw [Sf1 a q] at h
        exact h
      · rw [Sf2 a q] at h
        exact ex8 _ _ (ex _ _ h)
    have gF : Go S B Sf (upd H7 l (.lst (vs ++ [v7]))) := ⟨exSf, exSf8, eb.trans ex8, fun a h => by
      by_cases q : H a = none
      · exact .inr (eb.back q)
      · rw [Sf2 a q] at h
        exact .inl h⟩
    -- what stood in the middle and is not changed
    have S3f : ∀ a o, a ≠ l → ¬ Inn H1 vs a → S3 a = some o → Sf a = some o := fun a o n1 n2' h => by
      by_cases q : H a = none
      · rw [Sf1 a q, upd_ne n1]
        exact k7 a o n2' (g3.sh _ _ h)
      · rw [Sf2 a q]
        rcases g3.nw a (by rw [h]; exact fun z => nomatch z) with z | z
        · rw [upd_ne n1] at z
          rcases g.nw a z with z | z
          · cases hS : S a with
            | none => exact absurd hS z
            | some o' =>
              have := g3.ss _ _ (exSm _ _ hS)
              rw [h] at this
              exact this.symm
          · exact absurd z q
        · exact absurd (g.bh.back z) q
    have S2f : ∀ a o, S2 a = some o → ∀ o', H7 a = some o' → Sf a = some o' := fun a o h o' h' => by
      have nal : a ≠ l := fun e => by
        rw [e, n2] at h
        cases h
      by_cases q : H a = none
      · rw [Sf1 a q, upd_ne nal]
        exact h'
      · rw [Sf2 a q]
        rcases g.nw a (by rw [h]; exact fun z => nomatch z) with z | z
        · cases hS : S a with
          | none => exact absurd hS z
          | some o2 =>
            have := ex7 _ _ (ex _ _ hS)
            rw [h'] at this
            exact this.symm
        · exact absurd z q
    obtain ⟨ys, y1, y2, y3⟩ := SpP.data (U := G.U) (S' := Sf) (by rw [lenv, sizeLine_eq]; omega) sp7 (fun t' o h hmem => by
      obtain ⟨t2, b', c', r, e0, hr, q1, q2, q3, q4, q5⟩ := F _ hmem
      cases e0
      exact S2f _ _ q1 _ h) (fun b o ⟨t', c, hmem, hh⟩ h => by
      have ib : Inn H1 vs b := by
        rcases hh with hh | hh
        · exact ⟨t', _, _, hmem, hh, .inl rfl⟩
        · exact ⟨t', _, _, hmem, hh, .inr rfl⟩
      obtain ⟨_, ns, q⟩ := innF b ib
      exact S2f _ _ q _ h)
    have r7f : Rep G.U Sf v7 (.tup [.lst [], .lst []]) := Rep.mono (fun a o h => by
      rcases g7.nw a (by rw [h]; exact fun z => nomatch z) with z | z
      · exact absurd rfl z
      · rw [Sf1 a (exK.back z), upd_ne (fun e => by rw [e, hl'] at z; cases z)]
        exact g7.sh _ _ h) r7
    have ry : RepL G.U Sf (vs ++ [v7]) ((ys ++ [(([] : List Int), ([] : List Int))]).map encR) := by
      rw [List.map_append]
      exact y3.append (.cons r7f .nil)
    have y4 : (ys ++ [(([] : List Int), ([] : List Int))]).length ≤ 1001 := by
      rw [List.length_append, y1, lenv, List.length_singleton]
      omega
    have y5 : ∀ y ∈ ys ++ [(([] : List Int), ([] : List Int))], y.1.length ≤ 4000 ∧ y.2.length ≤ 4000 := fun y hy => by
      rcases List.mem_append.mp hy with hy | hy
      · have := y2 y hy
        omega
      · rw [List.mem_singleton] at hy
        subst hy
        exact ⟨Nat.zero_le _, Nat.zero_le _⟩
    have y6 : ys ++ [(([] : List Int), ([] : List Int))] = ys ++ [([], [])] := rfl
    generalize ys ++ [(([] : List Int), ([] : List Int))] = zs at ry y4 y5 y6
    refine (hrest zs y4 y5).run W B Sf _ _ En exSf8 (eb.trans ex8) ?_ (cn.go gF)
    refine ⟨by rw [List.length_set, lσ3, hrl], fun i d h => ?_, fun i ds h => ?_, fun i j ds es p h => ?_, nw' _ ex8⟩
    · rcases slAll_get0 (hr ad ρ3 zs hE3) h with e | ⟨rfl, e⟩ | ⟨ne, ne', d0, h0, h0', e, rf⟩ | ⟨ne, d0, d', h0, e, cv⟩
      · cases e
      · cases e
        refine ⟨.ref l, by rw [List.getElem?_set_ne (Ne.symm nfr)]; exact f1, .lst (xs := vs ++ [v7]) ?_ ?_ ry⟩
        · rw [Sf1 l nl]
          exact upd_same
        · rw [List.length_append, lenv, List.length_singleton, sizeLine_eq]
          omega
      · cases e
        obtain ⟨v, e1, e2⟩ := sl.sh _ _ h0
        obtain ⟨a, rfl⟩ := rf_ref rf e2
        obtain ⟨w5, f5, f6⟩ := sl3.sh _ _ h0'
        rw [adi _ _ ne e1] at f6
        obtain rfl : w5 = .ref a := by
          cases f6
          rfl
        exact ⟨.ref a, by rw [List.getElem?_set_ne (Ne.symm ne')]; exact f5, e2.mono exSf⟩
      · cases e
        obtain ⟨v, e1, e2⟩ := sl3.sh _ _ h0
        refine ⟨v, by rw [List.getElem?_set_ne (Ne.symm ne)]; exact e1, cv S3 Sf v n (fun a o na h => S3f a o na.1 na.2 h) (fun a xs h => ?_) e2⟩
        have h3 := g3.sh _ _ h
        refine S3f a _ (fun e => ?_) (fun q => ?_) h
        · rw [e, g3.bh _ _ hl1] at h3
          cases h3
        · obtain ⟨_, ns, q⟩ := innF a q
          rw [g3.bh _ _ (g.sh _ _ q)] at h3
          cases h3
    · rcases slAll_get0 (hr ad ρ3 zs hE3) h with e | ⟨_, e⟩ | ⟨_, _, _, _, _, e, _⟩ | ⟨_, _, _, _, e, _⟩ <;> cases e
    · rcases slAll_get0 (hr ad ρ3 zs hE3) h with e | ⟨_, e⟩ | ⟨_, _, _, _, _, e, _⟩ | ⟨_, _, _, _, e, _⟩ <;> cases e
end
end Mb
set_option Elab.async false
set_option linter.all false
set_option maxRecDepth 100000
set_option maxHeartbeats 4000000
namespace Mb
open PySem PySem.Spec PyProof.Rows L2
/-! ### a name gets a new list, counted as new -/
section
variable {G : Gx} {ρ : List Sl} {R : Oc → Prop} {pos p : Pos} {n : Str} {ds : List D}
theorem s_lcN {elt : Expr} {gs : List Comprehension} {scope : Scope} {spos : Pos} (he : LD G (.ListComp elt gs scope pos) ρ ds) (hR : R (.nx (ρ.set (G.N.idxOf n) (.sh (.nls ds))))) (hi : G.N.idxOf n < G.N.length) (hk : G.sc.kind = .function) (hy : G.sc.names.lookup n = some .local) (hl : (p.line == pos.line) = true)
    (ha : (scope.names.any fun (m, k) => m == n && (k == .local || k == .cell)) = false) : S1 G (.Assign [.Name n p] (.ListComp elt gs scope pos) spos) ρ R := by
  obtain ⟨te, h1, h2, h3⟩ := he.ex
  exact .of (ps_lcG hi hy (swapT hk hy hl ha) h2) (asgG (te := fun _ => te) (fun W => fun B S H σ x sl Q q => h3 B S H σ x sl Q fun v S' H' g ⟨p, vs, e1, a1, a2, a3, z, a4⟩ => by
    subst e1
    exact q _ (upd S' p (.lst vs)) H' (g.add a1 a2 a3) (.nls upd_same z (a4.mono (Ex.new a2)) (sl.nw _ a3))) hR)
end
theorem conv_flat {U : Wd} {d : D} (h : Flat U d) : Conv1 U d d := fun S v n _ r => h S v n r
theorem few_le {m : Int} {rows : List (List Int)} (h : m ≤ 8) : (fewL m rows).length ≤ 256 := by
  unfold fewL
  rw [List.length_map]
  exact Nat.le_trans (fewP_len _ _ _) (allL_len h)
theorem tab_ok {m : Int} {rows : List (List Int)} (h0 : 0 ≤ m) (h8 : m ≤ 8) (hr : rows.length ≤ 12) (hi : ∀ r ∈ rows, InM m r) : tooBig m rows = false ∧ rows.all (inR m) = true ∧ rows.map plainL = rows := by
  refine ⟨?_, List.all_eq_true.mpr fun r hr => inR_iff.mpr fun x hx => (hi r hr).inr x hx, ?_⟩
  · unfold tooBig
    rw [decide_eq_true h0, decide_eq_true h8, decide_eq_false (by omega)]
    rfl
  · conv => rhs; rw [← List.map_id rows]
    exact List.map_congr_left fun r hr => plain_self (hi r hr).rise
theorem EvNw.cast {G : Gx} {ρ : List Sl} {e : Expr} {d d' : D} (h : EvNw G e ρ d) (q : d = d') : EvNw G e ρ d' := q ▸ h
abbrev A_law : List D → Ot → Prop := fun ds o => ∃ ns : List Int, ds = [.scr ns] ∧ ns.length ≤ 63 ∧ o = .inl (.sh (.bl true))
theorem lst_py {α : Type} (f : α → D) (xs : List α) : (D.lst (xs.map f)).py = .list (xs.map fun x => (f x).py) := by
  rw [D.py, pyL_map]
theorem rn_py (r : Rule) : (encRn r).py = (encR r).py := by
  rw [py_pair, py_pair, py_nints, py_nints, py_ints, py_ints]
theorem deq_rn (xs ys : List Rule) : deq (.lst (xs.map encRn)) (.lst (ys.map encR)) = decide (xs = ys) := by
  have h := deq_rules xs ys
  unfold deq at *
  rw [lst_py, lst_py] at *
  simp only [rn_py]
  exact h
/-- what counts as new may be read as it is -/
theorem RepL.weakR {U : Wd} {S : Hp} : ∀ {vs : List V} {xs : List Rule}, RepL U S vs (xs.map encRn) → RepL U S vs (xs.map encR)
  | _, [], .nil => .nil
  | _, x :: xs, .cons r t => by
    refine .cons ?_ (RepL.weakR t)
    cases r with
    | tup h1 z r =>
      cases r with
      | cons a r =>
        cases r with
        | cons b r =>
          cases r
          cases a with
          | nls a1 a2 a3 a4 =>
            cases b with
            | nls b1 b2 b3 b4 => exact .tup h1 z (.cons (.lst a1 a2 a3) (.cons (.lst b1 b2 b3) .nil))
theorem ED.weakR {G : Gx} {e : Expr} {ρ : List Sl} {xs : List Rule} (h : ED G e ρ (.fr (xs.map encRn))) : ED G e ρ (.fr (xs.map encR)) := ⟨fun B S H σ ex sl Q q => h.run B S H σ ex sl Q fun v S' H' g ⟨p, vs, e1, h1, h2, h3, z, h4⟩ => q v S' H' g ⟨p, vs, e1, h1, h2, h3, z, h4.weakR⟩⟩
theorem cut_front {α : Type} (xs : List α) (k : Nat) (h : k ≤ xs.length) : cutD xs none (some (k : Int)) = xs.take k := by
  unfold cutD
  have e1 : HT.sIx xs.length 0 none = 0 := rfl
  have e2 : HT.sIx xs.length xs.length (some (k : Int)) = k := by
    rw [HT.sIx_nat]
    omega
  rw [e1, e2, List.drop_zero, Nat.sub_zero]
theorem cut_back {α : Type} (xs : List α) : cutD xs (some 1) none = xs.drop 1 := by
  unfold cutD
  have e2 : HT.sIx xs.length xs.length none = xs.length := rfl
  rw [e2]
  cases xs with
  | nil => rfl
  | cons x xs =>
    have e1 : HT.sIx (x :: xs).length 0 (some 1) = 1 := by
      have := HT.sIx_nat (x :: xs).length 0 1
      rw [List.length_cons] at *
      refine this.trans ?_
      omega
    rw [e1]
    simp
theorem flat_all {U : Wd} {ρ ρe : List Sl} (h : slAll (fun i y => y = .no ∨ ∃ d, y = .sh d ∧ ρ[i]? = some (.sh d) ∧ Flat U d) 0 ρe) : ∀ (i : Nat) (x : Sl), ρe[i]? = some x → x = .no ∨ ∃ d, x = .sh d ∧ ρ[i]? = some (.sh d) ∧ Flat U d := fun i x e => slAll_get0 h e
end Mb
set_option Elab.async false
set_option linter.all false
set_option maxRecDepth 100000
set_option maxHeartbeats 4000000
namespace Mb
open PySem PySem.Spec PyProof.Rows L2
/-! ### for n in l: .., l a list that its name owns; in the body the name holds but the place -/
section
variable {U : Wd} {B S H : Hp} {σ : L2.St} {ρ : List Sl} {ds : List D} {i : Nat} {p : Addr} {vs : List V}
theorem Slots.pinOwn (sl : Slots U B S H σ ρ) (eb : Ex B H) (h : ρ[i]? = some (.own ds)) (h1 : σ[i]? = some (some (.ref p))) (h2 : H p = some (.lst vs)) (h4 : B p = none) : Ex (upd B p (.lst vs)) H ∧ Slots U (upd B p (.lst vs)) S H σ (ρ.set i (.sh (.cls p))) := by
  refine ⟨fun a o e => ?_, by rw [List.length_set]; exact sl.len, fun j d hj => ?_, fun j es hj => ?_, fun j k es fs q hj hk aj ak => ?_, sl.nw⟩
  · by_cases q : a = p
    · subst q
      rw [upd_same] at e
      exact h2.trans e
    · rw [upd_ne q] at e
      exact eb _ _ e
  · rcases setGet hj with ⟨rfl, e1, hl⟩ | ⟨ne, hj⟩
    · cases e1
      exact ⟨_, h1, .cls p⟩
    · exact sl.sh j d hj
  · rcases setGet hj with ⟨rfl, e1, hl⟩ | ⟨ne, hj⟩
    · cases e1
    · obtain ⟨q, ws, a1, a2, a3, a4, z, a5⟩ := sl.own j es hj
      have nq : q ≠ p := fun e => ne (sl.sep i j ds es p h hj h1 (e ▸ a1))
      exact ⟨q, ws, a1, a2, a3, by rw [upd_ne nq]; exact a4, z, a5⟩
  · rcases setGet hj with ⟨rfl, e1, hl⟩ | ⟨ne, hj⟩
    · cases e1
    · rcases setGet hk with ⟨rfl, e1, hl⟩ | ⟨ne', hk⟩
      · cases e1
      · exact sl.sep j k es fs q hj hk aj ak
theorem Slots.unpin  (sl : Slots U (upd B p (.lst vs)) S H σ ρ) (h : ρ[i]? = some (.sh (.cls p))) (h2 : H p = some (.lst vs)) (h3 : S p = none) (h4 : B p = none) (z : vs.length ≤ sizeLine) (rl : RepL U S vs ds) : Slots U B S H σ (ρ.set i (.own ds)) := by
  obtain ⟨w, e1, e2⟩ := sl.sh _ _ h
  obtain rfl : w = .ref p := by
    cases e2
    rfl
  have ot : ∀ (j : Nat) (es : List D), ρ[j]? = some (Sl.own es) → ∃ (q : Addr) (ws : List V), σ[j]? = some (some (V.ref q)) ∧ q ≠ p ∧ H q = some (.lst ws) ∧ S q = none ∧ B q = none ∧ ws.length ≤ sizeLine ∧ RepL U S ws es := fun j es hj => by
    obtain ⟨q, ws, a1, a2, a3, a4, z, a5⟩ := sl.own j es hj
    have nq : q ≠ p := fun e => by
      rw [e, upd_same] at a4
      cases a4
    rw [upd_ne nq] at a4
    exact ⟨q, ws, a1, nq, a2, a3, a4, z, a5⟩
  refine ⟨by rw [List.length_set]; exact sl.len, fun j d hj => ?_, fun j es hj => ?_, fun j k es fs q hj hk aj ak => ?_, sl.nw⟩
  · rcases setGet hj with ⟨rfl, e1, hl⟩ | ⟨ne, hj⟩
    · cases e1
    · exact sl.sh j d hj
  · rcases setGet hj with ⟨rfl, e3, hl⟩ | ⟨ne, hj⟩
    · cases e3
      exact ⟨p, vs, e1, h2, h3, h4, z, rl⟩
    · obtain ⟨q, ws, a1, nq, a2, a3, a4, z, a5⟩ := ot j es hj
      exact ⟨q, ws, a1, a2, a3, a4, z, a5⟩
  · rcases setGet hj with ⟨rfl, e3, hl⟩ | ⟨ne, hj⟩
    · rcases setGet hk with ⟨rfl, e4, hl'⟩ | ⟨ne', hk⟩
      · rfl
      · obtain ⟨q', ws, a1, nq, _⟩ := ot k fs hk
        rw [e1] at aj
        cases aj
        rw [a1] at ak
        cases ak
        exact absurd rfl nq
    · rcases setGet hk with ⟨rfl, e4, hl'⟩ | ⟨ne', hk⟩
      · obtain ⟨q', ws, a1, nq, _⟩ := ot j es hj
        rw [e1] at ak
        cases ak
        rw [a1] at aj
        cases aj
        exact absurd rfl nq
      · exact sl.sep j k es fs q hj hk aj ak
end
section
variable {G : Gx} {ρ : List Sl} {R : Oc → Prop} {n nl : Str} {ds : List D} {body : List Stmt} {pn pl pos : Pos}
theorem s_forOwn (h : ρ[G.N.idxOf nl]? = some (.own ds)) (Inv : Addr → Nat → List Sl → Prop) (h0 : ∀ p, Inv p 0 (ρ.set (G.N.idxOf nl) (.sh (.cls p)))) (hl : ∀ p ρ', Inv p ds.length ρ' → ρ'[G.N.idxOf nl]? = some (.sh (.cls p)))
    (hs : ∀ p j d ρ', ds[j]? = some d → Inv p j ρ' → SD G body (ρ'.set (G.N.idxOf n) (.sh d)) (Lp (Inv p (j + 1)) fun _ => False)) (hd : ∀ p ρ', Inv p ds.length ρ' → R (.nx (ρ'.set (G.N.idxOf nl) (.own ds))))
    (hN : G.N.Nodup) (i1 : G.N.idxOf nl < G.N.length) (hx : G.N.idxOf n < G.N.length) (ok : setOk G.sc G.fn n = true) (hv : visB G.sc nl = true) (hok : okName nl = true := by rfl)
    (hf : ∀ env y, foldedSetIterable (.Name nl pl) env y = pure y := by intros; rfl) : S1 G (.For (.Name n pn) (.Name nl pl) body [] pos) ρ R := by
  refine .of (t := fun W => tFor (iList G.U.K (tVar (G.N.idxOf nl))) (gName (G.N.idxOf n)) (tS G W body)) (fun X W k tk => ?_) fun W B S H σ D ex eb sl cn => ?_
  · unfold okName at hok
    rw [Bool.and_eq_true, Bool.not_eq_true', Bool.not_eq_true'] at hok
    have hpi := pi_list (tg := .Name n pn) (pe_var (X := X) (x := nl) (pos := pl) (by rw [k.is.N]; exact ixAt i1) (by rw [k.is.sc]; exact vis_of hv) hok.1 hok.2)
    rw [k.is.K] at hpi
    exact ps_for k.own k.is.calm hpi (pgd hN hx ok X k) (pss_of k tk) (hf _)
  · obtain ⟨p, vs, h1, h2, h3, h4, z, h5⟩ := sl.own _ _ h
    obtain ⟨eb', sl'⟩ := sl.pinOwn eb h h1 h2 h4
    have bu : Ex B (upd B p (.lst vs)) := Ex.new h4
    refine ⟨.ref p, h1, p, rfl, ⟨vs, .of h2⟩, ?_⟩
    refine for_list (K := G.U.K) (a := p) (xs := vs) (fun j σ' H' => ∃ ρ' S', Inv p j ρ' ∧ Go S (upd B p (.lst vs)) S' H' ∧ Slots G.U (upd B p (.lst vs)) S' H' σ' ρ') ⟨_, S, h0 p, ⟨Ex.refl S, ex, eb', fun _ z => .inl z⟩, sl'⟩ (fun j σ' H' _ pv => ?_) (fun j v σ' H' hj pv => ?_) fun σ' H' pv => ?_
    · obtain ⟨ρ', S', _, g, _⟩ := pv
      exact .of (g.bh _ _ upd_same)
    · obtain ⟨ρ', S', inv, g, s'⟩ := pv
      obtain ⟨d, hd', rv⟩ := h5.getV hj
      have s2 := s'.setSh (G.N.idxOf n) (rv.mono g.ss)
      show tS G W body _ (σ'.set (G.N.idxOf n) (some v)) H'
      refine SD.run (hs p j d ρ' hd' inv) W (upd B p (.lst vs)) S' H' _ _ g.sh g.bh s2 ⟨fun ρ3 S3 H3 σ3 r3 g3 s3 => ⟨ρ3, S3, r3, g.transB g3, s3⟩, fun r v S3 H3 r3 g3 s3 => r3.elim, fun ρ3 S3 H3 σ3 r3 g3 s3 => r3.elim, fun ρ3 S3 H3 σ3 r3 g3 s3 => ⟨ρ3, S3, r3, g.transB g3, s3⟩, fun c ρ3 S3 H3 σ3 r3 g3 s3 => r3.elim⟩
    · rw [h5.length] at pv
      obtain ⟨ρ', S', inv, g, s'⟩ := pv
      have nS : S' p = none := by
        cases q : S' p with
        | none => rfl
        | some o =>
          rcases g.nw p (by rw [q]; exact fun z => nomatch z) with e | e
          · exact absurd h3 e
          · rw [upd_same] at e
            cases e
      have hp' := g.bh _ _ upd_same
      exact cn.nx _ S' H' σ' (hd p ρ' inv) ⟨g.ss, g.sh, bu.trans g.bh, fun a e => (g.nw a e).elim .inl fun q => .inr (bu.back q)⟩ (Slots.unpin s' (hl p ρ' inv) hp' nS h4 z (h5.mono g.ss))
end
end Mb
set_option Elab.async false
set_option linter.all false
set_option maxRecDepth 100000
set_option maxHeartbeats 4000000
namespace Mb
open PySem PySem.Spec PyProof.Rows L2
/-! ### try .. except .. -/
/-- a handler's suite, walked while the exception at a is in hand -/
def tH (G : Gx) (suite : List Stmt) (a : Addr) (cls : Value) (d : Option Addr) : TS := fun D σ H => ∀ (X : Cx) (oe : Obj) (pn : List (Addr × Obj)), G.iss X → Zc cls d oe → (∃ vs, oe.data = .fields vs) → ∀ pins s, Inv (X.suite a ((a, oe) :: pn)) pins σ H s → wpAny (model (X.suite a ((a, oe) :: pn)).prog (X.suite a ((a, oe) :: pn)).w) (X.suite a ((a, oe) :: pn)).A (execs suite (X.suite a ((a, oe) :: pn)).env) (SP (X.suite a ((a, oe) :: pn)) pins D) (X.suite a ((a, oe) :: pn)).xe s
theorem pss_tH {G : Gx} {X : Cx} {suite : List Stmt} {a : Addr} {cls : Value} {d : Option Addr} {oe : Obj} {pn : List (Addr × Obj)} (h : G.iss X) (hz : Zc cls d oe) (hf : ∃ vs, oe.data = .fields vs) : PSs (X.suite a ((a, oe) :: pn)) suite (tH G suite a cls d) := ⟨fun pins s σ H D I q => q X oe pn h hz hf pins s I⟩
/-- the end of a suite whose error has the name of slot i -/
def Ends.cut (D : Ends) (i : Nat) : Ends := { nx := fun σ' H' => D.nx (σ'.set i none) H', rt := D.rt, bk := fun σ' H' => D.bk (σ'.set i none) H', ct := fun σ' H' => D.ct (σ'.set i none) H' }
/-- a suite without a name for an error of class c -/
structure HD (G : Gx) (suite : List Stmt) (c : Addr) (ρ : List Sl) (R : Oc → Prop) : Prop where
  run : ∀ (B S H : Hp) (σ : L2.St) (D : Ends) (W : WX) (a : Addr), Ex S H → Ex B H → Slots G.U B S H σ ρ → Cn G.U S B R D W → H a = none → tH G suite a (.ref c) none D σ H
/-- a suite whose error has the name of slot i -/
structure HA (G : Gx) (i : Nat) (suite : List Stmt) (c : Addr) (ρ : List Sl) (R : Oc → Prop) : Prop where
  run : ∀ (B S H : Hp) (σ : L2.St) (D : Ends) (W : WX) (a : Addr), Ex S H → Ex B H → Slots G.U B S H σ ρ → Cn G.U S B R D W → H a = none → tH G suite a (.ref c) none (Ends.cut D i) (σ.set i (some (.ref a))) H
/-- what the body of a try is to reach -/
def TryO (R : Oc → Prop) (h : Addr → List Sl → Prop) : Oc → Prop
  | .ex c ρ => h c ρ
  | o => R o
/-- the class of an except clause -/
def NmG (G : Gx) (x : Str) (c : Value) : Prop := GlN G x ∧ (x == ("__debug__" : Str)) = false ∧ (G.U.mg x = some c ∨ (G.U.mg x = none ∧ bootBuiltins x = some c ∧ x ≠ "__name__"))
theorem NmG.own {G : Gx} {x : Str} {C : Addr} (T : ExT G.U x C) (hg : GlN G x) (hd : (x == ("__debug__" : Str)) = false := by rfl) : NmG G x (.ref C) := ⟨hg, hd, .inl T.g⟩
theorem NmG.names {G : Gx} {x : Str} {c : Value} {X : Cx} (h : NmG G x c) (hX : G.is X) : Names X x c := by
  obtain ⟨h1, h2, h3⟩ := h
  refine ⟨gl_of hX h1, h2, ?_⟩
  rw [hX.mg]
  exact h3
theorem iss_tr {G : Gx} {X : Cx} (h : G.iss X) {pn : List (Addr × Obj)} {xe : Value → Shared → Prop} (hp : PassesOwn (model X.prog X.w) X.A X.env xe) : G.iss (X.tr pn xe) := ⟨⟨h.is.prog, h.is.w, h.is.K, h.is.mg, h.is.base, h.is.N, h.is.sc, h.is.fn, h.is.calm, h.is.room⟩, hp, h.stack, h.frame⟩
section
variable {G : Gx} {ρ : List Sl} {R : Oc → Prop} {x n : Str} {body suite : List Stmt} {b₀ : Stmt} {np pos pos' : Pos} {cv : Value}
/-- try: body except x: suite -/
theorem s_try (hc : NmG G x cv) (hb : SD G body ρ (TryO R fun c ρ' => ∃ b, PySem.W.exmOne G.U.K (.ref c) cv = some b ∧ (b = true → HD G (b₀ :: suite) c ρ' R) ∧ (b = false → R (.ex c ρ')))) :
    S1 G (.Try body [.ExceptHandler (some (.Name x np)) none (b₀ :: suite) pos'] [] [] pos) ρ R := by
  refine .of (t := fun W D σ H => tS G (wOnly G.U.K cv (tH G (b₀ :: suite)) W D) body D σ H) (fun X W h tk => ?_) fun W B S H σ D ex eb sl cn => ?_
  · have := ps_try_only (X := X) (np := np) (pos := pos) (pos' := pos') (tb := fun W => tS G W body) (ts := tH G (b₀ :: suite)) h.stack h.frame (hc.names h.is) tk (fun W pn xe tk' hp => pss_of (iss_tr h hp) tk') (fun a oe cls d pn hz hf => pss_tH h hz hf)
    rw [h.is.K] at this
    exact this
  · refine hb.run _ B S H σ D ex eb sl ⟨fun a b c d e f g => cn.nx a b c d e f g, fun a b c d e f g => cn.rt a b c d e f g, fun a b c d e f g => cn.bk a b c d e f g, fun a b c d e f g => cn.ct a b c d e f g, fun c ρ' S' H' σ' r g s' => ?_⟩
    obtain ⟨b, e1, h1, h2⟩ := r
    exact ⟨b, e1, fun hb a na => (h1 hb).run B S' H' σ' D W a g.sh g.bh s' (cn.go g) na, fun hb => cn.ex c ρ' S' H' σ' (h2 hb) g s'⟩
/-- try: body except x as n: suite -/
theorem s_tryA (hc : NmG G x cv) (hb : SD G body ρ (TryO R fun c ρ' => ∃ b, PySem.W.exmOne G.U.K (.ref c) cv = some b ∧ (b = true → HA G (G.N.idxOf n) (b₀ :: suite) c ρ' R) ∧ (b = false → R (.ex c ρ'))))
    (hN : G.N.Nodup) (hi : G.N.idxOf n < G.N.length) (hl : G.sc.names.lookup n = some .local) :
    S1 G (.Try body [.ExceptHandler (some (.Name x np)) (some n) (b₀ :: suite) pos'] [] [] pos) ρ R := by
  refine .of (t := fun W D σ H => tS G (wAs G.U.K cv (G.N.idxOf n) (tH G (b₀ :: suite)) W D) body D σ H) (fun X W h tk => ?_) fun W B S H σ D ex eb sl cn => ?_
  · have := ps_try_as (X := X) (n := n) (i := G.N.idxOf n) (np := np) (pos := pos) (pos' := pos') (tb := fun W => tS G W body) (ts := tH G (b₀ :: suite)) h.stack h.frame (by rw [h.is.N]; exact hN) (by rw [h.is.N]; exact ixAt hi) (by show X.env.scope.names.lookup n = _; rw [h.is.sc]; exact hl) (hc.names h.is) tk (fun W pn xe tk' hp => pss_of (iss_tr h hp) tk') (fun a oe cls d pn hz hf => pss_tH h hz hf)
    rw [h.is.K] at this
    exact this
  · refine hb.run _ B S H σ D ex eb sl ⟨fun a b c d e f g => cn.nx a b c d e f g, fun a b c d e f g => cn.rt a b c d e f g, fun a b c d e f g => cn.bk a b c d e f g, fun a b c d e f g => cn.ct a b c d e f g, fun c ρ' S' H' σ' r g s' => ?_⟩
    obtain ⟨b, e1, h1, h2⟩ := r
    exact ⟨b, e1, fun hb a na => (h1 hb).run B S' H' σ' D W a g.sh g.bh s' (cn.go g) na, fun hb => cn.ex c ρ' S' H' σ' (h2 hb) g s'⟩
end
/-- what the clauses, one after the other, are to reach of an error of class c -/
def HsO (G : Gx) (R : Oc → Prop) (c : Addr) (ρ' : List Sl) : List (Value × List Stmt) → Prop
  | [] => R (.ex c ρ')
  | (cv, suite) :: l => ∃ b, PySem.W.exmOne G.U.K (.ref c) cv = some b ∧ (b = true → HD G suite c ρ' R) ∧ (b = false → HsO G R c ρ' l)
/-- the clauses as they are written -/
inductive Hnd (G : Gx) : List ExceptHandler → List (Value × List Stmt) → Prop
  | nil : Hnd G [] []
  | cons {x : Str} {cv : Value} {b₀ : Stmt} {suite : List Stmt} {np pos' : Pos} {hds : List ExceptHandler} {l : List (Value × List Stmt)} (hc : NmG G x cv) (r : Hnd G hds l) : Hnd G (.ExceptHandler (some (.Name x np)) none (b₀ :: suite) pos' :: hds) ((cv, b₀ :: suite) :: l)
theorem Hnd.ok {G : Gx} {X : Cx} (h : G.iss X) : ∀ {hds : List ExceptHandler} {l : List (Value × List Stmt)}, Hnd G hds l → HdsOk X hds (l.map fun p => (p.1, tH G p.2))
  | _, _, .nil => .nil
  | _, _, .cons hc r => .cons (hc.names h.is) (fun a oe cls d pn hz hf => pss_tH h hz hf) (Hnd.ok h r)
theorem s_tryM {G : Gx} {ρ : List Sl} {R : Oc → Prop} {body : List Stmt} {h₀ : ExceptHandler} {hds : List ExceptHandler} {pos : Pos} {l : List (Value × List Stmt)} (hh : Hnd G (h₀ :: hds) l) (hb : SD G body ρ (TryO R fun c ρ' => HsO G R c ρ' l)) : S1 G (.Try body (h₀ :: hds) [] [] pos) ρ R := by
  refine .of (t := fun W D σ H => tS G (wMany G.U.K W D (l.map fun p => (p.1, tH G p.2))) body D σ H) (fun X W h tk => ?_) fun W B S H σ D ex eb sl cn => ?_
  · have := ps_try_many (X := X) (pos := pos) (tb := fun W => tS G W body) h.stack h.frame tk (fun W pn xe tk' hp => pss_of (iss_tr h hp) tk') (hh.ok h)
    rw [h.is.K] at this
    exact this
  · refine hb.run _ B S H σ D ex eb sl ⟨fun a b c d e f g => cn.nx a b c d e f g, fun a b c d e f g => cn.rt a b c d e f g, fun a b c d e f g => cn.bk a b c d e f g, fun a b c d e f g => cn.ct a b c d e f g, fun c ρ' S' H' σ' r g s' => ?_⟩
    have go : ∀ l : List (Value × List Stmt), HsO G R c ρ' l → wMany G.U.K W D (l.map fun p => (p.1, tH G p.2)) (.ref c) none σ' H' := by
      intro l
      induction l with
      | nil => exact fun r => cn.ex c ρ' S' H' σ' r g s'
      | cons p l ih =>
        intro r
        obtain ⟨cv, suite⟩ := p
        obtain ⟨b, e1, h1, h2⟩ := r
        exact ⟨b, e1, fun hb a na => (h1 hb).run B S' H' σ' D W a g.sh g.bh s' (cn.go g) na, fun hb => ih (h2 hb)⟩
    exact go l r
/-! suites that hand back what is written -/
section
variable {G : Gx} {ρ : List Sl} {R : Oc → Prop} {e : Expr} {pos : Pos} {c : Addr} {i : Nat} {v : V} {d : D}
theorem hd_ret (hv : ∀ X : Cx, PE X e (tC v)) (hr : ∀ S, Rep G.U S v d) (hR : R (.rt (.sh d))) : HD G [.Return (some e) pos] c ρ R := ⟨fun B S H σ D W a ex eb sl cn na X oe pn hX hz hf pins s I =>
  (pss_one (ps_ret (hv _))).run pins s σ H D I (cn.rt (.sh d) v S H hR ⟨Ex.refl S, ex, eb, fun _ z => .inl z⟩ (hr S))⟩
theorem ha_ret (hv : ∀ X : Cx, PE X e (tC v)) (hr : ∀ S, Rep G.U S v d) (hR : R (.rt (.sh d))) : HA G i [.Return (some e) pos] c ρ R := ⟨fun B S H σ D W a ex eb sl cn na X oe pn hX hz hf pins s I =>
  (pss_one (ps_ret (hv _))).run pins s _ H _ I (cn.rt (.sh d) v S H hR ⟨Ex.refl S, ex, eb, fun _ z => .inl z⟩ (hr S))⟩
end
/-! expressions in a suite: plain values -/
/-- the own error classes, asked by isinstance -/
def rIsET (K : PySem.W.Frag) (D a : Addr) : List V → Hp → VK → Prop := fun xs H Q => ∃ (tp : Addr) (cs : List V) (us : List Value) (b : Bool), xs = [.ref a, .ref tp] ∧ H tp = some (.tup cs) ∧ Paired ClsV cs us ∧ PySem.W.kitAny K (.ref D) us = some b ∧ Q (.bl b) H
theorem call_isET {X : Cx} {a D : Addr} {oe : Obj} {pn : List (Addr × Obj)} (C : ExcC X.K D) (hz : Zc (.ref D) none oe) (hf : ∃ vs, oe.data = .fields vs) : CallR (X.suite a ((a, oe) :: pn)) (.builtin "isinstance") (rIsET X.K D a) := by
  intro pins s σ H xs us Q I r h
  obtain ⟨tp, cs, ws, b, rfl, hT, k, e, q⟩ := h
  obtain ⟨u1, u2, rfl, r1, r2⟩ := vals2 r
  cases (show u2 = Value.ref tp from r2)
  cases (show u1 = Value.ref a from r1)
  obtain ⟨hget, _⟩ := I.pin (a, oe) (List.mem_append.mpr (.inl List.mem_cons_self))
  obtain ⟨vs, hv⟩ := hf
  have J : PySem.W.InstAt s.heap a oe D none := by
    obtain ⟨oc, od, oda, osl⟩ := oe
    obtain ⟨h1, h2⟩ := hz
    dsimp only at h1 h2 hv
    subst h1 h2 hv
    exact ⟨hget, rfl, rfl, trivial⟩
  obtain ⟨_, its, rv, o, h1, h2, n, h3⟩ := (show ObjOk (X.suite a ((a, oe) :: pn)).prog (X.suite a ((a, oe) :: pn)).w H s.heap tp (.tup cs) from I.hok tp _ hT)
  have e3 := ClsV.all k rv
  subst e3
  obtain ⟨oc, od, dt, sl⟩ := o
  simp only at h2 h3
  subst h2 h3
  exact PySem.W.kia_tup (PySem.W.handS_kitx_exc C.hg C.hk C.hs C.hd C.ha C.hn C.ht C.hm) I.kIn J h1 e (fun z => nomatch z) fun tk => ⟨.bl b, H, I.tok tk, rfl, q⟩
theorem gl_su {G : Gx} {X : Cx} {x : Str} {a : Addr} {pn : List (Addr × Obj)} (hX : G.iss X) (hg : GlN G x) : Gl (X.suite a pn) x := (gl_of hX.is hg : Gl X x)
structure EH (G : Gx) (c : Addr) (κ : Addr → Nat → Option V) (e : Expr) (v : V) : Prop where
  run : ∀ (X : Cx) (oe : Obj) (pn : List (Addr × Obj)) (a : Addr), G.iss X → Zc (.ref c) none oe → (∃ vs, oe.data = .fields vs) → ∃ te : TE, PE (X.suite a ((a, oe) :: pn)) e te ∧ ∀ (σ : L2.St) (H : Hp) (Q : VK), (∀ j w, κ a j = some w → σ[j]? = some (some w)) → (∀ H', Ex H H' → Q v H') → te σ H Q
/-- a class as it is written: its name, its value -/
structure ClN (G : Gx) (x : Str) (w : V) (u : Value) : Prop where
  g : GlN G x
  d : (x == ("__debug__" : Str)) = false
  m : G.U.mg x = some u ∨ (G.U.mg x = none ∧ bootBuiltins x = some u ∧ x ≠ "__name__")
  v : ClsV w u
  r : RelV w u
theorem ClN.pe {G : Gx} {x : Str} {w : V} {u : Value} (h : ClN G x w u) {X : Cx} {a : Addr} {pn : List (Addr × Obj)} (hX : G.iss X) {p : Pos} : PE (X.suite a pn) (.Name x p) (tC w) := by
  rcases h.m with e | ⟨e1, e2, e3⟩
  · exact pe_glob (gl_su hX h.g) (by show X.mg x = _; rw [hX.is.mg]; exact e) h.r h.d
  · exact pe_bltn (gl_su hX h.g) (by show X.mg x = _; rw [hX.is.mg]; exact e1) e2 h.r e3 h.d
theorem ClN.own {G : Gx} {x : Str} {C : Addr} (T : ExT G.U x C) (hg : GlN G x) (hd : (x == ("__debug__" : Str)) = false := by rfl) : ClN G x (.ref C) (.ref C) := ⟨hg, hd, .inl T.g, .own C, rfl⟩
section
variable {G : Gx} {c : Addr} {κ : Addr → Nat → Option V} {e f : Expr} {v w : V} {pos p p1 p2 : Pos} {n x : Str} {u : Value} {b : Bool} {i : Nat}
theorem eh_var (h : ∀ a, κ a (G.N.idxOf n) = some v) (hi : G.N.idxOf n < G.N.length) (hv : visB G.sc n = true) (hok : okName n = true := by rfl) : EH G c κ (.Name n pos) v := ⟨fun X oe pn a hX hz hf => by
  unfold okName at hok
  rw [Bool.and_eq_true, Bool.not_eq_true', Bool.not_eq_true'] at hok
  exact ⟨_, pe_var (X := X.suite a ((a, oe) :: pn)) (by show X.N[_]? = _; rw [hX.is.N]; exact ixAt hi) (by show Vis X.env.scope n; rw [hX.is.sc]; exact vis_of hv) hok.1 hok.2, fun σ H Q k q => ⟨v, k _ _ (h a), q H (Ex.refl H)⟩⟩⟩
/-- isinstance(n, x), n the error -/
theorem eh_isi (C : ExcC G.U.K c) (h : ∀ a, κ a (G.N.idxOf n) = some (.ref a)) (hi : G.N.idxOf n < G.N.length) (hv : visB G.sc n = true) (hx : ClN G x w u) (hk : PySem.W.kitOne G.U.K (.ref c) u = some b) (hg : GlN G "isinstance") (hm : G.U.mg "isinstance" = none) (hok : okName n = true := by rfl) :
    EH G c κ (.Call (.Name "isinstance" p) [.Name n p1, .Name x p2] [] pos) (.bl b) := ⟨fun X oe pn a hX hz hf => by
  unfold okName at hok
  rw [Bool.and_eq_true, Bool.not_eq_true', Bool.not_eq_true'] at hok
  have hn := pe_var (X := X.suite a ((a, oe) :: pn)) (pos := p1) (by show X.N[_]? = _; rw [hX.is.N]; exact ixAt hi) (by show Vis X.env.scope n; rw [hX.is.sc]; exact vis_of hv) hok.1 hok.2
  have K : X.K = G.U.K := hX.is.K
  refine ⟨_, pe_callB (call_isE (by rw [K]; exact C) hz hf) (gl_su hX hg) (by show X.mg _ = _; rw [hX.is.mg]; exact hm) (by decide +kernel) (pa_cons hn (pa_cons (hx.pe hX) pa_nil)), fun σ H Q k q => ?_⟩
  refine ⟨.ref a, k _ _ (h a), w, u, b, rfl, fun u' r => hx.v.eq r, by rw [K]; exact hk, q H (Ex.refl H)⟩⟩
theorem eh_not (h : EH G c κ e (.bl b)) : EH G c κ (.UnaryOp .Not e pos) (.bl (!b)) := ⟨fun X oe pn a hX hz hf => by
  obtain ⟨te, h1, h2⟩ := h.run X oe pn a hX hz hf
  exact ⟨_, pe_not h1, fun σ H Q k q => h2 σ H _ k fun H' e => ⟨b, rfl, q H' e⟩⟩⟩
theorem eh_one {op} (h : EH G c κ e v) : EH G c κ (.BoolOp op [e] pos) v := ⟨fun X oe pn a hX hz hf => by
  obtain ⟨te, h1, h2⟩ := h.run X oe pn a hX hz hf
  exact ⟨_, pe_one h1, h2⟩⟩
theorem eh_and {rest : List Expr} {b' : Bool} (h : EH G c κ e (.bl b)) (k : EH G c κ (.BoolOp .And (f :: rest) pos) (.bl b')) : EH G c κ (.BoolOp .And (e :: f :: rest) pos) (.bl (b && b')) := ⟨fun X oe pn a hX hz hf => by
  obtain ⟨te, h1, h2⟩ := h.run X oe pn a hX hz hf
  obtain ⟨te', k1, k2⟩ := k.run X oe pn a hX hz hf
  refine ⟨_, pe_and h1 k1, fun σ H Q k q => h2 σ H _ k fun H' e => ⟨b, rfl, ?_⟩⟩
  cases b with
  | false => exact q H' e
  | true => exact k2 σ H' _ k fun H'' e' => q H'' (e.trans e')⟩
theorem eh_or {rest : List Expr} {b' : Bool} (h : EH G c κ e (.bl b)) (k : EH G c κ (.BoolOp .Or (f :: rest) pos) (.bl b')) : EH G c κ (.BoolOp .Or (e :: f :: rest) pos) (.bl (b || b')) := ⟨fun X oe pn a hX hz hf => by
  obtain ⟨te, h1, h2⟩ := h.run X oe pn a hX hz hf
  obtain ⟨te', k1, k2⟩ := k.run X oe pn a hX hz hf
  refine ⟨_, pe_or h1 k1, fun σ H Q k q => h2 σ H _ k fun H' e => ⟨b, rfl, ?_⟩⟩
  cases b with
  | true => exact q H' e
  | false => exact k2 σ H' _ k fun H'' e' => q H'' (e.trans e')⟩
/-- a suite that hands back such a value -/
theorem ha_eret {ρ : List Sl} {R : Oc → Prop} {d : D} (he : EH G c (fun a j => if j = i then some (.ref a) else none) e v) (hl : i < ρ.length) (hr : ∀ S, Rep G.U S v d) (hR : R (.rt (.sh d))) : HA G i [.Return (some e) pos] c ρ R := ⟨fun B S H σ D W a ex eb sl cn na X oe pn hX hz hf pins s I => by
  obtain ⟨te, h1, h2⟩ := he.run X oe pn a hX hz hf
  refine (pss_one (ps_ret h1)).run pins s _ H _ I ?_
  refine h2 _ H _ (fun j w hj => ?_) fun H' e => ?_
  · by_cases q : j = i
    · subst q
      rw [if_pos rfl] at hj
      cases hj
      exact List.getElem?_set_self (by rw [sl.len]; exact hl)
    · rw [if_neg q] at hj
      cases hj
  · exact cn.rt (.sh d) v S H' hR ⟨Ex.refl S, ex.trans e, eb.trans e, fun _ z => .inl z⟩ (hr S)⟩
/-- isinstance(n, (x, y, z)) -/
theorem eh_isi3 {x1 x2 x3 : Str} {w1 w2 w3 : V} {u1 u2 u3 : Value} {p3 p4 p5 : Pos} {k' : Nat} (C : ExcC G.U.K c) (h : ∀ a, κ a (G.N.idxOf n) = some (.ref a)) (hi : G.N.idxOf n < G.N.length) (hv : visB G.sc n = true) (hx1 : ClN G x1 w1 u1) (hx2 : ClN G x2 w2 u2) (hx3 : ClN G x3 w3 u3) (hk : PySem.W.kitAny G.U.K (.ref c) [u1, u2, u3] = some b) (hg : GlN G "isinstance") (hm : G.U.mg "isinstance" = none) (hok : okName n = true := by rfl) :
    EH G c κ (.Call (.Name "isinstance" p) [.Name n p1, .Tuple [.Name x1 p3, .Name x2 p4, .Name x3 p5] k' p2] [] pos) (.bl b) := ⟨fun X oe pn a hX hz hf => by
  unfold okName at hok
  rw [Bool.and_eq_true, Bool.not_eq_true', Bool.not_eq_true'] at hok
  have hn := pe_var (X := X.suite a ((a, oe) :: pn)) (pos := p1) (by show X.N[_]? = _; rw [hX.is.N]; exact ixAt hi) (by show Vis X.env.scope n; rw [hX.is.sc]; exact vis_of hv) hok.1 hok.2
  have K : X.K = G.U.K := hX.is.K
  refine ⟨_, pe_callB (call_isET (by rw [K]; exact C) hz hf) (gl_su hX hg) (by show X.mg _ = _; rw [hX.is.mg]; exact hm) (by decide +kernel) (pa_cons hn (pa_cons (pe_tup (pa_cons (hx1.pe hX) (pa_cons (hx2.pe hX) (pa_cons (hx3.pe hX) pa_nil)))) pa_nil)), fun σ H Q k q => ?_⟩
  refine ⟨.ref a, k _ _ (h a), by show 3 ≤ sizeLine; rw [sizeLine_eq]; omega, fun t ht => ?_⟩
  exact ⟨t, _, [u1, u2, u3], b, rfl, upd_same, .cons hx1.v (.cons hx2.v (.cons hx3.v .nil)), by rw [K]; exact hk, q _ (Ex.new ht)⟩⟩
end
end Mb
set_option Elab.async false
set_option linter.all false
set_option maxRecDepth 100000
set_option maxHeartbeats 4000000
namespace Mb
open PySem PySem.Spec PyProof.Rows L2
/-! ### cells: lists that are changed, whoever holds them -/
abbrev Cl := Addr × List D
abbrev kA (κ : List Cl) : List Addr := κ.map (·.1)
def plusK (B H : Hp) (as : List Addr) : Hp := fun a => if a ∈ as then H a else B a
def minusK (H : Hp) (as : List Addr) : Hp := fun a => if a ∈ as then none else H a
section
variable {B S H S' H' : Hp} {as : List Addr} {a : Addr}
theorem plusK_in (h : a ∈ as) : plusK B H as a = H a := if_pos h
theorem plusK_out (h : a ∉ as) : plusK B H as a = B a := if_neg h
theorem minusK_in (h : a ∈ as) : minusK H as a = none := if_pos h
theorem minusK_out (h : a ∉ as) : minusK H as a = H a := if_neg h
theorem plusK_nil : plusK B H [] = B := funext fun a => plusK_out List.not_mem_nil
theorem minusK_nil : minusK H [] = H := funext fun a => minusK_out List.not_mem_nil
theorem plusK_ex (e : Ex B H) : Ex (plusK B H as) H := fun a o h => by
  by_cases q : a ∈ as
  · rw [plusK_in q] at h
    exact h
  · rw [plusK_out q] at h
    exact e _ _ h
theorem minusK_ex : Ex (minusK H as) H := fun a o h => by
  by_cases q : a ∈ as
  · rw [minusK_in q] at h
    cases h
  · rw [minusK_out q] at h
    exact h
theorem minusK_mono (e : Ex H H') : Ex (minusK H as) (minusK H' as) := fun a o h => by
  by_cases q : a ∈ as
  · rw [minusK_in q] at h
    cases h
  · rw [minusK_out q] at h ⊢
    exact e _ _ h
end
/-- the cells as they stand -/
structure CS (U : Wd) (B S H : Hp) (κ : List Cl) : Prop where
  nd : (kA κ).Nodup
  at_ : ∀ c ∈ κ, S c.1 = none ∧ B c.1 = none ∧ ∃ vs, H c.1 = some (.lst vs) ∧ vs.length ≤ sizeLine ∧ RepL U S vs c.2
section
variable {U : Wd} {B S H S' H' : Hp} {κ κ' : List Cl} {σ : L2.St} {ρ ρ' : List Sl} {a : Addr} {v : V} {r : Rs}
theorem CS.mem (c : CS U B S H κ) (h : a ∈ kA κ) : S a = none ∧ B a = none ∧ ∃ vs, H a = some (.lst vs) := by
  obtain ⟨p, hp, rfl⟩ := List.mem_map.mp h
  obtain ⟨h1, h2, vs, h3, _⟩ := c.at_ p hp
  exact ⟨h1, h2, vs, h3⟩
theorem CS.some_ (c : CS U B S H κ) (h : a ∈ kA κ) : H a ≠ none := by
  obtain ⟨_, _, vs, e⟩ := c.mem h
  rw [e]
  exact fun z => nomatch z
theorem CS.nil : CS U B S H [] := ⟨List.nodup_nil, fun c h => nomatch h⟩
theorem CS.go (c : CS U B S H κ) (eb : Ex B H) (g : Go S (plusK B H (kA κ)) S' H') : CS U B S' H' κ ∧ plusK B H' (kA κ) = plusK B H (kA κ) ∧ Go S B S' H' := by
  have e1 : ∀ a ∈ kA κ, H' a = H a := fun a ha => by
    obtain ⟨_, _, vs, e⟩ := c.mem ha
    rw [e]
    refine g.bh _ _ ?_
    rw [plusK_in ha]
    exact e
  have e2 : ∀ a ∈ kA κ, S' a = none := fun a ha => by
    cases q : S' a with
    | none => rfl
    | some o =>
      rcases g.nw a (by rw [q]; exact fun z => nomatch z) with z | z
      · exact absurd (c.mem ha).1 z
      · rw [plusK_in ha] at z
        exact absurd z (c.some_ ha)
  refine ⟨⟨c.nd, fun p hp => ?_⟩, funext fun a => ?_, g.ss, g.sh, fun a o h => ?_, fun a h => ?_⟩
  · obtain ⟨h1, h2, vs, h3, z, h4⟩ := c.at_ p hp
    have ha : p.1 ∈ kA κ := List.mem_map.mpr ⟨p, hp, rfl⟩
    exact ⟨e2 _ ha, h2, vs, (e1 _ ha).trans h3, z, h4.mono g.ss⟩
  · by_cases q : a ∈ kA κ
    · rw [plusK_in q, plusK_in q, e1 a q]
    · rw [plusK_out q, plusK_out q]
  · have q : a ∉ kA κ := fun q => by
      rw [(c.mem q).2.1] at h
      cases h
    refine g.bh _ _ ?_
    rw [plusK_out q]
    exact h
  · by_cases q : a ∈ kA κ
    · exact absurd (e2 a q) h
    · have := g.nw a h
      rw [plusK_out q] at this
      exact this
/-- a step that may have changed the cells -/
theorem CS.next (c : CS U B S H κ) (eb : Ex B H) (sl : Slots U (plusK B H (kA κ)) S H σ ρ) (g : Go S (minusK H (kA κ)) S' H') (c' : CS U (minusK H (kA κ)) S' H' κ') (ka : ∀ a ∈ kA κ, a ∈ kA κ') (kn : ∀ a ∈ kA κ', a ∈ kA κ ∨ H a = none) :
    Go S B S' H' ∧ Slots U (plusK B H' (kA κ')) S' H' σ ρ ∧ CS U B S' H' κ' := by
  have hb : ∀ a ∈ kA κ', B a = none := fun a ha => by
    rcases kn a ha with h | h
    · exact (c.mem h).2.1
    · exact eb.back h
  refine ⟨⟨g.ss, g.sh, fun a o h => ?_, fun a h => ?_⟩, ⟨sl.len, fun i d h => ?_, fun i ds h => ?_, sl.sep, fun a h => ?_⟩, ⟨c'.nd, fun p hp => ?_⟩⟩
  · have q : a ∉ kA κ := fun q => by
      rw [(c.mem q).2.1] at h
      cases h
    refine g.bh _ _ ?_
    rw [minusK_out q]
    exact eb _ _ h
  · rcases g.nw a h with z | z
    · exact .inl z
    · by_cases q : a ∈ kA κ
      · exact .inr (c.mem q).2.1
      · rw [minusK_out q] at z
        exact .inr (eb.back z)
  · obtain ⟨v, h1, h2⟩ := sl.sh i d h
    exact ⟨v, h1, h2.mono g.ss⟩
  · obtain ⟨p, vs, h1, h2, h3, h4, z, h5⟩ := sl.own i ds h
    have q : p ∉ kA κ := fun q => by
      rw [plusK_in q, h2] at h4
      cases h4
    rw [plusK_out q] at h4
    have h2' : minusK H (kA κ) p = some (.lst vs) := by rw [minusK_out q]; exact h2
    have q' : p ∉ kA κ' := fun q' => by
      rcases kn p q' with h | h
      · exact q h
      · rw [h2] at h
        cases h
    refine ⟨p, vs, h1, g.bh _ _ h2', ?_, by rw [plusK_out q']; exact h4, z, h5.mono g.ss⟩
    cases e : S' p with
    | none => rfl
    | some o =>
      rcases g.nw p (by rw [e]; exact fun z => nomatch z) with z | z
      · exact absurd h3 z
      · rw [h2'] at z
        cases z
  · by_cases q : a ∈ kA κ
    · exact absurd h (c'.some_ (ka a q))
    · refine sl.nw a ?_
      cases e : H a with
      | none => rfl
      | some o =>
        rw [g.bh a o (by rw [minusK_out q]; exact e)] at h
        cases h
  · obtain ⟨h1, _, h3⟩ := c'.at_ p hp
    exact ⟨h1, hb _ (List.mem_map.mpr ⟨p, hp, rfl⟩), h3⟩
end
/-! statements -/
inductive Oj where
  | nx (ρ : List Sl) (κ : List Cl) | rt (r : Rs) (κ : List Cl) | bk (ρ : List Sl) (κ : List Cl) | ct (ρ : List Sl) (κ : List Cl) | ex (c : Addr) (ρ : List Sl) (κ : List Cl)
structure CnK (U : Wd) (S B : Hp) (R : Oj → Prop) (D : Ends) (W : WX) : Prop where
  nx : ∀ ρ' κ' S' H' σ', R (.nx ρ' κ') → Go S B S' H' → Slots U (plusK B H' (kA κ')) S' H' σ' ρ' → CS U B S' H' κ' → D.nx σ' H'
  rt : ∀ r κ' v S' H', R (.rt r κ') → Go S B S' H' → RepR U (plusK B H' (kA κ')) S' H' v r → CS U B S' H' κ' → D.rt v H'
  bk : ∀ ρ' κ' S' H' σ', R (.bk ρ' κ') → Go S B S' H' → Slots U (plusK B H' (kA κ')) S' H' σ' ρ' → CS U B S' H' κ' → D.bk σ' H'
  ct : ∀ ρ' κ' S' H' σ', R (.ct ρ' κ') → Go S B S' H' → Slots U (plusK B H' (kA κ')) S' H' σ' ρ' → CS U B S' H' κ' → D.ct σ' H'
  ex : ∀ c ρ' κ' S' H' σ', R (.ex c ρ' κ') → Go S B S' H' → Slots U (plusK B H' (kA κ')) S' H' σ' ρ' → CS U B S' H' κ' → W (.ref c) none σ' H'
theorem CnK.go {U : Wd} {S B S1 H1 : Hp} {R : Oj → Prop} {D : Ends} {W : WX} (c : CnK U S B R D W) (g : Go S B S1 H1) : CnK U S1 B R D W :=
  ⟨fun a k b d e f h => c.nx a k b d e f (g.transB h), fun a k b d e f h => c.rt a k b d e f (g.transB h), fun a k b d e f h => c.bk a k b d e f (g.transB h), fun a k b d e f h => c.ct a k b d e f (g.transB h), fun a k b d e i f h => c.ex a k b d e i f (g.transB h)⟩
structure SK (G : Gx) (ss : List Stmt) (ρ : List Sl) (κ : List Cl) (R : Oj → Prop) : Prop where
  run : ∀ (W : WX) (B S H : Hp) (σ : L2.St) (D : Ends), Ex S H → Ex B H → Slots G.U (plusK B H (kA κ)) S H σ ρ → CS G.U B S H κ → CnK G.U S B R D W → tS G W ss D σ H
structure SK1 (G : Gx) (st : Stmt) (ρ : List Sl) (κ : List Cl) (R : Oj → Prop) : Prop where
  run : ∀ (W : WX) (B S H : Hp) (σ : L2.St) (D : Ends), Ex S H → Ex B H → Slots G.U (plusK B H (kA κ)) S H σ ρ → CS G.U B S H κ → CnK G.U S B R D W → tS1 G W st D σ H
def SqK (G : Gx) (ss : List Stmt) (R : Oj → Prop) : Oj → Prop
  | .nx ρ κ => SK G ss ρ κ R
  | o => R o
section
variable {G : Gx} {ss : List Stmt} {st : Stmt} {ρ ρ' : List Sl} {κ κ' : List Cl} {R R' : Oj → Prop} {e c : Expr} {es : List Expr} {pos : Pos} {r : Rs}
theorem sk_nil (h : R (.nx ρ κ)) : SK G [] ρ κ R := ⟨fun W B S H σ D ex eb sl cs cn X hX tk pins s I => pss_nil.run pins s σ H D I (cn.nx ρ κ S H σ h ⟨Ex.refl S, ex, eb, fun _ z => .inl z⟩ sl cs)⟩
theorem sk_cons (h : SK1 G st ρ κ (SqK G ss R)) : SK G (st :: ss) ρ κ R := ⟨fun W B S H σ D ex eb sl cs cn X hX tk pins s I =>
  (pss_cons (ps_of hX tk) (pss_of hX tk)).run pins s σ H D I (h.run W B S H σ { D with nx := tS G W ss D } ex eb sl cs
    ⟨fun ρ' κ' S' H' σ' a g s' c' => SK.run a W B S' H' σ' D g.sh g.bh s' c' (cn.go g), fun a k b c d x => cn.rt a k b c d x, fun a k b c d x => cn.bk a k b c d x, fun a k b c d x => cn.ct a k b c d x, fun a k b c d i x => cn.ex a k b c d i x⟩)⟩
theorem sk_at (e : ρ = ρ') (h : SK G ss ρ' κ R) : SK G ss ρ κ R := e ▸ h
theorem sk_kt (e : κ = κ') (h : SK G ss ρ κ' R) : SK G ss ρ κ R := e ▸ h
theorem SK1.imp (h : SK1 G st ρ κ R') (q : ∀ o, R' o → R o) : SK1 G st ρ κ R := ⟨fun W B S H σ D ex eb sl cs cn => h.run W B S H σ D ex eb sl cs ⟨fun a k b d e f => cn.nx a k b d e (q _ f), fun a k b d e f => cn.rt a k b d e (q _ f), fun a k b d e f => cn.bk a k b d e (q _ f), fun a k b d e f => cn.ct a k b d e (q _ f), fun a k b d e i f => cn.ex a k b d e i (q _ f)⟩⟩
/-- what leaves the cells alone -/
def Lf (R : Oj → Prop) (κ : List Cl) : Oc → Prop
  | .nx ρ => R (.nx ρ κ)
  | .rt r => R (.rt r κ)
  | .bk ρ => R (.bk ρ κ)
  | .ct ρ => R (.ct ρ κ)
  | .ex c ρ => R (.ex c ρ κ)
theorem CnK.lift {U : Wd} {B S H : Hp} {D : Ends} {W : WX} (cn : CnK U S B R D W) (eb : Ex B H) (cs : CS U B S H κ) : Cn U S (plusK B H (kA κ)) (Lf R κ) D W :=
  ⟨fun ρ' S' H' σ' a g s' => by
    obtain ⟨c', e, g'⟩ := cs.go eb g
    exact cn.nx ρ' κ S' H' σ' a g' (by rw [e]; exact s') c', fun r v S' H' a g s' => by
    obtain ⟨c', e, g'⟩ := cs.go eb g
    exact cn.rt r κ v S' H' a g' (by rw [e]; exact s') c', fun ρ' S' H' σ' a g s' => by
    obtain ⟨c', e, g'⟩ := cs.go eb g
    exact cn.bk ρ' κ S' H' σ' a g' (by rw [e]; exact s') c', fun ρ' S' H' σ' a g s' => by
    obtain ⟨c', e, g'⟩ := cs.go eb g
    exact cn.ct ρ' κ S' H' σ' a g' (by rw [e]; exact s') c', fun c ρ' S' H' σ' a g s' => by
    obtain ⟨c', e, g'⟩ := cs.go eb g
    exact cn.ex c ρ' κ S' H' σ' a g' (by rw [e]; exact s') c'⟩
/-- a statement of the layer below -/
theorem sk1 (h : S1 G st ρ (Lf R κ)) : SK1 G st ρ κ R := ⟨fun W B S H σ D ex eb sl cs cn => h.run W _ S H σ D ex (plusK_ex eb) sl (cn.lift eb cs)⟩
theorem sk_sd (h : SD G ss ρ (Lf R κ)) : SK G ss ρ κ R := ⟨fun W B S H σ D ex eb sl cs cn => h.run W _ S H σ D ex (plusK_ex eb) sl (cn.lift eb cs)⟩
end
end Mb
set_option Elab.async false
set_option linter.all false
set_option maxRecDepth 100000
set_option maxHeartbeats 4000000
namespace Mb
open PySem PySem.Spec PyProof.Rows L2
section
variable {U : Wd} {B B' S H S1 H1 S' H' : Hp} {κ κ' κ1 κ2 : List Cl} {as : List Addr}
theorem CS.base (c : CS U B S H κ) (h : ∀ a ∈ kA κ, B' a = none) : CS U B' S H κ := ⟨c.nd, fun p hp => by
  obtain ⟨h1, _, h3⟩ := c.at_ p hp
  exact ⟨h1, h _ (List.mem_map.mpr ⟨p, hp, rfl⟩), h3⟩⟩
theorem CS.sub (c : CS U B S H κ) (h : κ1.Sublist κ) : CS U B S H κ1 := ⟨c.nd.sublist (h.map _), fun p hp => c.at_ p (h.subset hp)⟩
theorem CS.perm (c : CS U B S H κ) (h : κ.Perm κ') : CS U B S H κ' := ⟨(h.map _).nodup_iff.mp c.nd, fun p hp => c.at_ p (h.mem_iff.mpr hp)⟩
/-- the cells stand, all else may grow -/
theorem CS.keep (c : CS U B S H κ) (g : Go S H S' H') : CS U B S' H' κ := ⟨c.nd, fun p hp => by
  obtain ⟨h1, h2, vs, h3, z, h4⟩ := c.at_ p hp
  exact ⟨g.own h3 h1, h2, vs, g.bh _ _ h3, z, h4.mono g.ss⟩⟩
theorem go_minus (g : Go S H S' H') : Go S (minusK H as) S' H' := ⟨g.ss, g.sh, minusK_ex.trans g.bh, fun a h => (g.nw a h).imp_right fun z => by
  by_cases q : a ∈ as
  · exact minusK_in q
  · rw [minusK_out q]
    exact z⟩
theorem go_chain {as1 : List Addr} (g : Go S (minusK H as) S1 H1) (hs : ∀ a ∈ as1, a ∈ as) (g2 : Go S1 (minusK H1 as1) S' H') : Go S (minusK H as) S' H' := by
  have e : ∀ a, a ∉ as → ∀ o, H a = some o → H1 a = some o := fun a q o h => g.bh a o (by rw [minusK_out q]; exact h)
  refine ⟨g.ss.trans g2.ss, g2.sh, fun a o h => ?_, fun a h => ?_⟩
  · by_cases q : a ∈ as
    · rw [minusK_in q] at h
      cases h
    · rw [minusK_out q] at h
      refine g2.bh a o ?_
      rw [minusK_out fun z => q (hs a z)]
      exact e a q o h
  · rcases g2.nw a h with z | z
    · exact g.nw a z
    · refine .inr ?_
      by_cases q : a ∈ as
      · exact minusK_in q
      · rw [minusK_out q]
        cases h1 : H a with
        | none => rfl
        | some o =>
          rw [minusK_out fun z => q (hs a z), e a q o h1] at z
          cases z
theorem plusK_congr {as' : List Addr} (h : ∀ a, a ∈ as ↔ a ∈ as') : plusK B H as = plusK B H as' := funext fun a => by
  by_cases q : a ∈ as
  · rw [plusK_in q, plusK_in ((h a).mp q)]
  · rw [plusK_out q, plusK_out fun z => q ((h a).mpr z)]
/-- what is new stays new -/
theorem RepR.back {v : V} {r : Rs} (h : RepR U H1 S' H' v r) (g : Go S (minusK H as) S1 H1) (hc : ∀ a ∈ as, H1 a ≠ none) : RepR U H S' H' v r := by
  cases r with
  | sh d => exact h
  | ow ds => exact h
  | fr ds =>
    obtain ⟨p, vs, e1, h1, h2, h3, z, h4⟩ := h
    refine ⟨p, vs, e1, h1, h2, ?_, z, h4⟩
    cases q : H p with
    | none => rfl
    | some o =>
      by_cases m : p ∈ as
      · exact absurd h3 (hc p m)
      · rw [g.bh p o (by rw [minusK_out m]; exact q)] at h3
        cases h3
end
/-! ### expressions beside cells -/
structure EM (G : Gx) (e : Expr) (ρ : List Sl) (κ : List Cl) (r : Rs) (κ' : List Cl) : Prop where
  ka : ∀ a, a ∈ kA κ' ↔ a ∈ kA κ
  run : ∀ (B S H : Hp) (σ : L2.St), Ex S H → Ex B H → Slots G.U (plusK B H (kA κ)) S H σ ρ → CS G.U B S H κ → ∀ Q : VK, (∀ v S' H', Go S (minusK H (kA κ)) S' H' → RepR G.U H S' H' v r → CS G.U (minusK H (kA κ)) S' H' κ' → Q v H') → tG G e σ H Q
structure TM (G : Gx) (e : Expr) (ρ : List Sl) (κ : List Cl) (k : Bool) (κ' : List Cl) : Prop where
  ka : ∀ a, a ∈ kA κ' ↔ a ∈ kA κ
  run : ∀ (B S H : Hp) (σ : L2.St), Ex S H → Ex B H → Slots G.U (plusK B H (kA κ)) S H σ ρ → CS G.U B S H κ → ∀ Q : Bool → Hp → Prop, (∀ S' H', Go S (minusK H (kA κ)) S' H' → CS G.U (minusK H (kA κ)) S' H' κ' → Q k H') → tGT G e σ H Q
structure AM (G : Gx) (es : List Expr) (ρ : List Sl) (κ : List Cl) (ds : List D) : Prop where
  run : ∀ (B S H : Hp) (σ : L2.St), Ex S H → Ex B H → Slots G.U (plusK B H (kA κ)) S H σ ρ → CS G.U B S H κ → ∀ Q : List V → Hp → Prop, (∀ vs S' H', Go S (minusK H (kA κ)) S' H' → RepL G.U S' vs ds → CS G.U (minusK H (kA κ)) S' H' κ → Q vs H') → tGA G es σ H Q
section
variable {G : Gx} {ss : List Stmt} {st : Stmt} {ρ ρ' : List Sl} {κ κ' κ2 : List Cl} {R R' : Oj → Prop} {e c : Expr} {es : List Expr} {pos pos' p : Pos} {r r' : Rs} {d : D} {ds : List D} {k : Bool} {n : Str}
theorem EM.cast (h : EM G e ρ κ r κ') (q : r = r') : EM G e ρ κ r' κ' := q ▸ h
theorem TM.cast {k' : Bool} (h : TM G e ρ κ k κ') (q : k = k') : TM G e ρ κ k' κ' := q ▸ h
theorem EM.kt (h : EM G e ρ κ r κ') (q : κ' = κ2) : EM G e ρ κ r κ2 := q ▸ h
theorem CS.minus {U : Wd} {B S H : Hp} (c : CS U B S H κ) : CS U (minusK H (kA κ)) S H κ := c.base fun a h => minusK_in h
theorem em_of (h : ED G e ρ r) : EM G e ρ κ r κ := ⟨fun _ => Iff.rfl, fun B S H σ ex eb sl cs Q q => h.run _ S H σ ex sl Q fun v S' H' g rr => q v S' H' (go_minus g) rr (cs.minus.keep g)⟩
theorem tm_of (h : TD G e ρ k) : TM G e ρ κ k κ := ⟨fun _ => Iff.rfl, fun B S H σ ex eb sl cs Q q => h.run _ S H σ ex sl Q fun S' H' g => q S' H' (go_minus g) (cs.minus.keep g)⟩
theorem am_of (h : AD G es ρ ds) : AM G es ρ κ ds := ⟨fun B S H σ ex eb sl cs Q q => h.run _ S H σ ex sl Q fun vs S' H' g rl => q vs S' H' (go_minus g) rl (cs.minus.keep g)⟩
theorem am_nil : AM G [] ρ κ [] := am_of ad_nil
/-- an argument, then the others -/
theorem am_cons (h : EM G e ρ κ r κ) (t : ToSh r d) (hr : AM G es ρ κ ds) (hs : ∀ env, starEach (e :: es) env = (false, eval e env) :: starEach es env := by intro _; rfl) : AM G (e :: es) ρ κ (d :: ds) := ⟨fun B S H σ ex eb sl cs Q q X hX pos pins s I => by
  have pa : PA X (e :: es) _ := pa_cons (pe_of hX) (pa_of hX) (hs _)
  refine pa.run pos pins s σ H Q I ?_
  refine h.run B S H σ ex eb sl cs _ fun v S1 H1 g1 r1 c1 => ?_
  obtain ⟨gB, sl1, cs1⟩ := cs.next eb sl g1 c1 (fun _ h => h) (fun _ h => .inl h)
  have fin : ∀ S2, Ex S1 S2 → Ex S2 H1 → (∀ a, S2 a ≠ none → S1 a ≠ none ∨ H a = none) → (∀ a ∈ kA κ, S2 a = none) → Rep G.U S2 v d → tGA G es σ H1 fun vs H' => Q (v :: vs) H' := fun S2 e12 e2 hn hk rv => by
    have g12 : Go S (minusK H (kA κ)) S2 H1 := ⟨g1.ss.trans e12, e2, g1.bh, fun a h => (hn a h).elim (g1.nw a) fun z => .inr (by
      by_cases q : a ∈ kA κ
      · exact minusK_in q
      · rw [minusK_out q]
        exact z)⟩
    have c2 : CS G.U (minusK H (kA κ)) S2 H1 κ := ⟨c1.nd, fun p hp => by
      obtain ⟨_, h2, vs, h3, z, h4⟩ := c1.at_ p hp
      exact ⟨hk _ (List.mem_map.mpr ⟨p, hp, rfl⟩), h2, vs, h3, z, h4.mono e12⟩⟩
    obtain ⟨gB2, sl2, cs2⟩ := cs.next eb sl g12 c2 (fun _ h => h) (fun _ h => .inl h)
    refine hr.run B S2 H1 σ e2 gB2.bh sl2 cs2 _ fun vs S3 H3 g3 r3 c3 => ?_
    exact q (v :: vs) S3 H3 (go_chain g12 (fun _ h => h) g3) (.cons (rv.mono g3.ss) r3) (c3.base fun a h => minusK_in h)
  cases t with
  | sh d => exact fin S1 (Ex.refl S1) g1.sh (fun _ z => .inl z) (fun a h => (c1.mem h).1) r1
  | un ds => exact fin S1 (Ex.refl S1) g1.sh (fun _ z => .inl z) (fun a h => (c1.mem h).1) (by
      cases r1 with
      | nls a1 a2 a3 a4 => exact .lst a1 a2 a3)
  | fr ds =>
    obtain ⟨l, vs, e1, h1, h2, h3, z, h4⟩ := r1
    subst e1
    refine fin (upd S1 l (.lst vs)) (Ex.new h2) (fun a o h => ?_) (fun a h => ?_) (fun a h => ?_) (.lst upd_same z (h4.mono (Ex.new h2)))
    · by_cases q : a = l
      · subst q
        rw [upd_same] at h
        exact h1.trans h
      · rw [upd_ne q] at h
        exact g1.sh _ _ h
    · by_cases q : a = l
      · subst q
        exact .inr h3
      · rw [upd_ne q] at h
        exact .inl h
    · have q : a ≠ l := fun q => by
        rw [q] at h
        exact cs.some_ h h3
      rw [upd_ne q]
      exact (c1.mem h).1
  | nw ds =>
    obtain ⟨l, vs, e1, h1, h2, h3, z, h4⟩ := r1
    subst e1
    refine fin (upd S1 l (.lst vs)) (Ex.new h2) (fun a o h => ?_) (fun a h => ?_) (fun a h => ?_) (.nls upd_same z (h4.mono (Ex.new h2)) (sl.nw l h3))
    · by_cases q : a = l
      · subst q
        rw [upd_same] at h
        exact h1.trans h
      · rw [upd_ne q] at h
        exact g1.sh _ _ h
    · by_cases q : a = l
      · subst q
        exact .inr h3
      · rw [upd_ne q] at h
        exact .inl h
    · have q : a ≠ l := fun q => by
        rw [q] at h
        exact cs.some_ h h3
      rw [upd_ne q]
      exact (c1.mem h).1⟩
theorem tm_val (h : EM G e ρ κ (.sh (.bl k)) κ') (he : ∀ env whole, isTrue e env whole = (do let v ← whole; standAt e.pos; holding [v] (truthy v)) := by intros; rfl) : TM G e ρ κ k κ' := ⟨h.ka, fun B S H σ ex eb sl cs Q q X hX pins s I => by
  have pt := pt_val (pe_of (e := e) hX) (he X.env)
  refine pt.run pins s σ H Q I ?_
  refine h.run B S H σ ex eb sl cs _ fun v S1 H1 g1 r1 c1 => ?_
  cases r1
  exact ⟨k, rfl, q S1 H1 g1 c1⟩⟩
theorem tm_not (h : TM G e ρ κ k κ') : TM G (.UnaryOp .Not e pos) ρ κ (!k) κ' := ⟨h.ka, fun B S H σ ex eb sl cs Q q X hX pins s I => (pt_not (pt_of (e := e) hX)).run pins s σ H Q I (h.run B S H σ ex eb sl cs _ fun S1 H1 g1 c1 => q S1 H1 g1 c1)⟩
/-! statements -/
theorem SK1.of {t : WX → TS} (h : ∀ X W, G.iss X → Takes X W → PS X st (t W)) (ev : ∀ (W : WX) (B S H : Hp) (σ : L2.St) (D : Ends), Ex S H → Ex B H → Slots G.U (plusK B H (kA κ)) S H σ ρ → CS G.U B S H κ → CnK G.U S B R D W → t W D σ H) : SK1 G st ρ κ R :=
  ⟨fun W B S H σ D ex eb sl cs cn X hX tk pins s I => (h X W hX tk).run pins s σ H D I (ev W B S H σ D ex eb sl cs cn)⟩
theorem sk_if {body orelse : List Stmt} (hc : TM G c ρ κ k κ') (h1 : k = true → SK G body ρ κ' R) (h2 : k = false → SK G orelse ρ κ' R) : SK1 G (.If c body orelse pos) ρ κ R := .of (fun X W h tk => ps_if (pt_of h.is) (pss_of h tk) (pss_of h tk)) fun W B S H σ D ex eb sl cs cn => hc.run B S H σ ex eb sl cs _ fun S1 H1 g1 c1 => by
  obtain ⟨gB, sl1, cs1⟩ := cs.next eb sl g1 c1 (fun a h => (hc.ka a).mpr h) (fun a h => .inl ((hc.ka a).mp h))
  cases k with
  | true =>
    rw [if_pos rfl]
    exact (h1 rfl).run W B S1 H1 σ D gB.sh gB.bh sl1 cs1 (cn.go gB)
  | false =>
    rw [if_neg Bool.false_ne_true]
    exact (h2 rfl).run W B S1 H1 σ D gB.sh gB.bh sl1 cs1 (cn.go gB)
theorem sk_set (he : EM G e ρ κ (.sh d) κ') (hR : R (.nx (ρ.set (G.N.idxOf n) (.sh d)) κ')) (hN : G.N.Nodup) (hi : G.N.idxOf n < G.N.length) (ok : setOk G.sc G.fn n = true) (hs : NoSwap G e n p pos := by intros _ _; rfl) : SK1 G (.Assign [.Name n p] e pos) ρ κ R :=
  .of (ps_setG (te := fun _ => tG G e) hN hi ok hs fun X W h tk => pe_of h.is) fun W B S H σ D ex eb sl cs cn => he.run B S H σ ex eb sl cs _ fun v S1 H1 g1 r1 c1 => by
    obtain ⟨gB, sl1, cs1⟩ := cs.next eb sl g1 c1 (fun a h => (he.ka a).mpr h) (fun a h => .inl ((he.ka a).mp h))
    exact cn.nx _ κ' S1 H1 _ hR gB (sl1.setSh _ r1) cs1
/-- a name gets a new list, which is a cell from then on -/
theorem sk_cell (he : EM G e ρ κ (.fr ds) κ') (hR : ∀ q, R (.nx (ρ.set (G.N.idxOf n) (.sh (.cls q))) (κ' ++ [(q, ds)]))) (hN : G.N.Nodup) (hi : G.N.idxOf n < G.N.length) (ok : setOk G.sc G.fn n = true) (hs : NoSwap G e n p pos := by intros _ _; rfl) : SK1 G (.Assign [.Name n p] e pos) ρ κ R :=
  .of (ps_setG (te := fun _ => tG G e) hN hi ok hs fun X W h tk => pe_of h.is) fun W B S H σ D ex eb sl cs cn => he.run B S H σ ex eb sl cs _ fun v S1 H1 g1 r1 c1 => by
    obtain ⟨q, vs, e1, h1, h2, h3, z, h4⟩ := r1
    subst e1
    have nq : q ∉ kA κ' := fun m => cs.some_ ((he.ka q).mp m) h3
    have mem : ∀ a, a ∈ kA (κ' ++ [(q, ds)]) ↔ a ∈ kA κ' ∨ a = q := fun a => by
      unfold kA
      rw [List.map_append, List.mem_append]
      simp
    have c2 : CS G.U (minusK H (kA κ)) S1 H1 (κ' ++ [(q, ds)]) := ⟨by
      unfold kA
      rw [List.map_append]
      exact List.nodup_append.mpr ⟨c1.nd, List.nodup_cons.mpr ⟨List.not_mem_nil, List.nodup_nil⟩, fun a ha b hb e => by
        rw [show b = q by simpa using hb] at e
        exact nq (e ▸ ha)⟩, fun c hc => by
      rcases List.mem_append.mp hc with hc | hc
      · exact c1.at_ c hc
      · rw [List.mem_singleton.mp hc]
        refine ⟨h2, ?_, vs, h1, z, h4⟩
        by_cases m : q ∈ kA κ
        · exact minusK_in m
        · rw [minusK_out m]
          exact h3⟩
    obtain ⟨gB, sl1, cs1⟩ := cs.next eb sl g1 c2 (fun a h => (mem a).mpr (.inl ((he.ka a).mpr h))) (fun a h => ((mem a).mp h).elim (fun h => .inl ((he.ka a).mp h)) fun e => .inr (by rw [e]; exact h3))
    exact cn.nx _ _ S1 H1 _ (hR q) gB (sl1.setSh _ (.cls q)) cs1
theorem sk_ret (he : EM G e ρ κ r κ') (hR : R (.rt r κ')) : SK1 G (.Return (some e) pos) ρ κ R := .of (fun X W h tk => ps_ret (pe_of h.is)) fun W B S H σ D ex eb sl cs cn => he.run B S H σ ex eb sl cs _ fun v S1 H1 g1 r1 c1 => by
  obtain ⟨gB, sl1, cs1⟩ := cs.next eb sl g1 c1 (fun a h => (he.ka a).mpr h) (fun a h => .inl ((he.ka a).mp h))
  refine cn.rt r κ' v S1 H1 hR gB ?_ cs1
  cases r with
  | sh d => exact r1
  | ow ds => exact r1
  | fr ds =>
    obtain ⟨q, vs, e1, h1, h2, h3, z, h4⟩ := r1
    refine ⟨q, vs, e1, h1, h2, ?_, z, h4⟩
    rw [plusK_out fun m => cs.some_ ((he.ka q).mp m) h3]
    exact eb.back h3
theorem sk_expr (he : EM G e ρ κ r κ') (hR : R (.nx ρ κ')) (hs : ∀ env, swapsWith e none pos.line env = pure false := by intro _; rfl) : SK1 G (.Expr e pos) ρ κ R := .of (fun X W h tk => ps_expr (pe_of h.is) (hs _)) fun W B S H σ D ex eb sl cs cn => he.run B S H σ ex eb sl cs _ fun v S1 H1 g1 r1 c1 => by
  obtain ⟨gB, sl1, cs1⟩ := cs.next eb sl g1 c1 (fun a h => (he.ka a).mpr h) (fun a h => .inl ((he.ka a).mp h))
  exact cn.nx ρ κ' S1 H1 σ hR gB sl1 cs1
end
end Mb
set_option Elab.async false
set_option linter.all false
set_option maxRecDepth 100000
set_option maxHeartbeats 4000000
namespace Mb
open PySem PySem.Spec PyProof.Rows L2
/-! ### cells are read -/
/-- what holds cells, seen with what they hold -/
def Opn (U : Wd) (κ : List Cl) (d d' : D) : Prop := ∀ (B S H : Hp) (v : V), Ex S H → CS U B S H κ → Rep U S v d → Rep U (plusK S H (kA κ)) v d'
def OpnL (U : Wd) (κ : List Cl) (ds ds' : List D) : Prop := ∀ (B S H : Hp) (vs : List V), Ex S H → CS U B S H κ → RepL U S vs ds → RepL U (plusK S H (kA κ)) vs ds'
section
variable {U : Wd} {κ : List Cl} {d d' e e' : D} {ds ds' : List D} {q : Addr}
theorem open_ex {B S H : Hp} (c : CS U B S H κ) : Ex S (plusK S H (kA κ)) := fun a o h => by
  have m : a ∉ kA κ := fun m => by
    rw [(c.mem m).1] at h
    cases h
  rw [plusK_out m]
  exact h
theorem opn_refl : Opn U κ d d := fun B S H v ex c r => r.mono (open_ex c)
theorem opnL_refl : OpnL U κ ds ds := fun B S H v ex c r => r.mono (open_ex c)
theorem opnL_nil : OpnL U κ [] [] := opnL_refl
theorem opnL_cons (h : Opn U κ d d') (t : OpnL U κ ds ds') : OpnL U κ (d :: ds) (d' :: ds') := fun B S H vs ex c r => by
  cases r with
  | cons r1 r2 => exact .cons (h B S H _ ex c r1) (t B S H _ ex c r2)
theorem opn_cell (hm : (q, ds) ∈ κ) (h : OpnL U κ ds ds') : Opn U κ (.cls q) (.lst ds') := fun B S H v ex c r => by
  cases r
  obtain ⟨h1, h2, vs, h3, z, h4⟩ := c.at_ _ hm
  exact .lst (by rw [plusK_in (List.mem_map.mpr ⟨_, hm, rfl⟩)]; exact h3) z (h B S H vs ex c h4)
theorem opn_ints {ns : List Int} (hm : (q, ns.map D.int) ∈ κ) : Opn U κ (.cls q) (.ints ns) := opn_cell hm opnL_refl
theorem opn_tup (h : OpnL U κ ds ds') : Opn U κ (.tup ds) (.tup ds') := fun B S H v ex c r => by
  cases r with
  | tup a1 a2 a3 => exact .tup (open_ex c _ _ a1) a2 (h B S H _ ex c a3)
theorem opn_lst (h : OpnL U κ ds ds') : Opn U κ (.lst ds) (.lst ds') := fun B S H v ex c r => by
  cases r with
  | lst a1 a2 a3 => exact .lst (open_ex c _ _ a1) a2 (h B S H _ ex c a3)
theorem Opn.any {κ2 : List Cl} (h : Opn U κ2 d d') (hs : ∀ c ∈ κ2, c ∈ κ) (nd : (kA κ2).Nodup) : Opn U κ d d' := fun B S H v ex c r => by
  have c2 : CS U B S H κ2 := ⟨nd, fun p hp => c.at_ p (hs p hp)⟩
  refine (h B S H v ex c2 r).mono fun a o ha => ?_
  by_cases m : a ∈ kA κ2
  · rw [plusK_in m] at ha
    obtain ⟨p, hp, rfl⟩ := List.mem_map.mp m
    rw [plusK_in (List.mem_map.mpr ⟨p, hs p hp, rfl⟩)]
    exact ha
  · rw [plusK_out m] at ha
    exact open_ex c _ _ ha
end
/-- slot by slot -/
def OpS (U : Wd) (κ : List Cl) (ρ : List Sl) (i : Nat) (y : Sl) : Prop := y = .no ∨ (∃ ds, y = .own ds ∧ ρ[i]? = some y) ∨ ∃ d d', ρ[i]? = some (.sh d) ∧ y = .sh d' ∧ Opn U κ d d'
section
variable {U : Wd} {κ : List Cl} {ρ ρ' : List Sl} {i : Nat} {d d' : D} {ds : List D}
theorem OpS.no : OpS U κ ρ i .no := .inl rfl
theorem OpS.own (h : ρ[i]? = some (.own ds)) : OpS U κ ρ i (.own ds) := .inr (.inl ⟨ds, rfl, h⟩)
theorem OpS.sh (h : ρ[i]? = some (.sh d)) (o : Opn U κ d d') : OpS U κ ρ i (.sh d') := .inr (.inr ⟨d, d', h, rfl, o⟩)
theorem Slots.opened {B S H : Hp} {σ : L2.St} (sl : Slots U (plusK B H (kA κ)) S H σ ρ) (ex : Ex S H) (cs : CS U B S H κ) (hl : ρ'.length = ρ.length) (ho : slAll (OpS U κ ρ) 0 ρ') : Slots U (plusK B H (kA κ)) (plusK S H (kA κ)) H σ ρ' := by
  refine ⟨by rw [sl.len, hl], fun i d h => ?_, fun i ds h => ?_, fun i j ds es p h k a b => ?_, sl.nw⟩
  · rcases slAll_get0 ho h with e | ⟨ds, e, _⟩ | ⟨d0, d', h0, e, o⟩
    · cases e
    · cases e
    · cases e
      obtain ⟨v, h1, h2⟩ := sl.sh _ _ h0
      exact ⟨v, h1, o B S H v ex cs h2⟩
  · rcases slAll_get0 ho h with e | ⟨es, e, h0⟩ | ⟨d0, d', h0, e, o⟩
    · cases e
    · cases e
      obtain ⟨p, vs, h1, h2, h3, h4, z, h5⟩ := sl.own _ _ h0
      have m : p ∉ kA κ := fun m => by
        rw [plusK_in m, h2] at h4
        cases h4
      exact ⟨p, vs, h1, h2, by rw [plusK_out m]; exact h3, h4, z, h5.mono (open_ex cs)⟩
    · cases e
  · rcases slAll_get0 ho h with e | ⟨es', e, h0⟩ | ⟨d0, d', h0, e, o⟩
    · cases e
    · cases e
      rcases slAll_get0 ho k with e | ⟨es', e, h0'⟩ | ⟨d0, d', h0', e, o⟩
      · cases e
      · cases e
        exact sl.sep i j _ _ p h0 h0' a b
      · cases e
    · cases e
end
/-- a result that needs no cell -/
def Shut (U : Wd) (κ : List Cl) (r r' : Rs) : Prop := ∀ (B S H S' H' : Hp) (v : V), CS U B S H κ → Ex S H → Go (plusK S H (kA κ)) H S' H' → RepR U H S' H' v r → RepR U H (minusK S' (kA κ)) H' v r'
def D.free : D → Bool
  | .non => true
  | .bl _ => true
  | .int _ => true
  | .str _ => true
  | .cls _ => true
  | _ => false
theorem free_rep {U : Wd} {S S' : Hp} {v : V} {d : D} (hd : d.free = true) (h : Rep U S v d) : Rep U S' v d := by
  cases h <;> first | (cases hd; done) | constructor
theorem shut_free {U : Wd} {κ : List Cl} {d : D} (h : d.free = true) : Shut U κ (.sh d) (.sh d) := fun B S H S' H' v c ex g r => free_rep h r
theorem shut_ints {U : Wd} {κ : List Cl} {ns : List Int} : Shut U κ (.fr (ns.map D.int)) (.fr (ns.map D.int)) := fun B S H S' H' v c ex g r => by
  obtain ⟨p, vs, e1, h1, h2, h3, z, h4⟩ := r
  refine ⟨p, vs, e1, h1, ?_, h3, z, ?_⟩
  · by_cases m : p ∈ kA κ
    · exact minusK_in m
    · rw [minusK_out m]
      exact h2
  · have e := RepL.ints h4
    subst e
    exact RepL.ofInts _
/-- a list that the caller is told to read stays readable: its new copy is what is told -/
theorem shut_copy {U : Wd} {κ : List Cl} {ns : List Int} {d : D} (hd : d = .ints ns) : Shut U κ (.fr (ns.map D.int)) (.fr (ns.map D.int)) := shut_ints
section
variable {U : Wd} {B S H S' H' : Hp} {κ : List Cl}
/-- back from the opened state -/
theorem open_back (c : CS U B S H κ) (ex : Ex S H) (g : Go (plusK S H (kA κ)) H S' H') : Go S (minusK H (kA κ)) (minusK S' (kA κ)) H' ∧ CS U (minusK H (kA κ)) (minusK S' (kA κ)) H' κ := by
  have e1 : Ex S (minusK S' (kA κ)) := fun a o h => by
    have m : a ∉ kA κ := fun m => by
      rw [(c.mem m).1] at h
      cases h
    rw [minusK_out m]
    refine g.ss a o ?_
    rw [plusK_out m]
    exact h
  refine ⟨⟨e1, minusK_ex.trans g.sh, minusK_ex.trans g.bh, fun a h => ?_⟩, ⟨c.nd, fun p hp => ?_⟩⟩
  · have m : a ∉ kA κ := fun m => h (minusK_in m)
    rw [minusK_out m] at h
    rcases g.nw a h with z | z
    · rw [plusK_out m] at z
      exact .inl z
    · rw [minusK_out m]
      exact .inr z
  · obtain ⟨h1, h2, vs, h3, z, h4⟩ := c.at_ p hp
    have m : p.1 ∈ kA κ := List.mem_map.mpr ⟨p, hp, rfl⟩
    exact ⟨minusK_in m, minusK_in m, vs, g.bh _ _ h3, z, h4.mono e1⟩
end
section
variable {G : Gx} {ss : List Stmt} {st : Stmt} {ρ ρ' : List Sl} {κ κ' κ2 : List Cl} {R R' : Oj → Prop} {e c : Expr} {es : List Expr} {pos pos' p : Pos} {r r' : Rs} {d : D} {ds : List D} {k : Bool} {n : Str}
theorem em_open (ho : slAll (OpS G.U κ ρ) 0 ρ') (h : ED G e ρ' r) (hs : Shut G.U κ r r') (hl : ρ'.length = ρ.length := by rfl) : EM G e ρ κ r' κ := ⟨fun _ => Iff.rfl, fun B S H σ ex eb sl cs Q q => by
  refine h.run _ (plusK S H (kA κ)) H σ (plusK_ex ex) (sl.opened ex cs hl ho) Q fun v S' H' g rr => ?_
  obtain ⟨g', c'⟩ := open_back cs ex g
  exact q v _ H' g' (hs B S H S' H' v cs ex g rr) c'⟩
theorem tm_open (ho : slAll (OpS G.U κ ρ) 0 ρ') (h : TD G e ρ' k) (hl : ρ'.length = ρ.length := by rfl) : TM G e ρ κ k κ := ⟨fun _ => Iff.rfl, fun B S H σ ex eb sl cs Q q => by
  refine h.run _ (plusK S H (kA κ)) H σ (plusK_ex ex) (sl.opened ex cs hl ho) Q fun S' H' g => ?_
  obtain ⟨g', c'⟩ := open_back cs ex g
  exact q _ H' g' c'⟩
/-! ### cells are changed -/
/-- a method that changes a list: from ds to ds', handing back d -/
def MutR (U : Wd) (rr : V → List V → Hp → VK → Prop) (as ds ds' : List D) (d : D) : Prop := ∀ (S H : Hp) (q : Addr) (vs us : List V), Ex S H → H q = some (.lst vs) → vs.length ≤ sizeLine → RepL U S vs ds → RepL U S us as → ∀ Q : VK, (∀ v ws, ws.length ≤ sizeLine → RepL U S ws ds' → Rep U S v d → Q v (upd H q (.lst ws))) → rr (.ref q) us H Q
theorem CS.set {U : Wd} {B S H : Hp} {j : Nat} {q : Addr} {ds' : List D} {ws : List V} (c : CS U B S H κ) (hj : κ[j]? = some (q, ds)) (z : ws.length ≤ sizeLine) (rl : RepL U S ws ds') : CS U B S (upd H q (.lst ws)) (κ.set j (q, ds')) ∧ kA (κ.set j (q, ds')) = kA κ := by
  have ka : kA (κ.set j (q, ds')) = kA κ := by
    unfold kA
    rw [List.map_set]
    refine List.ext_getElem? fun i => ?_
    by_cases e : j = i
    · subst e
      rw [List.getElem?_set_self (by rw [List.length_map]; exact (List.getElem?_eq_some_iff.mp hj).1), List.getElem?_map, hj]
      rfl
    · rw [List.getElem?_set_ne e]
  refine ⟨⟨by rw [ka]; exact c.nd, fun p hp => ?_⟩, ka⟩
  obtain ⟨i, hi⟩ := List.mem_iff_getElem?.mp hp
  rcases setGet hi with ⟨rfl, e, _⟩ | ⟨ne, hi⟩
  · subst e
    obtain ⟨h1, h2, _⟩ := c.at_ _ (List.mem_of_getElem? hj)
    exact ⟨h1, h2, ws, upd_same, z, rl⟩
  · obtain ⟨h1, h2, vs, h3, z', h4⟩ := c.at_ p (List.mem_of_getElem? hi)
    have nq : p.1 ≠ q := fun e => by
      have hk := c.nd
      have i1 : (kA κ)[i]? = some q := by rw [List.getElem?_map, hi, ← e]; rfl
      have i2 : (kA κ)[j]? = some q := by rw [List.getElem?_map, hj]; rfl
      obtain ⟨l1, e1⟩ := List.getElem?_eq_some_iff.mp i1
      obtain ⟨l2, e2⟩ := List.getElem?_eq_some_iff.mp i2
      rcases Nat.lt_trichotomy i j with h | h | h
      · exact (List.pairwise_iff_getElem.mp hk) i j l1 l2 h (e1.trans e2.symm)
      · exact ne h.symm
      · exact (List.pairwise_iff_getElem.mp hk) j i l2 l1 h (e2.trans e1.symm)
    exact ⟨h1, h2, vs, by rw [upd_ne nq]; exact h3, z', h4⟩
/-- o.name(e, ..): o holds the j-th cell -/
theorem em_meth {o : Expr} {name : Str} {id : String} {rr : V → List V → Hp → VK → Prop} {as ds' : List D} {j : Nat} {q : Addr} {apos : Pos} (slot : Slot "list" name id) (hty : typeOf (.builtin id) = pure (.type "method_descriptor")) (hm : ∀ X : Cx, MtR X id rr) (ho : ED G o ρ (.sh (.cls q))) (hj : κ[j]? = some (q, ds)) (ha : AM G (e :: es) ρ κ as) (hr : MutR G.U rr as ds ds' d) (hfr : d.free = true)
    (hb : BmOk o name e es apos pos := by exact ⟨by intro _; rfl, by intro _; rfl, rfl, by intro _; rfl, by intros; rfl⟩) : EM G (.Call (.Attribute o name apos) (e :: es) [] pos) ρ κ (.sh d) (κ.set j (q, ds')) := by
  have ka : kA (κ.set j (q, ds')) = kA κ := by
    unfold kA
    rw [List.map_set]
    refine List.ext_getElem? fun i => ?_
    by_cases e : j = i
    · subst e
      rw [List.getElem?_set_self (by rw [List.length_map]; exact (List.getElem?_eq_some_iff.mp hj).1), List.getElem?_map, hj]
      rfl
    · rw [List.getElem?_set_ne e]
  refine ⟨fun a => by rw [ka], fun B S H σ ex eb sl cs Q qq X hX pins s I => ?_⟩
  obtain ⟨b1, b2, b3, b4, b5⟩ := hb
  have hpe := pe_bm (apos := apos) (cpos := pos) PySem.F.plainAttrs_list slot hty (hm X) (pe_of (e := o) hX) (pa_of (es := e :: es) hX) (b1 _) (b2 _) b3 (b4 _) (b5 _ _)
  rw [hX.K] at hpe
  refine hpe.run pins s σ H Q I ?_
  refine (em_of (κ := κ) ho).run B S H σ ex eb sl cs _ fun v S1 H1 g1 r1 c1 => ?_
  cases r1
  obtain ⟨gB, sl1, cs1⟩ := cs.next eb sl g1 c1 (fun _ h => h) (fun _ h => .inl h)
  obtain ⟨_, _, vs, hq, _⟩ := c1.at_ _ (List.mem_of_getElem? hj)
  refine ⟨.inl ⟨rfl, _, .of hq⟩, ?_⟩
  refine ha.run B S1 H1 σ gB.sh gB.bh sl1 cs1 _ fun us S2 H2 g2 r2 c2 => ?_
  have g12 := go_chain g1 (fun _ h => h) g2
  obtain ⟨k1, k2, vs2, hq2, z2, rl2⟩ := c2.at_ _ (List.mem_of_getElem? hj)
  refine hr S2 H2 q vs2 us g12.sh hq2 z2 rl2 r2 Q fun v ws z rw_ rv => ?_
  obtain ⟨c3, _⟩ := (c2.base (B' := minusK H (kA κ)) fun a h => minusK_in h).set hj z rw_
  have mq : q ∈ kA κ := List.mem_map.mpr ⟨_, List.mem_of_getElem? hj, rfl⟩
  refine qq v S2 _ ⟨g12.ss, Ex.mut g12.sh k1, Ex.mut g12.bh (minusK_in mq), g12.nw⟩ rv c3
/-- o.name(): o holds the j-th cell -/
theorem em_meth0 {o : Expr} {name : Str} {id : String} {rr : V → List V → Hp → VK → Prop} {ds' : List D} {j : Nat} {q : Addr} {apos : Pos} (slot : Slot "list" name id) (hty : typeOf (.builtin id) = pure (.type "method_descriptor")) (hm : ∀ X : Cx, MtR X id rr) (ho : ED G o ρ (.sh (.cls q))) (hj : κ[j]? = some (q, ds)) (hr : MutR G.U rr [] ds ds' d) (hfr : d.free = true)
    (hb : (∀ env, attributeBase o name env (eval o env) = eval o env) ∧ (apos.endLine == pos.line) = true := by exact ⟨by intro _; rfl, rfl⟩) : EM G (.Call (.Attribute o name apos) [] [] pos) ρ κ (.sh d) (κ.set j (q, ds')) := by
  have ka : kA (κ.set j (q, ds')) = kA κ := by
    unfold kA
    rw [List.map_set]
    refine List.ext_getElem? fun i => ?_
    by_cases e : j = i
    · subst e
      rw [List.getElem?_set_self (by rw [List.length_map]; exact (List.getElem?_eq_some_iff.mp hj).1), List.getElem?_map, hj]
      rfl
    · rw [List.getElem?_set_ne e]
  refine ⟨fun a => by rw [ka], fun B S H σ ex eb sl cs Q qq X hX pins s I => ?_⟩
  have hpe := pe_bm0 (apos := apos) (cpos := pos) PySem.F.plainAttrs_list slot hty (hm X) (pe_of (e := o) hX) (hb.1 _) hb.2
  rw [hX.K] at hpe
  refine hpe.run pins s σ H Q I ?_
  refine (em_of (κ := κ) ho).run B S H σ ex eb sl cs _ fun v S1 H1 g1 r1 c1 => ?_
  cases r1
  obtain ⟨k1, k2, vs, hq, z2, rl2⟩ := c1.at_ _ (List.mem_of_getElem? hj)
  refine ⟨.inl ⟨rfl, _, .of hq⟩, ?_⟩
  refine hr S1 H1 q vs [] g1.sh hq z2 rl2 .nil Q fun v ws z rw_ rv => ?_
  obtain ⟨c3, _⟩ := c1.set hj z rw_
  have mq : q ∈ kA κ := List.mem_map.mpr ⟨_, List.mem_of_getElem? hj, rfl⟩
  exact qq v S1 _ ⟨g1.ss, Ex.mut g1.sh k1, Ex.mut g1.bh (minusK_in mq), g1.nw⟩ rv c3
end
section
variable {U : Wd} {ds es : List D} {d : D}
theorem mut_append (hz : ds.length < sizeLine) : MutR U rAppend [d] ds (ds ++ [d]) .non := fun S H q vs us ex hq z rl ra Q k => by
  cases ra with
  | cons r1 r2 =>
    cases r2
    refine ⟨q, vs, _, rfl, rfl, hq, by rw [rl.length]; exact hz, k .non _ ?_ (rl.append (.cons r1 .nil)) .non⟩
    rw [List.length_append, rl.length, List.length_singleton]
    exact hz
theorem mut_extend (hz : ds.length + es.length ≤ sizeLine) : MutR U rExtend [.lst es] ds (ds ++ es) .non := fun S H q vs us ex hq z rl ra Q k => by
  cases ra with
  | cons r1 r2 =>
    cases r2
    cases r1 with
    | lst a1 a2 a3 =>
      refine ⟨q, _, vs, _, rfl, rfl, hq, ex _ _ a1, by rw [rl.length, a3.length]; exact hz, k .non _ ?_ (rl.append a3) .non⟩
      rw [List.length_append, rl.length, a3.length]
      exact hz
theorem mut_clear : MutR U rClear [] ds [] .non := fun S H q vs us ex hq z rl ra Q k => by
  cases ra
  exact ⟨q, vs, rfl, rfl, hq, k .non [] (Nat.zero_le _) .nil .non⟩
theorem mut_pop (h : ds[ds.length - 1]? = some d) : MutR U rPop [] ds ds.dropLast d := fun S H q vs us ex hq z rl ra Q k => by
  cases ra
  rw [← rl.length] at h
  obtain ⟨v, hv, rv⟩ := rl.get h
  refine ⟨q, vs, v, rfl, rfl, hq, hv, k v _ ?_ ?_ rv⟩
  · rw [List.length_dropLast]
    omega
  · rw [List.dropLast_eq_take, List.dropLast_eq_take, rl.length]
    exact rl.take _
theorem RepL.erase : ∀ {vs : List V} {ds : List D} (n : Nat) {S : Hp}, RepL U S vs ds → RepL U S (vs.eraseIdx n) (ds.eraseIdx n)
  | _, _, _, _, .nil => .nil
  | _, _, 0, _, .cons _ t => t
  | _, _, n + 1, _, .cons r t => .cons r (RepL.erase n t)
theorem mut_popAt {i : Int} {k : Nat} (h1 : -(2 ^ 63) ≤ i) (h2 : i < 2 ^ 63) (hk : seqIndex? i ds.length = some k) (h : ds[k]? = some d) : MutR U rPopAt [.int i] ds (ds.eraseIdx k) d := fun S H q vs us ex hq z rl ra Q kk => by
  cases ra with
  | cons r1 r2 =>
    cases r2
    cases r1
    obtain ⟨v, hv, rv⟩ := rl.get h
    refine ⟨q, vs, i, k, v, rfl, rfl, hq, h1, h2, by rw [rl.length]; exact hk, hv, kk v _ ?_ (rl.erase k) rv⟩
    have := List.length_eraseIdx_le vs k
    omega
def rInsert : V → List V → Hp → VK → Prop := fun x vs H Q => ∃ (l : Addr) (xs : List V) (i : Int) (y : V), x = .ref l ∧ vs = [.int i, y] ∧ H l = some (.lst xs) ∧ xs.length < sizeLine ∧ 0 ≤ i ∧ i < 2 ^ 63 ∧ Q .non (upd H l (.lst (xs.take i.toNat ++ [y] ++ xs.drop i.toNat)))
theorem mut_insert {i : Int} (hz : ds.length < sizeLine) (h1 : 0 ≤ i) (h2 : i < 2 ^ 63) : MutR U rInsert [.int i, d] ds (ds.take i.toNat ++ [d] ++ ds.drop i.toNat) .non := fun S H q vs us ex hq z rl ra Q k => by
  cases ra with
  | cons r1 r2 =>
    cases r2 with
    | cons r2 r3 =>
      cases r3
      cases r1
      refine ⟨q, vs, i, _, rfl, rfl, hq, by rw [rl.length]; exact hz, h1, h2, k .non _ ?_ (((rl.take _).append (.cons r2 .nil)).append (rl.drop _)) .non⟩
      have e := rl.length
      rw [List.length_append, List.length_append, List.length_take, List.length_drop, List.length_singleton]
      omega
end
end Mb
set_option Elab.async false
set_option linter.all false
set_option maxRecDepth 100000
set_option maxHeartbeats 4000000
namespace Mb
open PySem PySem.Spec PyProof.Rows L2
theorem perm_erase {α : Type} : ∀ {l : List α} {j : Nat} {c : α}, l[j]? = some c → l.Perm (c :: l.eraseIdx j)
  | [], _, _, h => by simp at h
  | x :: l, 0, c, h => by
    obtain rfl := Option.some.inj (show some x = some c from h)
    exact List.Perm.refl _
  | x :: l, j + 1, c, h => by
    have := perm_erase (l := l) (j := j) (c := c) h
    exact (this.cons x).trans (List.Perm.swap c x _)
section
variable {U : Wd} {B0 B S H : Hp} {κ : List Cl} {σ : L2.St} {ρ ρ' : List Sl}
theorem Slots.openB (sl : Slots U B0 S H σ ρ) (hb : ∀ a ∈ kA κ, B0 a ≠ none) (ex : Ex S H) (cs : CS U B S H κ) (hl : ρ'.length = ρ.length) (ho : slAll (OpS U κ ρ) 0 ρ') : Slots U B0 (plusK S H (kA κ)) H σ ρ' := by
  refine ⟨by rw [sl.len, hl], fun i d h => ?_, fun i ds h => ?_, fun i j ds es p h k a b => ?_, sl.nw⟩
  · rcases slAll_get0 ho h with e | ⟨ds, e, _⟩ | ⟨d0, d', h0, e, o⟩
    · cases e
    · cases e
    · cases e
      obtain ⟨v, h1, h2⟩ := sl.sh _ _ h0
      exact ⟨v, h1, o B S H v ex cs h2⟩
  · rcases slAll_get0 ho h with e | ⟨es, e, h0⟩ | ⟨d0, d', h0, e, o⟩
    · cases e
    · cases e
      obtain ⟨p, vs, h1, h2, h3, h4, z, h5⟩ := sl.own _ _ h0
      have m : p ∉ kA κ := fun m => hb p m h4
      exact ⟨p, vs, h1, h2, by rw [plusK_out m]; exact h3, h4, z, h5.mono (open_ex cs)⟩
    · cases e
  · rcases slAll_get0 ho h with e | ⟨es', e, h0⟩ | ⟨d0, d', h0, e, o⟩
    · cases e
    · cases e
      rcases slAll_get0 ho k with e | ⟨es', e, h0'⟩ | ⟨d0, d', h0', e, o⟩
      · cases e
      · cases e
        exact sl.sep i j _ _ p h0 h0' a b
      · cases e
    · cases e
end
section
variable {G : Gx} {ss : List Stmt} {st : Stmt} {ρ ρ' : List Sl} {κ κ' κ1 κ2 : List Cl} {R R' : Oj → Prop} {e c : Expr} {es : List Expr} {pos pos' p : Pos} {r r' : Rs} {d : D} {ds : List D} {k : Bool} {n : Str}
theorem sk_perm (hp : κ.Perm κ') (h : SK G ss ρ κ' R) : SK G ss ρ κ R := ⟨fun W B S H σ D ex eb sl cs cn => by
  have hm : ∀ a, a ∈ kA κ ↔ a ∈ kA κ' := fun a => (hp.map _).mem_iff
  exact h.run W B S H σ D ex eb (by rw [← plusK_congr hm]; exact sl) (cs.perm hp) cn⟩
/-- a cell is not changed from here on -/
theorem sk_freeze {j : Nat} {q : Addr} (hj : κ[j]? = some (q, ds)) (ho : slAll (OpS G.U [(q, ds)] ρ) 0 ρ') (h : SK G ss ρ' (κ.eraseIdx j) R) (hl : ρ'.length = ρ.length := by rfl) : SK G ss ρ κ R := ⟨fun W B S H σ D ex eb sl cs cn => by
  have hp := perm_erase hj
  have c2 := cs.perm hp
  have nq : q ∉ kA (κ.eraseIdx j) := (List.nodup_cons.mp c2.nd).1
  have c1 : CS G.U B S H [(q, ds)] := c2.sub (List.cons_sublist_cons.mpr (List.nil_sublist _))
  have c3 : CS G.U B S H (κ.eraseIdx j) := c2.sub (List.sublist_cons_self _ _)
  have hq : q ∈ kA κ := (hp.map _).mem_iff.mpr List.mem_cons_self
  have sl1 := sl.openB (κ := [(q, ds)]) (fun a ha => by
    rw [show a = q by simpa using ha, plusK_in hq]
    exact cs.some_ hq) ex c1 hl ho
  have sl2 := sl1.baseUp (B' := plusK B H (kA (κ.eraseIdx j))) fun p h1 h2 => by
    have m : p ∉ kA κ := fun m => by
      rw [plusK_in m] at h2
      exact cs.some_ m h2
    rw [plusK_out m] at h2
    rw [plusK_out fun m' => m ((hp.map _).mem_iff.mpr (List.mem_cons_of_mem _ m'))]
    exact h2
  have g : Go S B (plusK S H [q]) H := ⟨open_ex c1, plusK_ex ex, eb, fun a h => by
    by_cases e : a = q
    · subst e
      exact .inr (cs.mem hq).2.1
    · rw [plusK_out (by simpa using e)] at h
      exact .inl h⟩
  refine h.run W B (plusK S H [q]) H σ D g.sh eb sl2 ⟨c3.nd, fun p hp' => ?_⟩ (cn.go g)
  obtain ⟨h1, h2, vs, h3, z, h4⟩ := c3.at_ p hp'
  have ne : p.1 ∉ [q] := fun m => nq (by rw [← show p.1 = q by simpa using m]; exact List.mem_map.mpr ⟨p, hp', rfl⟩)
  exact ⟨by rw [plusK_out ne]; exact h1, h2, vs, h3, z, h4.mono (open_ex c1)⟩⟩
/-- a cell is let go -/
theorem sk_drop {j : Nat} {q : Addr} (hj : κ[j]? = some (q, ds)) (h : SK G ss ρ (κ.eraseIdx j) R) : SK G ss ρ κ R := ⟨fun W B S H σ D ex eb sl cs cn => by
  have hp := perm_erase hj
  refine h.run W B S H σ D ex eb (sl.baseUp fun p h1 h2 => ?_) ((cs.perm hp).sub (List.sublist_cons_self _ _)) cn
  have m : p ∉ kA κ := fun m => by
    rw [plusK_in m] at h2
    exact cs.some_ m h2
  rw [plusK_out m] at h2
  rw [plusK_out fun m' => m ((hp.map _).mem_iff.mpr (List.mem_cons_of_mem _ m'))]
  exact h2⟩
/-! loops -/
def LpK (Nx : List Sl → List Cl → Prop) (R : Oj → Prop) : Oj → Prop
  | .nx ρ κ => Nx ρ κ
  | .ct ρ κ => Nx ρ κ
  | .bk ρ κ => R (.nx ρ κ)
  | .rt r κ => R (.rt r κ)
  | .ex c ρ κ => R (.ex c ρ κ)
theorem sk_for {it : Expr} {pn : Pos} {body : List Stmt} (hi : IF G (.Name n pn) it ρ ds) (Inv : Nat → List Sl → List Cl → Prop) (h0 : Inv 0 ρ κ) (hs : ∀ i d ρ' κ', ds[i]? = some d → Inv i ρ' κ' → SK G body (ρ'.set (G.N.idxOf n) (.sh d)) κ' (LpK (Inv (i + 1)) R)) (hd : ∀ ρ' κ', Inv ds.length ρ' κ' → R (.nx ρ' κ'))
    (hN : G.N.Nodup) (hx : G.N.idxOf n < G.N.length) (ok : setOk G.sc G.fn n = true) (hf : ∀ env x, foldedSetIterable it env x = pure x := by intros; rfl) : SK1 G (.For (.Name n pn) it body [] pos) ρ κ R := by
  refine .of (t := fun W => tFor (tGI G (.Name n pn) it) (gName (G.N.idxOf n)) (tS G W body)) (fun X W h tk => ps_for h.own h.is.calm (pi_of h.is) (pgd hN hx ok X h) (pss_of h tk) (hf _)) fun W B S H σ D ex eb sl cs cn => ?_
  refine hi.run _ S H σ ex sl _ fun J S1 H1 g1 wk => ?_
  obtain ⟨gB, sl1, cs1⟩ := cs.next eb sl (go_minus g1) (cs.minus.keep g1) (fun _ h => h) (fun _ h => .inl h)
  refine ⟨fun i m σ' H' => m = ds.length - i ∧ i ≤ ds.length ∧ ∃ ρ' κ' S', Inv i ρ' κ' ∧ Go S1 B S' H' ∧ Slots G.U (plusK B H' (kA κ')) S' H' σ' ρ' ∧ CS G.U B S' H' κ', ⟨ds.length, rfl, Nat.zero_le _, ρ, κ, S1, h0, ⟨Ex.refl _, gB.sh, gB.bh, fun _ z => .inl z⟩, sl1, cs1⟩, ?_⟩
  rintro i m σ' H' ⟨rfl, hle, ρ', κ', S', inv, g2, sl2, cs2⟩
  obtain ⟨wgo, wstop⟩ := wk S' H' g2.ss g2.sh i
  by_cases hlt : i < ds.length
  · have gi : ds[i]? = some ds[i] := List.getElem?_eq_getElem hlt
    obtain ⟨go, hy⟩ := wgo ds[i] gi
    refine .inr ⟨go, fun σ2 H2 => ∃ ρ2 κ2 S2, Inv (i + 1) ρ2 κ2 ∧ Go S1 B S2 H2 ∧ Slots G.U (plusK B H2 (kA κ2)) S2 H2 σ2 ρ2 ∧ CS G.U B S2 H2 κ2, fun σ2 H2 h2 => ⟨ds.length - (i + 1), by omega, rfl, hlt, h2⟩, fun x H2 hy2 => ?_⟩
    obtain ⟨rfl, rx⟩ := hy x H2 hy2
    refine (hs i ds[i] ρ' κ' gi inv).run W B S' H2 (σ'.set (G.N.idxOf n) (some x)) _ g2.sh g2.bh (sl2.setSh _ rx) cs2 ⟨fun ρ3 κ3 S3 H3 σ3 r3 g3 s3 c3 => ⟨ρ3, κ3, S3, r3, g2.transB g3, s3, c3⟩, fun r κ3 v S3 H3 r3 g3 s3 c3 => cn.rt r κ3 v S3 H3 r3 ((gB.transB g2).transB g3) s3 c3, fun ρ3 κ3 S3 H3 σ3 r3 g3 s3 c3 => cn.nx ρ3 κ3 S3 H3 σ3 r3 ((gB.transB g2).transB g3) s3 c3, fun ρ3 κ3 S3 H3 σ3 r3 g3 s3 c3 => ⟨ρ3, κ3, S3, r3, g2.transB g3, s3, c3⟩, fun c ρ3 κ3 S3 H3 σ3 r3 g3 s3 c3 => cn.ex c ρ3 κ3 S3 H3 σ3 r3 ((gB.transB g2).transB g3) s3 c3⟩
  · have ei : i = ds.length := by omega
    subst ei
    exact .inl ⟨wstop (Nat.le_refl _), cn.nx ρ' κ' S' H' σ' (hd ρ' κ' inv) (gB.transB g2) sl2 cs2⟩
end
/-! defs -/
def DoneL (o : Ot) : Oj → Prop
  | .nx _ _ => o = .inl (.sh .non)
  | .rt r _ => o = .inl r
  | .ex c _ _ => o = .inr c
  | _ => False
/-- a def that changes lists of its own alone -/
theorem fn_okL {U : Wd} {x qual : Str} {st : Stmt} {f : Addr} {fd : FuncData} {N ps : List Str} {k : Nat} {A : List D → Ot → Prop} (F : Fun U.K x qual st f fd) (S : FnScope N ps (defScope st)) (len : ∀ ds o, A ds o → ds.length = ps.length)
    (body : ∀ ds o, A ds o → SK ⟨U, N, defScope st, fun _ => true, k⟩ (defBody st) (begin_ N ds) [] (DoneL o)) : FnOk U.P U.w U.K U.mg U.base (L2.CX U.P U.w) (k + 1) f fd ps (spX U A) := by
  refine F.okX S (fun vs H Q E h => ?_) (fun cdv A0 outer s H vs Q E hr h => ?_)
  · obtain ⟨ds, o, S, hA, _, _, rl, _⟩ := h
    rw [rl.length, len ds o hA]
  · obtain ⟨ds, o, S, hA, ex, nw, rl, q1, q2⟩ := h
    refine ⟨tS ⟨U, N, defScope st, fun _ => true, k⟩ (fun cls d _ H => E cls d H) (defBody st), pss_of ⟨⟨rfl, rfl, rfl, rfl, rfl, rfl, rfl, rfl, rfl, hr⟩, passes_of rfl, rfl, rfl⟩ (takes_of rfl rfl rfl rfl), ?_⟩
    refine (body ds o hA).run _ H S H (L2.start N vs) _ ex (Ex.refl H) (slots_begin rl nw) CS.nil ⟨fun ρ' κ' S' H' σ' r g s c => ?_, fun r κ' v S' H' e g rr c => ?_, fun ρ' κ' S' H' σ' r g s c => r.elim, fun ρ' κ' S' H' σ' r g s c => r.elim, fun e ρ' κ' S' H' σ' r g s c => q2 e r H' g.bh⟩
    · exact q1 _ r .non S' H' g .non
    · refine q1 r e v S' H' g ?_
      cases r with
      | sh d => exact rr
      | ow ds => exact rr
      | fr ds =>
        obtain ⟨p, vs, e1, h1, h2, h3, z, h4⟩ := rr
        refine ⟨p, vs, e1, h1, h2, ?_, z, h4⟩
        have m : p ∉ kA κ' := fun m => by
          rw [plusK_in m] at h3
          exact c.some_ m h3
        rw [plusK_out m] at h3
        exact h3
/-- the promise of a def that changes cells: what it is given, the cells, what it may reach -/
abbrev AK := List D → List Cl → (Rs → List Cl → Prop) → Prop
def spK (U : Wd) (A : AK) : Sp := fun vs H Q E => ∃ ds κ O S, A ds κ O ∧ Ex S H ∧ (∀ a, H a = none → U.nw a) ∧ RepL U S vs ds ∧ CS U (minusK H (kA κ)) S H κ ∧
  (∀ r κ', O r κ' → ∀ v S' H', Go S (minusK H (kA κ)) S' H' → RepR U H S' H' v r → CS U (minusK H (kA κ)) S' H' κ' → Q v H')
structure FnK (U : Wd) (x : Str) (k : Nat) (A : AK) : Prop where
  ex : ∃ f fd ps, U.mg x = some (.ref f) ∧ PySem.W.keepIn U.K (.ref f) = true ∧ Binds U.K fd ps [] ∧ FnOk U.P U.w U.K U.mg U.base (L2.CX U.P U.w) k f fd ps (spK U A)
def DoneK (O : Rs → List Cl → Prop) : Oj → Prop
  | .nx _ κ => O (.sh .non) κ
  | .rt r κ => O r κ
  | _ => False
theorem plus_minus {H : Hp} {as : List Addr} : plusK (minusK H as) H as = H := funext fun a => by
  by_cases q : a ∈ as
  · rw [plusK_in q]
  · rw [plusK_out q, minusK_out q]
theorem fn_okM {U : Wd} {x qual : Str} {st : Stmt} {f : Addr} {fd : FuncData} {N ps : List Str} {k : Nat} {A : AK} (F : Fun U.K x qual st f fd) (S : FnScope N ps (defScope st)) (len : ∀ ds κ O, A ds κ O → ds.length = ps.length) (hk : ∀ ds κ O r κ', A ds κ O → O r κ' → ∀ a ∈ kA κ, a ∈ kA κ')
    (body : ∀ ds κ O, A ds κ O → SK ⟨U, N, defScope st, fun _ => true, k⟩ (defBody st) (begin_ N ds) κ (DoneK O)) : FnOk U.P U.w U.K U.mg U.base (L2.CX U.P U.w) (k + 1) f fd ps (spK U A) := by
  refine F.okX S (fun vs H Q E h => ?_) (fun cdv A0 outer s H vs Q E hr h => ?_)
  · obtain ⟨ds, κ, O, S, hA, _, _, rl, _⟩ := h
    rw [rl.length, len ds κ O hA]
  · obtain ⟨ds, κ, O, S, hA, ex, nw, rl, cs, q1⟩ := h
    refine ⟨tS ⟨U, N, defScope st, fun _ => true, k⟩ (fun cls d _ H => E cls d H) (defBody st), pss_of ⟨⟨rfl, rfl, rfl, rfl, rfl, rfl, rfl, rfl, rfl, hr⟩, passes_of rfl, rfl, rfl⟩ (takes_of rfl rfl rfl rfl), ?_⟩
    refine (body ds κ O hA).run _ (minusK H (kA κ)) S H (L2.start N vs) _ ex minusK_ex (by rw [plus_minus]; exact slots_begin rl nw) cs ⟨fun ρ' κ' S' H' σ' r g s c => ?_, fun r κ' v S' H' e g rr c => ?_, fun ρ' κ' S' H' σ' r g s c => r.elim, fun ρ' κ' S' H' σ' r g s c => r.elim, fun e ρ' κ' S' H' σ' r g s c => r.elim⟩
    · exact q1 _ _ r .non S' H' g .non c
    · refine q1 r κ' e v S' H' g ?_ c
      cases r with
      | sh d => exact rr
      | ow ds => exact rr
      | fr ds =>
        obtain ⟨p, vs, e1, h1, h2, h3, z, h4⟩ := rr
        refine ⟨p, vs, e1, h1, h2, ?_, z, h4⟩
        have m : p ∉ kA κ' := fun m => by
          rw [plusK_in m] at h3
          exact c.some_ m h3
        have m2 : p ∉ kA κ := fun m2 => m (hk _ _ _ _ _ hA e p m2)
        rw [plusK_out m, minusK_out m2] at h3
        exact h3
section
variable {G : Gx} {ρ : List Sl} {κ κ1 κ1' κ2 : List Cl} {e : Expr} {es : List Expr} {pos p : Pos} {r : Rs} {ds : List D} {x : Str} {k : Nat} {A : AK}
/-- f(e, ..), f changing κ1 -/
theorem em_call {O : Rs → List Cl → Prop} (T : FnK G.U x k A) (hk : k ≤ G.k) (hg : GlN G x) (ha : AM G (e :: es) ρ κ ds) (hp : κ.Perm (κ1 ++ κ2)) (hA : A ds κ1 O) (hO : ∀ r' κ', O r' κ' → r' = r ∧ κ' = κ1') (h1 : kA κ1' = kA κ1) (hd : (x == ("__debug__" : Str)) = false := by rfl)
    (hs : StarN e es := by exact ⟨by intro _; rfl, by intros; rfl⟩) : EM G (.Call (.Name x p) (e :: es) [] pos) ρ κ r (κ1' ++ κ2) := by
  obtain ⟨f, fd, ps, gm, kp, bd, F⟩ := T.ex
  have km : ∀ a, a ∈ kA (κ1' ++ κ2) ↔ a ∈ kA κ := fun a => by
    rw [(hp.map _).mem_iff]
    show a ∈ (κ1' ++ κ2).map (·.1) ↔ a ∈ (κ1 ++ κ2).map (·.1)
    rw [List.map_append, List.map_append]
    rw [show κ1'.map (·.1) = κ1.map (·.1) from h1]
  refine ⟨km, fun B S H σ ex eb sl cs Q q X hX pins s I => ?_⟩
  have hpe := pe_call (CX := L2.CX G.U.P G.U.w) (ds := []) (p := p) (pos := pos) (FnOk.at hX F) (hX.room.mono hk) (gl_of hX hg) (by rw [hX.mg]; exact gm) (by rw [hX.K]; exact kp) (by rw [hX.K]; exact bd) .nil (by rw [CX_at hX]; exact passL) (pa_of (es := e :: es) hX) hd (hs.1 _) (hs.2 _ _)
  refine hpe.run pins s σ H Q I ?_
  refine ha.run B S H σ ex eb sl cs _ fun vs S1 H1 g1 rl c1 => ?_
  obtain ⟨gB, sl1, cs1⟩ := cs.next eb sl g1 c1 (fun _ h => h) (fun _ h => .inl h)
  rw [List.append_nil]
  have cp := c1.perm hp
  have s1 : ∀ a ∈ kA κ1, a ∈ kA κ := fun a h => (hp.map _).mem_iff.mpr (by rw [List.map_append]; exact List.mem_append_left _ h)
  have cA : CS G.U (minusK H1 (kA κ1)) S1 H1 κ1 := (cp.sub (List.sublist_append_left _ _)).base fun a h => minusK_in h
  have cB := cp.sub (List.sublist_append_right κ1 κ2)
  have dj : ∀ a ∈ kA κ2, a ∉ kA κ1 := fun a h2 h => by
    have nd := cp.nd
    unfold kA at nd
    rw [List.map_append] at nd
    exact (List.nodup_append.mp nd).2.2 a h a h2 rfl
  refine ⟨ds, κ1, O, S1, hA, g1.sh, sl1.nw, rl, cA, fun r' κ' hO' v S2 H2 g2 rr c2 => ?_⟩
  obtain ⟨rfl, rfl⟩ := hO r' κ' hO'
  have g12 := go_chain g1 s1 g2
  refine q v S2 H2 g12 (rr.back g1 fun a h => cs1.some_ h) ⟨?_, fun p hp' => ?_⟩
  · unfold kA
    rw [List.map_append]
    rw [show κ'.map (·.1) = κ1.map (·.1) from h1]
    have nd := cp.nd
    unfold kA at nd
    rw [List.map_append] at nd
    exact nd
  · rcases List.mem_append.mp hp' with m | m
    · obtain ⟨a1, _, a3⟩ := c2.at_ p m
      refine ⟨a1, minusK_in (s1 _ ?_), a3⟩
      rw [← h1]
      exact List.mem_map.mpr ⟨p, m, rfl⟩
    · obtain ⟨a1, a2, vs', a3, z, a4⟩ := cB.at_ p m
      have pm : p.1 ∈ kA κ2 := List.mem_map.mpr ⟨p, m, rfl⟩
      have h2 : minusK H1 (kA κ1) p.1 = some (.lst vs') := by
        rw [minusK_out (dj _ pm)]
        exact a3
      refine ⟨?_, a2, vs', g2.bh _ _ h2, z, a4.mono g2.ss⟩
      cases qq : S2 p.1 with
      | none => rfl
      | some o =>
        rcases g2.nw p.1 (by rw [qq]; exact fun z => nomatch z) with z | z
        · exact absurd a1 z
        · rw [h2] at z
          cases z
end
end Mb
set_option Elab.async false
set_option linter.all false
set_option maxRecDepth 100000
set_option maxHeartbeats 4000000
namespace Mb
open PySem PySem.Spec PyProof.Rows L2
/-- the cells forgotten -/
def DropK (R : Oc → Prop) : Oj → Prop
  | .nx ρ _ => R (.nx ρ)
  | .rt r _ => R (.rt r)
  | .bk ρ _ => R (.bk ρ)
  | .ct ρ _ => R (.ct ρ)
  | .ex c ρ _ => R (.ex c ρ)
section
variable {U : Wd} {B S H : Hp} {κ : List Cl} {σ : L2.St} {ρ : List Sl} {v : V} {r : Rs}
theorem Slots.less (sl : Slots U (plusK B H (kA κ)) S H σ ρ) (c : CS U B S H κ) : Slots U B S H σ ρ := sl.baseUp fun p h1 h2 => by
  have m : p ∉ kA κ := fun m => by
    rw [plusK_in m] at h2
    exact c.some_ m h2
  rw [plusK_out m] at h2
  exact h2
theorem RepR.less (h : RepR U (plusK B H (kA κ)) S H v r) (c : CS U B S H κ) : RepR U B S H v r := by
  cases r with
  | sh d => exact h
  | ow ds => exact h
  | fr ds =>
    obtain ⟨p, vs, e1, h1, h2, h3, z, h4⟩ := h
    refine ⟨p, vs, e1, h1, h2, ?_, z, h4⟩
    have m : p ∉ kA κ := fun m => by
      rw [plusK_in m] at h3
      exact c.some_ m h3
    rw [plusK_out m] at h3
    exact h3
end
section
variable {G : Gx} {ss : List Stmt} {st : Stmt} {ρ ρ' : List Sl} {κ κ' κ1 κ2 : List Cl} {R : Oc → Prop} {Rj : Oj → Prop} {e e2 c : Expr} {es : List Expr} {pos pos' p : Pos} {r r' : Rs} {d : D} {ds ds2 : List D} {k : Bool} {n : Str}
/-- from here on with cells -/
theorem sd_sk (h : SK G ss ρ [] (DropK R)) : SD G ss ρ R := ⟨fun W B S H σ D ex eb sl cn => h.run W B S H σ D ex eb (by rw [show kA ([] : List Cl) = [] from rfl, plusK_nil]; exact sl) CS.nil ⟨fun ρ' κ' S' H' σ' r g s c => cn.nx ρ' S' H' σ' r g (s.less c), fun r κ' v S' H' a g rr c => cn.rt r v S' H' a g (rr.less c), fun ρ' κ' S' H' σ' r g s c => cn.bk ρ' S' H' σ' r g (s.less c), fun ρ' κ' S' H' σ' r g s c => cn.ct ρ' S' H' σ' r g (s.less c), fun e ρ' κ' S' H' σ' r g s c => cn.ex e ρ' S' H' σ' r g (s.less c)⟩⟩
/-- n = (e, e2): a pair of new lists, both cells from then on -/
theorem sk_pair {k' : Nat} {tp : Pos} (h1 : EM G e ρ κ (.fr ds) κ) (h2 : EM G e2 ρ κ (.fr ds2) κ) (hR : ∀ q q2, Rj (.nx (ρ.set (G.N.idxOf n) (.sh (.tup [.cls q, .cls q2]))) (κ ++ [(q, ds), (q2, ds2)]))) (hN : G.N.Nodup) (hi : G.N.idxOf n < G.N.length) (ok : setOk G.sc G.fn n = true)
    (hs : NoSwap G (.Tuple [e, e2] k' tp) n p pos := by intros _ _; rfl) (he : StarN e [e2] ∧ StarN e2 [] := by exact ⟨⟨by intro _; rfl, by intros; rfl⟩, ⟨by intro _; rfl, by intros; rfl⟩⟩) : SK1 G (.Assign [.Name n p] (.Tuple [e, e2] k' tp) pos) ρ κ Rj := by
  refine .of (t := fun W => tAsg (tG G (.Tuple [e, e2] k' tp)) (gName (G.N.idxOf n))) (ps_setG (te := fun _ => tG G (.Tuple [e, e2] k' tp)) hN hi ok hs fun X W h tk => pe_of h.is) fun W B S H σ D ex eb sl cs cn X hX pins s I => ?_
  have hpe : PE X (.Tuple [e, e2] k' tp) _ := pe_tup (pa_cons (pe_of hX) (pa_cons (pe_of hX) pa_nil (hs := he.2.1 _)) (hs := he.1.1 _))
  refine hpe.run pins s σ H _ I ?_
  refine h1.run B S H σ ex eb sl cs _ fun v S1 H1 g1 r1 c1 => ?_
  obtain ⟨q, vs, e1, a1, a2, a3, z, a4⟩ := r1
  subst e1
  have nq : q ∉ kA κ := fun m => cs.some_ m a3
  obtain ⟨gB, sl1, cs1⟩ := cs.next eb sl g1 c1 (fun _ h => h) (fun _ h => .inl h)
  refine h2.run B S1 H1 σ gB.sh gB.bh sl1 cs1 _ fun v S2 H2 g2 r2 c2 => ?_
  obtain ⟨q2, vs2, e1, b1, b2, b3, z2, b4⟩ := r2
  subst e1
  have nq2 : q2 ∉ kA κ := fun m => cs1.some_ m b3
  have nqq : q2 ≠ q := fun e => by
    rw [e, a1] at b3
    cases b3
  have g12 := go_chain g1 (fun _ h => h) g2
  have m1 : minusK H1 (kA κ) q = some (.lst vs) := by
    rw [minusK_out nq]
    exact a1
  have hq2 := g2.bh _ _ m1
  have sq2 : S2 q = none := by
    cases qq : S2 q with
    | none => rfl
    | some o =>
      rcases g2.nw q (by rw [qq]; exact fun z => nomatch z) with z | z
      · exact absurd a2 z
      · rw [m1] at z
        cases z
  refine ⟨by show 2 ≤ sizeLine; rw [sizeLine_eq]; omega, fun t ht => ?_⟩
  have st : S2 t = none := g2.sh.back ht
  have c3 : CS G.U (minusK H (kA κ)) (upd S2 t (.tup [.ref q, .ref q2])) (upd H2 t (.tup [.ref q, .ref q2])) (κ ++ [(q, ds), (q2, ds2)]) := by
    have ne : ∀ a, H2 a ≠ none → a ≠ t := fun a h e => h (e ▸ ht)
    refine ⟨?_, fun c hc => ?_⟩
    · unfold kA
      rw [List.map_append]
      refine List.nodup_append.mpr ⟨cs.nd, List.nodup_cons.mpr ⟨fun h => nqq (by simpa using h : q = q2).symm, List.nodup_cons.mpr ⟨List.not_mem_nil, List.nodup_nil⟩⟩, fun a ha b hb e => ?_⟩
      have hb : b = q ∨ b = q2 := by simpa using hb
      rcases hb with rfl | rfl
      · exact nq (e ▸ ha)
      · exact nq2 (e ▸ ha)
    · rcases List.mem_append.mp hc with hc | hc
      · obtain ⟨k1, k2, ws, k3, kz, k4⟩ := c2.at_ c hc
        have nt := ne c.1 (by rw [k3]; exact fun z => nomatch z)
        exact ⟨by rw [upd_ne nt]; exact k1, minusK_in (List.mem_map.mpr ⟨c, hc, rfl⟩), ws, by rw [upd_ne nt]; exact k3, kz, k4.mono (Ex.new st)⟩
      · rcases List.mem_cons.mp hc with rfl | hc
        · have nt := ne q (by rw [hq2]; exact fun z => nomatch z)
          refine ⟨by rw [upd_ne nt]; exact sq2, by rw [minusK_out nq]; exact a3, vs, by rw [upd_ne nt]; exact hq2, z, (a4.mono g2.ss).mono (Ex.new st)⟩
        · rw [List.mem_singleton.mp hc]
          have nt := ne q2 (by rw [b1]; exact fun z => nomatch z)
          refine ⟨by rw [upd_ne nt]; exact b2, ?_, vs2, by rw [upd_ne nt]; exact b1, z2, b4.mono (Ex.new st)⟩
          rw [minusK_out nq2]
          cases hh : H q2 with
          | none => rfl
          | some o =>
            rw [g1.bh q2 o (by rw [minusK_out nq2]; exact hh)] at b3
            cases b3
  have ht0 : minusK H (kA κ) t = none := by
    by_cases m : t ∈ kA κ
    · exact minusK_in m
    · cases hh : minusK H (kA κ) t with
      | none => rfl
      | some o =>
        rw [g12.bh _ _ hh] at ht
        cases ht
  have g3 : Go S (minusK H (kA κ)) (upd S2 t (.tup [.ref q, .ref q2])) (upd H2 t (.tup [.ref q, .ref q2])) := ⟨g12.ss.trans (Ex.new st), fun a o h => by
    by_cases e : a = t
    · subst e
      rw [upd_same] at h ⊢
      exact h
    · rw [upd_ne e] at h ⊢
      exact g2.sh _ _ h, g12.bh.trans (Ex.new ht), fun a h => by
    by_cases e : a = t
    · subst e
      exact .inr ht0
    · rw [upd_ne e] at h
      exact g12.nw a h⟩
  have mem : ∀ a, a ∈ kA (κ ++ [(q, ds), (q2, ds2)]) ↔ a ∈ kA κ ∨ a = q ∨ a = q2 := fun a => by
    unfold kA
    rw [List.map_append, List.mem_append]
    simp
  have nH : ∀ a, a ∉ kA κ → H1 a = none → H a = none := fun a m h => by
    cases hh : H a with
    | none => rfl
    | some o =>
      rw [g1.bh a o (by rw [minusK_out m]; exact hh)] at h
      cases h
  obtain ⟨gB2, sl2, cs2⟩ := cs.next eb sl g3 c3 (fun a h => (mem a).mpr (.inl h)) (fun a h => ((mem a).mp h).elim .inl fun h => .inr (by
    rcases h with rfl | rfl
    · exact a3
    · exact nH _ nq2 b3))
  exact cn.nx _ _ _ _ _ (hR q q2) gB2 (sl2.setSh _ (.tup upd_same (by show 2 ≤ sizeLine; rw [sizeLine_eq]; omega) (.cons (.cls q) (.cons (.cls q2) .nil)))) cs2
end
end Mb
set_option Elab.async false
set_option linter.all false
set_option maxRecDepth 100000
set_option maxHeartbeats 4000000
namespace Mb
open PySem PySem.Spec PyProof.Rows L2
section
variable {U : Wd} {B B' S H S' H' : Hp} {κ κ2 κn : List Cl}
theorem CS.app (c : CS U B S H κ) (c2 : CS U B S H κ2) (dj : ∀ a ∈ kA κ, a ∉ kA κ2) : CS U B S H (κ ++ κ2) := ⟨by
  unfold kA
  rw [List.map_append]
  exact List.nodup_append.mpr ⟨c.nd, c2.nd, fun a ha b hb e => dj a ha (e ▸ hb)⟩, fun p hp => (List.mem_append.mp hp).elim (c.at_ p) (c2.at_ p)⟩
theorem kA_app {a : Addr} : a ∈ kA (κ ++ κ2) ↔ a ∈ kA κ ∨ a ∈ kA κ2 := by
  unfold kA
  rw [List.map_append, List.mem_append]
theorem CS.one {q : Addr} {vs : List V} {ds : List D} (h1 : S q = none) (h2 : B q = none) (h3 : H q = some (.lst vs)) (z : vs.length ≤ sizeLine) (r : RepL U S vs ds) : CS U B S H [(q, ds)] := ⟨List.nodup_cons.mpr ⟨List.not_mem_nil, List.nodup_nil⟩, fun c hc => by
  rw [List.mem_singleton.mp hc]
  exact ⟨h1, h2, vs, h3, z, r⟩⟩
end
section
variable {G : Gx} {ss : List Stmt} {st : Stmt} {ρ ρ' : List Sl} {κ κ' κ1 κ2 : List Cl} {R R' : Oj → Prop} {e c : Expr} {es : List Expr} {pos pos' p : Pos} {r r' : Rs} {d : D} {ds : List D} {k : Bool} {n : Str}
/-- no cell is changed from here on -/
theorem sk_freezeAll (ho : slAll (OpS G.U κ ρ) 0 ρ') (h : SK G ss ρ' [] R) (hl : ρ'.length = ρ.length := by rfl) : SK G ss ρ κ R := ⟨fun W B S H σ D ex eb sl cs cn => by
  have sl1 := sl.openB (κ := κ) (fun a ha => by
    rw [plusK_in ha]
    exact cs.some_ ha) ex cs hl ho
  have sl2 := sl1.baseUp (B' := B) fun p h1 h2 => by
    have m : p ∉ kA κ := fun m => by
      rw [plusK_in m] at h2
      exact cs.some_ m h2
    rw [plusK_out m] at h2
    exact h2
  have g : Go S B (plusK S H (kA κ)) H := ⟨open_ex cs, plusK_ex ex, eb, fun a h => by
    by_cases m : a ∈ kA κ
    · exact .inr (cs.mem m).2.1
    · rw [plusK_out m] at h
      exact .inl h⟩
  exact h.run W B _ H σ D g.sh eb (by rw [show kA ([] : List Cl) = [] from rfl, plusK_nil]; exact sl2) CS.nil (cn.go g)⟩
/-! elements that are new cells -/
structure EE (G : Gx) (e : Expr) (ρ : List Sl) (O : D → List Cl → Prop) : Prop where
  run : ∀ (B S H : Hp) (σ : L2.St), Ex S H → Slots G.U B S H σ ρ → ∀ Q : VK, (∀ v S' H' d κn, O d κn → Go S H S' H' → Rep G.U S' v d → CS G.U H S' H' κn → Q v H') → tG G e σ H Q
theorem ee_list (h : ED G e ρ (.fr ds)) : EE G e ρ fun d κn => ∃ q, d = .cls q ∧ κn = [(q, ds)] := ⟨fun B S H σ ex sl Q q => h.run B S H σ ex sl Q fun v S' H' g rr => by
  obtain ⟨p, vs, e1, h1, h2, h3, z, h4⟩ := rr
  subst e1
  exact q _ S' H' _ _ ⟨p, rfl, rfl⟩ g (.cls p) (CS.one h2 h3 h1 z h4)⟩
theorem ee_pair {e2 : Expr} {ds2 : List D} {k' : Nat} {tp : Pos} (h1 : ED G e ρ (.fr ds)) (h2 : ED G e2 ρ (.fr ds2)) (he : StarN e [e2] ∧ StarN e2 [] := by exact ⟨⟨by intro _; rfl, by intros; rfl⟩, ⟨by intro _; rfl, by intros; rfl⟩⟩) :
    EE G (.Tuple [e, e2] k' tp) ρ fun d κn => ∃ q q2, d = .tup [.cls q, .cls q2] ∧ κn = [(q, ds), (q2, ds2)] := ⟨fun B S H σ ex sl Q qq X hX pins s I => by
  have hpe : PE X (.Tuple [e, e2] k' tp) _ := pe_tup (pa_cons (pe_of hX) (pa_cons (pe_of hX) pa_nil (hs := he.2.1 _)) (hs := he.1.1 _))
  refine hpe.run pins s σ H Q I ?_
  refine h1.run B S H σ ex sl _ fun v S1 H1 g1 r1 => ?_
  obtain ⟨q, vs, e1, a1, a2, a3, z, a4⟩ := r1
  subst e1
  refine h2.run B S1 H1 σ g1.sh (sl.go g1) _ fun v S2 H2 g2 r2 => ?_
  obtain ⟨q2, vs2, e1, b1, b2, b3, z2, b4⟩ := r2
  subst e1
  have nqq : q2 ≠ q := fun e => by
    rw [e, a1] at b3
    cases b3
  have hq2 := g2.bh _ _ a1
  have sq2 := g2.own a1 a2
  have g12 := g1.trans g2
  refine ⟨by show 2 ≤ sizeLine; rw [sizeLine_eq]; omega, fun t ht => ?_⟩
  have st : S2 t = none := g2.sh.back ht
  have nt : ∀ a, H2 a ≠ none → a ≠ t := fun a h e => h (e ▸ ht)
  have nt1 := nt q (by rw [hq2]; exact fun z => nomatch z)
  have nt2 := nt q2 (by rw [b1]; exact fun z => nomatch z)
  have c1 : CS G.U H (upd S2 t (.tup [.ref q, .ref q2])) (upd H2 t (.tup [.ref q, .ref q2])) [(q, ds)] := CS.one (by rw [upd_ne nt1]; exact sq2) a3 (by rw [upd_ne nt1]; exact hq2) z ((a4.mono g2.ss).mono (Ex.new st))
  have c2 : CS G.U H (upd S2 t (.tup [.ref q, .ref q2])) (upd H2 t (.tup [.ref q, .ref q2])) [(q2, ds2)] := CS.one (by rw [upd_ne nt2]; exact b2) (g1.bh.back b3) (by rw [upd_ne nt2]; exact b1) z2 (b4.mono (Ex.new st))
  refine qq (.ref t) _ _ _ _ ⟨q, q2, rfl, rfl⟩ (Go.add ⟨g12.ss, g12.sh.trans (Ex.new ht), g12.bh.trans (Ex.new ht), g12.nw⟩ upd_same st (g12.bh.back ht)) (.tup upd_same (by show 2 ≤ sizeLine; rw [sizeLine_eq]; omega) (.cons (.cls q) (.cons (.cls q2) .nil))) (c1.app c2 fun a ha hb => ?_)
  rw [show a = q by simpa using ha] at hb
  exact nqq (by simpa using hb : q = q2).symm⟩
inductive OLs {α : Type} (O : α → D → List Cl → Prop) : List α → List D → List Cl → Prop
  | nil : OLs O [] [] []
  | snoc {xs : List α} {x : α} {ds : List D} {d : D} {κ κn : List Cl} (h : OLs O xs ds κ) (k : O x d κn) : OLs O (xs ++ [x]) (ds ++ [d]) (κ ++ κn)
/-- a comprehension of new cells -/
structure LC (G : Gx) (e : Expr) (ρ : List Sl) (O : List D → List Cl → Prop) : Prop where
  ex : ∃ te : TE, (∀ X, G.is X → PE X e te) ∧ (∀ X, G.is X → ∀ (i : Nat) (y : Str) (py spos : Pos), X.N[i]? = some y → X.env.scope.names.lookup y = some .local → swapsWith e (some (.Name y py)) spos.line X.env = pure true → PS X (.Assign [.Name y py] e spos) (tAsg te (gName i))) ∧
    (∀ (B S H : Hp) (σ : L2.St), Ex S H → Slots G.U B S H σ ρ → ∀ Q : VK, (∀ p vs S' H' ds κn, O ds κn → Go S H S' H' → H' p = some (.lst vs) → S' p = none → H p = none → vs.length ≤ sizeLine → RepL G.U S' vs ds → p ∉ kA κn → CS G.U H S' H' κn → Q (.ref p) H') → te σ H Q)
theorem lc_new {elt it : Expr} {scope : Scope} {α : Type} {xs : List α} {enc : α → D} {pn : Pos} {O : α → D → List Cl → Prop} (hN : G.N.Nodup) (hi : IC G (.Name n pn) it ρ (xs.map enc)) (hj : G.N.idxOf n < G.N.length) (ok : blkC G.N G.sc scope [(n, G.N.idxOf n)] = true) (hl : ownC G.sc scope n = true)
    (he : ∀ i ∈ xs, EE (G.blk scope) elt ((wipeR ρ [G.N.idxOf n]).set (G.N.idxOf n) (.sh (enc i))) (O i)) (hs : ∀ env x, foldedSetIterable it env x = pure x := by intros; rfl) :
    LC G (.ListComp elt [⟨.Name n pn, it, [], 0⟩] scope pos) ρ (OLs O xs) := by
  refine ⟨tLc (tGI G (.Name n pn) it) (gName (G.N.idxOf n)) tYes (tG (G.blk scope) elt) [G.N.idxOf n], fun X k => pe_lc (own := [(n, G.N.idxOf n)]) k.calm (by rw [k.N]; exact hN) (pi_of k) (by rw [k.N, k.sc]; exact blkOk_by ok) (fun s H C cl fp => blk1 hN hj ok hl _ (k.blk s H C cl fp)) (fun s H C cl fp => pts_nil) (fun s H C cl fp => pe_of (k.blk s H C cl fp)) (hs _),
    fun X k i y py spos hy hyl hsw => ps_setLc (own := [(n, G.N.idxOf n)]) k.calm (by rw [k.N]; exact hN) hy hyl hsw (pi_of k) (by rw [k.N, k.sc]; exact blkOk_by ok) (fun s H C cl fp => blk1 hN hj ok hl _ (k.blk s H C cl fp)) (fun s H C cl fp => pts_nil) (fun s H C cl fp => pe_of (k.blk s H C cl fp)) (hs _), fun B S H σ ex sl Q q => ?_⟩
  refine hi.run B S H σ ex sl _ fun J S1 H1 g1 wk hz0 => fun Dl hD => ?_
  have hz : xs.length ≤ sizeLine := by rw [List.length_map] at hz0; exact hz0
  have nS : S1 Dl = none := g1.sh.back hD
  obtain ⟨B1, hB1⟩ : ∃ B1, B1 = upd H1 Dl (.lst []) := ⟨_, rfl⟩
  refine ⟨fun i m H' => m = xs.length - i ∧ i ≤ xs.length ∧ ∃ S' acc ds κ, Ex S1 S' ∧ Ex S' H' ∧ Ex H1 H' ∧ (∀ a, S' a ≠ none → S1 a ≠ none ∨ H1 a = none) ∧ S' Dl = none ∧ H' Dl = some (.lst acc) ∧ OLs O (xs.take i) ds κ ∧ RepL G.U S' acc ds ∧ acc.length = i ∧ CS G.U B1 S' H' κ,
    ⟨xs.length, rfl, Nat.zero_le _, S1, [], [], [], Ex.refl _, g1.sh.trans (Ex.new hD), Ex.new hD, fun _ h => .inl h, nS, upd_same, .nil, .nil, rfl, CS.nil⟩, ?_⟩
  rintro i m H' ⟨rfl, hle, S', acc, ds, κ, e1, e2, e3, nw, sD, hacc, ol, rl, al, cs⟩
  obtain ⟨wgo, wstop⟩ := wk S' H' e1 e2 e3 i
  by_cases hlt : i < xs.length
  · have gi : xs[i]? = some xs[i] := List.getElem?_eq_getElem hlt
    obtain ⟨go, hy⟩ := wgo (enc xs[i]) (by rw [List.getElem?_map, gi]; rfl)
    have hmem : xs[i] ∈ xs := List.getElem_mem hlt
    have tk : xs.take (i + 1) = xs.take i ++ [xs[i]] := by rw [List.take_add_one, gi]; rfl
    refine .inr ⟨go, fun H2 => ∃ S2 acc2 ds2 κ2, Ex S1 S2 ∧ Ex S2 H2 ∧ Ex H1 H2 ∧ (∀ a, S2 a ≠ none → S1 a ≠ none ∨ H1 a = none) ∧ S2 Dl = none ∧ H2 Dl = some (.lst acc2) ∧ OLs O (xs.take (i + 1)) ds2 κ2 ∧ RepL G.U S2 acc2 ds2 ∧ acc2.length = i + 1 ∧ CS G.U B1 S2 H2 κ2, fun H2 h2 => ⟨xs.length - (i + 1), by omega, rfl, hlt, h2⟩, fun y H2 hy2 => ?_⟩
    obtain ⟨rfl, ry⟩ := hy y H2 hy2
    have slw : Slots G.U B S' H2 (wipe σ [G.N.idxOf n]) (wipeR ρ [G.N.idxOf n]) := slots_wipe (((sl.go g1).go ⟨e1, e2, e3, nw⟩)) _
    refine (gd_name (K := G.U.K) (d := enc xs[i]) (j := G.N.idxOf n) (vs := [G.N.idxOf n]) (by simp)).run G.U B S' H2 _ _ y rfl e2 slw ry _ fun σ' ho hl' sl' => ?_
    refine ⟨wipe_ext (by rw [hl', wipe_length]) fun k hk => ?_, ?_⟩
    · rw [ho k hk, wipe_out hk]
    show tG (G.blk scope) elt σ' H2 _
    refine (he xs[i] hmem).run B S' H2 σ' e2 sl' _ fun u S4 H4 d κn hO g4 r4 c4 => ?_
    have s4D : S4 Dl = none := g4.own hacc sD
    have h4D : H4 Dl = some (.lst acc) := g4.bh _ _ hacc
    have nDn : Dl ∉ kA κn := fun m => by
      have := (c4.mem m).2.1
      rw [hacc] at this
      cases this
    have nDk : Dl ∉ kA κ := fun m => by
      have := (cs.mem m).2.1
      rw [hB1, upd_same] at this
      cases this
    have csA : CS G.U B1 S4 (upd H4 Dl (.lst (acc ++ [u]))) κ := by
      have c' := cs.keep g4
      refine ⟨c'.nd, fun p hp => ?_⟩
      obtain ⟨k1, k2, vs, k3, kz, k4⟩ := c'.at_ p hp
      exact ⟨k1, k2, vs, by rw [upd_ne (fun e : p.1 = Dl => nDk (e ▸ List.mem_map.mpr ⟨p, hp, rfl⟩))]; exact k3, kz, k4⟩
    have csB : CS G.U B1 S4 (upd H4 Dl (.lst (acc ++ [u]))) κn := by
      refine ⟨c4.nd, fun p hp => ?_⟩
      obtain ⟨k1, k2, vs, k3, kz, k4⟩ := c4.at_ p hp
      have np : p.1 ≠ Dl := fun e => nDn (e ▸ List.mem_map.mpr ⟨p, hp, rfl⟩)
      refine ⟨k1, ?_, vs, by rw [upd_ne np]; exact k3, kz, k4⟩
      rw [hB1, upd_ne np]
      exact e3.back k2
    refine ⟨acc, h4D, by omega, S4, acc ++ [u], ds ++ [d], κ ++ κn, e1.trans g4.ss, Ex.mut g4.sh s4D, Ex.mut (e3.trans g4.bh) hD, fun a h => (g4.nw a h).elim (nw a) fun z => .inr (e3.back z), s4D, upd_same, by rw [tk]; exact .snoc ol hO, (rl.mono g4.ss).append (.cons r4 .nil), by rw [List.length_append, al]; rfl, csA.app csB fun a ha hb => ?_⟩
    have := (c4.mem hb).2.1
    obtain ⟨_, _, vs, k3⟩ := cs.mem ha
    rw [k3] at this
    cases this
  · have ei : i = xs.length := by omega
    refine .inl ⟨wstop (by rw [List.length_map]; omega), ?_⟩
    have nDk : Dl ∉ kA κ := fun m => by
      have := (cs.mem m).2.1
      rw [hB1, upd_same] at this
      cases this
    rw [ei, List.take_length] at ol
    exact q Dl acc S' H' ds κ ol ⟨g1.ss.trans e1, e2, g1.bh.trans e3, fun a h => (nw a h).elim (g1.nw a) fun z => .inr (g1.bh.back z)⟩ hacc sD (g1.bh.back hD) (by omega) rl nDk (cs.base fun a ha => by
      have := (cs.mem ha).2.1
      rw [hB1, upd_ne (fun e : a = Dl => nDk (e ▸ ha))] at this
      exact g1.bh.back this)
/-- what is new beside what there is -/
theorem CS.join {U : Wd} {B S H S' H' : Hp} {κn : List Cl} (cs : CS U B S H κ) (g : Go S H S' H') (cn : CS U H S' H' κn) : CS U (minusK H (kA κ)) S' H' (κ ++ κn) := by
  have dj : ∀ a ∈ kA κ, a ∉ kA κn := fun a ha hb => by
    have := (cn.mem hb).2.1
    exact cs.some_ ha this
  refine (cs.minus.keep g).app (cn.base fun a ha => ?_) dj
  rw [minusK_out fun m => dj a m ha]
  exact (cn.mem ha).2.1
/-- n = [..]: the list a cell, and what it holds -/
theorem sk_setLC {elt : Expr} {gs : List Comprehension} {scope : Scope} {spos : Pos} {O : List D → List Cl → Prop} (he : LC G (.ListComp elt gs scope pos) ρ O) (hR : ∀ q ds κn, O ds κn → R (.nx (ρ.set (G.N.idxOf n) (.sh (.cls q))) (κ ++ (κn ++ [(q, ds)])))) (hi : G.N.idxOf n < G.N.length) (hk : G.sc.kind = .function) (hy : G.sc.names.lookup n = some .local) (hl : (p.line == pos.line) = true)
    (ha : (scope.names.any fun (m, k) => m == n && (k == .local || k == .cell)) = false) : SK1 G (.Assign [.Name n p] (.ListComp elt gs scope pos) spos) ρ κ R := by
  obtain ⟨te, h1, h2, h3⟩ := he.ex
  refine .of (ps_lcG hi hy (swapT hk hy hl ha) h2) fun W B S H σ D ex eb sl cs cn => ?_
  refine h3 _ S H σ ex sl _ fun q vs S' H' ds κn hO g b1 b2 b3 z rl nq c' => ?_
  have c2 : CS G.U H S' H' (κn ++ [(q, ds)]) := c'.app (CS.one b2 b3 b1 z rl) fun a ha hb => nq (by rw [← (show a = q by simpa using hb)]; exact ha)
  obtain ⟨gB, sl1, cs1⟩ := cs.next eb sl (go_minus g) (cs.join g c2) (fun a h => kA_app.mpr (.inl h)) (fun a h => (kA_app.mp h).imp_right fun m => (c2.mem m).2.1)
  exact cn.nx _ _ S' H' _ (hR q ds κn hO) gB (sl1.setSh _ (.cls q)) cs1
/-- n = [..]: the list stands, what it holds are cells -/
theorem sk_setLS {elt : Expr} {gs : List Comprehension} {scope : Scope} {spos : Pos} {O : List D → List Cl → Prop} (he : LC G (.ListComp elt gs scope pos) ρ O) (hR : ∀ ds κn, O ds κn → R (.nx (ρ.set (G.N.idxOf n) (.sh (.lst ds))) (κ ++ κn))) (hi : G.N.idxOf n < G.N.length) (hk : G.sc.kind = .function) (hy : G.sc.names.lookup n = some .local) (hl : (p.line == pos.line) = true)
    (ha : (scope.names.any fun (m, k) => m == n && (k == .local || k == .cell)) = false) : SK1 G (.Assign [.Name n p] (.ListComp elt gs scope pos) spos) ρ κ R := by
  obtain ⟨te, h1, h2, h3⟩ := he.ex
  refine .of (ps_lcG hi hy (swapT hk hy hl ha) h2) fun W B S H σ D ex eb sl cs cn => ?_
  refine h3 _ S H σ ex sl _ fun q vs S' H' ds κn hO g b1 b2 b3 z rl nq c' => ?_
  have g2 : Go S H (upd S' q (.lst vs)) H' := g.add b1 b2 b3
  have c2 : CS G.U H (upd S' q (.lst vs)) H' κn := ⟨c'.nd, fun c hc => by
    obtain ⟨k1, k2, ws, k3, kz, k4⟩ := c'.at_ c hc
    exact ⟨by rw [upd_ne (fun e : c.1 = q => nq (e ▸ List.mem_map.mpr ⟨c, hc, rfl⟩))]; exact k1, k2, ws, k3, kz, k4.mono (Ex.new b2)⟩⟩
  obtain ⟨gB, sl1, cs1⟩ := cs.next eb sl (go_minus g2) (cs.join g2 c2) (fun a h => kA_app.mpr (.inl h)) (fun a h => (kA_app.mp h).imp_right fun m => (c2.mem m).2.1)
  exact cn.nx _ _ _ H' _ (hR ds κn hO) gB (sl1.setSh _ (.lst upd_same z (rl.mono (Ex.new b2)))) cs1
/-- n = f(..), f handing back new cells -/
theorem sk_callN {x : Str} {kk : Nat} {A : AK} {O : Rs → List Cl → Prop} {np : Pos} (T : FnK G.U x kk A) (hk : kk ≤ G.k) (hg : GlN G x) (ha : AM G (e :: es) ρ κ ds) (hA : A ds [] O) (hR : ∀ r κn, O r κn → ∃ d, r = .sh d ∧ R (.nx (ρ.set (G.N.idxOf n) (.sh d)) (κ ++ κn)))
    (hN : G.N.Nodup) (hi : G.N.idxOf n < G.N.length) (ok : setOk G.sc G.fn n = true) (hd : (x == ("__debug__" : Str)) = false := by rfl) (hs : StarN e es := by exact ⟨by intro _; rfl, by intros; rfl⟩) (hsw : NoSwap G (.Call (.Name x p) (e :: es) [] pos) n np pos' := by intros _ _; rfl) :
    SK1 G (.Assign [.Name n np] (.Call (.Name x p) (e :: es) [] pos) pos') ρ κ R := by
  obtain ⟨f, fd, ps, gm, kp, bd, F⟩ := T.ex
  refine .of (ps_setG (te := fun _ => tG G (.Call (.Name x p) (e :: es) [] pos)) hN hi ok hsw fun X W h tk => pe_of h.is) fun W B S H σ D ex eb sl cs cn X hX pins s I => ?_
  have hpe := pe_call (CX := L2.CX G.U.P G.U.w) (ds := []) (p := p) (pos := pos) (FnOk.at hX F) (hX.room.mono hk) (gl_of hX hg) (by rw [hX.mg]; exact gm) (by rw [hX.K]; exact kp) (by rw [hX.K]; exact bd) .nil (by rw [CX_at hX]; exact passL) (pa_of (es := e :: es) hX) hd (hs.1 _) (hs.2 _ _)
  refine hpe.run pins s σ H _ I ?_
  refine ha.run B S H σ ex eb sl cs _ fun vs S1 H1 g1 rl c1 => ?_
  obtain ⟨gB, sl1, cs1⟩ := cs.next eb sl g1 c1 (fun _ h => h) (fun _ h => .inl h)
  rw [List.append_nil]
  refine ⟨ds, [], O, S1, hA, g1.sh, sl1.nw, rl, CS.nil, fun r' κn hO v S2 H2 g2 rr c2 => ?_⟩
  obtain ⟨d, rfl, hR'⟩ := hR r' κn hO
  rw [show kA ([] : List Cl) = [] from rfl, minusK_nil] at g2 c2
  obtain ⟨gB2, sl2, cs2⟩ := cs1.next gB.bh sl1 (go_minus g2) (cs1.join g2 c2) (fun a h => kA_app.mpr (.inl h)) (fun a h => (kA_app.mp h).imp_right fun m => (c2.mem m).2.1)
  exact cn.nx _ _ S2 H2 _ hR' (gB.transB gB2) (sl2.setSh _ rr) cs2
/-- o.append(e): o the j-th cell, e a new list: a cell more -/
theorem sk_appC {o : Expr} {es' : List D} {j : Nat} {q : Addr} {apos : Pos} (ho : ED G o ρ (.sh (.cls q))) (hj : κ[j]? = some (q, ds)) (he : EM G e ρ κ (.fr es') κ) (hz : ds.length < sizeLine) (hR : ∀ q2, R (.nx ρ (κ.set j (q, ds ++ [.cls q2]) ++ [(q2, es')])))
    (hb : BmOk o "append" e [] apos pos := by exact ⟨by intro _; rfl, by intro _; rfl, rfl, by intro _; rfl, by intros; rfl⟩) (hs2 : ∀ env, swapsWith (.Call (.Attribute o "append" apos) [e] [] pos) none pos'.line env = pure false := by intro _; rfl) : SK1 G (.Expr (.Call (.Attribute o "append" apos) [e] [] pos) pos') ρ κ R := by
  refine .of (t := fun W => tDrop (tG G (.Call (.Attribute o "append" apos) [e] [] pos))) (fun X W h tk => ps_expr (pe_of h.is) (hs2 _)) fun W B S H σ D ex eb sl cs cn X hX pins s I => ?_
  obtain ⟨b1, b2, b3, b4, b5⟩ := hb
  have hpe := pe_bm (apos := apos) (cpos := pos) PySem.F.plainAttrs_list PySem.F.slot_list_append PySem.F.type_list_append mt_append (pe_of (e := o) hX) (pa_cons (pe_of (e := e) hX) pa_nil (hs := b4 _)) (b1 _) (b2 _) b3 (b4 _) (b5 _ _)
  rw [hX.K] at hpe
  refine hpe.run pins s σ H _ I ?_
  refine (em_of (κ := κ) ho).run B S H σ ex eb sl cs _ fun v S1 H1 g1 r1 c1 => ?_
  cases r1
  obtain ⟨gB, sl1, cs1⟩ := cs.next eb sl g1 c1 (fun _ h => h) (fun _ h => .inl h)
  obtain ⟨_, _, vs, hq, _⟩ := c1.at_ _ (List.mem_of_getElem? hj)
  refine ⟨.inl ⟨rfl, _, .of hq⟩, ?_⟩
  refine he.run B S1 H1 σ gB.sh gB.bh sl1 cs1 _ fun v S2 H2 g2 r2 c2 => ?_
  obtain ⟨q2, us, e1, a1, a2, a3, z, a4⟩ := r2
  subst e1
  have g12 := go_chain g1 (fun _ h => h) g2
  obtain ⟨gB2, sl2, cs2⟩ := cs1.next gB.bh sl1 g2 c2 (fun _ h => h) (fun _ h => .inl h)
  obtain ⟨k1, k2, vs2, hq2, z2, rl2⟩ := cs2.at_ _ (List.mem_of_getElem? hj)
  have mq : q ∈ kA κ := List.mem_map.mpr ⟨_, List.mem_of_getElem? hj, rfl⟩
  have nq2 : q2 ∉ kA κ := fun m => cs1.some_ m a3
  have nqq : q2 ≠ q := fun e => nq2 (e ▸ mq)
  refine ⟨q, vs2, .ref q2, rfl, rfl, hq2, by rw [rl2.length]; exact hz, ?_⟩
  have z3 : (vs2 ++ [V.ref q2]).length ≤ sizeLine := by
    rw [List.length_append, rl2.length, List.length_singleton]
    exact hz
  obtain ⟨c3, kc⟩ := cs2.set hj z3 (rl2.append (.cons (.cls q2) .nil))
  have c4 : CS G.U B S2 (upd H2 q (.lst (vs2 ++ [.ref q2]))) (κ.set j (q, ds ++ [.cls q2]) ++ [(q2, es')]) := c3.app (CS.one a2 (gB.bh.back a3) (by rw [upd_ne nqq]; exact a1) z a4) fun a ha hb => nq2 (by rw [← (show a = q2 by simpa using hb), ← kc]; exact ha)
  have nSq : S2 q = none := k1
  have gF : Go S1 B S2 (upd H2 q (.lst (vs2 ++ [.ref q2]))) := ⟨gB2.ss, Ex.mut gB2.sh nSq, Ex.mut gB2.bh k2, gB2.nw⟩
  refine cn.nx ρ _ S2 _ σ (hR q2) (gB.transB gF) ?_ c4
  refine ⟨sl2.len, sl2.sh, fun i fs hf => ?_, sl2.sep, fun a h => sl2.nw a ?_⟩
  · obtain ⟨p, ws, f1, f2, f3, f4, fz, f5⟩ := sl2.own i fs hf
    have m : p ∉ kA κ := fun m => by
      rw [plusK_in m, f2] at f4
      cases f4
    rw [plusK_out m] at f4
    have np : p ≠ q := fun e => m (e ▸ mq)
    have np2 : p ≠ q2 := fun e => by
      obtain ⟨p', ws', f1', f2', _⟩ := sl1.own i fs hf
      rw [f1] at f1'
      cases f1'
      rw [e, a3] at f2'
      cases f2'
    refine ⟨p, ws, f1, by rw [upd_ne np]; exact f2, f3, ?_, fz, f5⟩
    rw [plusK_out fun m' => (kA_app.mp m').elim (fun m' => m (by rw [← kc]; exact m')) fun m' => np2 (by simpa using m')]
    exact f4
  · by_cases e : a = q
    · subst e
      rw [upd_same] at h
      cases h
    · rw [upd_ne e] at h
      exact h
theorem RepL.clss {U : Wd} {S : Hp} : ∀ {vs : List V} {qs : List Addr}, RepL U S vs (qs.map D.cls) → vs = qs.map V.ref
  | _, [], .nil => rfl
  | _, q :: qs, .cons (.cls _) t => by
    rw [RepL.clss t]
    rfl
/-- for n in o: o a cell of cells that is not changed in the body -/
theorem sk_forCell {o : Expr} {q : Addr} {qs : List Addr} {pn : Pos} {body : List Stmt} (ho : ED G o ρ (.sh (.cls q))) (Inv : Nat → List Sl → List Cl → Prop) (h0 : Inv 0 ρ κ) (hm : ∀ i ρ' κ', Inv i ρ' κ' → (q, qs.map D.cls) ∈ κ') (hs : ∀ i a ρ' κ', qs[i]? = some a → Inv i ρ' κ' → SK G body (ρ'.set (G.N.idxOf n) (.sh (.cls a))) κ' (LpK (Inv (i + 1)) R)) (hd : ∀ ρ' κ', Inv qs.length ρ' κ' → R (.nx ρ' κ'))
    (hN : G.N.Nodup) (hx : G.N.idxOf n < G.N.length) (ok : setOk G.sc G.fn n = true) (hf : ∀ env x, foldedSetIterable o env x = pure x := by intros; rfl) : SK1 G (.For (.Name n pn) o body [] pos) ρ κ R := by
  refine .of (t := fun W => tFor (iList G.U.K (tG G o)) (gName (G.N.idxOf n)) (tS G W body)) (fun X W h tk => by
    have := ps_for (pos := pos) h.own h.is.calm (pi_list (tg := .Name n pn) (pe_of (e := o) h.is)) (pgd hN hx ok X h) (pss_of (ss := body) h tk) (hf _)
    rw [h.is.K] at this
    exact this) fun W B S H σ D ex eb sl cs cn => ?_
  refine (em_of (κ := κ) ho).run B S H σ ex eb sl cs _ fun v S1 H1 g1 r1 c1 => ?_
  cases r1
  obtain ⟨gB, sl1, cs1⟩ := cs.next eb sl g1 c1 (fun _ h => h) (fun _ h => .inl h)
  have at_ : ∀ i ρ' κ' S' H', Inv i ρ' κ' → CS G.U B S' H' κ' → H' q = some (.lst (qs.map V.ref)) := fun i ρ' κ' S' H' inv c => by
    obtain ⟨_, _, vs, k3, _, k4⟩ := c.at_ _ (hm i ρ' κ' inv)
    rw [RepL.clss k4] at k3
    exact k3
  refine ⟨q, rfl, ⟨_, .of (at_ 0 ρ κ S1 H1 h0 cs1)⟩, ?_⟩
  refine for_list (K := G.U.K) (a := q) (xs := qs.map V.ref) (fun j σ' H' => ∃ ρ' κ' S', Inv j ρ' κ' ∧ Go S1 B S' H' ∧ Slots G.U (plusK B H' (kA κ')) S' H' σ' ρ' ∧ CS G.U B S' H' κ') ⟨ρ, κ, S1, h0, ⟨Ex.refl _, gB.sh, gB.bh, fun _ z => .inl z⟩, sl1, cs1⟩ (fun j σ' H' _ pv => ?_) (fun j v σ' H' hv pv => ?_) fun σ' H' pv => ?_
  · obtain ⟨ρ', κ', S', inv, _, _, c⟩ := pv
    exact .of (at_ j ρ' κ' S' H' inv c)
  · obtain ⟨ρ', κ', S', inv, g2, sl2, cs2⟩ := pv
    rw [List.getElem?_map] at hv
    cases ha : qs[j]? with
    | none =>
      rw [ha] at hv
      cases hv
    | some a =>
      rw [ha] at hv
      obtain rfl := Option.some.inj (show some (V.ref a) = some v from hv)
      show tS G W body _ (σ'.set (G.N.idxOf n) (some (.ref a))) H'
      exact (hs j a ρ' κ' ha inv).run W B S' H' (σ'.set (G.N.idxOf n) (some (.ref a))) _ g2.sh g2.bh (sl2.setSh _ (.cls a)) cs2 ⟨fun ρ3 κ3 S3 H3 σ3 r3 g3 s3 c3 => ⟨ρ3, κ3, S3, r3, g2.transB g3, s3, c3⟩, fun r κ3 v S3 H3 r3 g3 s3 c3 => cn.rt r κ3 v S3 H3 r3 ((gB.transB g2).transB g3) s3 c3, fun ρ3 κ3 S3 H3 σ3 r3 g3 s3 c3 => cn.nx ρ3 κ3 S3 H3 σ3 r3 ((gB.transB g2).transB g3) s3 c3, fun ρ3 κ3 S3 H3 σ3 r3 g3 s3 c3 => ⟨ρ3, κ3, S3, r3, g2.transB g3, s3, c3⟩, fun c ρ3 κ3 S3 H3 σ3 r3 g3 s3 c3 => cn.ex c ρ3 κ3 S3 H3 σ3 r3 ((gB.transB g2).transB g3) s3 c3⟩
  · rw [List.length_map] at pv
    obtain ⟨ρ', κ', S', inv, g2, sl2, cs2⟩ := pv
    exact cn.nx ρ' κ' S' H' σ' (hd ρ' κ' inv) (gB.transB g2) sl2 cs2
end
end Mb
set_option Elab.async false
set_option linter.all false
set_option maxRecDepth 100000
set_option maxHeartbeats 4000000
namespace Mb
open PySem PySem.Spec PyProof.Rows L2
section
variable {G : Gx} {ρ ρ' : List Sl} {κ : List Cl} {a b e : Expr} {pos : Pos} {x y : Str} {d : D}
theorem str_dec : decide (V.str x = V.str y) = decide (x = y) := decide_eq_decide.mpr ⟨fun h => V.str.inj h, fun h => congrArg V.str h⟩
theorem cp_eqS (ha : ED G a ρ (.sh (.str x))) (hb : ED G b ρ (.sh (.str y))) : ED G (.Compare a [.Eq] [b] pos) ρ (.sh (.bl (decide (x = y)))) ∧ TD G (.Compare a [.Eq] [b] pos) ρ (decide (x = y)) :=
  cmpB (r := rEq) (fun _ _ => op_eq) ha hb (r2_val fun S H v w e rv rw Q q => by
    cases rv
    cases rw
    exact ⟨rfl, q _ (by rw [str_dec]; exact .bl _)⟩) (nomark _)
theorem cp_neS (ha : ED G a ρ (.sh (.str x))) (hb : ED G b ρ (.sh (.str y))) : ED G (.Compare a [.NotEq] [b] pos) ρ (.sh (.bl (!decide (x = y)))) ∧ TD G (.Compare a [.NotEq] [b] pos) ρ (!decide (x = y)) :=
  cmpB (r := rNe) (fun _ _ => op_ne) ha hb (r2_val fun S H v w e rv rw Q q => by
    cases rv
    cases rw
    exact ⟨rfl, q _ (by rw [str_dec]; exact .bl _)⟩) (nomark _)
/-- what stands on new places alone, read through cells -/
theorem em_new (ho : slAll (OpS G.U κ ρ) 0 ρ') (h : EvNw G e ρ' d) (hl : ρ'.length = ρ.length := by rfl) : EM G e ρ κ (.sh d) κ := ⟨fun _ => Iff.rfl, fun B S H σ ex eb sl cs Q q => by
  refine h.run _ (plusK S H (kA κ)) H σ (plusK_ex ex) (sl.opened ex cs hl ho) Q fun v N H' n rr => ?_
  have g := n.go ex
  exact q v _ H' (go_minus g) (Rep.mono (n.r ex) rr) (cs.minus.keep g)⟩
end
/-! lists of numbers, each a cell -/
def cells (qs : List Addr) (rows : List (List Int)) : List Cl := (qs.zip rows).map fun c => (c.1, c.2.map D.int)
section
variable {qs : List Addr} {rows : List (List Int)} {q : Addr} {r : List Int} {U : Wd} {κ : List Cl}
theorem cells_cons : cells (q :: qs) (r :: rows) = (q, r.map D.int) :: cells qs rows := rfl
theorem cells_snoc (h : qs.length = rows.length) : cells (qs ++ [q]) (rows ++ [r]) = cells qs rows ++ [(q, r.map D.int)] := by
  unfold cells
  rw [List.zip_append h, List.map_append]
  rfl
theorem opn_rows : ∀ {qs : List Addr} {rows : List (List Int)}, qs.length = rows.length → (∀ c ∈ cells qs rows, c ∈ κ) → OpnL U κ (qs.map D.cls) (rows.map encS)
  | [], [], _, _ => opnL_nil
  | q :: qs, r :: rows, h, hs => opnL_cons (opn_ints (hs _ List.mem_cons_self)) (opn_rows (by simpa using h) fun c hc => hs c (List.mem_cons_of_mem _ hc))
theorem cells_get {j : Nat} (h : qs.length = rows.length) (hj : j < qs.length) : (cells qs rows)[j]? = some (qs[j], (rows[j]'(by omega)).map D.int) := by
  unfold cells
  rw [List.getElem?_map, List.getElem?_eq_getElem (by rw [List.length_zip]; omega), List.getElem_zip]
  rfl
theorem cells_set : ∀ {qs : List Addr} {rows : List (List Int)} {j : Nat}, qs.length = rows.length → (hj : j < qs.length) → (cells qs rows).set j (qs[j], r.map D.int) = cells qs (rows.set j r)
  | q :: qs, r' :: rows, 0, h, hj => rfl
  | q :: qs, r' :: rows, j + 1, h, hj => by
    show (q, r'.map D.int) :: (cells qs rows).set j (qs[j]'(by simpa using hj), r.map D.int) = _
    rw [cells_set (by simpa using h) (by simpa using hj)]
    rfl
  | [], _, _, _, hj => by cases hj
theorem ols_cells {ds : List D} (h : OLs (fun (r : List Int) d κn => ∃ q, d = .cls q ∧ κn = [(q, r.map D.int)]) rows ds κ) : ∃ qs : List Addr, qs.length = rows.length ∧ ds = qs.map D.cls ∧ κ = cells qs rows := by
  induction h with
  | nil => exact ⟨[], rfl, rfl, rfl⟩
  | snoc h k ih =>
    obtain ⟨qs, e1, e2, e3⟩ := ih
    obtain ⟨q, rfl, rfl⟩ := k
    refine ⟨qs ++ [q], by rw [List.length_append, List.length_append, e1]; rfl, by rw [List.map_append, e2]; rfl, by rw [cells_snoc e1, e3]⟩
end
end Mb
set_option Elab.async false
set_option linter.all false
set_option maxRecDepth 100000
set_option maxHeartbeats 4000000
namespace Mb
open PySem PySem.Spec PyProof.Rows L2
section
variable {G : Gx} {c : Addr} {κ : Addr → Nat → Option V} {e f : Expr} {pos p : Pos} {b : Bool} {i j : Int}
theorem eh_int {k} : EH G c κ (.Constant (.int i) k pos) (.int i) := ⟨fun X oe pn a hX hz hf => ⟨tC (.int i), pe_int, fun σ H Q k q => q H (Ex.refl H)⟩⟩
theorem eh_add (h : EH G c κ e (.int i)) (k : EH G c κ f (.int j)) : EH G c κ (.BinOp e .Add f pos) (.int (i + j)) := ⟨fun X oe pn a hX hz hf => by
  obtain ⟨te, h1, h2⟩ := h.run X oe pn a hX hz hf
  obtain ⟨te', k1, k2⟩ := k.run X oe pn a hX hz hf
  exact ⟨_, pe_add h1 k1, fun σ H Q kk q => h2 σ H _ kk fun H' e => k2 σ H' _ kk fun H'' e' => ⟨i, j, rfl, rfl, q H'' (e.trans e')⟩⟩⟩
theorem eh_mul (hi : -(2 ^ 64) < i ∧ i < 2 ^ 64) (h : EH G c κ e (.int i)) (k : EH G c κ f (.int j)) : EH G c κ (.BinOp e .Mult f pos) (.int (i * j)) := ⟨fun X oe pn a hX hz hf => by
  obtain ⟨te, h1, h2⟩ := h.run X oe pn a hX hz hf
  obtain ⟨te', k1, k2⟩ := k.run X oe pn a hX hz hf
  exact ⟨_, pe_mul h1 k1, fun σ H Q kk q => h2 σ H _ kk fun H' e => k2 σ H' _ kk fun H'' e' => ⟨i, j, rfl, rfl, hi, q H'' (e.trans e')⟩⟩⟩
theorem eh_intB (h : EH G c κ e (.bl b)) (hg : GlN G "int") (hm : G.U.mg "int" = none) (hs : Star1 e := by intro _; rfl) : EH G c κ (.Call (.Name "int" p) [e] [] pos) (.int (if b then 1 else 0)) := ⟨fun X oe pn a hX hz hf => by
  obtain ⟨te, h1, h2⟩ := h.run X oe pn a hX hz hf
  exact ⟨_, pe_callTy call_int1 (gl_su hX hg) (by show X.mg _ = _; rw [hX.is.mg]; exact hm) (by decide +kernel) (pa_cons h1 pa_nil (hs := hs _)) (by decide) (by rfl) (hs _), fun σ H Q k q => h2 σ H _ k fun H' e => .inr ⟨b, rfl, q H' e⟩⟩⟩
/-- a suite that sets two names -/
theorem ha_set2 {n1 n2 : Str} {i0 : Nat} {p1 p2 q1 q2 : Pos} {e1 e2 : Expr} {b1 : Bool} {t0 z : Int} {ρ : List Sl} {R : Oc → Prop}
    (h1 : EH G c (fun a j => if j = i0 then some (.ref a) else none) e1 (.bl b1))
    (h2 : EH G c (fun a j => if j = G.N.idxOf n1 then some (.bl b1) else if j = i0 then some (.ref a) else if j = G.N.idxOf n2 then some (.int t0) else none) e2 (.int z))
    (hl : i0 < ρ.length) (a1 : G.N.idxOf n1 ≠ i0) (a2 : G.N.idxOf n2 ≠ i0) (a12 : G.N.idxOf n1 ≠ G.N.idxOf n2) (l1 : G.N.idxOf n1 < ρ.length) (ht : ρ[G.N.idxOf n2]? = some (.sh (.int t0)))
    (hR : R (.nx (((ρ.set (G.N.idxOf n1) (.sh (.bl b1))).set (G.N.idxOf n2) (.sh (.int z))).set i0 .no)))
    (hN : G.N.Nodup) (hi1 : G.N.idxOf n1 < G.N.length) (hi2 : G.N.idxOf n2 < G.N.length) (ok1 : setOk G.sc G.fn n1 = true) (ok2 : setOk G.sc G.fn n2 = true)
    (hs1 : ∀ env, swapsWith e1 (some (.Name n1 p1)) q1.line env = pure false := by intro _; rfl) (hs2 : ∀ env, swapsWith e2 (some (.Name n2 p2)) q2.line env = pure false := by intro _; rfl) :
    HA G i0 [.Assign [.Name n1 p1] e1 q1, .Assign [.Name n2 p2] e2 q2] c ρ R := ⟨fun B S H σ D W a ex eb sl cn na X oe pn hX hz hf pins s I => by
  obtain ⟨te1, k1, r1⟩ := h1.run X oe pn a hX hz hf
  obtain ⟨te2, k2, r2⟩ := h2.run X oe pn a hX hz hf
  have st1 : PS (X.suite a ((a, oe) :: pn)) (.Assign [.Name n1 p1] e1 q1) _ := ps_set (i := G.N.idxOf n1) (by show X.N.Nodup; rw [hX.is.N]; exact hN) (by show X.N[_]? = _; rw [hX.is.N]; exact ixAt hi1) (by show Loc X.env.scope n1; rw [hX.is.sc]; exact (setOk_loc ok1).1) k1 (hs1 _) (by show X.fn n1 = true ∨ X.env.scope.names.lookup n1 = _; rw [hX.is.fn, hX.is.sc]; exact (setOk_loc ok1).2)
  have st2 : PS (X.suite a ((a, oe) :: pn)) (.Assign [.Name n2 p2] e2 q2) _ := ps_set (i := G.N.idxOf n2) (by show X.N.Nodup; rw [hX.is.N]; exact hN) (by show X.N[_]? = _; rw [hX.is.N]; exact ixAt hi2) (by show Loc X.env.scope n2; rw [hX.is.sc]; exact (setOk_loc ok2).1) k2 (hs2 _) (by show X.fn n2 = true ∨ X.env.scope.names.lookup n2 = _; rw [hX.is.fn, hX.is.sc]; exact (setOk_loc ok2).2)
  have sle := sl.len
  refine (pss_cons st1 (pss_one st2)).run pins s _ H _ I ?_
  refine r1 _ H _ (fun j w hj => ?_) fun H' e => ?_
  · by_cases q : j = i0
    · subst q
      rw [if_pos rfl] at hj
      cases hj
      exact List.getElem?_set_self (by rw [sle]; exact hl)
    · rw [if_neg q] at hj
      cases hj
  · refine r2 _ H' _ (fun j w hj => ?_) fun H'' e' => ?_
    · by_cases q1 : j = G.N.idxOf n1
      · subst q1
        rw [if_pos rfl] at hj
        cases hj
        exact List.getElem?_set_self (by rw [List.length_set, sle]; exact l1)
      · rw [if_neg q1] at hj
        rw [List.getElem?_set_ne fun z => q1 z.symm]
        by_cases q : j = i0
        · subst q
          rw [if_pos rfl] at hj
          cases hj
          exact List.getElem?_set_self (by rw [sle]; exact hl)
        · rw [if_neg q] at hj
          rw [List.getElem?_set_ne fun z => q z.symm]
          by_cases q2 : j = G.N.idxOf n2
          · subst q2
            rw [if_pos rfl] at hj
            cases hj
            obtain ⟨v, hv, rv⟩ := sl.sh _ _ ht
            cases rv
            exact hv
          · rw [if_neg q2] at hj
            cases hj
    · have go : Go S B S H'' := ⟨Ex.refl S, ex.trans (e.trans e'), eb.trans (e.trans e'), fun _ z => .inl z⟩
      have go' : Go S H S H'' := ⟨Ex.refl S, ex.trans (e.trans e'), e.trans e', fun _ z => .inl z⟩
      have sl2 := (((sl.go go').setSh (G.N.idxOf n1) (.bl b1 : Rep G.U S (.bl b1) (.bl b1))).setSh (G.N.idxOf n2) (.int z : Rep G.U S (.int z) (.int z))).setNo i0 (x := none)
      have eq : ((((σ.set i0 (some (.ref a))).set (G.N.idxOf n1) (some (.bl b1))).set (G.N.idxOf n2) (some (.int z))).set i0 none) = (((σ.set (G.N.idxOf n1) (some (.bl b1))).set (G.N.idxOf n2) (some (.int z))).set i0 none) := by
        rw [List.set_comm _ _ (fun z => a1 z.symm), List.set_comm _ _ (fun z => a2 z.symm), List.set_set]
      refine cn.nx _ S H'' _ hR go ?_
      show Slots _ _ _ _ ((((σ.set i0 (some (.ref a))).set (G.N.idxOf n1) (some (.bl b1))).set (G.N.idxOf n2) (some (.int z))).set i0 none) _
      rw [eq]
      exact sl2⟩
end
section
variable {G : Gx} {ρ : List Sl} {κ κ1 κ2 : List Cl} {e : Expr} {es : List Expr} {pos pos2 pos3 p : Pos} {ds : List D} {x : Str} {k : Nat} {A : AK} {R : Oj → Prop}
/-- f(e, ..), any of some ends -/
theorem em_callE {O : Rs → List Cl → Prop} (T : FnK G.U x k A) (hk : k ≤ G.k) (hg : GlN G x) (ha : AM G (e :: es) ρ κ ds) (hp : κ.Perm (κ1 ++ κ2)) (hA : A ds κ1 O) (h1 : ∀ r κ', O r κ' → kA κ' = kA κ1) (hd : (x == ("__debug__" : Str)) = false := by rfl)
    (hs : StarN e es := by exact ⟨by intro _; rfl, by intros; rfl⟩) (B S H : Hp) (σ : L2.St) (ex : Ex S H) (eb : Ex B H) (sl : Slots G.U (plusK B H (kA κ)) S H σ ρ) (cs : CS G.U B S H κ) (Q : VK) (q : ∀ r κ' v S' H', O r κ' → (∀ a, a ∈ kA (κ' ++ κ2) ↔ a ∈ kA κ) → Go S (minusK H (kA κ)) S' H' → RepR G.U H S' H' v r → CS G.U (minusK H (kA κ)) S' H' (κ' ++ κ2) → Q v H') :
    tG G (.Call (.Name x p) (e :: es) [] pos) σ H Q := by
  obtain ⟨f, fd, ps, gm, kp, bd, F⟩ := T.ex
  have km : ∀ κ1', kA κ1' = kA κ1 → ∀ a, a ∈ kA (κ1' ++ κ2) ↔ a ∈ kA κ := fun κ1' h1 a => by
    rw [(hp.map _).mem_iff]
    show a ∈ (κ1' ++ κ2).map (·.1) ↔ a ∈ (κ1 ++ κ2).map (·.1)
    rw [List.map_append, List.map_append]
    rw [show κ1'.map (·.1) = κ1.map (·.1) from h1]
  intro X hX pins s I
  have hpe := pe_call (CX := L2.CX G.U.P G.U.w) (ds := []) (p := p) (pos := pos) (FnOk.at hX F) (hX.room.mono hk) (gl_of hX hg) (by rw [hX.mg]; exact gm) (by rw [hX.K]; exact kp) (by rw [hX.K]; exact bd) .nil (by rw [CX_at hX]; exact passL) (pa_of (es := e :: es) hX) hd (hs.1 _) (hs.2 _ _)
  refine hpe.run pins s σ H Q I ?_
  refine ha.run B S H σ ex eb sl cs _ fun vs S1 H1 g1 rl c1 => ?_
  obtain ⟨gB, sl1, cs1⟩ := cs.next eb sl g1 c1 (fun _ h => h) (fun _ h => .inl h)
  rw [List.append_nil]
  have cp := c1.perm hp
  have s1 : ∀ a ∈ kA κ1, a ∈ kA κ := fun a h => (hp.map _).mem_iff.mpr (by rw [List.map_append]; exact List.mem_append_left _ h)
  have cA : CS G.U (minusK H1 (kA κ1)) S1 H1 κ1 := (cp.sub (List.sublist_append_left _ _)).base fun a h => minusK_in h
  have cB := cp.sub (List.sublist_append_right κ1 κ2)
  have dj : ∀ a ∈ kA κ2, a ∉ kA κ1 := fun a h2 h => by
    have nd := cp.nd
    unfold kA at nd
    rw [List.map_append] at nd
    exact (List.nodup_append.mp nd).2.2 a h a h2 rfl
  refine ⟨ds, κ1, O, S1, hA, g1.sh, sl1.nw, rl, cA, fun r' κ' hO' v S2 H2 g2 rr c2 => ?_⟩
  have h1 := h1 r' κ' hO'
  have g12 := go_chain g1 s1 g2
  refine q r' κ' v S2 H2 hO' (km κ' h1) g12 (rr.back g1 fun a h => cs1.some_ h) ⟨?_, fun p hp' => ?_⟩
  · unfold kA
    rw [List.map_append]
    rw [show κ'.map (·.1) = κ1.map (·.1) from h1]
    have nd := cp.nd
    unfold kA at nd
    rw [List.map_append] at nd
    exact nd
  · rcases List.mem_append.mp hp' with m | m
    · obtain ⟨a1, _, a3⟩ := c2.at_ p m
      refine ⟨a1, minusK_in (s1 _ ?_), a3⟩
      rw [← h1]
      exact List.mem_map.mpr ⟨p, m, rfl⟩
    · obtain ⟨a1, a2, vs', a3, z, a4⟩ := cB.at_ p m
      have pm : p.1 ∈ kA κ2 := List.mem_map.mpr ⟨p, m, rfl⟩
      have h2 : minusK H1 (kA κ1) p.1 = some (.lst vs') := by
        rw [minusK_out (dj _ pm)]
        exact a3
      refine ⟨?_, a2, vs', g2.bh _ _ h2, z, a4.mono g2.ss⟩
      cases qq : S2 p.1 with
      | none => rfl
      | some o =>
        rcases g2.nw p.1 (by rw [qq]; exact fun z => nomatch z) with z | z
        · exact absurd a1 z
        · rw [h2] at z
          cases z
/-- if not f(..): body, f being true -/
theorem sk_ifCallE {O : Rs → List Cl → Prop} {body orelse : List Stmt} (T : FnK G.U x k A) (hk : k ≤ G.k) (hg : GlN G x) (ha : AM G (e :: es) ρ κ ds) (hp : κ.Perm (κ1 ++ κ2)) (hA : A ds κ1 O) (hO : ∀ r κ', O r κ' → r = .sh (.bl true) ∧ kA κ' = kA κ1 ∧ SK G orelse ρ (κ' ++ κ2) R) (hd : (x == ("__debug__" : Str)) = false := by rfl)
    (hs : StarN e es := by exact ⟨by intro _; rfl, by intros; rfl⟩) (he : ∀ env whole, isTrue (.Call (.Name x p) (e :: es) [] pos) env whole = (do let v ← whole; standAt (Expr.Call (.Name x p) (e :: es) [] pos).pos; holding [v] (truthy v)) := by intros; rfl) :
    SK1 G (.If (.UnaryOp .Not (.Call (.Name x p) (e :: es) [] pos) pos2) body orelse pos3) ρ κ R := .of (fun X W h tk => ps_if (pt_of h.is) (pss_of h tk) (pss_of h tk)) fun W B S H σ D ex eb sl cs cn X hX pins s I => by
  have pt := pt_not (pos := pos2) (pt_val (pe_of (e := .Call (.Name x p) (e :: es) [] pos) hX) (he X.env))
  refine pt.run pins s σ H _ I ?_
  refine em_callE T hk hg ha hp hA (fun r κ' o => (hO r κ' o).2.1) hd hs B S H σ ex eb sl cs _ fun r κ' v S1 H1 o ka g1 r1 c1 => ?_
  obtain ⟨rfl, h1, h2⟩ := hO r κ' o
  obtain ⟨gB, sl1, cs1⟩ := cs.next eb sl g1 c1 (fun a h => (ka a).mpr h) (fun a h => .inl ((ka a).mp h))
  cases r1
  refine ⟨true, rfl, ?_⟩
  exact h2.run W B S1 H1 σ D gB.sh gB.bh sl1 cs1 (cn.go gB)
theorem sk_retCallE {O : Rs → List Cl → Prop} {d : D} (T : FnK G.U x k A) (hk : k ≤ G.k) (hg : GlN G x) (ha : AM G (e :: es) ρ κ ds) (hp : κ.Perm (κ1 ++ κ2)) (hA : A ds κ1 O) (hO : ∀ r κ', O r κ' → r = .sh d ∧ kA κ' = kA κ1 ∧ ∃ κ3, (κ' ++ κ2).Perm κ3 ∧ R (.rt (.sh d) κ3)) (hd : (x == ("__debug__" : Str)) = false := by rfl)
    (hs : StarN e es := by exact ⟨by intro _; rfl, by intros; rfl⟩) : SK1 G (.Return (some (.Call (.Name x p) (e :: es) [] pos)) pos2) ρ κ R := .of (fun X W h tk => ps_ret (pe_of h.is)) fun W B S H σ D ex eb sl cs cn => by
  refine em_callE T hk hg ha hp hA (fun r κ' o => (hO r κ' o).2.1) hd hs B S H σ ex eb sl cs _ fun r κ' v S1 H1 o ka g1 r1 c1 => ?_
  obtain ⟨rfl, h1, κ3, hp3, h2⟩ := hO r κ' o
  obtain ⟨gB, sl1, cs1⟩ := cs.next eb sl g1 c1 (fun a h => (ka a).mpr h) (fun a h => .inl ((ka a).mp h))
  exact cn.rt _ _ v S1 H1 h2 gB r1 (cs1.perm hp3)
end
section
variable {G : Gx} {ss : List Stmt} {ρ : List Sl} {κ : List Cl} {Rj : Oj → Prop} {e e2 : Expr} {ds ds2 : List D} {n : Str} {pos p : Pos}
/-- n = [e, e2]: a list of two new lists, both cells from then on -/
theorem sk_pairL {tp : Pos} (h1 : EM G e ρ κ (.fr ds) κ) (h2 : EM G e2 ρ κ (.fr ds2) κ) (hR : ∀ q q2, Rj (.nx (ρ.set (G.N.idxOf n) (.sh (.lst [.cls q, .cls q2]))) (κ ++ [(q, ds), (q2, ds2)]))) (hN : G.N.Nodup) (hi : G.N.idxOf n < G.N.length) (ok : setOk G.sc G.fn n = true)
    (hs : NoSwap G (.List [e, e2] tp) n p pos := by intros _ _; rfl) (he : StarN e [e2] ∧ StarN e2 [] := by exact ⟨⟨by intro _; rfl, by intros; rfl⟩, ⟨by intro _; rfl, by intros; rfl⟩⟩) : SK1 G (.Assign [.Name n p] (.List [e, e2] tp) pos) ρ κ Rj := by
  refine .of (t := fun W => tAsg (tG G (.List [e, e2] tp)) (gName (G.N.idxOf n))) (ps_setG (te := fun _ => tG G (.List [e, e2] tp)) hN hi ok hs fun X W h tk => pe_of h.is) fun W B S H σ D ex eb sl cs cn X hX pins s I => ?_
  have hpe : PE X (.List [e, e2] tp) _ := pe_lst (pa_cons (pe_of hX) (pa_cons (pe_of hX) pa_nil (hs := he.2.1 _)) (hs := he.1.1 _))
  refine hpe.run pins s σ H _ I ?_
  refine h1.run B S H σ ex eb sl cs _ fun v S1 H1 g1 r1 c1 => ?_
  obtain ⟨q, vs, e1, a1, a2, a3, z, a4⟩ := r1
  subst e1
  have nq : q ∉ kA κ := fun m => cs.some_ m a3
  obtain ⟨gB, sl1, cs1⟩ := cs.next eb sl g1 c1 (fun _ h => h) (fun _ h => .inl h)
  refine h2.run B S1 H1 σ gB.sh gB.bh sl1 cs1 _ fun v S2 H2 g2 r2 c2 => ?_
  obtain ⟨q2, vs2, e1, b1, b2, b3, z2, b4⟩ := r2
  subst e1
  have nq2 : q2 ∉ kA κ := fun m => cs1.some_ m b3
  have nqq : q2 ≠ q := fun e => by
    rw [e, a1] at b3
    cases b3
  have g12 := go_chain g1 (fun _ h => h) g2
  have m1 : minusK H1 (kA κ) q = some (.lst vs) := by
    rw [minusK_out nq]
    exact a1
  have hq2 := g2.bh _ _ m1
  have sq2 : S2 q = none := by
    cases qq : S2 q with
    | none => rfl
    | some o =>
      rcases g2.nw q (by rw [qq]; exact fun z => nomatch z) with z | z
      · exact absurd a2 z
      · rw [m1] at z
        cases z
  refine ⟨by show 2 ≤ sizeLine; rw [sizeLine_eq]; omega, fun t ht => ?_⟩
  have st : S2 t = none := g2.sh.back ht
  have c3 : CS G.U (minusK H (kA κ)) (upd S2 t (.lst [.ref q, .ref q2])) (upd H2 t (.lst [.ref q, .ref q2])) (κ ++ [(q, ds), (q2, ds2)]) := by
    have ne : ∀ a, H2 a ≠ none → a ≠ t := fun a h e => h (e ▸ ht)
    refine ⟨?_, fun c hc => ?_⟩
    · unfold kA
      rw [List.map_append]
      refine List.nodup_append.mpr ⟨cs.nd, List.nodup_cons.mpr ⟨fun h => nqq (by simpa using h : q = q2).symm, List.nodup_cons.mpr ⟨List.not_mem_nil, List.nodup_nil⟩⟩, fun a ha b hb e => ?_⟩
      have hb : b = q ∨ b = q2 := by simpa using hb
      rcases hb with rfl | rfl
      · exact nq (e ▸ ha)
      · exact nq2 (e ▸ ha)
    · rcases List.mem_append.mp hc with hc | hc
      · obtain ⟨k1, k2, ws, k3, kz, k4⟩ := c2.at_ c hc
        have nt := ne c.1 (by rw [k3]; exact fun z => nomatch z)
        exact ⟨by rw [upd_ne nt]; exact k1, minusK_in (List.mem_map.mpr ⟨c, hc, rfl⟩), ws, by rw [upd_ne nt]; exact k3, kz, k4.mono (Ex.new st)⟩
      · rcases List.mem_cons.mp hc with rfl | hc
        · have nt := ne q (by rw [hq2]; exact fun z => nomatch z)
          refine ⟨by rw [upd_ne nt]; exact sq2, by rw [minusK_out nq]; exact a3, vs, by rw [upd_ne nt]; exact hq2, z, (a4.mono g2.ss).mono (Ex.new st)⟩
        · rw [List.mem_singleton.mp hc]
          have nt := ne q2 (by rw [b1]; exact fun z => nomatch z)
          refine ⟨by rw [upd_ne nt]; exact b2, ?_, vs2, by rw [upd_ne nt]; exact b1, z2, b4.mono (Ex.new st)⟩
          rw [minusK_out nq2]
          cases hh : H q2 with
          | none => rfl
          | some o =>
            rw [g1.bh q2 o (by rw [minusK_out nq2]; exact hh)] at b3
            cases b3
  have ht0 : minusK H (kA κ) t = none := by
    by_cases m : t ∈ kA κ
    · exact minusK_in m
    · cases hh : minusK H (kA κ) t with
      | none => rfl
      | some o =>
        rw [g12.bh _ _ hh] at ht
        cases ht
  have g3 : Go S (minusK H (kA κ)) (upd S2 t (.lst [.ref q, .ref q2])) (upd H2 t (.lst [.ref q, .ref q2])) := ⟨g12.ss.trans (Ex.new st), fun a o h => by
    by_cases e : a = t
    · subst e
      rw [upd_same] at h ⊢
      exact h
    · rw [upd_ne e] at h ⊢
      exact g2.sh _ _ h, g12.bh.trans (Ex.new ht), fun a h => by
    by_cases e : a = t
    · subst e
      exact .inr ht0
    · rw [upd_ne e] at h
      exact g12.nw a h⟩
  have mem : ∀ a, a ∈ kA (κ ++ [(q, ds), (q2, ds2)]) ↔ a ∈ kA κ ∨ a = q ∨ a = q2 := fun a => by
    unfold kA
    rw [List.map_append, List.mem_append]
    simp
  have nH : ∀ a, a ∉ kA κ → H1 a = none → H a = none := fun a m h => by
    cases hh : H a with
    | none => rfl
    | some o =>
      rw [g1.bh a o (by rw [minusK_out m]; exact hh)] at h
      cases h
  obtain ⟨gB2, sl2, cs2⟩ := cs.next eb sl g3 c3 (fun a h => (mem a).mpr (.inl h)) (fun a h => ((mem a).mp h).elim .inl fun h => .inr (by
    rcases h with rfl | rfl
    · exact a3
    · exact nH _ nq2 b3))
  exact cn.nx _ _ _ _ _ (hR q q2) gB2 (sl2.setSh _ (.lst upd_same (by show 2 ≤ sizeLine; rw [sizeLine_eq]; omega) (.cons (.cls q) (.cons (.cls q2) .nil)))) cs2
end
end Mb
set_option Elab.async false
set_option linter.all false
set_option maxRecDepth 100000
set_option maxHeartbeats 4000000
namespace Mb
open PySem PySem.Spec PyProof.Rows L2
theorem sk_sub {G : Gx} {ss : List Stmt} {ρ : List Sl} {κ κ2 : List Cl} {R : Oj → Prop} (hs : κ2.Sublist κ) (h : SK G ss ρ κ2 R) : SK G ss ρ κ R := ⟨fun W B S H σ D ex eb sl cs cn => by
  refine h.run W B S H σ D ex eb (sl.baseUp fun p h1 h2 => ?_) (cs.sub hs) cn
  have m : p ∉ kA κ := fun m => by
    rw [plusK_in m] at h2
    exact cs.some_ m h2
  rw [plusK_out m] at h2
  rw [plusK_out fun m' => m ((hs.map _).subset m')]
  exact h2⟩
section
variable {G : Gx} {ss : List Stmt} {ρ : List Sl} {κ κ1 κ2 : List Cl} {Rj : Oj → Prop} {e e2 : Expr} {es : List Expr} {ds ds2 : List D} {d : D} {n : Str} {pos p pos' : Pos}
/-- what a new list beside the cells is -/
theorem cs_more {U : Wd} {B S H S2 H2 : Hp} {q t : Addr} {vs us : List V} {ds : List D} (cs : CS U B S H κ) (eb : Ex B H) (sl : Slots U (plusK B H (kA κ)) S H σ ρ) (g12 : Go S (minusK H (kA κ)) S2 H2) (c2 : CS U (minusK H (kA κ)) S2 H2 κ) (hq0 : H q = none) (hq2 : H2 q = some (.lst vs)) (sq2 : S2 q = none) (z : vs.length ≤ sizeLine) (a4 : RepL U S2 vs ds) (ht : H2 t = none) :
    Go S B (upd S2 t (.tup us)) (upd H2 t (.tup us)) ∧ CS U B (upd S2 t (.tup us)) (upd H2 t (.tup us)) (κ ++ [(q, ds)]) := by
  have nq : q ∉ kA κ := fun m => cs.some_ m hq0
  have st : S2 t = none := g12.sh.back ht
  have ne : ∀ a, H2 a ≠ none → a ≠ t := fun a h e => h (e ▸ ht)
  have c3 : CS U (minusK H (kA κ)) (upd S2 t (.tup us)) (upd H2 t (.tup us)) (κ ++ [(q, ds)]) := by
    refine ⟨?_, fun c hc => ?_⟩
    · unfold kA
      rw [List.map_append]
      refine List.nodup_append.mpr ⟨cs.nd, List.nodup_cons.mpr ⟨List.not_mem_nil, List.nodup_nil⟩, fun a ha b hb e => ?_⟩
      rw [show b = q by simpa using hb] at e
      exact nq (e ▸ ha)
    · rcases List.mem_append.mp hc with hc | hc
      · obtain ⟨k1, k2, ws, k3, kz, k4⟩ := c2.at_ c hc
        have nt := ne c.1 (by rw [k3]; exact fun z => nomatch z)
        exact ⟨by rw [upd_ne nt]; exact k1, minusK_in (List.mem_map.mpr ⟨c, hc, rfl⟩), ws, by rw [upd_ne nt]; exact k3, kz, k4.mono (Ex.new st)⟩
      · rw [List.mem_singleton.mp hc]
        have nt := ne q (by rw [hq2]; exact fun z => nomatch z)
        exact ⟨by rw [upd_ne nt]; exact sq2, by rw [minusK_out nq]; exact hq0, vs, by rw [upd_ne nt]; exact hq2, z, a4.mono (Ex.new st)⟩
  have ht0 : minusK H (kA κ) t = none := by
    by_cases m : t ∈ kA κ
    · exact minusK_in m
    · cases hh : minusK H (kA κ) t with
      | none => rfl
      | some o =>
        rw [g12.bh _ _ hh] at ht
        cases ht
  have g3 : Go S (minusK H (kA κ)) (upd S2 t (.tup us)) (upd H2 t (.tup us)) := ⟨g12.ss.trans (Ex.new st), fun a o h => by
    by_cases e : a = t
    · subst e
      rw [upd_same] at h ⊢
      exact h
    · rw [upd_ne e] at h ⊢
      exact g12.sh _ _ h, g12.bh.trans (Ex.new ht), fun a h => by
    by_cases e : a = t
    · subst e
      exact .inr ht0
    · rw [upd_ne e] at h
      exact g12.nw a h⟩
  have mem : ∀ a, a ∈ kA (κ ++ [(q, ds)]) ↔ a ∈ kA κ ∨ a = q := fun a => by
    unfold kA
    rw [List.map_append, List.mem_append]
    simp
  obtain ⟨gB2, _, cs2⟩ := cs.next eb sl g3 c3 (fun a h => (mem a).mpr (.inl h)) (fun a h => ((mem a).mp h).elim .inl fun h => .inr (by rw [h]; exact hq0))
  exact ⟨gB2, cs2⟩
/-- return (e, e2), e a new list -/
theorem sk_retT1 {k' : Nat} {tp : Pos} (h1 : EM G e ρ κ (.fr ds) κ) (h2 : EM G e2 ρ κ (.sh d) κ) (hR : ∀ q, Rj (.rt (.sh (.tup [.cls q, d])) (κ ++ [(q, ds)]))) (he : StarN e [e2] ∧ StarN e2 [] := by exact ⟨⟨by intro _; rfl, by intros; rfl⟩, ⟨by intro _; rfl, by intros; rfl⟩⟩) : SK1 G (.Return (some (.Tuple [e, e2] k' tp)) pos) ρ κ Rj := by
  refine .of (fun X W h tk => ps_ret (pe_of h.is)) fun W B S H σ D ex eb sl cs cn X hX pins s I => ?_
  have hpe : PE X (.Tuple [e, e2] k' tp) _ := pe_tup (pa_cons (pe_of hX) (pa_cons (pe_of hX) pa_nil (hs := he.2.1 _)) (hs := he.1.1 _))
  refine hpe.run pins s σ H _ I ?_
  refine h1.run B S H σ ex eb sl cs _ fun v S1 H1 g1 r1 c1 => ?_
  obtain ⟨q, vs, e1, a1, a2, a3, z, a4⟩ := r1
  subst e1
  have nq : q ∉ kA κ := fun m => cs.some_ m a3
  obtain ⟨gB, sl1, cs1⟩ := cs.next eb sl g1 c1 (fun _ h => h) (fun _ h => .inl h)
  refine h2.run B S1 H1 σ gB.sh gB.bh sl1 cs1 _ fun v S2 H2 g2 r2 c2 => ?_
  have g12 := go_chain g1 (fun _ h => h) g2
  have m1 : minusK H1 (kA κ) q = some (.lst vs) := by
    rw [minusK_out nq]
    exact a1
  have hq2 := g2.bh _ _ m1
  have sq2 : S2 q = none := by
    cases qq : S2 q with
    | none => rfl
    | some o =>
      rcases g2.nw q (by rw [qq]; exact fun z => nomatch z) with z | z
      · exact absurd a2 z
      · rw [m1] at z
        cases z
  refine ⟨by show 2 ≤ sizeLine; rw [sizeLine_eq]; omega, fun t ht => ?_⟩
  have c2' : CS G.U (minusK H (kA κ)) S2 H2 κ := c2.base fun a h => minusK_in h
  obtain ⟨gF, cF⟩ := cs_more (us := [.ref q, v]) cs eb sl g12 c2' a3 hq2 sq2 z (a4.mono g2.ss) ht
  have st : S2 t = none := g2.sh.back ht
  exact cn.rt _ _ _ _ _ (hR q) gF (Rep.tup upd_same (by show 2 ≤ sizeLine; rw [sizeLine_eq]; omega) (.cons (.cls q) (.cons (Rep.mono (Ex.new st) r2) .nil))) cF
/-- return (e, e2), e2 a new list -/
theorem sk_retT2 {k' : Nat} {tp : Pos} (h1 : EM G e ρ κ (.sh d) κ) (h2 : EM G e2 ρ κ (.fr ds) κ) (hR : ∀ q, Rj (.rt (.sh (.tup [d, .cls q])) (κ ++ [(q, ds)]))) (he : StarN e [e2] ∧ StarN e2 [] := by exact ⟨⟨by intro _; rfl, by intros; rfl⟩, ⟨by intro _; rfl, by intros; rfl⟩⟩) : SK1 G (.Return (some (.Tuple [e, e2] k' tp)) pos) ρ κ Rj := by
  refine .of (fun X W h tk => ps_ret (pe_of h.is)) fun W B S H σ D ex eb sl cs cn X hX pins s I => ?_
  have hpe : PE X (.Tuple [e, e2] k' tp) _ := pe_tup (pa_cons (pe_of hX) (pa_cons (pe_of hX) pa_nil (hs := he.2.1 _)) (hs := he.1.1 _))
  refine hpe.run pins s σ H _ I ?_
  refine h1.run B S H σ ex eb sl cs _ fun v S1 H1 g1 r1 c1 => ?_
  obtain ⟨gB, sl1, cs1⟩ := cs.next eb sl g1 c1 (fun _ h => h) (fun _ h => .inl h)
  refine h2.run B S1 H1 σ gB.sh gB.bh sl1 cs1 _ fun w S2 H2 g2 r2 c2 => ?_
  obtain ⟨q, vs, e1, a1, a2, a3, z, a4⟩ := r2
  subst e1
  have g12 := go_chain g1 (fun _ h => h) g2
  have nq : q ∉ kA κ := fun m => cs1.some_ m a3
  have a0 : H q = none := by
    cases hh : H q with
    | none => rfl
    | some o =>
      rw [g1.bh q o (by rw [minusK_out nq]; exact hh)] at a3
      cases a3
  refine ⟨by show 2 ≤ sizeLine; rw [sizeLine_eq]; omega, fun t ht => ?_⟩
  have c2' : CS G.U (minusK H (kA κ)) S2 H2 κ := c2.base fun a h => minusK_in h
  obtain ⟨gF, cF⟩ := cs_more (us := [v, .ref q]) cs eb sl g12 c2' a0 a1 a2 z a4 ht
  have st : S2 t = none := g2.sh.back ht
  exact cn.rt _ _ _ _ _ (hR q) gF (Rep.tup upd_same (by show 2 ≤ sizeLine; rw [sizeLine_eq]; omega) (.cons (Rep.mono (g2.ss.trans (Ex.new st)) r1) (.cons (.cls q) .nil))) cF
/-- n = f(..), f handing back new cells beside those it got -/
theorem sk_callC {x : Str} {kk : Nat} {A : AK} {O : Rs → List Cl → Prop} {np : Pos} (T : FnK G.U x kk A) (hk : kk ≤ G.k) (hg : GlN G x) (ha : AM G (e :: es) ρ κ ds) (hp : κ.Perm (κ1 ++ κ2)) (hA : A ds κ1 O) (hR : ∀ r κ', O r κ' → ∃ d, r = .sh d ∧ (∀ a ∈ kA κ1, a ∈ kA κ') ∧ Rj (.nx (ρ.set (G.N.idxOf n) (.sh d)) (κ' ++ κ2)))
    (hN : G.N.Nodup) (hi : G.N.idxOf n < G.N.length) (ok : setOk G.sc G.fn n = true) (hd : (x == ("__debug__" : Str)) = false := by rfl) (hs : StarN e es := by exact ⟨by intro _; rfl, by intros; rfl⟩) (hsw : NoSwap G (.Call (.Name x p) (e :: es) [] pos) n np pos' := by intros _ _; rfl) :
    SK1 G (.Assign [.Name n np] (.Call (.Name x p) (e :: es) [] pos) pos') ρ κ Rj := by
  obtain ⟨f, fd, ps, gm, kp, bd, F⟩ := T.ex
  refine .of (ps_setG (te := fun _ => tG G (.Call (.Name x p) (e :: es) [] pos)) hN hi ok hsw fun X W h tk => pe_of h.is) fun W B S H σ D ex eb sl cs cn X hX pins s I => ?_
  have hpe := pe_call (CX := L2.CX G.U.P G.U.w) (ds := []) (p := p) (pos := pos) (FnOk.at hX F) (hX.room.mono hk) (gl_of hX hg) (by rw [hX.mg]; exact gm) (by rw [hX.K]; exact kp) (by rw [hX.K]; exact bd) .nil (by rw [CX_at hX]; exact passL) (pa_of (es := e :: es) hX) hd (hs.1 _) (hs.2 _ _)
  refine hpe.run pins s σ H _ I ?_
  refine ha.run B S H σ ex eb sl cs _ fun vs S1 H1 g1 rl c1 => ?_
  obtain ⟨gB, sl1, cs1⟩ := cs.next eb sl g1 c1 (fun _ h => h) (fun _ h => .inl h)
  rw [List.append_nil]
  have cp := cs1.perm hp
  have mm : ∀ a, a ∈ kA κ ↔ a ∈ kA κ1 ∨ a ∈ kA κ2 := fun a => by
    rw [← kA_app]
    exact (hp.map _).mem_iff
  have cA : CS G.U (minusK H1 (kA κ1)) S1 H1 κ1 := (cp.sub (List.sublist_append_left _ _)).base fun a h => minusK_in h
  have cB := cp.sub (List.sublist_append_right κ1 κ2)
  have dj : ∀ a ∈ kA κ2, a ∉ kA κ1 := fun a h2 h => by
    have nd := cp.nd
    unfold kA at nd
    rw [List.map_append] at nd
    exact (List.nodup_append.mp nd).2.2 a h a h2 rfl
  refine ⟨ds, κ1, O, S1, hA, gB.sh, sl1.nw, rl, cA, fun r' κ' hO' v S2 H2 g2 rr c2 => ?_⟩
  obtain ⟨d, rfl, h1, hR'⟩ := hR r' κ' hO'
  have cB2 : CS G.U (minusK H1 (kA κ)) S2 H2 κ2 := ⟨cB.nd, fun p m => by
    obtain ⟨a1, a2, vs', a3, z, a4⟩ := cB.at_ p m
    have pm : p.1 ∈ kA κ2 := List.mem_map.mpr ⟨p, m, rfl⟩
    have h2 : minusK H1 (kA κ1) p.1 = some (.lst vs') := by
      rw [minusK_out (dj _ pm)]
      exact a3
    refine ⟨?_, minusK_in ((mm _).mpr (.inr pm)), vs', g2.bh _ _ h2, z, a4.mono g2.ss⟩
    cases qq : S2 p.1 with
    | none => rfl
    | some o =>
      rcases g2.nw p.1 (by rw [qq]; exact fun z => nomatch z) with z | z
      · exact absurd a1 z
      · rw [h2] at z
        cases z⟩
  have fresh : ∀ a ∈ kA κ', a ∈ kA κ1 ∨ H1 a = none := fun a h => by
    by_cases m : a ∈ kA κ1
    · exact .inl m
    · have := (c2.mem h).2.1
      rw [minusK_out m] at this
      exact .inr this
  have cA2 : CS G.U (minusK H1 (kA κ)) S2 H2 κ' := c2.base fun a h => by
    rcases fresh a h with m | m
    · exact minusK_in ((mm a).mpr (.inl m))
    · by_cases m2 : a ∈ kA κ
      · exact minusK_in m2
      · rw [minusK_out m2]
        exact m
  have gg : Go S1 (minusK H1 (kA κ)) S2 H2 := ⟨g2.ss, g2.sh, fun a o h => by
    have m : a ∉ kA κ := fun m => by
      rw [minusK_in m] at h
      cases h
    rw [minusK_out m] at h
    refine g2.bh a o ?_
    rw [minusK_out fun m1 => m ((mm a).mpr (.inl m1))]
    exact h, fun a h => (g2.nw a h).imp_right fun z => by
    by_cases m : a ∈ kA κ
    · exact minusK_in m
    · rw [minusK_out fun m1 => m ((mm a).mpr (.inl m1))] at z
      rw [minusK_out m]
      exact z⟩
  obtain ⟨gB2, sl2, cs2⟩ := cs1.next gB.bh sl1 gg (cA2.app cB2 fun a ha hb => by
    rcases fresh a ha with m | m
    · exact dj a hb m
    · exact cs1.some_ ((mm a).mpr (.inr hb)) m) (fun a h => kA_app.mpr (((mm a).mp h).imp_left (h1 a))) (fun a h => by
    rcases kA_app.mp h with m | m
    · exact (fresh a m).imp_left fun m => (mm a).mpr (.inl m)
    · exact .inl ((mm a).mpr (.inr m)))
  exact cn.nx _ _ S2 H2 _ hR' (gB.transB gB2) (sl2.setSh _ rr) cs2
end
end Mb
set_option Elab.async false
set_option linter.all false
set_option maxRecDepth 100000
set_option maxHeartbeats 4000000
namespace Mb
open PySem PySem.Spec PyProof.Rows L2 RT
section
variable {prog : Program} {w : World} {A : Around} {s : Shared} {E : Value → Shared → Prop}
theorem init_list_rev {R : Result → Shared → Prop} {it l : Addr} {items : Array Value} (hh : A.handled = none) (hit : s.heap.IsRevIter it l ((items.size : Int) - 1)) (hl : s.heap.IsList l items) (hne : l ≠ it) (hn : items.size ≤ sizeLine) (S : Addr) (hSi : S ≠ it) (hSl : S ≠ l) (hS : s.heap.get? S = some { cls := .type "list", data := .seq #[] })
    (hR : ∀ h' tk acc' c', (∀ b o, b ≠ S → b ≠ it → s.heap.get? b = some o → h'.get? b = some o) → h'.get? S = some { cls := .type "list", dict := none, data := .seq acc' c', slots := #[] } → ItemsOf (fun i v => items[items.size - 1 - i]? = some v) acc' items.size → R (.ok (.ret .none)) { s with heap := h', toks := tk }) :
    wpAny (model prog w) A.in1 (Builtin.«list.__init__» ⟨[.ref S, .ref it], []⟩)
      (fun fin s' => match fin with | .done f => R (.ok f) s' | .again c' => c'.quiet = true ∧ codeAny (model prog w) A c' R s') (fun e s' => R (.error e) s') s := by
  show wpAny _ A.in1 (do let old ← Builtin.List.listItems (.ref S); Builtin.List.listUpdate (.ref S) (fun _ => #[]); letGo old.toList.reverse; Builtin.List.listExtendWith (.ref S) (.ref it) .none) _ _ s
  refine wpAny_bind ?_
  unfold Builtin.List.listItems
  refine wpAny_bind (wpAny_seqItems hS rfl (wpAny_pure ?_))
  show wpAny _ A.in1 (updateSeq S (fun _ => #[]) >>= fun _ => letGo (#[] : Array Value).toList.reverse >>= fun _ => Builtin.List.listExtendWith (.ref S) (.ref it) .none) _ _ s
  refine wpAny_bind (wpAny_updateSeq hS rfl ?_)
  have hS₂ := Heap.get?_update_self (Obj.mapSeq (fun _ => (#[] : Array Value))) hS rfl
  have oth : ∀ b o, b ≠ S → s.heap.get? b = some o → (s.heap.update S (Obj.mapSeq (fun _ => (#[] : Array Value)))).get? b = some o :=
    fun b o hb e => (Heap.get?_update_other _ _ (Ne.symm hb)).trans e
  refine wpAny_bind (wpAny_letGo ?_)
  have hit1 : (s.heap.update S (Obj.mapSeq (fun _ => (#[] : Array Value)))).IsRevIter it l ((items.size : Int) - 1) := hit.at fun o e => oth it o hSi.symm e
  have hl1 : (s.heap.update S (Obj.mapSeq (fun _ => (#[] : Array Value)))).IsList l items := by
    obtain ⟨o, h1, r⟩ := hl
    exact ⟨o, oth l o hSl.symm h1, r⟩
  have W := (Walks.listRev (prog := prog) (w := w) (A := A.in1) hh it l hne items).toS
  have hSf : S ∉ [it, l] := by
    simp only [List.mem_cons, List.not_mem_nil, or_false, not_or]
    exact ⟨hSi, hSl⟩
  have hT : ({ s with heap := s.heap.update S (Obj.mapSeq (fun _ => (#[] : Array Value))) } : Shared).TypeIs (.ref it) "list_reverseiterator" := Heap.IsRevIter.typeIs (s := { s with heap := s.heap.update S (Obj.mapSeq (fun _ => (#[] : Array Value))) }) hit1
  have h1 : Builtin.List.listSameRef (.ref S) (.ref it) = false := by simp [Builtin.List.listSameRef, hSi]
  unfold Builtin.List.listExtendWith
  refine wpAny_bind (wpAny_typeOf hT ?_)
  rw [if_neg (by rw [h1]; decide)]
  refine wpAny_bind (wpAny_pyIter_revIter (s := { s with heap := s.heap.update S (Obj.mapSeq (fun _ => (#[] : Array Value))) }) hit1 ?_)
  refine wpAny_bind (wpAny_holding ?_)
  unfold Builtin.List.listLengthHint
  refine wpAny_bind (wpAny_specialOf hT nolen_lri ?_)
  show wpAny _ A.in1 (specialOf (Value.ref it) (Str.ofString "__length_hint__") >>= _) _ _ _
  refine wpAny_bind (wpAny_specialOf hT hint_lri ?_)
  generalize hid : ("list_reverseiterator.__length_hint__" : String) = id0
  wp_delta
  rw [show splitId id0 = some ("list_reverseiterator", "__length_hint__") from by subst hid; decide +kernel]
  subst hid
  refine wpAny_bind (wpAny_isInstance (b := true) hT (by rw [isSubtype_type]; kernel_rfl) ?_)
  refine wpAny_pure ?_
  rw [if_neg (by decide)]
  have e0 : ((items.size : Nat) : Int) - 1 - ((0 : Nat) : Int) = (items.size : Int) - 1 := by omega
  refine wpAny_pure ⟨plainId_quiet F.plain_extend_loop _, codeAny_extend_loopS W hn _ hSf _ items.size 0 _ _ _ rfl (Nat.zero_le _) ⟨Nat.zero_le _, by rw [e0]; exact hit1, hl1⟩ hS₂ (ItemsOf.nil _) fun s' acc' c' hm hS' hacc => ?_⟩
  rw [Moved.eq_with hm]
  refine hR s'.heap s'.toks acc' c' (fun b o hb hb2 e => hm.heap b o (fun hmem => ?_) (oth b o hb e)) hS' hacc
  rcases List.mem_cons.mp hmem with e' | hmem
  · exact hb e'
  · exact hb2 (List.mem_singleton.mp hmem)
theorem call_list_rev {Q : Value → Shared → Prop} {it l : Addr} {items : Array Value} (hh : A.handled = none) (hit : s.heap.IsRevIter it l ((items.size : Int) - 1)) (hl : s.heap.IsList l items) (hne : l ≠ it) (hn : items.size ≤ sizeLine)
    (hQ : ∀ h' tk acc' c', (∀ b o, b ≠ it → s.heap.get? b = some o → h'.get? b = some o) → h'.get? s.heap.objs.size = some { cls := .type "list", dict := none, data := .seq acc' c', slots := #[] } → ItemsOf (fun i v => items[items.size - 1 - i]? = some v) acc' items.size → Q (.ref s.heap.objs.size) { s with heap := h', toks := tk }) :
    wpAny (model prog w) A (call (.type "list") [.ref it]) Q E s := by
  obtain ⟨oi, hoi, _⟩ := id hit
  obtain ⟨ol, hol, _⟩ := id hl
  have hSi : s.heap.objs.size ≠ it := Nat.ne_of_gt (Heap.lt_size hoi)
  have hSl : s.heap.objs.size ≠ l := Nat.ne_of_gt (Heap.lt_size hol)
  refine callType_codes (Q₁ := fun obj s₁ => obj = .ref s.heap.objs.size ∧ s₁ = { s with heap := s.heap.push { cls := .type "list", data := .seq #[] } }) F.called_list (F.typeCall_list_1 _) F.entry_list_init
    (code_list_new _ ⟨rfl, rfl⟩) fun obj s₁ h₁ => ?_
  obtain ⟨rfl, rfl⟩ := h₁
  have hS : (s.heap.push { cls := .type "list", data := .seq #[] }).get? s.heap.objs.size = some { cls := .type "list", data := .seq #[] } := Heap.get?_push_size _ rfl
  refine ⟨⟨_, hS, rfl⟩, F.args_list_init_2 _ _, init_list_rev (A := A.in1) (s := { s with heap := s.heap.push { cls := .type "list", data := .seq #[] } }) hh (hit.at fun o e => Heap.get?_push_of_some _ e) (hl.push _) hne hn _ hSi hSl hS fun h' tk acc' c' hk hS' hacc => ?_⟩
  exact ⟨rfl, hQ h' tk acc' c' (fun b o hb e => hk b o (Nat.ne_of_lt (Heap.lt_size e)) hb (Heap.get?_push_of_some _ e)) hS' hacc⟩
end
section
variable {X : Cx}
theorem pe_listRev {e : Expr} {te : TE} {p p2 pos pos2 : Pos} (hc : X.calm = true) (hg : Gl X "list") (hm : X.mg "list" = none) (hg2 : Gl X "reversed") (hm2 : X.mg "reversed" = none) (he : PE X e te)
    (hs : starEach [e] X.env = (false, eval e X.env) :: starEach [] X.env := by rfl)
    (hs2 : starEach [.Call (.Name "reversed" p2) [e] [] pos2] X.env = (false, eval (.Call (.Name "reversed" p2) [e] [] pos2) X.env) :: starEach [] X.env := by rfl) :
    PE X (.Call (.Name "list" p) [.Call (.Name "reversed" p2) [e] [] pos2] [] pos) (fun σ H Q => te σ H fun v H1 => ∃ (a : Addr) (xs : List V), v = .ref a ∧ SqL X.K H1 a xs ∧ ∀ q, H1 q = none → Q (.ref q) (upd H1 q (.lst xs.reverse))) := by
  refine ⟨fun pins s σ H Q I h => ?_⟩
  refine Call_ (ld_blt I hg hm boot_list (PyProof.Rows.callWith_type1 (args_cons (Call_ (ld_blt I hg2 hm2 PyProof.Rows.boot_reversed (PyProof.Rows.callWith_type1 (args_cons (thn (he.run pins s σ H _ I h) fun u s1 ⟨v, H1, I1, r1, q1⟩ => args_nil ?_) hs) hs rfl))) hs2) hs2 rfl))
  obtain ⟨a, xs, ev, hq, q⟩ := q1
  subst ev
  obtain rfl : u = Value.ref a := r1
  obtain ⟨its, rv, p', hz⟩ := I1.list hq
  refine call_reversed_list p'.isList (args_nil ?_)
  have hl := p'.isList
  obtain ⟨ol, hol, _⟩ := id hl
  have hne : a ≠ s1.heap.objs.size := Nat.ne_of_lt (Heap.lt_size hol)
  have hn : its.toArray.size ≤ sizeLine := by rw [List.size_toArray, ← rv.length]; exact hz
  have hle : s1.heap.objs.size ≤ (s1.heap.push (revObj a ((its.toArray.size : Int) - 1))).objs.size := by
    show s1.heap.objs.size ≤ (s1.heap.objs.push _).size
    rw [Array.size_push]
    exact Nat.le_succ _
  refine call_list_rev (s := { s1 with heap := s1.heap.push (revObj a ((its.toArray.size : Int) - 1)) }) (I1.ok.hd hc) ⟨_, Heap.get?_push_size _ rfl, rfl, rfl⟩ (hl.push _) hne hn fun h' tk acc c' hk hS' hi => ?_
  refine ⟨.ref _, upd H1 _ (.lst xs.reverse), I1.laid (t' := tk) (fun b o e => hk b o (Nat.ne_of_lt (Heap.lt_size e)) (Heap.get?_push_of_some _ e)) hle (show ObjOk X.prog X.w _ _ _ (.lst xs.reverse) from ⟨by rw [List.length_reverse]; exact hz, acc.toList, c', vals_rev rv hi, ?_⟩), rfl, q _ (I1.hok.fresh hle)⟩
  rw [Array.toArray_toList]
  exact hS'
end
theorem RepL.rev {U : Wd} {S : Hp} : ∀ {vs : List V} {ds : List D}, RepL U S vs ds → RepL U S vs.reverse ds.reverse
  | _, _, .nil => .nil
  | _, _, .cons h t => by
    rw [List.reverse_cons, List.reverse_cons]
    exact (RepL.rev t).append (.cons h .nil)
section
variable {G : Gx} {ρ : List Sl} {a : Expr} {x : Rs} {p pos : Pos}
theorem ed_listRev {ds : List D} {pr pos' : Pos} (T : Bl G.U.mg) (ha : ED G a ρ x) (hx : x.ls = some ds) (hg : GlN G "list") (hg2 : GlN G "reversed") (hs : Star1 a := by intro _; rfl) : ED G (.Call (.Name "list" p) [.Call (.Name "reversed" pr) [a] [] pos'] [] pos) ρ (.fr ds.reverse) :=
  .of (te := fun σ H Q => tG G a σ H fun v H1 => ∃ (p : Addr) (xs : List V), v = .ref p ∧ SqL G.U.K H1 p xs ∧ ∀ q, H1 q = none → Q (.ref q) (upd H1 q (.lst xs.reverse))) (fun X h => by rw [← h.K]; exact pe_listRev h.calm (gl_of h hg) (by rw [h.mg]; exact T.list) (gl_of h hg2) (by rw [h.mg]; exact T.reversed) (pe_of h) (hs _) rfl) fun B S H σ ex sl Q q => ha B S H σ ex sl _ fun v S1 H1 g1 r1 => by
    obtain ⟨p, vs, rfl, h1, z, h4⟩ := r1.toV.list hx g1.sh
    refine ⟨p, vs, rfl, .of h1, fun l hl => ?_⟩
    exact q (.ref l) S1 _ ⟨g1.ss, g1.sh.trans (Ex.new hl), g1.bh.trans (Ex.new hl), g1.nw⟩ ⟨l, _, rfl, upd_same, g1.sh.back hl, g1.bh.back hl, by rw [List.length_reverse]; exact z, RepL.rev h4⟩
end
end Mb
set_option Elab.async false
set_option linter.all false
set_option maxRecDepth 100000
set_option maxHeartbeats 4000000
namespace Mb
open PySem PySem.Spec PyProof.Rows L2
theorem fr_go {U : Wd} {H0 S1 H1 S2 H2 : Hp} {v : V} {ds : List D} (h : RepR U H0 S1 H1 v (.fr ds)) (g : Go S1 H1 S2 H2) : RepR U H0 S2 H2 v (.fr ds) := by
  obtain ⟨p, vs, e, a1, a2, a3, z, a4⟩ := h
  exact ⟨p, vs, e, g.bh _ _ a1, g.own a1 a2, a3, z, a4.mono g.ss⟩
section
variable {G : Gx} {ρ : List Sl} {κ : List Cl} {R : Oj → Prop} {o e e0 e1 e2 ix : Expr} {d0 d1 d2 ds : List D} {i : Int} {pos pos' p lp : Pos}
/-- [e0, e1, e2][ix], all three new lists -/
theorem ed_pick3 (h0 : ED G e0 ρ (.fr d0)) (h1 : ED G e1 ρ (.fr d1)) (h2 : ED G e2 ρ (.fr d2)) (hi : ED G ix ρ (.sh (.int i))) (hk : (i = 0 ∧ ds = d0) ∨ (i = 1 ∧ ds = d1) ∨ (i = 2 ∧ ds = d2)) (hst : StarN e0 [e1, e2] ∧ StarN e1 [e2] ∧ StarN e2 [] := by exact ⟨⟨by intro _; rfl, by intros; rfl⟩, ⟨by intro _; rfl, by intros; rfl⟩, ⟨by intro _; rfl, by intros; rfl⟩⟩) (hs : PlainIx ix := by intros _ _; rfl) :
    ED G (.Subscript (.List [e0, e1, e2] lp) ix pos) ρ (.fr ds) := ⟨fun B S H σ ex sl Q q X hX pins s I => by
  have hpe := pe_ix (X := X) (pos := pos) ix_list (pe_lst (pos := lp) (pa_cons (pe_of (e := e0) hX) (pa_cons (pe_of (e := e1) hX) (pa_cons (pe_of (e := e2) hX) pa_nil (hs := hst.2.2.1 _)) (hs := hst.2.1.1 _)) (hs := hst.1.1 _))) (pe_of (e := ix) hX) hs
  refine hpe.run pins s σ H Q I ?_
  refine h0.run B S H σ ex sl _ fun v0 S1 H1 g1 r0 => ?_
  refine h1.run B S1 H1 σ g1.sh (sl.go g1) _ fun v1 S2 H2 g2 r1 => ?_
  refine h2.run B S2 H2 σ g2.sh ((sl.go g1).go g2) _ fun v2 S3 H3 g3 r2 => ?_
  refine ⟨by show 3 ≤ sizeLine; rw [sizeLine_eq]; omega, fun t ht => ?_⟩
  have gt : Go S3 H3 S3 (upd H3 t (.lst [v0, v1, v2])) := ⟨Ex.refl _, g3.sh.trans (Ex.new ht), Ex.new ht, fun _ z => .inl z⟩
  refine hi.run B S3 _ σ gt.sh ((((sl.go g1).go g2).go g3).go gt) _ fun w S4 H4 g4 ri => ?_
  cases ri
  have hl := g4.bh _ _ (upd_same : upd H3 t (.lst [v0, v1, v2]) t = some (.lst [v0, v1, v2]))
  have gA := ((g1.trans g2).trans g3).trans (gt.trans g4)
  rcases hk with ⟨rfl, rfl⟩ | ⟨rfl, rfl⟩ | ⟨rfl, rfl⟩
  · exact ⟨t, [v0, v1, v2], 0, v0, rfl, rfl, .of hl, rfl, q v0 S4 H4 gA (fr_go r0 ((g2.trans g3).trans (gt.trans g4)))⟩
  · exact ⟨t, [v0, v1, v2], 1, v1, rfl, rfl, .of hl, rfl, q v1 S4 H4 gA (RepR.base (fr_go r1 (g3.trans (gt.trans g4))) g1.bh)⟩
  · exact ⟨t, [v0, v1, v2], 2, v2, rfl, rfl, .of hl, rfl, q v2 S4 H4 gA (RepR.base (fr_go r2 (gt.trans g4)) (g1.bh.trans g2.bh))⟩⟩
/-- o.remove(e): o the j-th cell, ints, e among them -/
theorem sk_rem {q : Addr} {j : Nat} {ns : List Int} {k : Int} {apos : Pos} (ho : ED G o ρ (.sh (.cls q))) (hj : κ[j]? = some (q, ns.map D.int)) (he : EM G e ρ κ (.sh (.int k)) κ) (hk : k ∈ ns) (hR : R (.nx ρ (κ.set j (q, (ns.erase k).map D.int))))
    (hb : BmOk o "remove" e [] apos pos := by exact ⟨by intro _; rfl, by intro _; rfl, rfl, by intro _; rfl, by intros; rfl⟩) (hs2 : ∀ env, swapsWith (.Call (.Attribute o "remove" apos) [e] [] pos) none pos'.line env = pure false := by intro _; rfl) : SK1 G (.Expr (.Call (.Attribute o "remove" apos) [e] [] pos) pos') ρ κ R := by
  obtain ⟨b1, b2, b3, b4, b5⟩ := hb
  refine .of (t := fun W => tDrop (tRemX G.U.K W (tG G o) (tG G e))) (fun X W h tk => by
    have := pe_remX (X := X) (W := W) (apos := apos) (cpos := pos) h.is.calm tk (pe_of (e := o) h.is) (pe_of (e := e) h.is) (b1 _) (b2 _) b3 (b4 _) (b5 _ _)
    rw [h.is.K] at this
    exact ps_expr this (hs2 _)) fun W B S H σ D ex eb sl cs cn => ?_
  refine (em_of (κ := κ) ho).run B S H σ ex eb sl cs _ fun v S1 H1 g1 r1 c1 => ?_
  cases r1
  obtain ⟨gB, sl1, cs1⟩ := cs.next eb sl g1 c1 (fun _ h => h) (fun _ h => .inl h)
  obtain ⟨_, _, vs, hq, _⟩ := c1.at_ _ (List.mem_of_getElem? hj)
  refine ⟨.inl ⟨rfl, _, .of hq⟩, ?_⟩
  refine he.run B S1 H1 σ gB.sh gB.bh sl1 cs1 _ fun w S2 H2 g2 r2 c2 => ?_
  cases r2
  have g12 := go_chain g1 (fun _ h => h) g2
  obtain ⟨k1, k2, vs2, hq2, z2, rl2⟩ := c2.at_ _ (List.mem_of_getElem? hj)
  have ev := RepL.ints rl2
  subst ev
  refine ⟨q, ns, k, rfl, rfl, hq2, fun _ => ?_, fun hn => absurd hk hn⟩
  have rl3 : RepL G.U S2 ((ns.erase k).map V.int) ((ns.erase k).map Mb.D.int) := by
    generalize ns.erase k = l
    induction l with
    | nil => exact .nil
    | cons a l ih => exact .cons (.int a) ih
  have z3 : ((ns.erase k).map V.int).length ≤ sizeLine := by
    rw [List.length_map] at z2 ⊢
    exact Nat.le_trans (List.length_erase_le) z2
  obtain ⟨c3, kc⟩ := (c2.base (B' := minusK H (kA κ)) fun a h => minusK_in h).set hj z3 rl3
  have mq : q ∈ kA κ := List.mem_map.mpr ⟨_, List.mem_of_getElem? hj, rfl⟩
  have gM : Go S (minusK H (kA κ)) S2 (upd H2 q (.lst ((ns.erase k).map V.int))) := ⟨g12.ss, Ex.mut g12.sh k1, Ex.mut g12.bh (minusK_in mq), g12.nw⟩
  obtain ⟨gB2, sl2, cs2⟩ := cs.next eb sl gM c3 (fun a h => by rw [kc]; exact h) (fun a h => .inl (by rw [kc] at h; exact h))
  exact cn.nx ρ _ S2 _ σ hR gB2 sl2 cs2
end
end Mb
set_option Elab.async false
set_option linter.all false
set_option maxRecDepth 100000
set_option maxHeartbeats 4000000
namespace Mb
open PySem PySem.Spec PyProof.Rows L2
local macro_rules | `(tactic| wtm_at "m.dec") => `(tactic| (dsimp only [Gx.blk]; decide +kernel))
local macro_rules | `(tactic| wtm_at "m.hint") => `(tactic| fail)
local macro_rules | `(tactic| wtm_at "m.side") => `(tactic| first | with_reducible assumption | assumption | decide | omega | exact Or.inr (And.intro (by omega) (by omega)) | exact Or.inl (And.intro (by omega) (by omega)) | exact And.intro (by omega) (by omega) | (simp only [List.length_cons, List.length_nil, List.length_map, List.length_range, List.length_append, sizeLine_eq]; omega) | wtm_at "m.hint" | solve_by_elim)
local macro_rules | `(tactic| wtm_at "m.dn") => `(tactic| first
  | exact Dn.int _ _ | exact Dn.bl _ _ | exact Dn.non _
  | (refine dn_lst (n := _) ?_; wtm_at "m.dm") | (refine dn_nls (n := _) ?_; wtm_at "m.dm") | (refine dn_tup (n := _) ?_; wtm_at "m.dm"))
local macro_rules | `(tactic| wtm_at "m.dm") => `(tactic| first
  | exact dm_nil | (refine dm_map ?_; intro _; wtm_at "m.dn") | (refine dm_cons ?a ?b; (case a => wtm_at "m.dn"); (case b => wtm_at "m.dm")) | (refine dm_app ?a ?b; (case a => wtm_at "m.dm"); (case b => wtm_at "m.dm")))
local macro_rules | `(tactic| wtm_at "m.tosh") => `(tactic| first | exact ToSh.sh _ | exact ToSh.fr _)
local macro_rules | `(tactic| wtm_at "m.eds") => `(tactic| (refine' ED.toSh ?h ?t ?q; (case h => wtm_at "m.ed"); (case t => wtm_at "m.tosh"); (case q => exact rfl)))
local macro_rules | `(tactic| wtm_at "m.tosha") => `(tactic| first | exact ToSh.un _ | exact ToSh.sh _ | exact ToSh.fr _)
local macro_rules | `(tactic| wtm_at "m.ad") => `(tactic| first
  | exact ad_nil
  | (refine' ad_cons' ?h ?t ?r; (case h => wtm_at "m.ed"); (case t => wtm_at "m.tosha"); (case r => wtm_at "m.ad")))
local macro_rules | `(tactic| wtm_at "m.adk") => `(tactic| first
  | exact ad_nil
  | (refine' ad_cons' ?h ?t ?r; (case h => wtm_at "m.ed"); (case t => wtm_at "m.tosh"); (case r => wtm_at "m.adk")))
local macro_rules | `(tactic| wtm_at "m.ic") => `(tactic| first
  | (refine' ic_range (by assumption) ?a ?b ?c ?g; (case a => wtm_at "m.ed"); (case g => rfl); (case b => wtm_at "m.side"); (case c => wtm_at "m.side"))
  | (refine' ic_list ?h ?q; (case h => wtm_at "m.ed"); (case q => exact rfl)))
local macro_rules | `(tactic| wtm_at "m.if") => `(tactic| first
  | (refine' if_range (by assumption) ?a ?b ?c ?g; (case a => wtm_at "m.ed"); (case g => rfl); (case b => wtm_at "m.side"); (case c => wtm_at "m.side"))
  | (refine' if_range2 (by assumption) ?a ?a2 ?b ?g; (case a => wtm_at "m.ed"); (case a2 => wtm_at "m.ed"); (case g => rfl); (case b => wtm_at "m.side"))
  | (refine' if_list ?h; (case h => wtm_at "m.ed"))
  | (refine' if_nls ?h; (case h => wtm_at "m.ed"))
  | (refine' if_fr ?h; (case h => wtm_at "m.ed"))
  | (refine' if_tup ?h; (case h => wtm_at "m.ed")))
local macro_rules | `(tactic| wtm_at "m.ld") => `(tactic| first
  | (refine' ld_lc0 ?n ?i ?j ?o ?l ?e; (case n => assumption); (case i => wtm_at "m.ic"); (case j => wtm_at "m.dec"); (case o => wtm_at "m.dec"); (case l => wtm_at "m.dec"); (case e => intro _ hx; (try have hx := List.mem_range.mp hx); wtm_at "m.eds"))
  | (refine' ld_lc1 ?n ?i ?j ?o ?l ?t ?e; (case n => assumption); (case i => wtm_at "m.ic"); (case j => wtm_at "m.dec"); (case o => wtm_at "m.dec"); (case l => wtm_at "m.dec"); (case t => (intro _ hx; (try have hx := List.mem_range.mp hx); refine' TD.cast ?h ?q; (case h => wtm_at "m.td"); (case q => exact rfl))); (case e => intro _ hx _; (try have hx := List.mem_range.mp hx); wtm_at "m.eds"))
  | (refine' ld_lcp0 ?n ?i ?j ?j2 ?o ?l ?l2 ?e; (case n => assumption); (case i => wtm_at "m.ic"); (case j => wtm_at "m.dec"); (case j2 => wtm_at "m.dec"); (case o => wtm_at "m.dec"); (case l => wtm_at "m.dec"); (case l2 => wtm_at "m.dec"); (case e => intro _ _; wtm_at "m.eds"))
  | (refine' ld_lcp1 ?n ?i ?j ?j2 ?o ?l ?l2 ?t ?e; (case n => assumption); (case i => wtm_at "m.ic"); (case j => wtm_at "m.dec"); (case j2 => wtm_at "m.dec"); (case o => wtm_at "m.dec"); (case l => wtm_at "m.dec"); (case l2 => wtm_at "m.dec"); (case t => (intro _ hx; (try have hx := List.mem_range.mp hx); refine' TD.cast ?h ?q; (case h => wtm_at "m.td"); (case q => exact rfl))); (case e => intro _ hx _; (try have hx := List.mem_range.mp hx); wtm_at "m.eds")))
local macro_rules | `(tactic| wtm_at "m.addr") => `(tactic| first | exact AddR.int _ _ | (refine' AddR.cat ?x ?y ?z; (case x => exact rfl); (case y => exact rfl); (case z => wtm_at "m.side")))
local macro_rules | `(tactic| wtm_at "m.at") => `(tactic| first
  | exact rfl
  | assumption
  | (refine atI_get (d := (0 : Int)) ?a ?b; (case a => wtm_at "m.side"); (case b => wtm_at "m.side"))
  | (refine atI_ints (d := default) ?a ?b; (case a => wtm_at "m.side"); (case b => wtm_at "m.side"))
  | (refine atI_lit ?a ?b ?c; (case a => wtm_at "m.side"); (case b => wtm_at "m.side"); (case c => rfl))
  | solve_by_elim)
local macro_rules | `(tactic| wtm_at "m.ixd") => `(tactic| first
  | (refine' IxD.tup ?h; (case h => wtm_at "m.at"))
  | (refine' IxD.scr ?h; (case h => wtm_at "m.at"))
  | (refine' IxD.list ?x ?h; (case x => exact rfl); (case h => wtm_at "m.at")))
local macro_rules | `(tactic| wtm_at "m.cp") => `(tactic| first
  | (refine' cp_lt ?a ?b; (case a => wtm_at "m.ed"); (case b => wtm_at "m.ed"))
  | (refine' cp_le ?a ?b; (case a => wtm_at "m.ed"); (case b => wtm_at "m.ed"))
  | (refine' cp_gt ?a ?b; (case a => wtm_at "m.ed"); (case b => wtm_at "m.ed"))
  | (refine' cp_ge ?a ?b; (case a => wtm_at "m.ed"); (case b => wtm_at "m.ed"))
  | (refine' cp_eq ?a ?b ?c ?d; (case a => wtm_at "m.ed"); (case b => wtm_at "m.ed"); (case c => wtm_at "m.dn"); (case d => wtm_at "m.dn"))
  | (refine' cp_ne ?a ?b ?c ?d; (case a => wtm_at "m.ed"); (case b => wtm_at "m.ed"); (case c => wtm_at "m.dn"); (case d => wtm_at "m.dn"))
  | (refine' cp_in ?a ?b ?e ?c ?d ?m; (case a => wtm_at "m.ed"); (case b => wtm_at "m.ed"); (case e => exact rfl); (case c => wtm_at "m.dn"); (case d => wtm_at "m.dm"); (case m => rfl))
  | (refine' cp_nin ?a ?b ?e ?c ?d ?m; (case a => wtm_at "m.ed"); (case b => wtm_at "m.ed"); (case e => exact rfl); (case c => wtm_at "m.dn"); (case d => wtm_at "m.dm"); (case m => rfl))
  | (refine' cp_isN ?a; (case a => wtm_at "m.ed"))
  | (refine' cp_notN ?a; (case a => wtm_at "m.ed"))
  | (refine' ch_le_lt ?a ?b ?c; (case a => wtm_at "m.ed"); (case b => wtm_at "m.ed"); (case c => wtm_at "m.ed"))
  | (refine' ch_le_le ?a ?b ?c; (case a => wtm_at "m.ed"); (case b => wtm_at "m.ed"); (case c => wtm_at "m.ed")))
local macro_rules | `(tactic| wtm_at "m.tw") => `(tactic| first
  | (refine' tw_and ?a ?b; (case a => wtm_at "m.td"); (case b => intro _; wtm_at "m.tw"))
  | (refine' tw_or ?a ?b; (case a => wtm_at "m.td"); (case b => intro _; wtm_at "m.tw"))
  | (refine' tw_and1 ?a; (case a => wtm_at "m.td"))
  | (refine' tw_or1 ?a; (case a => wtm_at "m.td")))
local macro_rules | `(tactic| wtm_at "m.td") => `(tactic| first
  | (refine' And.right (a := ?p) ?h; (case h => wtm_at "m.cp"))
  | (refine' td_not ?h; (case h => wtm_at "m.td"))
  | (refine' td_bool ?h; (case h => wtm_at "m.tw"))
  | (refine' td_val ?h; (case h => wtm_at "m.ed")))
local macro_rules | `(tactic| wtm_at "m.bo") => `(tactic| first
  | (refine' ed_and ?a ?b; (case a => wtm_at "m.ed"); (case b => intro _; wtm_at "m.bo"))
  | (refine' ed_or ?a ?b; (case a => wtm_at "m.ed"); (case b => intro _; wtm_at "m.bo"))
  | (refine' ed_one ?a; (case a => wtm_at "m.ed")))
local macro_rules | `(tactic| wtm_at "m.pre") => `(tactic| first
  | exact ⟨_, rfl, rfl⟩ | exact ⟨_, _, rfl, rfl⟩ | exact ⟨_, _, _, rfl, rfl⟩ | exact ⟨_, _, _, _, rfl, rfl⟩ | exact ⟨_, _, _, _, _, rfl, rfl⟩
  | (refine ⟨_, rfl, ?_, rfl⟩; wtm_at "m.side") | (refine ⟨_, _, rfl, ?_, rfl⟩; wtm_at "m.side") | (refine ⟨_, _, _, rfl, ?_, rfl⟩; wtm_at "m.side") | (refine ⟨_, _, _, _, rfl, ?_, rfl⟩; wtm_at "m.side") | (refine ⟨_, _, _, _, _, rfl, ?_, rfl⟩; wtm_at "m.side"))
local macro_rules | `(tactic| wtm_at "m.call") => `(tactic| first
  | wtm_at "m.direct"
  | (refine' ed_thaw ?h ?d; (case h => wtm_at "m.direct"); (case d => rfl)))
local macro_rules | `(tactic| wtm_at "m.od") => `(tactic| first | exact od_none | (refine' od_some ?h; (case h => wtm_at "m.ed")))
local macro_rules | `(tactic| wtm_at "m.direct") => `(tactic| first
  | (refine' ed_call ?T ?k ?g ?a ?A; (case T => assumption); (case k => (dsimp only [Gx.blk]; decide)); (case g => rfl); (case a => wtm_at "m.ad"); (case A => wtm_at "m.pre"))
  | (refine' ed_many (by assumption) ?a ?b; (case a => wtm_at "m.ed"); (case b => exact rfl))
  | (refine' ed_rows (by assumption) ?a; (case a => wtm_at "m.ed"))
  | (refine' ed_meth (by assumption) ?T ?k ?o ?d ?a ?A; (case T => assumption); (case k => (dsimp only [Gx.blk]; decide)); (case o => wtm_at "m.ed"); (case d => exact rfl); (case a => wtm_at "m.ad"); (case A => wtm_at "m.pre")))
local macro_rules | `(tactic| wtm_at "m.ed") => `(tactic| first
  | (refine' ed_varA ?h ?v; (case h => exact rfl); (case v => rfl))
  | (refine' ed_var ?h ?v; (case h => exact rfl); (case v => rfl))
  | exact ed_int
  | (refine' ed_ixR ?a ?b ?c; (case a => wtm_at "m.ed"); (case b => wtm_at "m.ed"); (case c => wtm_at "m.ixd"))
  | (refine' And.left (b := ?p) ?h; (case h => wtm_at "m.cp"))
  | (refine' ed_addR ?a ?b ?c; (case a => wtm_at "m.ed"); (case b => wtm_at "m.ed"); (case c => wtm_at "m.addr"))
  | (refine' ed_sub ?a ?b; (case a => wtm_at "m.ed"); (case b => wtm_at "m.ed"))
  | (refine' ed_mul ?a ?b ?c; (case a => wtm_at "m.ed"); (case b => wtm_at "m.ed"); (case c => wtm_at "m.side"))
  | (refine' ed_fdiv ?a ?b ?c; (case a => wtm_at "m.ed"); (case b => wtm_at "m.ed"); (case c => wtm_at "m.side"))
  | (refine' ed_mod ?a ?b ?c; (case a => wtm_at "m.ed"); (case b => wtm_at "m.ed"); (case c => wtm_at "m.side"))
  | (refine' ed_pow ?a ?b ?c; (case a => wtm_at "m.ed"); (case b => wtm_at "m.ed"); (case c => wtm_at "m.side"))
  | (refine' ed_neg ?a; (case a => wtm_at "m.ed"))
  | (refine' LD.ed ?a; (case a => wtm_at "m.ld"))
  | (refine' ed_len (by assumption) ?a ?b ?g; (case a => wtm_at "m.ed"); (case b => exact rfl); (case g => rfl))
  | (refine' ed_listRange (by assumption) ?a ?b ?c ?g ?g2; (case a => wtm_at "m.ed"); (case b => wtm_at "m.side"); (case c => wtm_at "m.side"); (case g => rfl); (case g2 => rfl))
  | (refine' ed_list (by assumption) ?a ?b ?g; (case a => wtm_at "m.ed"); (case b => exact rfl); (case g => rfl))
  | (refine' ed_all (by assumption) ?a ?b ?g; (case a => wtm_at "m.ed"); (case b => exact rfl); (case g => rfl))
  | (refine' ed_any (by assumption) ?a ?b ?g; (case a => wtm_at "m.ed"); (case b => exact rfl); (case g => rfl))
  | (refine' ed_sum (by assumption) ?a ?b ?g; (case a => wtm_at "m.ed"); (case b => exact rfl); (case g => rfl))
  | (refine' ed_sorted (by assumption) ?a ?b ?g; (case a => wtm_at "m.ed"); (case b => exact rfl); (case g => rfl))
  | (refine' ed_intB (by assumption) ?a ?g; (case a => wtm_at "m.ed"); (case g => rfl))
  | (refine' ed_max (by assumption) ?a ?b ?g; (case a => wtm_at "m.ed"); (case b => wtm_at "m.ed"); (case g => rfl))
  | (refine' ed_min (by assumption) ?a ?b ?g; (case a => wtm_at "m.ed"); (case b => wtm_at "m.ed"); (case g => rfl))
  | (refine' ed_isi (k := true) (by assumption) ?a ?b ?t ?k ?g; (case a => wtm_at "m.ed"); (case b => wtm_at "m.ed"); (case t => exact rfl); (case k => decide +kernel); (case g => rfl))
  | (refine' ed_isi (k := false) (by assumption) ?a ?b ?t ?k ?g; (case a => wtm_at "m.ed"); (case b => wtm_at "m.ed"); (case t => exact rfl); (case k => decide +kernel); (case g => rfl))
  | (refine' ed_tup ?a ?b; (case a => wtm_at "m.adk"); (case b => wtm_at "m.side"))
  | (refine' ed_lst ?a ?b; (case a => wtm_at "m.adk"); (case b => wtm_at "m.side"))
  | (refine' ed_sl ?a ?x ?l ?u; (case a => wtm_at "m.ed"); (case x => exact rfl); (case l => wtm_at "m.od"); (case u => wtm_at "m.od"))
  | (refine' ed_not ?a; (case a => wtm_at "m.ed"))
  | wtm_at "m.bo"
  | wtm_at "m.call"
  | (refine' ed_own ?h ?v; (case h => exact rfl); (case v => rfl))
  | exact ed_bl
  | exact ed_non
  | (refine' ed_globI ?h ?m; (case h => rfl); (case m => assumption))
  | (refine' ed_tyInt (by assumption) ?g; (case g => rfl))
  | (refine' ed_tyList (by assumption) ?g; (case g => rfl))
  | (refine' ed_tyTuple (by assumption) ?g; (case g => rfl))
  | (refine' ed_tyBool (by assumption) ?g; (case g => rfl)))
local macro_rules | `(tactic| wtm_at "s.set") => `(tactic| (refine' sd_cons (s_set ?e ?q ?n ?i ?o); (case n => assumption); (case i => wtm_at "m.dec"); (case o => wtm_at "m.dec"); (case e => wtm_at "m.eds")))
local macro_rules | `(tactic| wtm_at "s.own") => `(tactic| (refine' sd_cons (s_own ?e ?q ?n ?i ?o); (case n => assumption); (case i => wtm_at "m.dec"); (case o => wtm_at "m.dec"); (case e => wtm_at "m.ed")))
local macro_rules | `(tactic| wtm_at "s.lc") => `(tactic| (refine' sd_cons (s_lc ?e ?q ?i ?k ?y ?l ?a); (case i => wtm_at "m.dec"); (case k => rfl); (case y => rfl); (case l => rfl); (case a => decide +kernel); (case e => wtm_at "m.ld")))
local macro_rules | `(tactic| wtm_at "s.lco") => `(tactic| (refine' sd_cons (s_lcO ?e ?q ?i ?k ?y ?l ?a); (case i => wtm_at "m.dec"); (case k => rfl); (case y => rfl); (case l => rfl); (case a => decide +kernel); (case e => wtm_at "m.ld")))
local macro_rules | `(tactic| wtm_at "s.lcc") => `(tactic| (refine' sd_cons (s_set ?e ?q ?n ?i ?o (swapF ?s)); (case n => assumption); (case i => wtm_at "m.dec"); (case o => wtm_at "m.dec"); (case s => rfl); (case e => (refine' ED.shr (LD.ed ?f); (case f => wtm_at "m.ld")))))
local macro_rules | `(tactic| wtm_at "s.ret") => `(tactic| (refine' sd_cons (s_ret ?e ?q); (case e => wtm_at "m.ed")))
local macro_rules | `(tactic| wtm_at "s.if") => `(tactic| (refine' sd_cons (s_if ?zzt ?zzy ?zzm); (case zzt => wtm_at "m.td")))
local macro_rules | `(tactic| wtm_at "s.ift") => `(tactic| (refine' sd_cons (s_if (td_thaw ?zzt) ?zzy ?zzm); (case zzt => wtm_at "m.td")))
local macro_rules | `(tactic| wtm_at "s.app") => `(tactic| (refine' sd_cons (s_app ?e ?h ?v ?z ?q); (case h => exact rfl); (case v => rfl); (case e => wtm_at "m.eds"); (case z => wtm_at "m.side")))
local macro_rules | `(tactic| wtm_at "s.ifset") => `(tactic| (refine' sd_cons (s_ifset ?c ?e ?h1 ?h2 ?h0 ?q ?n ?i ?o); (case n => assumption); (case i => wtm_at "m.dec"); (case o => wtm_at "m.dec"); (case h0 => exact rfl); (case c => wtm_at "m.td"); (case e => intro _; wtm_at "m.eds")))
local macro_rules | `(tactic| wtm_at "s.raise") => `(tactic| (refine' sd_cons (s_raise ?T ?g ?r); (case T => assumption); (case g => rfl)))
local macro_rules | `(tactic| wtm_at "m.make") => `(tactic| (refine' ed_make ?T ?k ?g ?a ?b ?A; (case T => assumption); (case k => (dsimp only [Gx.blk]; decide)); (case g => rfl); (case a => wtm_at "m.ed"); (case b => wtm_at "m.eds"); (case A => assumption)))
local macro_rules | `(tactic| wtm_at "sl.flat") => `(tactic| first | exact flat_sets | exact flat_tab | exact flat_scr | exact flat_int | exact flat_pair flat_int flat_sets)
local macro_rules | `(tactic| wtm_at "sl.one") => `(tactic| first
  | exact Or.inl rfl
  | exact SpM.no
  | exact SpR.no
  | exact SpM.told rfl
  | exact SpR.told rfl
  | (refine SpM.keep (by decide) rfl ?_ rfl; wtm_at "sl.flat")
  | exact SpM.conv (by decide) rfl conv_int.1
  | exact SpR.keep (by decide) (by decide) rfl rfl rfl
  | exact SpR.conv (by decide) rfl conv_int.2
  | exact SpR.conv (by decide) rfl back_rules
  | exact SpR.conv (by decide) rfl back_sets
  | (refine Or.inr ⟨_, rfl, rfl, ?_⟩; wtm_at "sl.flat"))
local macro_rules | `(tactic| wtm_at "sl.all") => `(tactic| ((repeat' first | exact slAll_nil | refine slAll_cons ?_ ?_) <;> wtm_at "sl.one"))
local macro_rules | `(tactic| wtm_at "op.mem") => `(tactic| first | exact .head _ | exact .tail _ (.head _) | exact .tail _ (.tail _ (.head _)) | exact .tail _ (.tail _ (.tail _ (.head _))) | exact .tail _ (.tail _ (.tail _ (.tail _ (.head _)))) | exact .tail _ (.tail _ (.tail _ (.tail _ (.tail _ (.head _))))) | exact .tail _ (.tail _ (.tail _ (.tail _ (.tail _ (.tail _ (.head _)))))))
local macro_rules | `(tactic| wtm_at "op.d") => `(tactic| first
  | exact opn_refl
  | (refine opn_ints ?_; wtm_at "op.mem")
  | (refine opn_tup ?_; wtm_at "op.l")
  | (refine opn_lst ?_; wtm_at "op.l")
  | (refine opn_cell ?zopm ?zopl; (case zopm => wtm_at "op.mem"); (case zopl => first | exact opnL_refl | wtm_at "op.l")))
local macro_rules | `(tactic| wtm_at "op.l") => `(tactic| first
  | exact opnL_nil
  | (refine opnL_cons ?zopa ?zopb; (case zopa => wtm_at "op.d"); (case zopb => wtm_at "op.l")))
local macro_rules | `(tactic| wtm_at "op.one") => `(tactic| first
  | exact OpS.no
  | exact OpS.own rfl
  | (refine OpS.sh rfl ?_; wtm_at "op.d"))
local macro_rules | `(tactic| wtm_at "op.all") => `(tactic| ((repeat' first | exact slAll_nil | refine slAll_cons ?_ ?_) <;> wtm_at "op.one"))
local macro_rules | `(tactic| wtm_at "op.one2") => `(tactic| first
  | exact OpS.no
  | exact OpS.own rfl
  | exact OpS.sh rfl (by assumption)
  | exact OpS.sh rfl opn_refl)
local macro_rules | `(tactic| wtm_at "op.all2") => `(tactic| ((repeat' first | exact slAll_nil | refine slAll_cons ?_ ?_) <;> wtm_at "op.one2"))
def topS (i : Nat) : Stmt := PySem.Challenge.pw_markbox_k05_over_and_under.main.body.getD i (.Pass ⟨0, 0, 0, 0⟩)
abbrev s_plain : Stmt := topS 7
abbrev N_plain : List Str := ["numbers", "found", "number"]
theorem sc_plain : FnScope N_plain ["numbers"] (defScope s_plain) := ⟨rfl, rfl, rfl, by decide +kernel, rfl, by decide +kernel, by decide +kernel⟩
abbrev s_within : Stmt := topS 8
abbrev N_within : List Str := ["one", "other", "number"]
theorem sc_within : FnScope N_within ["one", "other"] (defScope s_within) := ⟨rfl, rfl, rfl, by decide +kernel, rfl, by decide +kernel, by decide +kernel⟩
abbrev s_both : Stmt := topS 9
abbrev N_both : List Str := ["one", "other", "number"]
theorem sc_both : FnScope N_both ["one", "other"] (defScope s_both) := ⟨rfl, rfl, rfl, by decide +kernel, rfl, by decide +kernel, by decide +kernel⟩
abbrev s_ordered : Stmt := topS 10
abbrev N_ordered : List Str := ["sets", "pair", "one"]
theorem sc_ordered : FnScope N_ordered ["sets"] (defScope s_ordered) := ⟨rfl, rfl, rfl, by decide +kernel, rfl, by decide +kernel, by decide +kernel⟩
abbrev s_all_sets : Stmt := topS 11
abbrev N_all_sets : List Str := ["many", "found", "number", "one"]
theorem sc_all_sets : FnScope N_all_sets ["many"] (defScope s_all_sets) := ⟨rfl, rfl, rfl, by decide +kernel, rfl, by decide +kernel, by decide +kernel⟩
abbrev s_boxes : Stmt := topS 13
abbrev N_boxes : List Str := ["table", "found", "row", "one", "part", "marks"]
theorem sc_boxes : FnScope N_boxes ["table"] (defScope s_boxes) := ⟨rfl, rfl, rfl, by decide +kernel, rfl, by decide +kernel, by decide +kernel⟩
abbrev s_need_boxes : Stmt := topS 14
abbrev N_need_boxes : List Str := ["table", "some", "found", "box"]
theorem sc_need_boxes : FnScope N_need_boxes ["table", "some"] (defScope s_need_boxes) := ⟨rfl, rfl, rfl, by decide +kernel, rfl, by decide +kernel, by decide +kernel⟩
abbrev s_over : Stmt := topS 15
abbrev N_over : List Str := ["table", "one", "other", "marks"]
theorem sc_over : FnScope N_over ["table", "one", "other"] (defScope s_over) := ⟨rfl, rfl, rfl, by decide +kernel, rfl, by decide +kernel, by decide +kernel⟩
abbrev s_under : Stmt := topS 16
abbrev N_under : List Str := ["table", "one", "other", "things"]
theorem sc_under : FnScope N_under ["table", "one", "other"] (defScope s_under) := ⟨rfl, rfl, rfl, by decide +kernel, rfl, by decide +kernel, by decide +kernel⟩
abbrev s_lies_under : Stmt := topS 17
abbrev N_lies_under : List Str := ["one", "other"]
theorem sc_lies_under : FnScope N_lies_under ["one", "other"] (defScope s_lies_under) := ⟨rfl, rfl, rfl, by decide +kernel, rfl, by decide +kernel, by decide +kernel⟩
abbrev s_right_over : Stmt := topS 18
abbrev N_right_over : List Str := ["found", "k", "higher", "l", "m"]
theorem sc_right_over : FnScope N_right_over ["found", "k"] (defScope s_right_over) := ⟨rfl, rfl, rfl, by decide +kernel, rfl, by decide +kernel, by decide +kernel⟩
abbrev s_steps : Stmt := topS 19
abbrev N_steps : List Str := ["table", "found", "pairs", "k", "l"]
theorem sc_steps : FnScope N_steps ["table"] (defScope s_steps) := ⟨rfl, rfl, rfl, by decide +kernel, rfl, by decide +kernel, by decide +kernel⟩
abbrev s_is_knot : Stmt := topS 21
abbrev N_is_knot : List Str := ["marks", "pairs", "knot", "full"]
theorem sc_is_knot : FnScope N_is_knot ["marks", "pairs"] (defScope s_is_knot) := ⟨rfl, rfl, rfl, by decide +kernel, rfl, by decide +kernel, by decide +kernel⟩
abbrev s_fewest : Stmt := topS 22
abbrev N_fewest : List Str := ["table", "pairs", "marks", "full", "mark", "knot"]
theorem sc_fewest : FnScope N_fewest ["table"] (defScope s_fewest) := ⟨rfl, rfl, rfl, by decide +kernel, rfl, by decide +kernel, by decide +kernel⟩
abbrev s_Table_init : Stmt := inClass (topS 26) 0
abbrev N_Table_init : List Str := ["self", "many", "rows", "row"]
theorem sc_Table_init : FnScope N_Table_init ["self", "many", "rows"] (defScope s_Table_init) := ⟨rfl, rfl, rfl, by decide +kernel, rfl, by decide +kernel, by decide +kernel⟩
abbrev s_Table_need_marks : Stmt := inClass (topS 26) 1
abbrev N_Table_need_marks : List Str := ["self", "marks", "mark"]
theorem sc_Table_need_marks : FnScope N_Table_need_marks ["self", "marks"] (defScope s_Table_need_marks) := ⟨rfl, rfl, rfl, by decide +kernel, rfl, by decide +kernel, by decide +kernel⟩
abbrev s_Table_things_with : Stmt := inClass (topS 26) 2
abbrev N_Table_things_with : List Str := ["self", "marks", "thing"]
theorem sc_Table_things_with : FnScope N_Table_things_with ["self", "marks"] (defScope s_Table_things_with) := ⟨rfl, rfl, rfl, by decide +kernel, rfl, by decide +kernel, by decide +kernel⟩
abbrev s_Table_marks_of : Stmt := inClass (topS 26) 3
abbrev N_Table_marks_of : List Str := ["self", "things", "thing", "found", "mark"]
theorem sc_Table_marks_of : FnScope N_Table_marks_of ["self", "things"] (defScope s_Table_marks_of) := ⟨rfl, rfl, rfl, by decide +kernel, rfl, by decide +kernel, by decide +kernel⟩
abbrev s_Table_closed : Stmt := inClass (topS 26) 4
abbrev N_Table_closed : List Str := ["self", "marks"]
theorem sc_Table_closed : FnScope N_Table_closed ["self", "marks"] (defScope s_Table_closed) := ⟨rfl, rfl, rfl, by decide +kernel, rfl, by decide +kernel, by decide +kernel⟩
abbrev s_law_whole : Stmt := topS 28
abbrev N_law_whole : List Str := ["_law_found"]
theorem sc_law_whole : FnScope N_law_whole ["_law_found"] (defScope s_law_whole) := ⟨rfl, rfl, rfl, by decide +kernel, rfl, by decide +kernel, by decide +kernel⟩
abbrev s_law_cell_at : Stmt := topS 29
abbrev N_law_cell_at : List Str := ["_law_script", "_law_k"]
theorem sc_law_cell_at : FnScope N_law_cell_at ["_law_script", "_law_k"] (defScope s_law_cell_at) := ⟨rfl, rfl, rfl, by decide +kernel, rfl, by decide +kernel, by decide +kernel⟩
abbrev s_law_mix : Stmt := topS 30
abbrev N_law_mix : List Str := ["_law_script", "_law_first", "_law_k", "_law_many", "_law_base"]
theorem sc_law_mix : FnScope N_law_mix ["_law_script", "_law_first", "_law_k"] (defScope s_law_mix) := ⟨rfl, rfl, rfl, by decide +kernel, rfl, by decide +kernel, by decide +kernel⟩
abbrev s_law_on : Stmt := topS 31
abbrev N_law_on : List Str := ["_law_number", "_law_mark", "_law_way", "_law_many", "_law_worth", "_law_one", "_law_other"]
theorem sc_law_on : FnScope N_law_on ["_law_number", "_law_mark", "_law_way", "_law_many"] (defScope s_law_on) := ⟨rfl, rfl, rfl, by decide +kernel, rfl, by decide +kernel, by decide +kernel⟩
abbrev s_law_table_by : Stmt := topS 32
abbrev N_law_table_by : List Str := ["_law_script", "_law_many", "_law_things", "_law_rows", "_law_k", "_law_number", "_law_mark"]
theorem sc_law_table_by : FnScope N_law_table_by ["_law_script"] (defScope s_law_table_by) := ⟨rfl, rfl, rfl, by decide +kernel, rfl, by decide +kernel, by decide +kernel⟩
abbrev s_law_box : Stmt := topS 33
abbrev N_law_box : List Str := ["_law_many", "_law_rows", "_law_marks", "_law_things", "_law_k", "_law_mark"]
theorem sc_law_box : FnScope N_law_box ["_law_many", "_law_rows", "_law_marks"] (defScope s_law_box) := ⟨rfl, rfl, rfl, by decide +kernel, rfl, by decide +kernel, by decide +kernel⟩
abbrev s_law_drawn : Stmt := topS 34
abbrev N_law_drawn : List Str := ["_law_script", "_law_at", "_law_many", "_law_rows", "_law_cell", "_law_marks", "_law_mark"]
theorem sc_law_drawn : FnScope N_law_drawn ["_law_script", "_law_at", "_law_many", "_law_rows"] (defScope s_law_drawn) := ⟨rfl, rfl, rfl, by decide +kernel, rfl, by decide +kernel, by decide +kernel⟩
abbrev s_law_same : Stmt := topS 35
abbrev N_law_same : List Str := ["_law_found", "_law_due_here", "_law_part", "_law_one"]
theorem sc_law_same : FnScope N_law_same ["_law_found", "_law_due_here"] (defScope s_law_same) := ⟨rfl, rfl, rfl, by decide +kernel, rfl, by decide +kernel, by decide +kernel⟩
abbrev s_law_spoilt : Stmt := topS 36
abbrev N_law_spoilt : List Str := ["_law_box_here", "_law_cell", "_law_many", "_law_rows", "_law_side", "_law_part", "_law_size", "_law_number"]
theorem sc_law_spoilt : FnScope N_law_spoilt ["_law_box_here", "_law_cell", "_law_many", "_law_rows"] (defScope s_law_spoilt) := ⟨rfl, rfl, rfl, by decide +kernel, rfl, by decide +kernel, by decide +kernel⟩
abbrev s_law_tried : Stmt := topS 37
abbrev N_law_tried : List Str := ["_law_table", "_law_way", "_law_one", "_law_other"]
theorem sc_law_tried : FnScope N_law_tried ["_law_table", "_law_way", "_law_one", "_law_other"] (defScope s_law_tried) := ⟨rfl, rfl, rfl, by decide +kernel, rfl, by decide +kernel, by decide +kernel⟩
abbrev s_law_refused_by_any : Stmt := topS 38
abbrev N_law_refused_by_any : List Str := ["_law_table", "_law_way", "_law_one", "_law_other", "e"]
theorem sc_law_refused_by_any : FnScope N_law_refused_by_any ["_law_table", "_law_way", "_law_one", "_law_other"] (defScope s_law_refused_by_any) := ⟨rfl, rfl, rfl, by decide +kernel, rfl, by decide +kernel, by decide +kernel⟩
abbrev s_law_refuses : Stmt := topS 39
abbrev N_law_refuses : List Str := ["_law_table", "_law_bad", "_law_good", "_law_way"]
theorem sc_law_refuses : FnScope N_law_refuses ["_law_table", "_law_bad", "_law_good"] (defScope s_law_refuses) := ⟨rfl, rfl, rfl, by decide +kernel, rfl, by decide +kernel, by decide +kernel⟩
abbrev s_law_due : Stmt := topS 40
abbrev N_law_due : List Str := ["_law_many", "_law_rows", "_law_one", "_law_other", "_law_marks", "_law_mark", "_law_high", "_law_k", "_law_things"]
theorem sc_law_due : FnScope N_law_due ["_law_many", "_law_rows", "_law_one", "_law_other"] (defScope s_law_due) := ⟨rfl, rfl, rfl, by decide +kernel, rfl, by decide +kernel, by decide +kernel⟩
abbrev s_law_refused_and_told : Stmt := topS 41
abbrev N_law_refused_and_told : List Str := ["_law_table", "_law_some", "_law_many", "_law_rows", "_law_cell", "_law_bad", "_law_part", "_law_high", "_law_low"]
theorem sc_law_refused_and_told : FnScope N_law_refused_and_told ["_law_table", "_law_some", "_law_many", "_law_rows", "_law_cell"] (defScope s_law_refused_and_told) := ⟨rfl, rfl, rfl, by decide +kernel, rfl, by decide +kernel, by decide +kernel⟩
abbrev s_law_third_fits : Stmt := topS 42
abbrev N_law_third_fits : List Str := ["_law_third", "_law_some", "_law_high", "_law_low", "_law_has", "_law_k", "_law_lies"]
theorem sc_law_third_fits : FnScope N_law_third_fits ["_law_third", "_law_some", "_law_high", "_law_low"] (defScope s_law_third_fits) := ⟨rfl, rfl, rfl, by decide +kernel, rfl, by decide +kernel, by decide +kernel⟩
abbrev s_law_beside : Stmt := topS 43
abbrev N_law_beside : List Str := ["_law_many", "_law_rows", "_law_marks", "_law_beside_here", "_law_row", "_law_box_here"]
theorem sc_law_beside : FnScope N_law_beside ["_law_many", "_law_rows", "_law_marks"] (defScope s_law_beside) := ⟨rfl, rfl, rfl, by decide +kernel, rfl, by decide +kernel, by decide +kernel⟩
abbrev s_law_exchanged : Stmt := topS 44
abbrev N_law_exchanged : List Str := ["_law_table", "_law_handed", "_law_some", "_law_due_here", "_law_part"]
theorem sc_law_exchanged : FnScope N_law_exchanged ["_law_table", "_law_handed", "_law_some", "_law_due_here"] (defScope s_law_exchanged) := ⟨rfl, rfl, rfl, by decide +kernel, rfl, by decide +kernel, by decide +kernel⟩
abbrev s_law_ahead : Stmt := topS 45
abbrev N_law_ahead : List Str := ["_law_table", "_law_cell", "_law_marks", "_law_box_here", "_law_rule"]
theorem sc_law_ahead : FnScope N_law_ahead ["_law_table", "_law_cell"] (defScope s_law_ahead) := ⟨rfl, rfl, rfl, by decide +kernel, rfl, by decide +kernel, by decide +kernel⟩
abbrev s_law : Stmt := topS 46
abbrev N_law : List Str := ["_law_script", "_law_many", "_law_rows", "_law_given", "_law_row", "_law_table", "_law_some", "_law_k", "_law_cell", "_law_handed", "_law_box_here", "_law_shown", "_law_pairs", "_law_way", "_law_one", "_law_other", "_law_due_here", "_law_found", "_law_part", "_law_high", "_law_low", "_law_copy"]
theorem sc_law : FnScope N_law ["_law_script"] (defScope s_law) := ⟨rfl, rfl, rfl, by decide +kernel, rfl, by decide +kernel, by decide +kernel⟩
section
variable {U : Wd} (T : Bl U.mg) {f : Addr} {fd : FuncData} {x q : Str}
include T
theorem ok_within (F : Fun U.K x q s_within f fd) : FnOk U.P U.w U.K U.mg U.base (L2.CX U.P U.w) 1 f fd ["one", "other"] (spX U A_within) := by
  have hN := sc_within.nd
  refine fn_ok F sc_within (fun ds o h => ?_) fun ds o h => ?_
  · obtain ⟨xs, ys, rfl, _⟩ := h
    rfl
  · obtain ⟨xs, ys, rfl, rfl⟩ := h
    refine sd_at (ρ' := [.sh _, .sh _, .no]) rfl ?_
    refine sd_cons (s_ret (r := ?r) ?e ?q)
    case e => wtm_at "m.ed"
    case q =>
      show (Sum.inl _ : Ot) = Sum.inl _
      simp only [Rs.d, any_int]
      rfl
theorem ok_plain (F : Fun U.K x q s_plain f fd) : FnOk U.P U.w U.K U.mg U.base (L2.CX U.P U.w) 1 f fd ["numbers"] (spX U A_plain) := by
  refine F.okX sc_plain (fun vs H Q E h => ?_) (fun cdv A outer s H vs Q E hr h => ?_)
  · obtain ⟨ds, o, S, ⟨ns, rfl, _⟩, _, _, rl, _⟩ := h
    exact rl.length
  · exact ⟨_, pss_cons (ps_set (i := 1) sc_plain.nd rfl (Or.inl rfl) pe_dnewK) (pss_cons (ps_for (passes_of rfl) rfl (pi_list (pv 0)) (pg_name (i := 2) sc_plain.nd rfl (Or.inl rfl)) (pss_one (ps_dput (hu_of hr) (pv 1) (pv 2) pe_bl rfl)))
      (pss_one (ps_ret (pe_callB cr_sortedI (by rfl) T.sorted (by decide +kernel) (pa_cons (pe_callTy (call_list_dK rfl) (by rfl) T.list (by decide +kernel) (pa_cons (pv 1) pa_nil)) pa_nil))))), plain_run h rfl⟩
end
abbrev A_need (cM : Addr) : List D → Ot → Prop := fun ds o => ∃ (d : D) (m : Int) (xs : List Int), ds = [d, .ints xs] ∧ d.many? = some m ∧ o = if inR m xs then .inl (.sh .non) else .inr cM
section
variable {U : Wd} (T : Bl U.mg) (C : TabOk U) {f : Addr} {fd : FuncData} {x q : Str} {cS cM cT : Addr}
include T C
theorem ok_need (hM : ExT U "BadMark" cM) (F : Fun U.K x q s_Table_need_marks f fd) : FnOk U.P U.w U.K U.mg U.base (L2.CX U.P U.w) 1 f fd ["self", "marks"] (spX U (A_need cM)) := by
  have hN := sc_Table_need_marks.nd
  refine fn_ok F sc_Table_need_marks (fun ds o h => ?_) fun ds o h => ?_
  · obtain ⟨d, m, xs, rfl, _⟩ := h
    rfl
  · obtain ⟨d, m, xs, rfl, hd, ho⟩ := h
    refine sd_at (ρ' := [.sh d, .sh (.ints xs), .no]) rfl ?_
    refine' sd_cons (s_forL (xs := xs) (enc := D.int) ?i (fun i ρ => (∃ s, ρ = [.sh d, .sh (.ints xs), s]) ∧ ∀ y ∈ xs.take i, 0 ≤ y ∧ y < m) ⟨⟨.no, rfl⟩, fun y hy => nomatch hy⟩ ?s ?d hN ?i1 ?i2)
    case i1 => wtm_at "m.dec"
    case i2 => wtm_at "m.dec"
    case i => wtm_at "m.if"
    case s =>
      intro i y ρ' hy hs
      obtain ⟨⟨s, rfl⟩, hp⟩ := hs
      refine sd_at (ρ' := [.sh d, .sh (.ints xs), .sh (.int y)]) rfl ?_
      refine sd_cons (s_if (k := !(decide (0 ≤ y) && decide (y < m))) (td_not (And.right (ch_le_lt ed_int (ed_var rfl rfl) (ed_many C (ed_var rfl rfl) hd)))) (fun hk => ?_) fun hk => ?_)
      · wtm_at "s.raise"
        show o = .inr cM
        rw [ho, if_neg]
        intro hR
        obtain ⟨h1, h2⟩ := inR_iff.mp hR y (List.mem_of_getElem? hy)
        simp [h1, h2] at hk
      · refine sd_nil (sd_nil ⟨⟨.sh (.int y), rfl⟩, ?_⟩)
        rw [List.take_add_one, hy]
        intro z hz
        rcases List.mem_append.mp hz with hz | hz
        · exact hp z hz
        · simp at hz
          subst hz
          simpa using hk
    case d =>
      intro ρ' hs
      obtain ⟨⟨s, rfl⟩, hp⟩ := hs
      rw [List.take_length] at hp
      refine sd_nil ?_
      show o = .inl (.sh .non)
      rw [ho, if_pos (inR_iff.mpr hp)]
theorem ok_init (hP : ∀ n, FnT (U.at n) "plain" 1 A_plain) (hM : ExT U "BadMark" cM) (hS : ExT U "BadSize" cS) {t1 t2 : Tok} (m1 : U.mg "MOST_MARKS" = some (.int 8 t1)) (m2 : U.mg "MOST_THINGS" = some (.int 12 t2)) (hW : ∀ n, MtT (U.at n) "need_marks" 1 (A_need cM)) (F : Fun U.K x q s_Table_init f fd) : FnOk U.P U.w U.K U.mg U.base (L2.CX U.P U.w) 2 f fd ["self", "many", "rows"] (spI U cS cM) := by
  have hN := sc_Table_init.nd
  refine F.okX sc_Table_init (fun vs H Q E h => ?_) (fun cdv A0 outer s H vs Q E hr h => ?_)
  · obtain ⟨p, dx, B, S, v, m, rows, rfl, _⟩ := h
    rfl
  · obtain ⟨p, dx, B, S, v, m, rows, rfl, np, ndx, ne, rfl, ex, rv, q1, q2⟩ := h
    have C' := C.at fun a => B a = none
    have hM' := hM.at fun a => B a = none
    have hS' := hS.at fun a => B a = none
    have hP' := hP fun a => B a = none
    have hW' := hW fun a => B a = none
    have T' : Bl (U.at fun a => B a = none).mg := T
    have m1' : (U.at fun a => B a = none).mg "MOST_MARKS" = some (.int 8 t1) := m1
    have m2' : (U.at fun a => B a = none).mg "MOST_THINGS" = some (.int 12 t2) := m2
    have rv := rv.sets_at (n := fun a => B a = none)
    obtain ⟨W, hW0⟩ : ∃ W : WX, W = fun cls d _ H => E cls d H := ⟨_, rfl⟩
    refine ⟨tSeq (tS1 ⟨U.at fun a => B a = none, N_Table_init, defScope s_Table_init, fun _ => true, 1⟩ W ((defBody s_Table_init).getD 0 (.Pass ⟨0, 0, 0, 0⟩))) (tSeq (sFld U.K (tVar 0) (tVar 1) "many") (tSeq (tS1 ⟨U.at fun a => B a = none, N_Table_init, defScope s_Table_init, fun _ => true, 1⟩ W ((defBody s_Table_init).getD 2 (.Pass ⟨0, 0, 0, 0⟩)))
      (sFld U.K (tVar 0) (tG ⟨U.at fun a => B a = none, N_Table_init, defScope s_Table_init, fun _ => true, 1⟩ (asgV ((defBody s_Table_init).getD 3 (.Pass ⟨0, 0, 0, 0⟩)))) "rows"))), ?_, ?_⟩
    · have iss : Gx.iss ⟨U.at fun a => B a = none, N_Table_init, defScope s_Table_init, fun _ => true, 1⟩ (cxOf (L2.CX U.P U.w) U.P U.w U.K U.mg U.base N_Table_init q (defScope s_Table_init) f cdv A0 outer s (upd (upd B dx (.own p)) p (.ins U.C dx [])) E) := ⟨⟨rfl, rfl, rfl, rfl, rfl, rfl, rfl, rfl, rfl, hr⟩, passes_of rfl, rfl, rfl⟩
      have tk : Takes (cxOf (L2.CX U.P U.w) U.P U.w U.K U.mg U.base N_Table_init q (defScope s_Table_init) f cdv A0 outer s (upd (upd B dx (.own p)) p (.ins U.C dx [])) E) W := by
        rw [hW0]
        exact takes_of rfl rfl rfl rfl
      exact pss_cons (ps_of iss tk) (pss_cons (ps_fld (pv 0) (pv 1) rfl) (pss_cons (ps_of iss tk) (pss_one (ps_fld (pv 0) (pe_of iss.is) rfl))))
    · obtain ⟨H0, hH0⟩ : ∃ H0, H0 = upd (upd B dx (.own p)) p (.ins U.C dx []) := ⟨_, rfl⟩
      rw [← hH0]
      have nP : (upd B dx (.own p)) p = none := by
        rw [upd_ne (fun e => ne e.symm)]
        exact np
      have eB : Ex B H0 := by
        rw [hH0]
        exact (Ex.new ndx).trans (Ex.new nP)
      have eP : H0 p = some (.ins U.C dx []) := by
        rw [hH0]
        exact upd_same
      have nS : S p = none := ex.back np
      have h0 : S1 ⟨U.at fun a => B a = none, N_Table_init, defScope s_Table_init, fun _ => true, 1⟩ ((defBody s_Table_init).getD 0 (.Pass ⟨0, 0, 0, 0⟩)) [.sh (.cls p), .sh (.int m), .sh (D.sets rows), .no] (fun o => match o with
          | .nx ρ' => tooBig m rows = false ∧ ρ' = [.sh (.cls p), .sh (.int m), .sh (D.sets rows), .no]
          | .ex c _ => c = cS ∧ tooBig m rows = true
          | _ => False) := by
        refine s_if (k := tooBig m rows) (TD.cast (b := ?kk) ?t ?q) (fun hk => ?_) fun hk => sd_nil ⟨hk, rfl⟩
        case t =>
          wtm_at "m.td"
        case q =>
          unfold tooBig
          rw [List.length_map]
          congr 1
          exact decide_eq_decide.mpr (by omega)
        · wtm_at "s.raise"
          exact ⟨rfl, hk⟩
      have sl0 : Slots (U.at fun a => B a = none) H0 S H0 (L2.start N_Table_init [.ref p, .int m, v]) [.sh (.cls p), .sh (.int m), .sh (D.sets rows), .no] := slots4 (fun a h => eB.back h) rfl ⟨_, rfl, .cls p⟩ ⟨_, rfl, .int m⟩ ⟨_, rfl, rv⟩
      refine S1.run h0 W H0 S H0 _ _ (ex.trans eB) (Ex.refl H0) sl0 ⟨fun ρ1 Sa Ha σ1 r1 g1 sl1 => ?_, fun _ _ _ _ r => r.elim, fun _ _ _ _ r => r.elim, fun _ _ _ _ r => r.elim, fun c ρ1 Sa Ha σ1 r1 g1 sl1 => ?_⟩
      rotate_left
      · obtain ⟨rfl, hb⟩ := r1
        rw [hW0]
        refine q2 c ?_ Ha (eB.trans g1.bh)
        unfold mkT
        rw [if_pos hb]
      obtain ⟨hb, rfl⟩ := r1
      obtain ⟨v0, e0, r0⟩ := sl1.sh 0 _ rfl
      obtain ⟨v1, e1, r1⟩ := sl1.sh 1 _ rfl
      obtain ⟨v2, e2, r2⟩ := sl1.sh 2 _ rfl
      cases r0
      cases r1
      have eP1 := g1.bh _ _ eP
      have nS1 := g1.own eP nS
      refine ⟨_, e1, _, e0, p, U.C, dx, [], rfl, eP1, C.cls, C.nM, by decide, ?_⟩
      show tSeq _ _ _ σ1 (upd Ha p (.ins U.C dx [("many", .int m)]))
      have ex2 : Ex (upd Sa p (.ins U.C dx [("many", .int m)])) (upd Ha p (.ins U.C dx [("many", .int m)])) := fun a o h => by
        by_cases ha : a = p
        · subst ha
          rw [upd_same] at h ⊢
          exact h
        · rw [upd_ne ha] at h ⊢
          exact g1.sh a o h
      have e12 : Ex Sa (upd Sa p (.ins U.C dx [("many", .int m)])) := Ex.new nS1
      have h2 : S1 ⟨U.at fun a => B a = none, N_Table_init, defScope s_Table_init, fun _ => true, 1⟩ ((defBody s_Table_init).getD 2 (.Pass ⟨0, 0, 0, 0⟩)) [.sh (.par p m), .sh (.int m), .sh (D.sets rows), .no] (fun o => match o with
          | .nx ρ' => rows.all (inR m) = true ∧ ∃ s, ρ' = [.sh (.par p m), .sh (.int m), .sh (D.sets rows), s]
          | .ex c _ => c = cM ∧ rows.all (inR m) = false
          | _ => False) := by
        refine s_forL (xs := rows) (enc := encS) ?i (fun i ρ => (∃ s, ρ = [.sh (.par p m), .sh (.int m), .sh (D.sets rows), s]) ∧ ∀ r ∈ rows.take i, inR m r = true) ⟨⟨.no, rfl⟩, fun y hy => nomatch hy⟩ ?s ?d hN ?i1 ?i2
        case i1 => wtm_at "m.dec"
        case i2 => wtm_at "m.dec"
        case i => wtm_at "m.if"
        case s =>
          intro i y ρ' hy hs
          obtain ⟨⟨s, rfl⟩, hp⟩ := hs
          refine sd_at (ρ' := [.sh (.par p m), .sh (.int m), .sh (D.sets rows), .sh (encS y)]) rfl ?_
          refine sd_cons (s_exprX (O := fun o => o = if inR m y then .inl (.sh .non) else .inr cM) (xd_meth (A := A_need cM) (d := .par p m) (i := m) (ds := [D.ints y]) C' hW' (Nat.le_refl 1) (ed_var rfl rfl) rfl (ad_cons' (ed_var rfl rfl) (.sh _) ad_nil) ⟨_, _, _, rfl, rfl, rfl⟩ rfl) (fun r hr => ?_) fun c hc => ?_)
          · refine sd_nil ⟨⟨_, rfl⟩, ?_⟩
            rw [List.take_add_one, hy]
            intro z hz
            rcases List.mem_append.mp hz with hz | hz
            · exact hp z hz
            · simp at hz
              subst hz
              by_cases hI : inR m z = true
              · exact hI
              · rw [if_neg hI] at hr
                cases hr
          · by_cases hI : inR m y = true
            · rw [if_pos hI] at hc
              cases hc
            · rw [if_neg hI] at hc
              cases hc
              refine ⟨rfl, ?_⟩
              rw [Bool.eq_false_iff]
              intro hA
              exact hI (List.all_eq_true.mp hA y (List.mem_of_getElem? hy))
        case d =>
          intro ρ' hs
          obtain ⟨⟨s, rfl⟩, hp⟩ := hs
          rw [List.take_length] at hp
          exact ⟨List.all_eq_true.mpr hp, s, rfl⟩
      have eB2 : Ex B (upd Ha p (.ins U.C dx [("many", .int m)])) := Ex.mut (eB.trans g1.bh) np
      refine S1.run h2 W (upd Ha p (.ins U.C dx [("many", .int m)])) (upd Sa p (.ins U.C dx [("many", .int m)])) _ σ1 _ ex2 (Ex.refl _) (slots4 (fun a h => eB2.back h) sl1.len ⟨_, e0, .par upd_same⟩ ⟨_, e1, .int m⟩ ⟨_, e2, Rep.mono e12 r2⟩) ⟨fun ρ3 S3 H3 σ3 r3 g3 sl3 => ?_, fun _ _ _ _ r => r.elim, fun _ _ _ _ r => r.elim, fun _ _ _ _ r => r.elim, fun c ρ3 S3 H3 σ3 r3 g3 sl3 => ?_⟩
      rotate_left
      · obtain ⟨rfl, hA⟩ := r3
        rw [hW0]
        refine q2 c ?_ H3 (eB2.trans g3.bh)
        unfold mkT
        rw [hb, hA, if_neg Bool.false_ne_true, if_neg Bool.false_ne_true]
      obtain ⟨hA, s3, rfl⟩ := r3
      obtain ⟨w0, f0, k0⟩ := sl3.sh 0 _ rfl
      cases k0
      have h3 : ED ⟨U.at fun a => B a = none, N_Table_init, defScope s_Table_init, fun _ => true, 1⟩ (asgV ((defBody s_Table_init).getD 3 (.Pass ⟨0, 0, 0, 0⟩))) [.sh (.par p m), .sh (.int m), .sh (D.sets rows), s3] (.fr ((rows.map plainL).map encN)) := by
        refine ED.cast (r := ?r) ?h ?q
        case h =>
          refine' LD.ed ?zl
          case zl =>
          refine' ld_lc0 (xs := rows) (enc := encS) (f := fun r => encN (plainL r)) ?zn ?zi ?zj ?zo ?zl ?ze
          case zn => exact hN
          case zi => wtm_at "m.ic"
          case zj => wtm_at "m.dec"
          case zo => wtm_at "m.dec"
          case zl => wtm_at "m.dec"
          case ze =>
            intro r hr
            refine' ED.toSh (r := .fr ((plainL r).map D.int)) ?zh (.nw _) rfl
            case zh => wtm_at "m.ed"
        case q => rw [List.map_map]; rfl
      refine h3.run _ S3 H3 σ3 g3.sh sl3 _ fun u S4 H4 g4 r4 => ?_
      obtain ⟨l, vs, rfl, hl, nSl, nHl, z, rl⟩ := r4
      have eP3 : H3 p = some (.ins U.C dx [("many", .int m)]) := g3.bh _ _ upd_same
      have eP4 := g4.bh _ _ eP3
      have nlp : l ≠ p := fun e => by
        rw [e, eP3] at nHl
        cases nHl
      refine ⟨_, f0, p, U.C, dx, _, rfl, eP4, C.cls, C.nR, by show 1 < 1000; decide, ?_⟩
      have kc : ¬ (("many" : Str) = "rows") := by decide +kernel
      have pf : putF "rows" (V.ref l) [(("many" : Str), V.int m)] = [(("many" : Str), V.int m), (("rows" : Str), V.ref l)] := by
        show (if ("many" : Str) = "rows" then [(("many" : Str), V.ref l)] else (("many" : Str), V.int m) :: putF "rows" (V.ref l) []) = _
        rw [if_neg kc]
        rfl
      rw [pf]
      have eS4 : S4 p = some (.ins U.C dx [("many", .int m)]) := g4.ss _ _ (g3.ss _ _ upd_same)
      have nSl0 : S l = none := by
        have e : Ex S S4 := ((g1.ss.trans e12).trans g3.ss).trans g4.ss
        exact e.back nSl
      have nBl : B l = none := (eB2.trans g3.bh).back nHl
      refine q1 hb hA (fun a => if a = p then some (.ins U.C dx [("many", .int m), ("rows", .ref l)]) else if a = l then some (.lst vs) else if B a = none then S4 a else none) (upd H4 p (.ins U.C dx [("many", .int m), ("rows", .ref l)])) ⟨fun a h => ?_, fun a o h => ?_, Ex.mut ((eB2.trans g3.bh).trans g4.bh) np⟩ ?_
      · by_cases ap : a = p
        · subst ap
          exact np
        · by_cases al : a = l
          · subst al
            exact nBl
          · by_cases nb : B a = none
            · exact nb
            · rw [if_neg ap, if_neg al, if_neg nb] at h
              exact absurd rfl h
      · by_cases ap : a = p
        · subst ap
          rw [if_pos rfl] at h
          rw [upd_same]
          exact h
        · rw [if_neg ap] at h
          rw [upd_ne ap]
          by_cases al : a = l
          · subst al
            rw [if_pos rfl] at h
            exact hl.trans h
          · rw [if_neg al] at h
            by_cases nb : B a = none
            · rw [if_pos nb] at h
              exact g4.sh _ _ h
            · rw [if_neg nb] at h
              cases h
      · refine Rep.tab (rp := l) (xs := vs) (if_pos rfl) ?_ z ?_
        · rw [if_neg nlp, if_pos rfl]
        · refine RepL.new_sets (n := fun a => B a = none) (S := S4) (fun a y na hy => ?_) rl
          have ap : a ≠ p := fun e => by
            rw [e, eS4] at hy
            cases hy
          have al : a ≠ l := fun e => by
            rw [e, nSl] at hy
            cases hy
          rw [if_neg ap, if_neg al, if_pos na]
          exact hy
end
end Mb
set_option Elab.async false
set_option linter.all false
set_option maxRecDepth 100000
set_option maxHeartbeats 4000000
namespace Mb
open PySem PySem.Spec PyProof.Rows L2
local macro_rules | `(tactic| wtm_at "m.dec") => `(tactic| (dsimp only [Gx.blk]; decide +kernel))
local macro_rules | `(tactic| wtm_at "m.hint") => `(tactic| fail)
local macro_rules | `(tactic| wtm_at "m.side") => `(tactic| first | with_reducible assumption | assumption | decide | omega | exact Or.inr (And.intro (by omega) (by omega)) | exact Or.inl (And.intro (by omega) (by omega)) | exact And.intro (by omega) (by omega) | (simp only [List.length_cons, List.length_nil, List.length_map, List.length_range, List.length_append, sizeLine_eq]; omega) | wtm_at "m.hint" | solve_by_elim)
local macro_rules | `(tactic| wtm_at "m.dn") => `(tactic| first
  | exact Dn.int _ _ | exact Dn.bl _ _ | exact Dn.non _
  | (refine dn_lst (n := _) ?_; wtm_at "m.dm") | (refine dn_nls (n := _) ?_; wtm_at "m.dm") | (refine dn_tup (n := _) ?_; wtm_at "m.dm"))
local macro_rules | `(tactic| wtm_at "m.dm") => `(tactic| first
  | exact dm_nil | (refine dm_map ?_; intro _; wtm_at "m.dn") | (refine dm_cons ?a ?b; (case a => wtm_at "m.dn"); (case b => wtm_at "m.dm")) | (refine dm_app ?a ?b; (case a => wtm_at "m.dm"); (case b => wtm_at "m.dm")))
local macro_rules | `(tactic| wtm_at "m.tosh") => `(tactic| first | exact ToSh.sh _ | exact ToSh.fr _)
local macro_rules | `(tactic| wtm_at "m.eds") => `(tactic| (refine' ED.toSh ?h ?t ?q; (case h => wtm_at "m.ed"); (case t => wtm_at "m.tosh"); (case q => exact rfl)))
local macro_rules | `(tactic| wtm_at "m.tosha") => `(tactic| first | exact ToSh.un _ | exact ToSh.sh _ | exact ToSh.fr _)
local macro_rules | `(tactic| wtm_at "m.ad") => `(tactic| first
  | exact ad_nil
  | (refine' ad_cons' ?h ?t ?r; (case h => wtm_at "m.ed"); (case t => wtm_at "m.tosha"); (case r => wtm_at "m.ad")))
local macro_rules | `(tactic| wtm_at "m.adk") => `(tactic| first
  | exact ad_nil
  | (refine' ad_cons' ?h ?t ?r; (case h => wtm_at "m.ed"); (case t => wtm_at "m.tosh"); (case r => wtm_at "m.adk")))
local macro_rules | `(tactic| wtm_at "m.ic") => `(tactic| first
  | (refine' ic_range (by assumption) ?a ?b ?c ?g; (case a => wtm_at "m.ed"); (case g => rfl); (case b => wtm_at "m.side"); (case c => wtm_at "m.side"))
  | (refine' ic_list ?h ?q; (case h => wtm_at "m.ed"); (case q => exact rfl)))
local macro_rules | `(tactic| wtm_at "m.if") => `(tactic| first
  | (refine' if_range (by assumption) ?a ?b ?c ?g; (case a => wtm_at "m.ed"); (case g => rfl); (case b => wtm_at "m.side"); (case c => wtm_at "m.side"))
  | (refine' if_range2 (by assumption) ?a ?a2 ?b ?g; (case a => wtm_at "m.ed"); (case a2 => wtm_at "m.ed"); (case g => rfl); (case b => wtm_at "m.side"))
  | (refine' if_list ?h; (case h => wtm_at "m.ed"))
  | (refine' if_nls ?h; (case h => wtm_at "m.ed"))
  | (refine' if_fr ?h; (case h => wtm_at "m.ed"))
  | (refine' if_tup ?h; (case h => wtm_at "m.ed")))
local macro_rules | `(tactic| wtm_at "m.ld") => `(tactic| first
  | (refine' ld_lc0 ?n ?i ?j ?o ?l ?e; (case n => assumption); (case i => wtm_at "m.ic"); (case j => wtm_at "m.dec"); (case o => wtm_at "m.dec"); (case l => wtm_at "m.dec"); (case e => intro _ hx; (try have hx := List.mem_range.mp hx); wtm_at "m.eds"))
  | (refine' ld_lc1 ?n ?i ?j ?o ?l ?t ?e; (case n => assumption); (case i => wtm_at "m.ic"); (case j => wtm_at "m.dec"); (case o => wtm_at "m.dec"); (case l => wtm_at "m.dec"); (case t => (intro _ hx; (try have hx := List.mem_range.mp hx); refine' TD.cast ?h ?q; (case h => wtm_at "m.td"); (case q => exact rfl))); (case e => intro _ hx _; (try have hx := List.mem_range.mp hx); wtm_at "m.eds"))
  | (refine' ld_lcp0 ?n ?i ?j ?j2 ?o ?l ?l2 ?e; (case n => assumption); (case i => wtm_at "m.ic"); (case j => wtm_at "m.dec"); (case j2 => wtm_at "m.dec"); (case o => wtm_at "m.dec"); (case l => wtm_at "m.dec"); (case l2 => wtm_at "m.dec"); (case e => intro _ _; wtm_at "m.eds"))
  | (refine' ld_lcp1 ?n ?i ?j ?j2 ?o ?l ?l2 ?t ?e; (case n => assumption); (case i => wtm_at "m.ic"); (case j => wtm_at "m.dec"); (case j2 => wtm_at "m.dec"); (case o => wtm_at "m.dec"); (case l => wtm_at "m.dec"); (case l2 => wtm_at "m.dec"); (case t => (intro _ hx; (try have hx := List.mem_range.mp hx); refine' TD.cast ?h ?q; (case h => wtm_at "m.td"); (case q => exact rfl))); (case e => intro _ hx _; (try have hx := List.mem_range.mp hx); wtm_at "m.eds")))
local macro_rules | `(tactic| wtm_at "m.addr") => `(tactic| first | exact AddR.int _ _ | (refine' AddR.cat ?x ?y ?z; (case x => exact rfl); (case y => exact rfl); (case z => wtm_at "m.side")))
local macro_rules | `(tactic| wtm_at "m.at") => `(tactic| first
  | exact rfl
  | assumption
  | (refine atI_get (d := (0 : Int)) ?a ?b; (case a => wtm_at "m.side"); (case b => wtm_at "m.side"))
  | (refine atI_ints (d := default) ?a ?b; (case a => wtm_at "m.side"); (case b => wtm_at "m.side"))
  | (refine atI_lit ?a ?b ?c; (case a => wtm_at "m.side"); (case b => wtm_at "m.side"); (case c => rfl))
  | solve_by_elim)
local macro_rules | `(tactic| wtm_at "m.ixd") => `(tactic| first
  | (refine' IxD.tup ?h; (case h => wtm_at "m.at"))
  | (refine' IxD.scr ?h; (case h => wtm_at "m.at"))
  | (refine' IxD.list ?x ?h; (case x => exact rfl); (case h => wtm_at "m.at")))
local macro_rules | `(tactic| wtm_at "m.cp") => `(tactic| first
  | (refine' cp_lt ?a ?b; (case a => wtm_at "m.ed"); (case b => wtm_at "m.ed"))
  | (refine' cp_le ?a ?b; (case a => wtm_at "m.ed"); (case b => wtm_at "m.ed"))
  | (refine' cp_gt ?a ?b; (case a => wtm_at "m.ed"); (case b => wtm_at "m.ed"))
  | (refine' cp_ge ?a ?b; (case a => wtm_at "m.ed"); (case b => wtm_at "m.ed"))
  | (refine' cp_eq ?a ?b ?c ?d; (case a => wtm_at "m.ed"); (case b => wtm_at "m.ed"); (case c => wtm_at "m.dn"); (case d => wtm_at "m.dn"))
  | (refine' cp_ne ?a ?b ?c ?d; (case a => wtm_at "m.ed"); (case b => wtm_at "m.ed"); (case c => wtm_at "m.dn"); (case d => wtm_at "m.dn"))
  | (refine' cp_in ?a ?b ?e ?c ?d ?m; (case a => wtm_at "m.ed"); (case b => wtm_at "m.ed"); (case e => exact rfl); (case c => wtm_at "m.dn"); (case d => wtm_at "m.dm"); (case m => rfl))
  | (refine' cp_nin ?a ?b ?e ?c ?d ?m; (case a => wtm_at "m.ed"); (case b => wtm_at "m.ed"); (case e => exact rfl); (case c => wtm_at "m.dn"); (case d => wtm_at "m.dm"); (case m => rfl))
  | (refine' cp_isN ?a; (case a => wtm_at "m.ed"))
  | (refine' cp_notN ?a; (case a => wtm_at "m.ed"))
  | (refine' ch_le_lt ?a ?b ?c; (case a => wtm_at "m.ed"); (case b => wtm_at "m.ed"); (case c => wtm_at "m.ed"))
  | (refine' ch_le_le ?a ?b ?c; (case a => wtm_at "m.ed"); (case b => wtm_at "m.ed"); (case c => wtm_at "m.ed")))
local macro_rules | `(tactic| wtm_at "m.tw") => `(tactic| first
  | (refine' tw_and ?a ?b; (case a => wtm_at "m.td"); (case b => intro _; wtm_at "m.tw"))
  | (refine' tw_or ?a ?b; (case a => wtm_at "m.td"); (case b => intro _; wtm_at "m.tw"))
  | (refine' tw_and1 ?a; (case a => wtm_at "m.td"))
  | (refine' tw_or1 ?a; (case a => wtm_at "m.td")))
local macro_rules | `(tactic| wtm_at "m.td") => `(tactic| first
  | (refine' And.right (a := ?p) ?h; (case h => wtm_at "m.cp"))
  | (refine' td_not ?h; (case h => wtm_at "m.td"))
  | (refine' td_bool ?h; (case h => wtm_at "m.tw"))
  | (refine' td_val ?h; (case h => wtm_at "m.ed")))
local macro_rules | `(tactic| wtm_at "m.bo") => `(tactic| first
  | (refine' ed_and ?a ?b; (case a => wtm_at "m.ed"); (case b => intro _; wtm_at "m.bo"))
  | (refine' ed_or ?a ?b; (case a => wtm_at "m.ed"); (case b => intro _; wtm_at "m.bo"))
  | (refine' ed_one ?a; (case a => wtm_at "m.ed")))
local macro_rules | `(tactic| wtm_at "m.pre") => `(tactic| first
  | exact ⟨_, rfl, rfl⟩ | exact ⟨_, _, rfl, rfl⟩ | exact ⟨_, _, _, rfl, rfl⟩ | exact ⟨_, _, _, _, rfl, rfl⟩ | exact ⟨_, _, _, _, _, rfl, rfl⟩
  | (refine ⟨_, rfl, ?_, rfl⟩; wtm_at "m.side") | (refine ⟨_, _, rfl, ?_, rfl⟩; wtm_at "m.side") | (refine ⟨_, _, _, rfl, ?_, rfl⟩; wtm_at "m.side") | (refine ⟨_, _, _, _, rfl, ?_, rfl⟩; wtm_at "m.side") | (refine ⟨_, _, _, _, _, rfl, ?_, rfl⟩; wtm_at "m.side"))
local macro_rules | `(tactic| wtm_at "m.call") => `(tactic| first
  | wtm_at "m.direct"
  | (refine' ed_thaw ?h ?d; (case h => wtm_at "m.direct"); (case d => rfl)))
local macro_rules | `(tactic| wtm_at "m.od") => `(tactic| first | exact od_none | (refine' od_some ?h; (case h => wtm_at "m.ed")))
local macro_rules | `(tactic| wtm_at "m.direct") => `(tactic| first
  | (refine' ed_call ?T ?k ?g ?a ?A; (case T => assumption); (case k => (dsimp only [Gx.blk]; decide)); (case g => rfl); (case a => wtm_at "m.ad"); (case A => wtm_at "m.pre"))
  | (refine' ed_many (by assumption) ?a ?b; (case a => wtm_at "m.ed"); (case b => exact rfl))
  | (refine' ed_rows (by assumption) ?a; (case a => wtm_at "m.ed"))
  | (refine' ed_meth (by assumption) ?T ?k ?o ?d ?a ?A; (case T => assumption); (case k => (dsimp only [Gx.blk]; decide)); (case o => wtm_at "m.ed"); (case d => exact rfl); (case a => wtm_at "m.ad"); (case A => wtm_at "m.pre")))
local macro_rules | `(tactic| wtm_at "m.ed") => `(tactic| first
  | (refine' ed_varA ?h ?v; (case h => exact rfl); (case v => rfl))
  | (refine' ed_var ?h ?v; (case h => exact rfl); (case v => rfl))
  | exact ed_int
  | (refine' ed_ixR ?a ?b ?c; (case a => wtm_at "m.ed"); (case b => wtm_at "m.ed"); (case c => wtm_at "m.ixd"))
  | (refine' And.left (b := ?p) ?h; (case h => wtm_at "m.cp"))
  | (refine' ed_addR ?a ?b ?c; (case a => wtm_at "m.ed"); (case b => wtm_at "m.ed"); (case c => wtm_at "m.addr"))
  | (refine' ed_sub ?a ?b; (case a => wtm_at "m.ed"); (case b => wtm_at "m.ed"))
  | (refine' ed_mul ?a ?b ?c; (case a => wtm_at "m.ed"); (case b => wtm_at "m.ed"); (case c => wtm_at "m.side"))
  | (refine' ed_fdiv ?a ?b ?c; (case a => wtm_at "m.ed"); (case b => wtm_at "m.ed"); (case c => wtm_at "m.side"))
  | (refine' ed_mod ?a ?b ?c; (case a => wtm_at "m.ed"); (case b => wtm_at "m.ed"); (case c => wtm_at "m.side"))
  | (refine' ed_pow ?a ?b ?c; (case a => wtm_at "m.ed"); (case b => wtm_at "m.ed"); (case c => wtm_at "m.side"))
  | (refine' ed_neg ?a; (case a => wtm_at "m.ed"))
  | (refine' LD.ed ?a; (case a => wtm_at "m.ld"))
  | (refine' ed_len (by assumption) ?a ?b ?g; (case a => wtm_at "m.ed"); (case b => exact rfl); (case g => rfl))
  | (refine' ed_listRange (by assumption) ?a ?b ?c ?g ?g2; (case a => wtm_at "m.ed"); (case b => wtm_at "m.side"); (case c => wtm_at "m.side"); (case g => rfl); (case g2 => rfl))
  | (refine' ed_list (by assumption) ?a ?b ?g; (case a => wtm_at "m.ed"); (case b => exact rfl); (case g => rfl))
  | (refine' ed_all (by assumption) ?a ?b ?g; (case a => wtm_at "m.ed"); (case b => exact rfl); (case g => rfl))
  | (refine' ed_any (by assumption) ?a ?b ?g; (case a => wtm_at "m.ed"); (case b => exact rfl); (case g => rfl))
  | (refine' ed_sum (by assumption) ?a ?b ?g; (case a => wtm_at "m.ed"); (case b => exact rfl); (case g => rfl))
  | (refine' ed_sorted (by assumption) ?a ?b ?g; (case a => wtm_at "m.ed"); (case b => exact rfl); (case g => rfl))
  | (refine' ed_intB (by assumption) ?a ?g; (case a => wtm_at "m.ed"); (case g => rfl))
  | (refine' ed_max (by assumption) ?a ?b ?g; (case a => wtm_at "m.ed"); (case b => wtm_at "m.ed"); (case g => rfl))
  | (refine' ed_min (by assumption) ?a ?b ?g; (case a => wtm_at "m.ed"); (case b => wtm_at "m.ed"); (case g => rfl))
  | (refine' ed_isi (k := true) (by assumption) ?a ?b ?t ?k ?g; (case a => wtm_at "m.ed"); (case b => wtm_at "m.ed"); (case t => exact rfl); (case k => decide +kernel); (case g => rfl))
  | (refine' ed_isi (k := false) (by assumption) ?a ?b ?t ?k ?g; (case a => wtm_at "m.ed"); (case b => wtm_at "m.ed"); (case t => exact rfl); (case k => decide +kernel); (case g => rfl))
  | (refine' ed_tup ?a ?b; (case a => wtm_at "m.adk"); (case b => wtm_at "m.side"))
  | (refine' ed_lst ?a ?b; (case a => wtm_at "m.adk"); (case b => wtm_at "m.side"))
  | (refine' ed_sl ?a ?x ?l ?u; (case a => wtm_at "m.ed"); (case x => exact rfl); (case l => wtm_at "m.od"); (case u => wtm_at "m.od"))
  | (refine' ed_not ?a; (case a => wtm_at "m.ed"))
  | wtm_at "m.bo"
  | wtm_at "m.call"
  | (refine' ed_own ?h ?v; (case h => exact rfl); (case v => rfl))
  | exact ed_bl
  | exact ed_non
  | (refine' ed_globI ?h ?m; (case h => rfl); (case m => assumption))
  | (refine' ed_tyInt (by assumption) ?g; (case g => rfl))
  | (refine' ed_tyList (by assumption) ?g; (case g => rfl))
  | (refine' ed_tyTuple (by assumption) ?g; (case g => rfl))
  | (refine' ed_tyBool (by assumption) ?g; (case g => rfl)))
local macro_rules | `(tactic| wtm_at "s.set") => `(tactic| (refine' sd_cons (s_set ?e ?q ?n ?i ?o); (case n => assumption); (case i => wtm_at "m.dec"); (case o => wtm_at "m.dec"); (case e => wtm_at "m.eds")))
local macro_rules | `(tactic| wtm_at "s.own") => `(tactic| (refine' sd_cons (s_own ?e ?q ?n ?i ?o); (case n => assumption); (case i => wtm_at "m.dec"); (case o => wtm_at "m.dec"); (case e => wtm_at "m.ed")))
local macro_rules | `(tactic| wtm_at "s.lc") => `(tactic| (refine' sd_cons (s_lc ?e ?q ?i ?k ?y ?l ?a); (case i => wtm_at "m.dec"); (case k => rfl); (case y => rfl); (case l => rfl); (case a => decide +kernel); (case e => wtm_at "m.ld")))
local macro_rules | `(tactic| wtm_at "s.lco") => `(tactic| (refine' sd_cons (s_lcO ?e ?q ?i ?k ?y ?l ?a); (case i => wtm_at "m.dec"); (case k => rfl); (case y => rfl); (case l => rfl); (case a => decide +kernel); (case e => wtm_at "m.ld")))
local macro_rules | `(tactic| wtm_at "s.lcc") => `(tactic| (refine' sd_cons (s_set ?e ?q ?n ?i ?o (swapF ?s)); (case n => assumption); (case i => wtm_at "m.dec"); (case o => wtm_at "m.dec"); (case s => rfl); (case e => (refine' ED.shr (LD.ed ?f); (case f => wtm_at "m.ld")))))
local macro_rules | `(tactic| wtm_at "s.ret") => `(tactic| (refine' sd_cons (s_ret ?e ?q); (case e => wtm_at "m.ed")))
local macro_rules | `(tactic| wtm_at "s.if") => `(tactic| (refine' sd_cons (s_if ?zzt ?zzy ?zzm); (case zzt => wtm_at "m.td")))
local macro_rules | `(tactic| wtm_at "s.ift") => `(tactic| (refine' sd_cons (s_if (td_thaw ?zzt) ?zzy ?zzm); (case zzt => wtm_at "m.td")))
local macro_rules | `(tactic| wtm_at "s.app") => `(tactic| (refine' sd_cons (s_app ?e ?h ?v ?z ?q); (case h => exact rfl); (case v => rfl); (case e => wtm_at "m.eds"); (case z => wtm_at "m.side")))
local macro_rules | `(tactic| wtm_at "s.ifset") => `(tactic| (refine' sd_cons (s_ifset ?c ?e ?h1 ?h2 ?h0 ?q ?n ?i ?o); (case n => assumption); (case i => wtm_at "m.dec"); (case o => wtm_at "m.dec"); (case h0 => exact rfl); (case c => wtm_at "m.td"); (case e => intro _; wtm_at "m.eds")))
local macro_rules | `(tactic| wtm_at "s.raise") => `(tactic| (refine' sd_cons (s_raise ?T ?g ?r); (case T => assumption); (case g => rfl)))
local macro_rules | `(tactic| wtm_at "m.make") => `(tactic| (refine' ed_make ?T ?k ?g ?a ?b ?A; (case T => assumption); (case k => (dsimp only [Gx.blk]; decide)); (case g => rfl); (case a => wtm_at "m.ed"); (case b => wtm_at "m.eds"); (case A => assumption)))
local macro_rules | `(tactic| wtm_at "sl.flat") => `(tactic| first | exact flat_sets | exact flat_tab | exact flat_scr | exact flat_int | exact flat_pair flat_int flat_sets)
local macro_rules | `(tactic| wtm_at "sl.one") => `(tactic| first
  | exact Or.inl rfl
  | exact SpM.no
  | exact SpR.no
  | exact SpM.told rfl
  | exact SpR.told rfl
  | (refine SpM.keep (by decide) rfl ?_ rfl; wtm_at "sl.flat")
  | exact SpM.conv (by decide) rfl conv_int.1
  | exact SpR.keep (by decide) (by decide) rfl rfl rfl
  | exact SpR.conv (by decide) rfl conv_int.2
  | exact SpR.conv (by decide) rfl back_rules
  | exact SpR.conv (by decide) rfl back_sets
  | (refine Or.inr ⟨_, rfl, rfl, ?_⟩; wtm_at "sl.flat"))
local macro_rules | `(tactic| wtm_at "sl.all") => `(tactic| ((repeat' first | exact slAll_nil | refine slAll_cons ?_ ?_) <;> wtm_at "sl.one"))
local macro_rules | `(tactic| wtm_at "op.mem") => `(tactic| first | exact .head _ | exact .tail _ (.head _) | exact .tail _ (.tail _ (.head _)) | exact .tail _ (.tail _ (.tail _ (.head _))) | exact .tail _ (.tail _ (.tail _ (.tail _ (.head _)))) | exact .tail _ (.tail _ (.tail _ (.tail _ (.tail _ (.head _))))) | exact .tail _ (.tail _ (.tail _ (.tail _ (.tail _ (.tail _ (.head _)))))))
local macro_rules | `(tactic| wtm_at "op.d") => `(tactic| first
  | exact opn_refl
  | (refine opn_ints ?_; wtm_at "op.mem")
  | (refine opn_tup ?_; wtm_at "op.l")
  | (refine opn_lst ?_; wtm_at "op.l")
  | (refine opn_cell ?zopm ?zopl; (case zopm => wtm_at "op.mem"); (case zopl => first | exact opnL_refl | wtm_at "op.l")))
local macro_rules | `(tactic| wtm_at "op.l") => `(tactic| first
  | exact opnL_nil
  | (refine opnL_cons ?zopa ?zopb; (case zopa => wtm_at "op.d"); (case zopb => wtm_at "op.l")))
local macro_rules | `(tactic| wtm_at "op.one") => `(tactic| first
  | exact OpS.no
  | exact OpS.own rfl
  | (refine OpS.sh rfl ?_; wtm_at "op.d"))
local macro_rules | `(tactic| wtm_at "op.all") => `(tactic| ((repeat' first | exact slAll_nil | refine slAll_cons ?_ ?_) <;> wtm_at "op.one"))
local macro_rules | `(tactic| wtm_at "op.one2") => `(tactic| first
  | exact OpS.no
  | exact OpS.own rfl
  | exact OpS.sh rfl (by assumption)
  | exact OpS.sh rfl opn_refl)
local macro_rules | `(tactic| wtm_at "op.all2") => `(tactic| ((repeat' first | exact slAll_nil | refine slAll_cons ?_ ?_) <;> wtm_at "op.one2"))
section
variable {U : Wd} (T : Bl U.mg) (C : TabOk U) {f : Addr} {fd : FuncData} {x q : Str} {cS cM cT : Addr}
include T C
theorem ok_things (hW : FnT U "within" 1 A_within) (hNd : MtT U "need_marks" 1 (A_need cM)) (F : Fun U.K x q s_Table_things_with f fd) : FnOk U.P U.w U.K U.mg U.base (L2.CX U.P U.w) 2 f fd ["self", "marks"] (spX U (A_things cM)) := by
  have hN := sc_Table_things_with.nd
  refine fn_ok F sc_Table_things_with (fun ds o h => ?_) fun ds o h => ?_
  · obtain ⟨m, rows, ms, rfl, _⟩ := h
    rfl
  · obtain ⟨m, rows, ms, rfl, hz, ho⟩ := h
    refine sd_at (ρ' := [.sh (.tab m rows), .sh (.ints ms), .no]) rfl ?_
    refine sd_cons (s_exprX (O := fun o => o = if inR m ms then .inl (.sh .non) else .inr cM) (xd_meth (A := A_need cM) (d := .tab m rows) (i := m) (ds := [D.ints ms]) C hNd (Nat.le_refl 1) (ed_var rfl rfl) rfl (ad_cons' (ed_var rfl rfl) (.sh _) ad_nil) ⟨_, _, _, rfl, rfl, rfl⟩ rfl) (fun r hr => ?_) fun c hc => ?_)
    · have hI : inR m ms = true := by
        by_cases hI : inR m ms = true
        · exact hI
        · rw [if_neg hI] at hr
          cases hr
      rw [if_pos hI] at ho
      have hz1 : (((rows.map encS).length : Nat) : Int) ≤ 16777216 := by rw [List.length_map]; omega
      refine sd_cons (s_ret (r := .fr ((thI rows ms).map D.int)) ?e ?q)
      case q => exact ho
      case e =>
        have hat : ∀ i : Nat, i < ((((rows.map encS).length : Nat) : Int)).toNat → atI (rows.map encS) (i : Int) = some (encS (rows.getD i [])) := fun i hi => by
          rw [List.length_map] at hi
          exact atI_ints (d := []) (by omega) (by omega)
        refine ED.cast (r := ?r) ?h ?q
        case h => wtm_at "m.ed"
        case q =>
          unfold thI thL
          rw [List.map_map, List.length_map, Int.toNat_natCast]
          rfl
    · by_cases hI : inR m ms = true
      · rw [if_pos hI] at hc
        cases hc
      · rw [if_neg hI] at hc ho
        cases hc
        exact ho
theorem ok_marks (hT : ExT U "BadThing" cT) (F : Fun U.K x q s_Table_marks_of f fd) : FnOk U.P U.w U.K U.mg U.base (L2.CX U.P U.w) 1 f fd ["self", "things"] (spX U (A_marks cT)) := by
  have hN := sc_Table_marks_of.nd
  refine fn_ok F sc_Table_marks_of (fun ds o h => ?_) fun ds o h => ?_
  · obtain ⟨m, rows, ms, rfl, _⟩ := h
    rfl
  · obtain ⟨m, rows, ts, rfl, ⟨hm0, hm8⟩, ho⟩ := h
    refine sd_at (ρ' := [.sh (.tab m rows), .sh (.ints ts), .no, .no, .no]) rfl ?_
    refine' sd_cons (s_forL (xs := ts) (enc := D.int) ?i (fun i ρ => (∃ s, ρ = [.sh (.tab m rows), .sh (.ints ts), s, .no, .no]) ∧ ∀ y ∈ ts.take i, 0 ≤ y ∧ y < (rows.length : Int)) ⟨⟨.no, rfl⟩, fun y hy => nomatch hy⟩ ?s ?d hN ?i1 ?i2)
    case i1 => wtm_at "m.dec"
    case i2 => wtm_at "m.dec"
    case i => wtm_at "m.if"
    case s =>
      intro i y ρ' hy hs
      obtain ⟨⟨s, rfl⟩, hp⟩ := hs
      refine sd_at (ρ' := [.sh (.tab m rows), .sh (.ints ts), .sh (.int y), .no, .no]) rfl ?_
      refine sd_cons (s_if (k := !(decide (0 ≤ y) && decide (y < (rows.length : Int)))) (TD.cast (b := ?kk) ?t ?q) (fun hk => ?_) fun hk => ?_)
      case t => wtm_at "m.td"
      case q => rw [List.length_map]
      · wtm_at "s.raise"
        show o = .inr cT
        rw [ho, if_neg]
        intro hR
        obtain ⟨h1, h2⟩ := inR_iff.mp hR y (List.mem_of_getElem? hy)
        simp [h1, h2] at hk
      · refine sd_nil (sd_nil ⟨⟨.sh (.int y), rfl⟩, ?_⟩)
        rw [List.take_add_one, hy]
        intro z hz
        rcases List.mem_append.mp hz with hz | hz
        · exact hp z hz
        · simp at hz
          subst hz
          simpa using hk
    case d =>
      intro ρ' hs
      obtain ⟨⟨s, rfl⟩, hp⟩ := hs
      rw [List.take_length] at hp
      rw [if_pos (inR_iff.mpr hp)] at ho
      have hmz : m ≤ 16777216 := by omega
      have hmy : -(2 ^ 62) ≤ m := by omega
      refine' sd_cons (s_own (ds := (mkL m rows []).map D.int) ?ze ?zq hN ?i1 ?i2)
      case i1 => wtm_at "m.dec"
      case i2 => wtm_at "m.dec"
      case ze =>
        refine ED.cast (r := ?r) ?h ?q
        case h => wtm_at "m.ed"
        case q =>
          rw [range_int, mkL_nil]
      case zq =>
      refine sd_at (ρ' := [.sh (.tab m rows), .sh (.ints ts), s, .own ((mkL m rows []).map D.int), .no]) rfl ?_
      refine' sd_cons (s_forL (xs := ts) (enc := D.int) ?i (fun i ρ => ∃ s, ρ = [.sh (.tab m rows), .sh (.ints ts), s, .own ((mkL m rows (ts.take i)).map D.int), .no]) ⟨s, rfl⟩ ?s ?d hN ?i1 ?i2)
      case i1 => wtm_at "m.dec"
      case i2 => wtm_at "m.dec"
      case i => wtm_at "m.if"
      case s =>
        intro i y ρ' hy hs
        obtain ⟨s, rfl⟩ := hs
        have hyt : y ∈ ts := List.mem_of_getElem? hy
        obtain ⟨y0, y1⟩ := hp y hyt
        have hat : atI (rows.map encS) y = some (encS (rows.getD y.toNat [])) := atI_ints (d := []) y0 y1
        refine sd_at (ρ' := [.sh (.tab m rows), .sh (.ints ts), .sh (.int y), .own ((mkL m rows (ts.take i)).map D.int), .no]) rfl ?_
        refine sd_cons (s_lcO (ds := (mkL m rows (ts.take (i + 1))).map D.int) (LD.cast (ds := ?zd0) ?ze2 ?zq0) ?zq2 ?zi ?zk ?zy ?zl ?za)
        case zi => wtm_at "m.dec"
        case zk => rfl
        case zy => rfl
        case zl => rfl
        case za => decide +kernel
        case ze2 => wtm_at "m.ld"
        case zq0 =>
          rw [mkL_step hy]
          simp only [Rs.d, any_int]
        case zq2 => exact sd_nil ⟨_, rfl⟩
      case d =>
        intro ρ' hs
        obtain ⟨s, rfl⟩ := hs
        rw [List.take_length]
        refine sd_cons (s_retO (ds := (mkL m rows ts).map D.int) rfl ?zv ?zr)
        case zv => wtm_at "m.dec"
        case zr => exact ho
theorem ok_closed (hTh : MtT U "things_with" 2 (A_things cM)) (hMk : MtT U "marks_of" 1 (A_marks cT)) (F : Fun U.K x q s_Table_closed f fd) : FnOk U.P U.w U.K U.mg U.base (L2.CX U.P U.w) 3 f fd ["self", "marks"] (spX U (A_closed cM)) := by
  have hN := sc_Table_closed.nd
  refine fn_ok F sc_Table_closed (fun ds o h => ?_) fun ds o h => ?_
  · obtain ⟨m, rows, ms, rfl, _⟩ := h
    rfl
  · obtain ⟨m, rows, ms, rfl, ⟨hm0, hm8, hr⟩, ho⟩ := h
    refine sd_at (ρ' := [.sh (.tab m rows), .sh (.ints ms)]) rfl ?_
    refine sd_cons (s_retX (O := fun o' => o' = o) (xd_meth1 (A := A_marks cT) (d := .tab m rows) (i := m) (O1 := fun o' => o' = if inR m ms then .inl (.sh (.ints (thI rows ms))) else .inr cM) C hMk (show 1 ≤ 2 from Nat.le_succ 1) (ed_var rfl rfl) rfl (XD.shr (O' := fun o' => o' = if inR m ms then .inl (.fr ((thI rows ms).map D.int)) else .inr cM)
      (xd_meth (A := A_things cM) (d := .tab m rows) (i := m) (ds := [D.ints ms]) C hTh (Nat.le_refl 2) (ed_var rfl rfl) rfl (ad_cons' (ed_var rfl rfl) (.sh _) ad_nil) ⟨_, _, _, rfl, hr, rfl⟩ rfl) (fun r hr => ?_) fun c hc => ?_) (fun r hr => ?_) fun c hc => ?_) (fun r hr => ?_) fun c hc => ?_)
    · by_cases hI : inR m ms = true
      · rw [if_pos hI] at hr ⊢
        cases hr
        exact ⟨rfl, fun _ h => nomatch h⟩
      · rw [if_neg hI] at hr
        cases hr
    · by_cases hI : inR m ms = true
      · rw [if_pos hI] at hc
        cases hc
      · rw [if_neg hI] at hc ⊢
        exact hc
    · by_cases hI : inR m ms = true
      · rw [if_pos hI] at hr ho
        cases hr
        exact ⟨_, _, rfl, ⟨m, rows, _, rfl, ⟨hm0, hm8⟩, by rw [if_pos (thI_in rows ms)]; rfl⟩, ho.symm⟩
      · rw [if_neg hI] at hr
        cases hr
    · by_cases hI : inR m ms = true
      · rw [if_pos hI] at hc
        cases hc
      · rw [if_neg hI] at hc ho
        rw [hc, ho]
    · exact hr.symm
    · exact hc.symm
end
end Mb
set_option Elab.async false
set_option linter.all false
set_option maxRecDepth 100000
set_option maxHeartbeats 4000000
namespace Mb
open PySem PySem.Spec PyProof.Rows L2
local macro_rules | `(tactic| wtm_at "m.dec") => `(tactic| (dsimp only [Gx.blk]; decide +kernel))
local macro_rules | `(tactic| wtm_at "m.hint") => `(tactic| fail)
local macro_rules | `(tactic| wtm_at "m.side") => `(tactic| first | with_reducible assumption | assumption | decide | omega | exact Or.inr (And.intro (by omega) (by omega)) | exact Or.inl (And.intro (by omega) (by omega)) | exact And.intro (by omega) (by omega) | (simp only [List.length_cons, List.length_nil, List.length_map, List.length_range, List.length_append, sizeLine_eq]; omega) | wtm_at "m.hint" | solve_by_elim)
local macro_rules | `(tactic| wtm_at "m.dn") => `(tactic| first
  | exact Dn.int _ _ | exact Dn.bl _ _ | exact Dn.non _
  | (refine dn_lst (n := _) ?_; wtm_at "m.dm") | (refine dn_nls (n := _) ?_; wtm_at "m.dm") | (refine dn_tup (n := _) ?_; wtm_at "m.dm"))
local macro_rules | `(tactic| wtm_at "m.dm") => `(tactic| first
  | exact dm_nil | (refine dm_map ?_; intro _; wtm_at "m.dn") | (refine dm_cons ?a ?b; (case a => wtm_at "m.dn"); (case b => wtm_at "m.dm")) | (refine dm_app ?a ?b; (case a => wtm_at "m.dm"); (case b => wtm_at "m.dm")))
local macro_rules | `(tactic| wtm_at "m.tosh") => `(tactic| first | exact ToSh.sh _ | exact ToSh.fr _)
local macro_rules | `(tactic| wtm_at "m.eds") => `(tactic| (refine' ED.toSh ?h ?t ?q; (case h => wtm_at "m.ed"); (case t => wtm_at "m.tosh"); (case q => exact rfl)))
local macro_rules | `(tactic| wtm_at "m.tosha") => `(tactic| first | exact ToSh.un _ | exact ToSh.sh _ | exact ToSh.fr _)
local macro_rules | `(tactic| wtm_at "m.ad") => `(tactic| first
  | exact ad_nil
  | (refine' ad_cons' ?h ?t ?r; (case h => wtm_at "m.ed"); (case t => wtm_at "m.tosha"); (case r => wtm_at "m.ad")))
local macro_rules | `(tactic| wtm_at "m.adk") => `(tactic| first
  | exact ad_nil
  | (refine' ad_cons' ?h ?t ?r; (case h => wtm_at "m.ed"); (case t => wtm_at "m.tosh"); (case r => wtm_at "m.adk")))
local macro_rules | `(tactic| wtm_at "m.ic") => `(tactic| first
  | (refine' ic_range (by assumption) ?a ?b ?c ?g; (case a => wtm_at "m.ed"); (case g => rfl); (case b => wtm_at "m.side"); (case c => wtm_at "m.side"))
  | (refine' ic_list ?h ?q; (case h => wtm_at "m.ed"); (case q => exact rfl)))
local macro_rules | `(tactic| wtm_at "m.if") => `(tactic| first
  | (refine' if_range (by assumption) ?a ?b ?c ?g; (case a => wtm_at "m.ed"); (case g => rfl); (case b => wtm_at "m.side"); (case c => wtm_at "m.side"))
  | (refine' if_range2 (by assumption) ?a ?a2 ?b ?g; (case a => wtm_at "m.ed"); (case a2 => wtm_at "m.ed"); (case g => rfl); (case b => wtm_at "m.side"))
  | (refine' if_list ?h; (case h => wtm_at "m.ed"))
  | (refine' if_nls ?h; (case h => wtm_at "m.ed"))
  | (refine' if_fr ?h; (case h => wtm_at "m.ed"))
  | (refine' if_tup ?h; (case h => wtm_at "m.ed")))
local macro_rules | `(tactic| wtm_at "m.ld") => `(tactic| first
  | (refine' ld_lc0 ?n ?i ?j ?o ?l ?e; (case n => assumption); (case i => wtm_at "m.ic"); (case j => wtm_at "m.dec"); (case o => wtm_at "m.dec"); (case l => wtm_at "m.dec"); (case e => intro _ hx; (try have hx := List.mem_range.mp hx); wtm_at "m.eds"))
  | (refine' ld_lc1 ?n ?i ?j ?o ?l ?t ?e; (case n => assumption); (case i => wtm_at "m.ic"); (case j => wtm_at "m.dec"); (case o => wtm_at "m.dec"); (case l => wtm_at "m.dec"); (case t => (intro _ hx; (try have hx := List.mem_range.mp hx); refine' TD.cast ?h ?q; (case h => wtm_at "m.td"); (case q => exact rfl))); (case e => intro _ hx _; (try have hx := List.mem_range.mp hx); wtm_at "m.eds"))
  | (refine' ld_lcp0 ?n ?i ?j ?j2 ?o ?l ?l2 ?e; (case n => assumption); (case i => wtm_at "m.ic"); (case j => wtm_at "m.dec"); (case j2 => wtm_at "m.dec"); (case o => wtm_at "m.dec"); (case l => wtm_at "m.dec"); (case l2 => wtm_at "m.dec"); (case e => intro _ _; wtm_at "m.eds"))
  | (refine' ld_lcp1 ?n ?i ?j ?j2 ?o ?l ?l2 ?t ?e; (case n => assumption); (case i => wtm_at "m.ic"); (case j => wtm_at "m.dec"); (case j2 => wtm_at "m.dec"); (case o => wtm_at "m.dec"); (case l => wtm_at "m.dec"); (case l2 => wtm_at "m.dec"); (case t => (intro _ hx; (try have hx := List.mem_range.mp hx); refine' TD.cast ?h ?q; (case h => wtm_at "m.td"); (case q => exact rfl))); (case e => intro _ hx _; (try have hx := List.mem_range.mp hx); wtm_at "m.eds")))
local macro_rules | `(tactic| wtm_at "m.addr") => `(tactic| first | exact AddR.int _ _ | (refine' AddR.cat ?x ?y ?z; (case x => exact rfl); (case y => exact rfl); (case z => wtm_at "m.side")))
local macro_rules | `(tactic| wtm_at "m.at") => `(tactic| first
  | exact rfl
  | assumption
  | (refine atI_get (d := (0 : Int)) ?a ?b; (case a => wtm_at "m.side"); (case b => wtm_at "m.side"))
  | (refine atI_ints (d := default) ?a ?b; (case a => wtm_at "m.side"); (case b => wtm_at "m.side"))
  | (refine atI_lit ?a ?b ?c; (case a => wtm_at "m.side"); (case b => wtm_at "m.side"); (case c => rfl))
  | solve_by_elim)
local macro_rules | `(tactic| wtm_at "m.ixd") => `(tactic| first
  | (refine' IxD.tup ?h; (case h => wtm_at "m.at"))
  | (refine' IxD.scr ?h; (case h => wtm_at "m.at"))
  | (refine' IxD.list ?x ?h; (case x => exact rfl); (case h => wtm_at "m.at")))
local macro_rules | `(tactic| wtm_at "m.cp") => `(tactic| first
  | (refine' cp_lt ?a ?b; (case a => wtm_at "m.ed"); (case b => wtm_at "m.ed"))
  | (refine' cp_le ?a ?b; (case a => wtm_at "m.ed"); (case b => wtm_at "m.ed"))
  | (refine' cp_gt ?a ?b; (case a => wtm_at "m.ed"); (case b => wtm_at "m.ed"))
  | (refine' cp_ge ?a ?b; (case a => wtm_at "m.ed"); (case b => wtm_at "m.ed"))
  | (refine' cp_eq ?a ?b ?c ?d; (case a => wtm_at "m.ed"); (case b => wtm_at "m.ed"); (case c => wtm_at "m.dn"); (case d => wtm_at "m.dn"))
  | (refine' cp_ne ?a ?b ?c ?d; (case a => wtm_at "m.ed"); (case b => wtm_at "m.ed"); (case c => wtm_at "m.dn"); (case d => wtm_at "m.dn"))
  | (refine' cp_in ?a ?b ?e ?c ?d ?m; (case a => wtm_at "m.ed"); (case b => wtm_at "m.ed"); (case e => exact rfl); (case c => wtm_at "m.dn"); (case d => wtm_at "m.dm"); (case m => rfl))
  | (refine' cp_nin ?a ?b ?e ?c ?d ?m; (case a => wtm_at "m.ed"); (case b => wtm_at "m.ed"); (case e => exact rfl); (case c => wtm_at "m.dn"); (case d => wtm_at "m.dm"); (case m => rfl))
  | (refine' cp_isN ?a; (case a => wtm_at "m.ed"))
  | (refine' cp_notN ?a; (case a => wtm_at "m.ed"))
  | (refine' ch_le_lt ?a ?b ?c; (case a => wtm_at "m.ed"); (case b => wtm_at "m.ed"); (case c => wtm_at "m.ed"))
  | (refine' ch_le_le ?a ?b ?c; (case a => wtm_at "m.ed"); (case b => wtm_at "m.ed"); (case c => wtm_at "m.ed")))
local macro_rules | `(tactic| wtm_at "m.tw") => `(tactic| first
  | (refine' tw_and ?a ?b; (case a => wtm_at "m.td"); (case b => intro _; wtm_at "m.tw"))
  | (refine' tw_or ?a ?b; (case a => wtm_at "m.td"); (case b => intro _; wtm_at "m.tw"))
  | (refine' tw_and1 ?a; (case a => wtm_at "m.td"))
  | (refine' tw_or1 ?a; (case a => wtm_at "m.td")))
local macro_rules | `(tactic| wtm_at "m.td") => `(tactic| first
  | (refine' And.right (a := ?p) ?h; (case h => wtm_at "m.cp"))
  | (refine' td_not ?h; (case h => wtm_at "m.td"))
  | (refine' td_bool ?h; (case h => wtm_at "m.tw"))
  | (refine' td_val ?h; (case h => wtm_at "m.ed")))
local macro_rules | `(tactic| wtm_at "m.bo") => `(tactic| first
  | (refine' ed_and ?a ?b; (case a => wtm_at "m.ed"); (case b => intro _; wtm_at "m.bo"))
  | (refine' ed_or ?a ?b; (case a => wtm_at "m.ed"); (case b => intro _; wtm_at "m.bo"))
  | (refine' ed_one ?a; (case a => wtm_at "m.ed")))
local macro_rules | `(tactic| wtm_at "m.pre") => `(tactic| first
  | exact ⟨_, rfl, rfl⟩ | exact ⟨_, _, rfl, rfl⟩ | exact ⟨_, _, _, rfl, rfl⟩ | exact ⟨_, _, _, _, rfl, rfl⟩ | exact ⟨_, _, _, _, _, rfl, rfl⟩
  | (refine ⟨_, rfl, ?_, rfl⟩; wtm_at "m.side") | (refine ⟨_, _, rfl, ?_, rfl⟩; wtm_at "m.side") | (refine ⟨_, _, _, rfl, ?_, rfl⟩; wtm_at "m.side") | (refine ⟨_, _, _, _, rfl, ?_, rfl⟩; wtm_at "m.side") | (refine ⟨_, _, _, _, _, rfl, ?_, rfl⟩; wtm_at "m.side"))
local macro_rules | `(tactic| wtm_at "m.call") => `(tactic| first
  | wtm_at "m.direct"
  | (refine' ed_thaw ?h ?d; (case h => wtm_at "m.direct"); (case d => rfl)))
local macro_rules | `(tactic| wtm_at "m.od") => `(tactic| first | exact od_none | (refine' od_some ?h; (case h => wtm_at "m.ed")))
local macro_rules | `(tactic| wtm_at "m.direct") => `(tactic| first
  | (refine' ed_call ?T ?k ?g ?a ?A; (case T => assumption); (case k => (dsimp only [Gx.blk]; decide)); (case g => rfl); (case a => wtm_at "m.ad"); (case A => wtm_at "m.pre"))
  | (refine' ed_many (by assumption) ?a ?b; (case a => wtm_at "m.ed"); (case b => exact rfl))
  | (refine' ed_rows (by assumption) ?a; (case a => wtm_at "m.ed"))
  | (refine' ed_meth (by assumption) ?T ?k ?o ?d ?a ?A; (case T => assumption); (case k => (dsimp only [Gx.blk]; decide)); (case o => wtm_at "m.ed"); (case d => exact rfl); (case a => wtm_at "m.ad"); (case A => wtm_at "m.pre")))
local macro_rules | `(tactic| wtm_at "m.ed") => `(tactic| first
  | (refine' ed_varA ?h ?v; (case h => exact rfl); (case v => rfl))
  | (refine' ed_var ?h ?v; (case h => exact rfl); (case v => rfl))
  | exact ed_int
  | (refine' ed_ixR ?a ?b ?c; (case a => wtm_at "m.ed"); (case b => wtm_at "m.ed"); (case c => wtm_at "m.ixd"))
  | (refine' And.left (b := ?p) ?h; (case h => wtm_at "m.cp"))
  | (refine' ed_addR ?a ?b ?c; (case a => wtm_at "m.ed"); (case b => wtm_at "m.ed"); (case c => wtm_at "m.addr"))
  | (refine' ed_sub ?a ?b; (case a => wtm_at "m.ed"); (case b => wtm_at "m.ed"))
  | (refine' ed_mul ?a ?b ?c; (case a => wtm_at "m.ed"); (case b => wtm_at "m.ed"); (case c => wtm_at "m.side"))
  | (refine' ed_fdiv ?a ?b ?c; (case a => wtm_at "m.ed"); (case b => wtm_at "m.ed"); (case c => wtm_at "m.side"))
  | (refine' ed_mod ?a ?b ?c; (case a => wtm_at "m.ed"); (case b => wtm_at "m.ed"); (case c => wtm_at "m.side"))
  | (refine' ed_pow ?a ?b ?c; (case a => wtm_at "m.ed"); (case b => wtm_at "m.ed"); (case c => wtm_at "m.side"))
  | (refine' ed_neg ?a; (case a => wtm_at "m.ed"))
  | (refine' LD.ed ?a; (case a => wtm_at "m.ld"))
  | (refine' ed_len (by assumption) ?a ?b ?g; (case a => wtm_at "m.ed"); (case b => exact rfl); (case g => rfl))
  | (refine' ed_listRange (by assumption) ?a ?b ?c ?g ?g2; (case a => wtm_at "m.ed"); (case b => wtm_at "m.side"); (case c => wtm_at "m.side"); (case g => rfl); (case g2 => rfl))
  | (refine' ed_list (by assumption) ?a ?b ?g; (case a => wtm_at "m.ed"); (case b => exact rfl); (case g => rfl))
  | (refine' ed_all (by assumption) ?a ?b ?g; (case a => wtm_at "m.ed"); (case b => exact rfl); (case g => rfl))
  | (refine' ed_any (by assumption) ?a ?b ?g; (case a => wtm_at "m.ed"); (case b => exact rfl); (case g => rfl))
  | (refine' ed_sum (by assumption) ?a ?b ?g; (case a => wtm_at "m.ed"); (case b => exact rfl); (case g => rfl))
  | (refine' ed_sorted (by assumption) ?a ?b ?g; (case a => wtm_at "m.ed"); (case b => exact rfl); (case g => rfl))
  | (refine' ed_intB (by assumption) ?a ?g; (case a => wtm_at "m.ed"); (case g => rfl))
  | (refine' ed_max (by assumption) ?a ?b ?g; (case a => wtm_at "m.ed"); (case b => wtm_at "m.ed"); (case g => rfl))
  | (refine' ed_min (by assumption) ?a ?b ?g; (case a => wtm_at "m.ed"); (case b => wtm_at "m.ed"); (case g => rfl))
  | (refine' ed_isi (k := true) (by assumption) ?a ?b ?t ?k ?g; (case a => wtm_at "m.ed"); (case b => wtm_at "m.ed"); (case t => exact rfl); (case k => decide +kernel); (case g => rfl))
  | (refine' ed_isi (k := false) (by assumption) ?a ?b ?t ?k ?g; (case a => wtm_at "m.ed"); (case b => wtm_at "m.ed"); (case t => exact rfl); (case k => decide +kernel); (case g => rfl))
  | (refine' ed_tup ?a ?b; (case a => wtm_at "m.adk"); (case b => wtm_at "m.side"))
  | (refine' ed_lst ?a ?b; (case a => wtm_at "m.adk"); (case b => wtm_at "m.side"))
  | (refine' ed_sl ?a ?x ?l ?u; (case a => wtm_at "m.ed"); (case x => exact rfl); (case l => wtm_at "m.od"); (case u => wtm_at "m.od"))
  | (refine' ed_not ?a; (case a => wtm_at "m.ed"))
  | wtm_at "m.bo"
  | wtm_at "m.call"
  | (refine' ed_own ?h ?v; (case h => exact rfl); (case v => rfl))
  | exact ed_bl
  | exact ed_non
  | (refine' ed_globI ?h ?m; (case h => rfl); (case m => assumption))
  | (refine' ed_tyInt (by assumption) ?g; (case g => rfl))
  | (refine' ed_tyList (by assumption) ?g; (case g => rfl))
  | (refine' ed_tyTuple (by assumption) ?g; (case g => rfl))
  | (refine' ed_tyBool (by assumption) ?g; (case g => rfl)))
local macro_rules | `(tactic| wtm_at "s.set") => `(tactic| (refine' sd_cons (s_set ?e ?q ?n ?i ?o); (case n => assumption); (case i => wtm_at "m.dec"); (case o => wtm_at "m.dec"); (case e => wtm_at "m.eds")))
local macro_rules | `(tactic| wtm_at "s.own") => `(tactic| (refine' sd_cons (s_own ?e ?q ?n ?i ?o); (case n => assumption); (case i => wtm_at "m.dec"); (case o => wtm_at "m.dec"); (case e => wtm_at "m.ed")))
local macro_rules | `(tactic| wtm_at "s.lc") => `(tactic| (refine' sd_cons (s_lc ?e ?q ?i ?k ?y ?l ?a); (case i => wtm_at "m.dec"); (case k => rfl); (case y => rfl); (case l => rfl); (case a => decide +kernel); (case e => wtm_at "m.ld")))
local macro_rules | `(tactic| wtm_at "s.lco") => `(tactic| (refine' sd_cons (s_lcO ?e ?q ?i ?k ?y ?l ?a); (case i => wtm_at "m.dec"); (case k => rfl); (case y => rfl); (case l => rfl); (case a => decide +kernel); (case e => wtm_at "m.ld")))
local macro_rules | `(tactic| wtm_at "s.lcc") => `(tactic| (refine' sd_cons (s_set ?e ?q ?n ?i ?o (swapF ?s)); (case n => assumption); (case i => wtm_at "m.dec"); (case o => wtm_at "m.dec"); (case s => rfl); (case e => (refine' ED.shr (LD.ed ?f); (case f => wtm_at "m.ld")))))
local macro_rules | `(tactic| wtm_at "s.ret") => `(tactic| (refine' sd_cons (s_ret ?e ?q); (case e => wtm_at "m.ed")))
local macro_rules | `(tactic| wtm_at "s.if") => `(tactic| (refine' sd_cons (s_if ?zzt ?zzy ?zzm); (case zzt => wtm_at "m.td")))
local macro_rules | `(tactic| wtm_at "s.ift") => `(tactic| (refine' sd_cons (s_if (td_thaw ?zzt) ?zzy ?zzm); (case zzt => wtm_at "m.td")))
local macro_rules | `(tactic| wtm_at "s.app") => `(tactic| (refine' sd_cons (s_app ?e ?h ?v ?z ?q); (case h => exact rfl); (case v => rfl); (case e => wtm_at "m.eds"); (case z => wtm_at "m.side")))
local macro_rules | `(tactic| wtm_at "s.ifset") => `(tactic| (refine' sd_cons (s_ifset ?c ?e ?h1 ?h2 ?h0 ?q ?n ?i ?o); (case n => assumption); (case i => wtm_at "m.dec"); (case o => wtm_at "m.dec"); (case h0 => exact rfl); (case c => wtm_at "m.td"); (case e => intro _; wtm_at "m.eds")))
local macro_rules | `(tactic| wtm_at "s.raise") => `(tactic| (refine' sd_cons (s_raise ?T ?g ?r); (case T => assumption); (case g => rfl)))
local macro_rules | `(tactic| wtm_at "m.make") => `(tactic| (refine' ed_make ?T ?k ?g ?a ?b ?A; (case T => assumption); (case k => (dsimp only [Gx.blk]; decide)); (case g => rfl); (case a => wtm_at "m.ed"); (case b => wtm_at "m.eds"); (case A => assumption)))
local macro_rules | `(tactic| wtm_at "sl.flat") => `(tactic| first | exact flat_sets | exact flat_tab | exact flat_scr | exact flat_int | exact flat_pair flat_int flat_sets)
local macro_rules | `(tactic| wtm_at "sl.one") => `(tactic| first
  | exact Or.inl rfl
  | exact SpM.no
  | exact SpR.no
  | exact SpM.told rfl
  | exact SpR.told rfl
  | (refine SpM.keep (by decide) rfl ?_ rfl; wtm_at "sl.flat")
  | exact SpM.conv (by decide) rfl conv_int.1
  | exact SpR.keep (by decide) (by decide) rfl rfl rfl
  | exact SpR.conv (by decide) rfl conv_int.2
  | exact SpR.conv (by decide) rfl back_rules
  | exact SpR.conv (by decide) rfl back_sets
  | (refine Or.inr ⟨_, rfl, rfl, ?_⟩; wtm_at "sl.flat"))
local macro_rules | `(tactic| wtm_at "sl.all") => `(tactic| ((repeat' first | exact slAll_nil | refine slAll_cons ?_ ?_) <;> wtm_at "sl.one"))
local macro_rules | `(tactic| wtm_at "op.mem") => `(tactic| first | exact .head _ | exact .tail _ (.head _) | exact .tail _ (.tail _ (.head _)) | exact .tail _ (.tail _ (.tail _ (.head _))) | exact .tail _ (.tail _ (.tail _ (.tail _ (.head _)))) | exact .tail _ (.tail _ (.tail _ (.tail _ (.tail _ (.head _))))) | exact .tail _ (.tail _ (.tail _ (.tail _ (.tail _ (.tail _ (.head _)))))))
local macro_rules | `(tactic| wtm_at "op.d") => `(tactic| first
  | exact opn_refl
  | (refine opn_ints ?_; wtm_at "op.mem")
  | (refine opn_tup ?_; wtm_at "op.l")
  | (refine opn_lst ?_; wtm_at "op.l")
  | (refine opn_cell ?zopm ?zopl; (case zopm => wtm_at "op.mem"); (case zopl => first | exact opnL_refl | wtm_at "op.l")))
local macro_rules | `(tactic| wtm_at "op.l") => `(tactic| first
  | exact opnL_nil
  | (refine opnL_cons ?zopa ?zopb; (case zopa => wtm_at "op.d"); (case zopb => wtm_at "op.l")))
local macro_rules | `(tactic| wtm_at "op.one") => `(tactic| first
  | exact OpS.no
  | exact OpS.own rfl
  | (refine OpS.sh rfl ?_; wtm_at "op.d"))
local macro_rules | `(tactic| wtm_at "op.all") => `(tactic| ((repeat' first | exact slAll_nil | refine slAll_cons ?_ ?_) <;> wtm_at "op.one"))
local macro_rules | `(tactic| wtm_at "op.one2") => `(tactic| first
  | exact OpS.no
  | exact OpS.own rfl
  | exact OpS.sh rfl (by assumption)
  | exact OpS.sh rfl opn_refl)
local macro_rules | `(tactic| wtm_at "op.all2") => `(tactic| ((repeat' first | exact slAll_nil | refine slAll_cons ?_ ?_) <;> wtm_at "op.one2"))
section
variable {U : Wd} (T : Bl U.mg) (C : TabOk U) {f : Addr} {fd : FuncData} {x q : Str} {cS cM cT : Addr}
include T
theorem ok_ordered (F : Fun U.K x q s_ordered f fd) : FnOk U.P U.w U.K U.mg U.base (L2.CX U.P U.w) 1 f fd ["sets"] (spX U A_ordered) := by
  have hN := sc_ordered.nd
  refine fn_ok F sc_ordered (fun ds o h => ?_) fun ds o h => ?_
  · obtain ⟨enc, xs, _, rfl, _⟩ := h
    rfl
  · obtain ⟨enc, xs, hE, rfl, rfl⟩ := h
    refine sd_at (ρ' := [.sh (.lst (xs.map enc)), .no, .no]) rfl ?_
    refine sd_cons (s_ret (r := .fr ((orderedL xs).map enc)) ?ze rfl)
    case ze =>
      refine' LD.ed ?zl
      case zl =>
      refine' ld_lc0 (xs := orderedL xs) (enc := fun y => .tup [.int (y.length : Int), enc y]) (f := enc) ?zn ?zi ?zj ?zo ?zl ?ze2
      case zn => exact hN
      case zj => wtm_at "m.dec"
      case zo => wtm_at "m.dec"
      case zl => wtm_at "m.dec"
      case ze2 =>
        intro y hy
        refine' ED.toSh (r := .sh (enc y)) ?zh (.sh _) rfl
        case zh => wtm_at "m.ed"
      case zi =>
        refine' ic_list (ed_sortedD (enc := fun y => .tup [.int (y.length : Int), enc y]) (le := leS) (xs := xs) (x := .fr (xs.map fun y => .tup [.int (y.length : Int), enc y])) T ?za rfl ?zd (len_alike hE xs) (len_sortable hE xs) (fun a b => by rw [le_encL, hE.ltD]) rfl) rfl
        case zd =>
          intro y hy
          refine Dn.up (n := 2) ?_ (by decide)
          refine dn_tup ?_
          exact dm_cons (Dn.int _ _) (dm_cons (hE.dn y) dm_nil)
        case za =>
          refine' LD.ed ?zl2
          case zl2 =>
          refine' ld_lc0 (xs := xs) (enc := enc) (f := fun y => .tup [.int (y.length : Int), enc y]) ?zn2 ?zi2 ?zj2 ?zo2 ?zl3 ?ze3
          case zn2 => exact hN
          case zj2 => wtm_at "m.dec"
          case zo2 => wtm_at "m.dec"
          case zl3 => wtm_at "m.dec"
          case zi2 => wtm_at "m.ic"
          case ze3 =>
            intro y hy
            have hl : (Rs.sh (enc y)).len = some y.length := by
              cases hE with
              | s => exact congrArg some (List.length_map _)
              | n => exact congrArg some (List.length_map _)
            refine ED.toSh (r := .sh (.tup [.int (y.length : Int), enc y])) ?zh2 (.sh _) rfl
            case zh2 =>
              refine ed_tup (ad_cons' (ed_len T (ed_var rfl rfl) hl rfl) (.sh _) (ad_cons' (ed_var rfl rfl) (.sh _) ad_nil)) ?_
              wtm_at "m.side"
theorem ok_all (hO : FnT U "ordered" 1 A_ordered) (F : Fun U.K x q s_all_sets f fd) : FnOk U.P U.w U.K U.mg U.base (L2.CX U.P U.w) 2 f fd ["many"] (spX U A_all) := by
  have hN := sc_all_sets.nd
  refine fn_ok F sc_all_sets (fun ds o h => ?_) fun ds o h => ?_
  · obtain ⟨m, rfl, _⟩ := h
    rfl
  · obtain ⟨m, rfl, ⟨hm0, hm8⟩, rfl⟩ := h
    have hmz : m < 2 ^ 62 := by omega
    have hmy : -(2 ^ 62) ≤ m := by omega
    refine sd_at (ρ' := [.sh (.int m), .no, .no, .no]) rfl ?_
    refine sd_cons (s_set (d := .lst [.nls []]) (ED.toSh (r := .fr [.nls []]) (ed_lst (ad_cons' (ed_lst ad_nil ?zs1) (.nw _) ad_nil) ?zs2) (.fr _) rfl) ?zq hN ?zi1 ?zi2)
    case zs1 => wtm_at "m.side"
    case zs2 => wtm_at "m.side"
    case zi1 => wtm_at "m.dec"
    case zi2 => wtm_at "m.dec"
    case zq =>
    refine sd_at (ρ' := [.sh (.int m), .sh (.lst ((bld 0).map encN)), .no, .no]) rfl ?_
    refine' sd_cons (s_forR (m := m.toNat) ?zi (fun i ρ => ∃ s, ρ = [.sh (.int m), .sh (.lst ((bld i).map encN)), s, .no]) ⟨.no, rfl⟩ ?zs ?zd hN ?zi3 ?zi4)
    case zi3 => wtm_at "m.dec"
    case zi4 => wtm_at "m.dec"
    case zi =>
      refine' if_range T ?zia hmz hmy ?zig
      case zig => rfl
      case zia => wtm_at "m.ed"
    case zs =>
      intro i ρ' hi hs
      obtain ⟨s, rfl⟩ := hs
      have hl := bld_len i
      have hp : 2 ^ i ≤ 256 := calc 2 ^ i ≤ 2 ^ 8 := Nat.pow_le_pow_right (by decide) (by omega)
        _ = 256 := by decide
      refine sd_at (ρ' := [.sh (.int m), .sh (.lst ((bld i).map encN)), .sh (.int (i : Int)), .no]) rfl ?_
      refine sd_cons (s_set (d := .lst ((bld (i + 1)).map encN)) (ED.toSh (r := .fr ((bld (i + 1)).map encN)) (ED.cast (r := .fr ((bld i).map encN ++ (bld i).map fun s => encN (s ++ [(i : Int)]))) ?zc ?zc2) (.fr _) rfl) ?zq2 hN ?zj1 ?zj2)
      case zj1 => wtm_at "m.dec"
      case zj2 => wtm_at "m.dec"
      case zq2 => exact sd_nil ⟨_, rfl⟩
      case zc2 =>
        rw [bld, List.map_append, List.map_map]
        rfl
      case zc =>
        refine' ed_addR (x := .sh (.lst ((bld i).map encN))) (y := .fr ((bld i).map fun s => encN (s ++ [(i : Int)]))) (ed_var rfl rfl) ?zb (.cat rfl rfl ?zl0)
        case zl0 =>
          rw [List.length_map, List.length_map, sizeLine_eq]
          omega
        case zb =>
          refine' LD.ed ?zl
          case zl =>
          refine' ld_lc0 (xs := bld i) (enc := encN) (f := fun s => encN (s ++ [(i : Int)])) ?zn ?zi5 ?zj ?zo ?zl1 ?ze
          case zn => exact hN
          case zj => wtm_at "m.dec"
          case zo => wtm_at "m.dec"
          case zl1 => wtm_at "m.dec"
          case zi5 => wtm_at "m.ic"
          case ze =>
            intro y hy
            have hyl : y.length ≤ 8 + i := by
              have h1 : ∀ (n : Nat) (s : List Int), s ∈ bld n → s.length ≤ n := by
                intro n
                induction n with
                | zero =>
                  intro s hs
                  unfold bld at hs
                  rw [List.mem_singleton.mp hs]
                  exact Nat.le_refl _
                | succ n ih =>
                  intro s hs
                  unfold bld at hs
                  rcases List.mem_append.mp hs with h | h
                  · exact Nat.le_succ_of_le (ih s h)
                  · obtain ⟨t, ht, rfl⟩ := List.mem_map.mp h
                    rw [List.length_append, List.length_singleton]
                    exact Nat.succ_le_succ (ih t ht)
              exact Nat.le_trans (h1 i y hy) (by omega)
            have hz : (y.map D.int).length + [D.int (i : Int)].length ≤ sizeLine := by
              rw [List.length_map, List.length_singleton, sizeLine_eq]
              omega
            refine' ED.toSh (r := .fr ((y ++ [(i : Int)]).map D.int)) (ED.cast (r := .fr (y.map D.int ++ [D.int (i : Int)])) ?zf ?zf2) (.nw _) rfl
            case zf2 => rw [List.map_append]; rfl
            case zf => wtm_at "m.ed"
    case zd =>
      intro ρ' hs
      obtain ⟨s, rfl⟩ := hs
      refine sd_cons (s_ret (r := .fr ((allL m).map encN)) ?zr rfl)
      case zr =>
        refine' ed_call (A := A_ordered) (ds := [.lst ((bld m.toNat).map encN)]) hO ?zk rfl ?za ⟨encN, _, .n, rfl, rfl⟩
        case zk => dsimp only; decide
        case za => wtm_at "m.ad"
theorem ok_knot (hW : FnT U "within" 1 A_within) (F : Fun U.K x q s_is_knot f fd) : FnOk U.P U.w U.K U.mg U.base (L2.CX U.P U.w) 2 f fd ["marks", "pairs"] (spX U A_knot) := by
  have hN := sc_is_knot.nd
  refine fn_ok F sc_is_knot (fun ds o h => ?_) fun ds o h => ?_
  · obtain ⟨ms, ps, rfl, _⟩ := h
    rfl
  · obtain ⟨ms, ps, rfl, rfl⟩ := h
    refine sd_at (ρ' := [.sh (.ints ms), .sh (.lst (ps.map encRn)), .no, .no]) rfl ?_
    refine' sd_cons (s_for2 (xs := ps) (e1 := fun r => encN r.1) (e2 := fun r => encN r.2) ?zi (fun i ρ => (∃ s t, ρ = [.sh (.ints ms), .sh (.lst (ps.map encRn)), s, t]) ∧ isKnotL ms (ps.take i) = true) ⟨⟨.no, .no, rfl⟩, rfl⟩ ?zs ?zd hN ?zi1 ?zi2 ?zi3 ?zi4)
    case zi1 => wtm_at "m.dec"
    case zi2 => wtm_at "m.dec"
    case zi3 => wtm_at "m.dec"
    case zi4 => wtm_at "m.dec"
    case zi => wtm_at "m.if"
    case zs =>
      intro i r ρ' hr hs
      obtain ⟨⟨s, t, rfl⟩, hp⟩ := hs
      refine sd_at (ρ' := [.sh (.ints ms), .sh (.lst (ps.map encRn)), .sh (encN r.1), .sh (encN r.2)]) rfl ?_
      refine sd_cons (s_if (k := withinB r.1 ms && !withinB r.2 ms) (TD.cast (b := ?zk) ?zt ?zq) (fun hk => ?_) fun hk => ?_)
      case zt => wtm_at "m.td"
      case zq => rfl
      · refine sd_cons (s_ret (r := .sh (.bl false)) ed_bl ?_)
        show (Sum.inl _ : Ot) = Sum.inl _
        have : isKnotL ms ps = false := by
          rw [Bool.eq_false_iff]
          intro h
          have := List.all_eq_true.mp h r (List.mem_of_getElem? hr)
          rw [hk] at this
          cases this
        rw [this]
      · refine sd_nil (sd_nil ⟨⟨_, _, rfl⟩, ?_⟩)
        unfold isKnotL at hp ⊢
        rw [List.take_add_one, hr, List.all_append, hp]
        show (true && ([r].all fun p => !(withinB p.1 ms && !withinB p.2 ms))) = true
        rw [List.all_cons, hk]
        rfl
    case zd =>
      intro ρ' hs
      obtain ⟨⟨s, t, rfl⟩, hp⟩ := hs
      rw [List.take_length] at hp
      refine sd_cons (s_ret (r := .sh (.bl true)) ed_bl ?_)
      show (Sum.inl _ : Ot) = Sum.inl _
      rw [hp]
include C in
theorem ok_fewest (hA : FnT U "all_sets" 2 A_all) (hCl : MtT U "closed" 3 (A_closed cM)) (hK : FnT U "is_knot" 2 A_knot) (F : Fun U.K x q s_fewest f fd) : FnOk U.P U.w U.K U.mg U.base (L2.CX U.P U.w) 4 f fd ["table"] (spX U A_fewest) := by
  have hN := sc_fewest.nd
  refine fn_ok F sc_fewest (fun ds o h => ?_) fun ds o h => ?_
  · obtain ⟨m, rows, rfl, _⟩ := h
    rfl
  · obtain ⟨m, rows, rfl, ⟨hm0, hm8, hr⟩, rfl⟩ := h
    refine sd_at (ρ' := [.sh (.tab m rows), .no, .no, .no, .no, .no]) rfl ?_
    wtm_at "s.own"
    refine sd_at (ρ' := [.sh (.tab m rows), .own ((fewP m rows ((allL m).take 0)).map encRn), .no, .no, .no, .no]) rfl ?_
    have hAl := allL_len hm8
    refine' sd_cons (s_forL (xs := allL m) (enc := encN) ?zi (fun i ρ => ∃ s t, ρ = [.sh (.tab m rows), .own ((fewP m rows ((allL m).take i)).map encRn), s, t, .no, .no]) ⟨.no, .no, rfl⟩ ?zs ?zd hN ?zi1 ?zi2)
    case zi1 => wtm_at "m.dec"
    case zi2 => wtm_at "m.dec"
    case zi =>
      refine' if_fr ?zf
      case zf =>
        refine' ed_call (A := A_all) (ds := [.int m]) hA ?zk rfl ?za ⟨_, rfl, ⟨hm0, hm8⟩, rfl⟩
        case zk => dsimp only; decide
        case za => wtm_at "m.ad"
    case zs =>
      intro i y ρ' hy hs
      obtain ⟨s, t, rfl⟩ := hs
      have hym : y ∈ allL m := List.mem_of_getElem? hy
      have hin := allL_in hm0 hym
      have hfl := fewP_len m rows ((allL m).take i)
      rw [List.length_take] at hfl
      have tk : fewP m rows ((allL m).take (i + 1)) = fewStep m rows (fewP m rows ((allL m).take i)) y := by
        unfold fewP
        rw [List.take_add_one, hy, List.foldl_append]
        rfl
      rw [tk]
      generalize fewP m rows ((allL m).take i) = ps at *
      refine sd_at (ρ' := [.sh (.tab m rows), .own (ps.map encRn), .sh (encN y), t, .no, .no]) rfl ?_
      refine sd_cons (s_set (d := encN (clL m rows y)) (ED.toSh (r := .fr ((clL m rows y).map D.int)) ?ze (.nw _) rfl) ?zq hN ?zi1 ?zi2)
      case zi1 => wtm_at "m.dec"
      case zi2 => wtm_at "m.dec"
      case ze =>
        refine' ed_meth (A := A_closed cM) (d := .tab m rows) (i := m) (ds := [D.ints y]) C hCl ?zk (ed_var rfl rfl) rfl (ad_cons' (ed_var rfl rfl) (.un _) ad_nil) ⟨_, _, _, rfl, ⟨hm0, hm8, hr⟩, by rw [if_pos hin]⟩
        case zk => dsimp only; decide
      case zq =>
      refine sd_at (ρ' := [.sh (.tab m rows), .own (ps.map encRn), .sh (encN y), .sh (encN (clL m rows y)), .no, .no]) rfl ?_
      refine sd_cons (s_if (k := !decide (clL m rows y = y) && isKnotL y ps) (td_thaw (TD.cast (b := ?zb) ?zt ?zq2)) (fun hk => ?_) fun hk => ?_)
      case zt => wtm_at "m.td"
      case zq2 => rw [show (Rs.sh (encN (clL m rows y))).d = encN (clL m rows y) from rfl, show (Rs.sh (encN y)).d = encN y from rfl, deq_nn]
      · have hz : (ps.map encRn).length < sizeLine := by
          rw [List.length_map, sizeLine_eq]
          omega
        refine sd_cons (s_app (d := encRn (y, clL m rows y)) (ds := ps.map encRn) ?ze2 rfl ?zv hz ?zq3)
        case ze2 =>
          refine' ED.toSh ?zh (.sh _) rfl
          case zh => wtm_at "m.ed"
        case zv => wtm_at "m.dec"
        case zq3 =>
          refine sd_nil (sd_nil ⟨.sh (encN y), .sh (encN (clL m rows y)), ?_⟩)
          unfold fewStep
          rw [if_pos hk, List.map_append]
          rfl
      · refine sd_nil (sd_nil ⟨.sh (encN y), .sh (encN (clL m rows y)), ?_⟩)
        unfold fewStep
        rw [hk, if_neg Bool.false_ne_true]
    case zd =>
      intro ρ' hs
      obtain ⟨s, t, rfl⟩ := hs
      rw [List.take_length]
      refine sd_cons (s_ret (r := .fr ((fewL m rows).map encRn)) (ED.cast (r := .fr ((fewP m rows (allL m)).map fun r => encRn (r.1, lacksL r.2 r.1))) ?ze ?zq) rfl)
      case zq =>
        unfold fewL
        rw [List.map_map]
        rfl
      case ze =>
        refine' LD.ed ?zl
        case zl =>
        refine' ld_lcp0 (xs := fewP m rows (allL m)) (e1 := fun r => encN r.1) (e2 := fun r => encN r.2) (f := fun r => encRn (r.1, lacksL r.2 r.1)) ?zn ?zi ?zj ?zj2 ?zo ?zl ?zl2 ?ze2
        case zn => exact hN
        case zi => wtm_at "m.ic"
        case zj => wtm_at "m.dec"
        case zj2 => wtm_at "m.dec"
        case zo => wtm_at "m.dec"
        case zl => wtm_at "m.dec"
        case zl2 => wtm_at "m.dec"
        case ze2 =>
          intro r hr
          refine' ED.toSh (r := .sh (.tup [encN r.1, encN (lacksL r.2 r.1)])) (ed_tup (ad_cons' (ed_var rfl rfl) (.sh _) (ad_cons' (r := .fr ((lacksL r.2 r.1).map D.int)) ?zc (.nw _) ad_nil)) ?zs) (.sh _) rfl
          case zs => wtm_at "m.side"
          case zc =>
            refine ED.cast (r := ?zr) ?zh ?zq
            case zh => wtm_at "m.ed"
            case zq =>
              simp only [Rs.d, any_int]
              rfl
end
end Mb
set_option Elab.async false
set_option linter.all false
set_option maxRecDepth 100000
set_option maxHeartbeats 4000000
namespace Mb
open PySem PySem.Spec PyProof.Rows L2
local macro_rules | `(tactic| wtm_at "m.dec") => `(tactic| (dsimp only [Gx.blk]; decide +kernel))
local macro_rules | `(tactic| wtm_at "m.hint") => `(tactic| fail)
local macro_rules | `(tactic| wtm_at "m.side") => `(tactic| first | with_reducible assumption | assumption | decide | omega | exact Or.inr (And.intro (by omega) (by omega)) | exact Or.inl (And.intro (by omega) (by omega)) | exact And.intro (by omega) (by omega) | (simp only [List.length_cons, List.length_nil, List.length_map, List.length_range, List.length_append, sizeLine_eq]; omega) | wtm_at "m.hint" | solve_by_elim)
local macro_rules | `(tactic| wtm_at "m.dn") => `(tactic| first
  | exact Dn.int _ _ | exact Dn.bl _ _ | exact Dn.non _
  | (refine dn_lst (n := _) ?_; wtm_at "m.dm") | (refine dn_nls (n := _) ?_; wtm_at "m.dm") | (refine dn_tup (n := _) ?_; wtm_at "m.dm"))
local macro_rules | `(tactic| wtm_at "m.dm") => `(tactic| first
  | exact dm_nil | (refine dm_map ?_; intro _; wtm_at "m.dn") | (refine dm_cons ?a ?b; (case a => wtm_at "m.dn"); (case b => wtm_at "m.dm")) | (refine dm_app ?a ?b; (case a => wtm_at "m.dm"); (case b => wtm_at "m.dm")))
local macro_rules | `(tactic| wtm_at "m.tosh") => `(tactic| first | exact ToSh.sh _ | exact ToSh.fr _)
local macro_rules | `(tactic| wtm_at "m.eds") => `(tactic| (refine' ED.toSh ?h ?t ?q; (case h => wtm_at "m.ed"); (case t => wtm_at "m.tosh"); (case q => exact rfl)))
local macro_rules | `(tactic| wtm_at "m.tosha") => `(tactic| first | exact ToSh.un _ | exact ToSh.sh _ | exact ToSh.fr _)
local macro_rules | `(tactic| wtm_at "m.ad") => `(tactic| first
  | exact ad_nil
  | (refine' ad_cons' ?h ?t ?r; (case h => wtm_at "m.ed"); (case t => wtm_at "m.tosha"); (case r => wtm_at "m.ad")))
local macro_rules | `(tactic| wtm_at "m.adk") => `(tactic| first
  | exact ad_nil
  | (refine' ad_cons' ?h ?t ?r; (case h => wtm_at "m.ed"); (case t => wtm_at "m.tosh"); (case r => wtm_at "m.adk")))
local macro_rules | `(tactic| wtm_at "m.ic") => `(tactic| first
  | (refine' ic_range (by assumption) ?a ?b ?c ?g; (case a => wtm_at "m.ed"); (case g => rfl); (case b => wtm_at "m.side"); (case c => wtm_at "m.side"))
  | (refine' ic_list ?h ?q; (case h => wtm_at "m.ed"); (case q => exact rfl)))
local macro_rules | `(tactic| wtm_at "m.if") => `(tactic| first
  | (refine' if_range (by assumption) ?a ?b ?c ?g; (case a => wtm_at "m.ed"); (case g => rfl); (case b => wtm_at "m.side"); (case c => wtm_at "m.side"))
  | (refine' if_range2 (by assumption) ?a ?a2 ?b ?g; (case a => wtm_at "m.ed"); (case a2 => wtm_at "m.ed"); (case g => rfl); (case b => wtm_at "m.side"))
  | (refine' if_list ?h; (case h => wtm_at "m.ed"))
  | (refine' if_nls ?h; (case h => wtm_at "m.ed"))
  | (refine' if_fr ?h; (case h => wtm_at "m.ed"))
  | (refine' if_tup ?h; (case h => wtm_at "m.ed")))
local macro_rules | `(tactic| wtm_at "m.ld") => `(tactic| first
  | (refine' ld_lc0 ?n ?i ?j ?o ?l ?e; (case n => assumption); (case i => wtm_at "m.ic"); (case j => wtm_at "m.dec"); (case o => wtm_at "m.dec"); (case l => wtm_at "m.dec"); (case e => intro _ hx; (try have hx := List.mem_range.mp hx); wtm_at "m.eds"))
  | (refine' ld_lc1 ?n ?i ?j ?o ?l ?t ?e; (case n => assumption); (case i => wtm_at "m.ic"); (case j => wtm_at "m.dec"); (case o => wtm_at "m.dec"); (case l => wtm_at "m.dec"); (case t => (intro _ hx; (try have hx := List.mem_range.mp hx); refine' TD.cast ?h ?q; (case h => wtm_at "m.td"); (case q => exact rfl))); (case e => intro _ hx _; (try have hx := List.mem_range.mp hx); wtm_at "m.eds"))
  | (refine' ld_lcp0 ?n ?i ?j ?j2 ?o ?l ?l2 ?e; (case n => assumption); (case i => wtm_at "m.ic"); (case j => wtm_at "m.dec"); (case j2 => wtm_at "m.dec"); (case o => wtm_at "m.dec"); (case l => wtm_at "m.dec"); (case l2 => wtm_at "m.dec"); (case e => intro _ _; wtm_at "m.eds"))
  | (refine' ld_lcp1 ?n ?i ?j ?j2 ?o ?l ?l2 ?t ?e; (case n => assumption); (case i => wtm_at "m.ic"); (case j => wtm_at "m.dec"); (case j2 => wtm_at "m.dec"); (case o => wtm_at "m.dec"); (case l => wtm_at "m.dec"); (case l2 => wtm_at "m.dec"); (case t => (intro _ hx; (try have hx := List.mem_range.mp hx); refine' TD.cast ?h ?q; (case h => wtm_at "m.td"); (case q => exact rfl))); (case e => intro _ hx _; (try have hx := List.mem_range.mp hx); wtm_at "m.eds")))
local macro_rules | `(tactic| wtm_at "m.addr") => `(tactic| first | exact AddR.int _ _ | (refine' AddR.cat ?x ?y ?z; (case x => exact rfl); (case y => exact rfl); (case z => wtm_at "m.side")))
local macro_rules | `(tactic| wtm_at "m.at") => `(tactic| first
  | exact rfl
  | assumption
  | (refine atI_get (d := (0 : Int)) ?a ?b; (case a => wtm_at "m.side"); (case b => wtm_at "m.side"))
  | (refine atI_ints (d := default) ?a ?b; (case a => wtm_at "m.side"); (case b => wtm_at "m.side"))
  | (refine atI_lit ?a ?b ?c; (case a => wtm_at "m.side"); (case b => wtm_at "m.side"); (case c => rfl))
  | solve_by_elim)
local macro_rules | `(tactic| wtm_at "m.ixd") => `(tactic| first
  | (refine' IxD.tup ?h; (case h => wtm_at "m.at"))
  | (refine' IxD.scr ?h; (case h => wtm_at "m.at"))
  | (refine' IxD.list ?x ?h; (case x => exact rfl); (case h => wtm_at "m.at")))
local macro_rules | `(tactic| wtm_at "m.cp") => `(tactic| first
  | (refine' cp_lt ?a ?b; (case a => wtm_at "m.ed"); (case b => wtm_at "m.ed"))
  | (refine' cp_le ?a ?b; (case a => wtm_at "m.ed"); (case b => wtm_at "m.ed"))
  | (refine' cp_gt ?a ?b; (case a => wtm_at "m.ed"); (case b => wtm_at "m.ed"))
  | (refine' cp_ge ?a ?b; (case a => wtm_at "m.ed"); (case b => wtm_at "m.ed"))
  | (refine' cp_eq ?a ?b ?c ?d; (case a => wtm_at "m.ed"); (case b => wtm_at "m.ed"); (case c => wtm_at "m.dn"); (case d => wtm_at "m.dn"))
  | (refine' cp_ne ?a ?b ?c ?d; (case a => wtm_at "m.ed"); (case b => wtm_at "m.ed"); (case c => wtm_at "m.dn"); (case d => wtm_at "m.dn"))
  | (refine' cp_in ?a ?b ?e ?c ?d ?m; (case a => wtm_at "m.ed"); (case b => wtm_at "m.ed"); (case e => exact rfl); (case c => wtm_at "m.dn"); (case d => wtm_at "m.dm"); (case m => rfl))
  | (refine' cp_nin ?a ?b ?e ?c ?d ?m; (case a => wtm_at "m.ed"); (case b => wtm_at "m.ed"); (case e => exact rfl); (case c => wtm_at "m.dn"); (case d => wtm_at "m.dm"); (case m => rfl))
  | (refine' cp_isN ?a; (case a => wtm_at "m.ed"))
  | (refine' cp_notN ?a; (case a => wtm_at "m.ed"))
  | (refine' ch_le_lt ?a ?b ?c; (case a => wtm_at "m.ed"); (case b => wtm_at "m.ed"); (case c => wtm_at "m.ed"))
  | (refine' ch_le_le ?a ?b ?c; (case a => wtm_at "m.ed"); (case b => wtm_at "m.ed"); (case c => wtm_at "m.ed")))
local macro_rules | `(tactic| wtm_at "m.tw") => `(tactic| first
  | (refine' tw_and ?a ?b; (case a => wtm_at "m.td"); (case b => intro _; wtm_at "m.tw"))
  | (refine' tw_or ?a ?b; (case a => wtm_at "m.td"); (case b => intro _; wtm_at "m.tw"))
  | (refine' tw_and1 ?a; (case a => wtm_at "m.td"))
  | (refine' tw_or1 ?a; (case a => wtm_at "m.td")))
local macro_rules | `(tactic| wtm_at "m.td") => `(tactic| first
  | (refine' And.right (a := ?p) ?h; (case h => wtm_at "m.cp"))
  | (refine' td_not ?h; (case h => wtm_at "m.td"))
  | (refine' td_bool ?h; (case h => wtm_at "m.tw"))
  | (refine' td_val ?h; (case h => wtm_at "m.ed")))
local macro_rules | `(tactic| wtm_at "m.bo") => `(tactic| first
  | (refine' ed_and ?a ?b; (case a => wtm_at "m.ed"); (case b => intro _; wtm_at "m.bo"))
  | (refine' ed_or ?a ?b; (case a => wtm_at "m.ed"); (case b => intro _; wtm_at "m.bo"))
  | (refine' ed_one ?a; (case a => wtm_at "m.ed")))
local macro_rules | `(tactic| wtm_at "m.pre") => `(tactic| first
  | exact ⟨_, rfl, rfl⟩ | exact ⟨_, _, rfl, rfl⟩ | exact ⟨_, _, _, rfl, rfl⟩ | exact ⟨_, _, _, _, rfl, rfl⟩ | exact ⟨_, _, _, _, _, rfl, rfl⟩
  | (refine ⟨_, rfl, ?_, rfl⟩; wtm_at "m.side") | (refine ⟨_, _, rfl, ?_, rfl⟩; wtm_at "m.side") | (refine ⟨_, _, _, rfl, ?_, rfl⟩; wtm_at "m.side") | (refine ⟨_, _, _, _, rfl, ?_, rfl⟩; wtm_at "m.side") | (refine ⟨_, _, _, _, _, rfl, ?_, rfl⟩; wtm_at "m.side"))
local macro_rules | `(tactic| wtm_at "m.call") => `(tactic| first
  | wtm_at "m.direct"
  | (refine' ed_thaw ?h ?d; (case h => wtm_at "m.direct"); (case d => rfl)))
local macro_rules | `(tactic| wtm_at "m.od") => `(tactic| first | exact od_none | (refine' od_some ?h; (case h => wtm_at "m.ed")))
local macro_rules | `(tactic| wtm_at "m.direct") => `(tactic| first
  | (refine' ed_call ?T ?k ?g ?a ?A; (case T => assumption); (case k => (dsimp only [Gx.blk]; decide)); (case g => rfl); (case a => wtm_at "m.ad"); (case A => wtm_at "m.pre"))
  | (refine' ed_many (by assumption) ?a ?b; (case a => wtm_at "m.ed"); (case b => exact rfl))
  | (refine' ed_rows (by assumption) ?a; (case a => wtm_at "m.ed"))
  | (refine' ed_meth (by assumption) ?T ?k ?o ?d ?a ?A; (case T => assumption); (case k => (dsimp only [Gx.blk]; decide)); (case o => wtm_at "m.ed"); (case d => exact rfl); (case a => wtm_at "m.ad"); (case A => wtm_at "m.pre")))
local macro_rules | `(tactic| wtm_at "m.ed") => `(tactic| first
  | (refine' ed_varA ?h ?v; (case h => exact rfl); (case v => rfl))
  | (refine' ed_var ?h ?v; (case h => exact rfl); (case v => rfl))
  | exact ed_int
  | (refine' ed_ixR ?a ?b ?c; (case a => wtm_at "m.ed"); (case b => wtm_at "m.ed"); (case c => wtm_at "m.ixd"))
  | (refine' And.left (b := ?p) ?h; (case h => wtm_at "m.cp"))
  | (refine' ed_addR ?a ?b ?c; (case a => wtm_at "m.ed"); (case b => wtm_at "m.ed"); (case c => wtm_at "m.addr"))
  | (refine' ed_sub ?a ?b; (case a => wtm_at "m.ed"); (case b => wtm_at "m.ed"))
  | (refine' ed_mul ?a ?b ?c; (case a => wtm_at "m.ed"); (case b => wtm_at "m.ed"); (case c => wtm_at "m.side"))
  | (refine' ed_fdiv ?a ?b ?c; (case a => wtm_at "m.ed"); (case b => wtm_at "m.ed"); (case c => wtm_at "m.side"))
  | (refine' ed_mod ?a ?b ?c; (case a => wtm_at "m.ed"); (case b => wtm_at "m.ed"); (case c => wtm_at "m.side"))
  | (refine' ed_pow ?a ?b ?c; (case a => wtm_at "m.ed"); (case b => wtm_at "m.ed"); (case c => wtm_at "m.side"))
  | (refine' ed_neg ?a; (case a => wtm_at "m.ed"))
  | (refine' LD.ed ?a; (case a => wtm_at "m.ld"))
  | (refine' ed_len (by assumption) ?a ?b ?g; (case a => wtm_at "m.ed"); (case b => exact rfl); (case g => rfl))
  | (refine' ed_listRange (by assumption) ?a ?b ?c ?g ?g2; (case a => wtm_at "m.ed"); (case b => wtm_at "m.side"); (case c => wtm_at "m.side"); (case g => rfl); (case g2 => rfl))
  | (refine' ed_list (by assumption) ?a ?b ?g; (case a => wtm_at "m.ed"); (case b => exact rfl); (case g => rfl))
  | (refine' ed_all (by assumption) ?a ?b ?g; (case a => wtm_at "m.ed"); (case b => exact rfl); (case g => rfl))
  | (refine' ed_any (by assumption) ?a ?b ?g; (case a => wtm_at "m.ed"); (case b => exact rfl); (case g => rfl))
  | (refine' ed_sum (by assumption) ?a ?b ?g; (case a => wtm_at "m.ed"); (case b => exact rfl); (case g => rfl))
  | (refine' ed_sorted (by assumption) ?a ?b ?g; (case a => wtm_at "m.ed"); (case b => exact rfl); (case g => rfl))
  | (refine' ed_intB (by assumption) ?a ?g; (case a => wtm_at "m.ed"); (case g => rfl))
  | (refine' ed_max (by assumption) ?a ?b ?g; (case a => wtm_at "m.ed"); (case b => wtm_at "m.ed"); (case g => rfl))
  | (refine' ed_min (by assumption) ?a ?b ?g; (case a => wtm_at "m.ed"); (case b => wtm_at "m.ed"); (case g => rfl))
  | (refine' ed_isi (k := true) (by assumption) ?a ?b ?t ?k ?g; (case a => wtm_at "m.ed"); (case b => wtm_at "m.ed"); (case t => exact rfl); (case k => decide +kernel); (case g => rfl))
  | (refine' ed_isi (k := false) (by assumption) ?a ?b ?t ?k ?g; (case a => wtm_at "m.ed"); (case b => wtm_at "m.ed"); (case t => exact rfl); (case k => decide +kernel); (case g => rfl))
  | (refine' ed_tup ?a ?b; (case a => wtm_at "m.adk"); (case b => wtm_at "m.side"))
  | (refine' ed_lst ?a ?b; (case a => wtm_at "m.adk"); (case b => wtm_at "m.side"))
  | (refine' ed_sl ?a ?x ?l ?u; (case a => wtm_at "m.ed"); (case x => exact rfl); (case l => wtm_at "m.od"); (case u => wtm_at "m.od"))
  | (refine' ed_not ?a; (case a => wtm_at "m.ed"))
  | wtm_at "m.bo"
  | wtm_at "m.call"
  | (refine' ed_own ?h ?v; (case h => exact rfl); (case v => rfl))
  | exact ed_bl
  | exact ed_non
  | (refine' ed_globI ?h ?m; (case h => rfl); (case m => assumption))
  | (refine' ed_tyInt (by assumption) ?g; (case g => rfl))
  | (refine' ed_tyList (by assumption) ?g; (case g => rfl))
  | (refine' ed_tyTuple (by assumption) ?g; (case g => rfl))
  | (refine' ed_tyBool (by assumption) ?g; (case g => rfl)))
local macro_rules | `(tactic| wtm_at "s.set") => `(tactic| (refine' sd_cons (s_set ?e ?q ?n ?i ?o); (case n => assumption); (case i => wtm_at "m.dec"); (case o => wtm_at "m.dec"); (case e => wtm_at "m.eds")))
local macro_rules | `(tactic| wtm_at "s.own") => `(tactic| (refine' sd_cons (s_own ?e ?q ?n ?i ?o); (case n => assumption); (case i => wtm_at "m.dec"); (case o => wtm_at "m.dec"); (case e => wtm_at "m.ed")))
local macro_rules | `(tactic| wtm_at "s.lc") => `(tactic| (refine' sd_cons (s_lc ?e ?q ?i ?k ?y ?l ?a); (case i => wtm_at "m.dec"); (case k => rfl); (case y => rfl); (case l => rfl); (case a => decide +kernel); (case e => wtm_at "m.ld")))
local macro_rules | `(tactic| wtm_at "s.lco") => `(tactic| (refine' sd_cons (s_lcO ?e ?q ?i ?k ?y ?l ?a); (case i => wtm_at "m.dec"); (case k => rfl); (case y => rfl); (case l => rfl); (case a => decide +kernel); (case e => wtm_at "m.ld")))
local macro_rules | `(tactic| wtm_at "s.lcc") => `(tactic| (refine' sd_cons (s_set ?e ?q ?n ?i ?o (swapF ?s)); (case n => assumption); (case i => wtm_at "m.dec"); (case o => wtm_at "m.dec"); (case s => rfl); (case e => (refine' ED.shr (LD.ed ?f); (case f => wtm_at "m.ld")))))
local macro_rules | `(tactic| wtm_at "s.ret") => `(tactic| (refine' sd_cons (s_ret ?e ?q); (case e => wtm_at "m.ed")))
local macro_rules | `(tactic| wtm_at "s.if") => `(tactic| (refine' sd_cons (s_if ?zzt ?zzy ?zzm); (case zzt => wtm_at "m.td")))
local macro_rules | `(tactic| wtm_at "s.ift") => `(tactic| (refine' sd_cons (s_if (td_thaw ?zzt) ?zzy ?zzm); (case zzt => wtm_at "m.td")))
local macro_rules | `(tactic| wtm_at "s.app") => `(tactic| (refine' sd_cons (s_app ?e ?h ?v ?z ?q); (case h => exact rfl); (case v => rfl); (case e => wtm_at "m.eds"); (case z => wtm_at "m.side")))
local macro_rules | `(tactic| wtm_at "s.ifset") => `(tactic| (refine' sd_cons (s_ifset ?c ?e ?h1 ?h2 ?h0 ?q ?n ?i ?o); (case n => assumption); (case i => wtm_at "m.dec"); (case o => wtm_at "m.dec"); (case h0 => exact rfl); (case c => wtm_at "m.td"); (case e => intro _; wtm_at "m.eds")))
local macro_rules | `(tactic| wtm_at "s.raise") => `(tactic| (refine' sd_cons (s_raise ?T ?g ?r); (case T => assumption); (case g => rfl)))
local macro_rules | `(tactic| wtm_at "m.make") => `(tactic| (refine' ed_make ?T ?k ?g ?a ?b ?A; (case T => assumption); (case k => (dsimp only [Gx.blk]; decide)); (case g => rfl); (case a => wtm_at "m.ed"); (case b => wtm_at "m.eds"); (case A => assumption)))
local macro_rules | `(tactic| wtm_at "sl.flat") => `(tactic| first | exact flat_sets | exact flat_tab | exact flat_scr | exact flat_int | exact flat_pair flat_int flat_sets)
local macro_rules | `(tactic| wtm_at "sl.one") => `(tactic| first
  | exact Or.inl rfl
  | exact SpM.no
  | exact SpR.no
  | exact SpM.told rfl
  | exact SpR.told rfl
  | (refine SpM.keep (by decide) rfl ?_ rfl; wtm_at "sl.flat")
  | exact SpM.conv (by decide) rfl conv_int.1
  | exact SpR.keep (by decide) (by decide) rfl rfl rfl
  | exact SpR.conv (by decide) rfl conv_int.2
  | exact SpR.conv (by decide) rfl back_rules
  | exact SpR.conv (by decide) rfl back_sets
  | (refine Or.inr ⟨_, rfl, rfl, ?_⟩; wtm_at "sl.flat"))
local macro_rules | `(tactic| wtm_at "sl.all") => `(tactic| ((repeat' first | exact slAll_nil | refine slAll_cons ?_ ?_) <;> wtm_at "sl.one"))
local macro_rules | `(tactic| wtm_at "op.mem") => `(tactic| first | exact .head _ | exact .tail _ (.head _) | exact .tail _ (.tail _ (.head _)) | exact .tail _ (.tail _ (.tail _ (.head _))) | exact .tail _ (.tail _ (.tail _ (.tail _ (.head _)))) | exact .tail _ (.tail _ (.tail _ (.tail _ (.tail _ (.head _))))) | exact .tail _ (.tail _ (.tail _ (.tail _ (.tail _ (.tail _ (.head _)))))))
local macro_rules | `(tactic| wtm_at "op.d") => `(tactic| first
  | exact opn_refl
  | (refine opn_ints ?_; wtm_at "op.mem")
  | (refine opn_tup ?_; wtm_at "op.l")
  | (refine opn_lst ?_; wtm_at "op.l")
  | (refine opn_cell ?zopm ?zopl; (case zopm => wtm_at "op.mem"); (case zopl => first | exact opnL_refl | wtm_at "op.l")))
local macro_rules | `(tactic| wtm_at "op.l") => `(tactic| first
  | exact opnL_nil
  | (refine opnL_cons ?zopa ?zopb; (case zopa => wtm_at "op.d"); (case zopb => wtm_at "op.l")))
local macro_rules | `(tactic| wtm_at "op.one") => `(tactic| first
  | exact OpS.no
  | exact OpS.own rfl
  | (refine OpS.sh rfl ?_; wtm_at "op.d"))
local macro_rules | `(tactic| wtm_at "op.all") => `(tactic| ((repeat' first | exact slAll_nil | refine slAll_cons ?_ ?_) <;> wtm_at "op.one"))
local macro_rules | `(tactic| wtm_at "op.one2") => `(tactic| first
  | exact OpS.no
  | exact OpS.own rfl
  | exact OpS.sh rfl (by assumption)
  | exact OpS.sh rfl opn_refl)
local macro_rules | `(tactic| wtm_at "op.all2") => `(tactic| ((repeat' first | exact slAll_nil | refine slAll_cons ?_ ?_) <;> wtm_at "op.one2"))
section
variable {U : Wd} (T : Bl U.mg) (C : TabOk U) {f : Addr} {fd : FuncData} {x q : Str} {cS cM cT : Addr}
include T
theorem ok_both (F : Fun U.K x q s_both f fd) : FnOk U.P U.w U.K U.mg U.base (L2.CX U.P U.w) 1 f fd ["one", "other"] (spX U A_both) := by
  have hN := sc_both.nd
  refine fn_ok F sc_both (fun ds o h => ?_) fun ds o h => ?_
  · obtain ⟨a, b, rfl, _⟩ := h
    rfl
  · obtain ⟨a, b, rfl, rfl⟩ := h
    refine sd_at (ρ' := [.sh (.ints a), .sh (.ints b), .no]) rfl ?_
    wtm_at "s.ret"
    show (Sum.inl _ : Ot) = Sum.inl _
    simp only [Rs.d, any_int]
    rfl
include C in
theorem ok_boxes (hB : FnT U "both" 1 A_both) (hO : FnT U "ordered" 1 A_ordered) (hTh : MtT U "things_with" 2 (A_things cM)) (F : Fun U.K x q s_boxes f fd) : FnOk U.P U.w U.K U.mg U.base (L2.CX U.P U.w) 3 f fd ["table"] (spX U A_boxes) := by
  have hN := sc_boxes.nd
  refine fn_ok F sc_boxes (fun ds o h => ?_) fun ds o h => ?_
  · obtain ⟨m, rows, rfl, _⟩ := h
    rfl
  · obtain ⟨m, rows, rfl, ⟨hm0, hm8, hr⟩, rfl⟩ := h
    have hmz : m ≤ 16777216 := by omega
    have hmy : -16777216 ≤ m := by omega
    refine sd_at (ρ' := [.sh (.tab m rows), .no, .no, .no, .no, .no]) rfl ?_
    refine sd_cons (s_own (ds := [encN (rangeL m)]) (ed_lst (ad_cons' (r := .fr ((rangeL m).map D.int)) (ED.cast (r := ?zr) ?ze ?zq) (.nw _) ad_nil) ?zs) ?zq2 hN ?zi ?zj)
    case zi => wtm_at "m.dec"
    case zj => wtm_at "m.dec"
    case zs => wtm_at "m.side"
    case ze => wtm_at "m.ed"
    case zq => rw [range_int]
    case zq2 =>
    refine sd_at (ρ' := [.sh (.tab m rows), .own (((rows.take 0).foldl boxRow [rangeL m]).map encN), .no, .no, .no, .no]) rfl ?_
    refine' sd_cons (s_forL (xs := rows) (enc := encS) ?zi2 (fun i ρ => ∃ s t u, ρ = [.sh (.tab m rows), .own (((rows.take i).foldl boxRow [rangeL m]).map encN), s, t, u, .no]) ⟨.no, .no, .no, rfl⟩ ?zs2 ?zd2 hN ?zi3 ?zi4)
    case zi3 => wtm_at "m.dec"
    case zi4 => wtm_at "m.dec"
    case zi2 => wtm_at "m.if"
    case zs2 =>
      intro i row ρ' hrow hs
      obtain ⟨s, t, u, rfl⟩ := hs
      have tk : (rows.take (i + 1)).foldl boxRow [rangeL m] = boxRow ((rows.take i).foldl boxRow [rangeL m]) row := by
        rw [List.take_add_one, hrow, List.foldl_append]
        rfl
      have hS : SetsM m ((rows.take i).foldl boxRow [rangeL m]) := (SetsM.start m).rows
      rw [tk]
      generalize (rows.take i).foldl boxRow [rangeL m] = fo at *
      have hfl := hS.len hm0 hm8
      refine sd_at (ρ' := [.sh (.tab m rows), .own (fo.map encN), .sh (encS row), t, u, .no]) rfl ?_
      refine' sd_cons (s_forL (xs := fo) (enc := encN) ?zi5 (fun j ρ => ∃ t u, ρ = [.sh (.tab m rows), .own (((fo.take j).foldl (fun acc one => addP acc (bothL one row)) fo).map encN), .sh (encS row), t, u, .no]) ⟨t, u, rfl⟩ ?zs5 ?zd5 hN ?zi6 ?zi7)
      case zi6 => wtm_at "m.dec"
      case zi7 => wtm_at "m.dec"
      case zi5 => wtm_at "m.if"
      case zs5 =>
        intro j one ρ' hone hs
        obtain ⟨t, u, rfl⟩ := hs
        have tk2 : (fo.take (j + 1)).foldl (fun acc one => addP acc (bothL one row)) fo = addP ((fo.take j).foldl (fun acc one => addP acc (bothL one row)) fo) (bothL one row) := by
          rw [List.take_add_one, hone, List.foldl_append]
          rfl
        have hS2 : SetsM m ((fo.take j).foldl (fun acc one => addP acc (bothL one row)) fo) := SetsM.fold (fun x hx => hS.inm x (List.mem_of_mem_take hx)) hS
        rw [tk2]
        generalize (fo.take j).foldl (fun acc one => addP acc (bothL one row)) fo = acc at *
        have hal := hS2.len hm0 hm8
        refine sd_at (ρ' := [.sh (.tab m rows), .own (acc.map encN), .sh (encS row), .sh (encN one), u, .no]) rfl ?_
        refine sd_cons (s_set (d := encN (bothL one row)) (ED.toSh (r := .fr ((bothL one row).map D.int)) ?ze8 (.nw _) rfl) ?zq8 hN ?zi8 ?zj8)
        case zi8 => wtm_at "m.dec"
        case zj8 => wtm_at "m.dec"
        case ze8 => wtm_at "m.ed"
        case zq8 =>
        refine sd_at (ρ' := [.sh (.tab m rows), .own (acc.map encN), .sh (encS row), .sh (encN one), .sh (encN (bothL one row)), .no]) rfl ?_
        refine sd_cons (s_if (k := !decide (bothL one row ∈ acc)) (TD.cast (b := ?zb9) ?zt9 ?zq9) (fun hk => ?_) fun hk => ?_)
        case zt9 => wtm_at "m.td"
        case zq9 => exact congrArg (!·) ((Enc.nints.any (bothL one row) acc).trans (decide_eq_decide.mpr Iff.rfl))
        · have hz : (acc.map encN).length < sizeLine := by
            rw [List.length_map, sizeLine_eq]
            omega
          refine sd_cons (s_app (d := encN (bothL one row)) (ds := acc.map encN) ?ze10 rfl ?zv10 hz ?zq10)
          case ze10 =>
            refine' ED.toSh ?zh10 (.sh _) rfl
            case zh10 => wtm_at "m.ed"
          case zv10 => wtm_at "m.dec"
          case zq10 =>
            refine sd_nil (sd_nil ⟨.sh (encN one), .sh (encN (bothL one row)), ?_⟩)
            rw [Bool.not_eq_true', decide_eq_false_iff_not] at hk
            unfold addP
            rw [if_neg hk, List.map_append]
            rfl
        · refine sd_nil (sd_nil ⟨.sh (encN one), .sh (encN (bothL one row)), ?_⟩)
          rw [Bool.not_eq_false', decide_eq_true_eq] at hk
          unfold addP
          rw [if_pos hk]
      case zd5 =>
        intro ρ' hs
        obtain ⟨t, u, rfl⟩ := hs
        rw [List.take_length]
        exact sd_nil ⟨_, _, _, rfl⟩
    case zd2 =>
      intro ρ' hs
      obtain ⟨s, t, u, rfl⟩ := hs
      rw [List.take_length]
      refine sd_freeze 1 rfl ?_
      refine sd_at (ρ' := [.sh (.tab m rows), .sh (.lst ((boxF m rows).map encN)), s, t, u, .no]) rfl ?_
      refine sd_cons (s_ret (r := .fr ((boxL m rows).map encRn)) (ED.cast (r := .fr ((orderedL (boxF m rows)).map fun ms => encRn (thI rows ms, ms))) ?ze11 ?zq11) rfl)
      case zq11 =>
        unfold boxL
        rw [List.map_map]
        rfl
      case ze11 =>
        refine' LD.ed ?zl
        case zl =>
        refine' ld_lc0 (xs := orderedL (boxF m rows)) (enc := encN) (f := fun ms => encRn (thI rows ms, ms)) ?zn ?zi12 ?zj12 ?zo ?zl12 ?ze12
        case zn => exact hN
        case zj12 => wtm_at "m.dec"
        case zo => wtm_at "m.dec"
        case zl12 => wtm_at "m.dec"
        case zi12 =>
          refine' ic_list (x := .fr ((orderedL (boxF m rows)).map encN)) ?za12 rfl
          case za12 =>
            refine' ed_call (A := A_ordered) (ds := [.lst ((boxF m rows).map encN)]) hO ?zk12 rfl (ad_cons' (ed_var rfl rfl) (.sh _) ad_nil) ⟨encN, _, .n, rfl, rfl⟩
            case zk12 => dsimp only; decide
        case ze12 =>
          intro ms hms
          have hin : inR m ms = true := inR_iff.mpr ((box_sets m rows).inm ms ((List.mergeSort_perm _ _).mem_iff.mp hms)).inr
          refine' ED.toSh (r := .sh (.tup [encN (thI rows ms), encN ms])) (ed_tup (ad_cons' (r := .fr ((thI rows ms).map D.int)) ?zc (.nw _) (ad_cons' (ed_var rfl rfl) (.sh _) ad_nil)) ?zs12) (.sh _) rfl
          case zs12 => wtm_at "m.side"
          case zc =>
            refine' ed_meth (A := A_things cM) (d := .tab m rows) (i := m) (ds := [D.ints ms]) C hTh ?zk13 (ed_var rfl rfl) rfl (ad_cons' (ed_var rfl rfl) (.un _) ad_nil) ⟨_, _, _, rfl, hr, by rw [if_pos hin]⟩
            case zk13 => dsimp only [Gx.blk]; decide
end
end Mb
set_option Elab.async false
set_option linter.all false
set_option maxRecDepth 100000
set_option maxHeartbeats 4000000
namespace Mb
open PySem PySem.Spec PyProof.Rows L2
local macro_rules | `(tactic| wtm_at "m.dec") => `(tactic| (dsimp only [Gx.blk]; decide +kernel))
local macro_rules | `(tactic| wtm_at "m.hint") => `(tactic| fail)
local macro_rules | `(tactic| wtm_at "m.side") => `(tactic| first | with_reducible assumption | assumption | decide | omega | exact Or.inr (And.intro (by omega) (by omega)) | exact Or.inl (And.intro (by omega) (by omega)) | exact And.intro (by omega) (by omega) | (simp only [List.length_cons, List.length_nil, List.length_map, List.length_range, List.length_append, sizeLine_eq]; omega) | wtm_at "m.hint" | solve_by_elim)
local macro_rules | `(tactic| wtm_at "m.dn") => `(tactic| first
  | exact Dn.int _ _ | exact Dn.bl _ _ | exact Dn.non _
  | (refine dn_lst (n := _) ?_; wtm_at "m.dm") | (refine dn_nls (n := _) ?_; wtm_at "m.dm") | (refine dn_tup (n := _) ?_; wtm_at "m.dm"))
local macro_rules | `(tactic| wtm_at "m.dm") => `(tactic| first
  | exact dm_nil | (refine dm_map ?_; intro _; wtm_at "m.dn") | (refine dm_cons ?a ?b; (case a => wtm_at "m.dn"); (case b => wtm_at "m.dm")) | (refine dm_app ?a ?b; (case a => wtm_at "m.dm"); (case b => wtm_at "m.dm")))
local macro_rules | `(tactic| wtm_at "m.tosh") => `(tactic| first | exact ToSh.sh _ | exact ToSh.fr _)
local macro_rules | `(tactic| wtm_at "m.eds") => `(tactic| (refine' ED.toSh ?h ?t ?q; (case h => wtm_at "m.ed"); (case t => wtm_at "m.tosh"); (case q => exact rfl)))
local macro_rules | `(tactic| wtm_at "m.tosha") => `(tactic| first | exact ToSh.un _ | exact ToSh.sh _ | exact ToSh.fr _)
local macro_rules | `(tactic| wtm_at "m.ad") => `(tactic| first
  | exact ad_nil
  | (refine' ad_cons' ?h ?t ?r; (case h => wtm_at "m.ed"); (case t => wtm_at "m.tosha"); (case r => wtm_at "m.ad")))
local macro_rules | `(tactic| wtm_at "m.adk") => `(tactic| first
  | exact ad_nil
  | (refine' ad_cons' ?h ?t ?r; (case h => wtm_at "m.ed"); (case t => wtm_at "m.tosh"); (case r => wtm_at "m.adk")))
local macro_rules | `(tactic| wtm_at "m.ic") => `(tactic| first
  | (refine' ic_range (by assumption) ?a ?b ?c ?g; (case a => wtm_at "m.ed"); (case g => rfl); (case b => wtm_at "m.side"); (case c => wtm_at "m.side"))
  | (refine' ic_list ?h ?q; (case h => wtm_at "m.ed"); (case q => exact rfl)))
local macro_rules | `(tactic| wtm_at "m.if") => `(tactic| first
  | (refine' if_range (by assumption) ?a ?b ?c ?g; (case a => wtm_at "m.ed"); (case g => rfl); (case b => wtm_at "m.side"); (case c => wtm_at "m.side"))
  | (refine' if_range2 (by assumption) ?a ?a2 ?b ?g; (case a => wtm_at "m.ed"); (case a2 => wtm_at "m.ed"); (case g => rfl); (case b => wtm_at "m.side"))
  | (refine' if_list ?h; (case h => wtm_at "m.ed"))
  | (refine' if_nls ?h; (case h => wtm_at "m.ed"))
  | (refine' if_fr ?h; (case h => wtm_at "m.ed"))
  | (refine' if_tup ?h; (case h => wtm_at "m.ed")))
local macro_rules | `(tactic| wtm_at "m.ld") => `(tactic| first
  | (refine' ld_lc0 ?n ?i ?j ?o ?l ?e; (case n => assumption); (case i => wtm_at "m.ic"); (case j => wtm_at "m.dec"); (case o => wtm_at "m.dec"); (case l => wtm_at "m.dec"); (case e => intro _ hx; (try have hx := List.mem_range.mp hx); wtm_at "m.eds"))
  | (refine' ld_lc1 ?n ?i ?j ?o ?l ?t ?e; (case n => assumption); (case i => wtm_at "m.ic"); (case j => wtm_at "m.dec"); (case o => wtm_at "m.dec"); (case l => wtm_at "m.dec"); (case t => (intro _ hx; (try have hx := List.mem_range.mp hx); refine' TD.cast ?h ?q; (case h => wtm_at "m.td"); (case q => exact rfl))); (case e => intro _ hx _; (try have hx := List.mem_range.mp hx); wtm_at "m.eds"))
  | (refine' ld_lcp0 ?n ?i ?j ?j2 ?o ?l ?l2 ?e; (case n => assumption); (case i => wtm_at "m.ic"); (case j => wtm_at "m.dec"); (case j2 => wtm_at "m.dec"); (case o => wtm_at "m.dec"); (case l => wtm_at "m.dec"); (case l2 => wtm_at "m.dec"); (case e => intro _ _; wtm_at "m.eds"))
  | (refine' ld_lcp1 ?n ?i ?j ?j2 ?o ?l ?l2 ?t ?e; (case n => assumption); (case i => wtm_at "m.ic"); (case j => wtm_at "m.dec"); (case j2 => wtm_at "m.dec"); (case o => wtm_at "m.dec"); (case l => wtm_at "m.dec"); (case l2 => wtm_at "m.dec"); (case t => (intro _ hx; (try have hx := List.mem_range.mp hx); refine' TD.cast ?h ?q; (case h => wtm_at "m.td"); (case q => exact rfl))); (case e => intro _ hx _; (try have hx := List.mem_range.mp hx); wtm_at "m.eds")))
local macro_rules | `(tactic| wtm_at "m.addr") => `(tactic| first | exact AddR.int _ _ | (refine' AddR.cat ?x ?y ?z; (case x => exact rfl); (case y => exact rfl); (case z => wtm_at "m.side")))
local macro_rules | `(tactic| wtm_at "m.at") => `(tactic| first
  | exact rfl
  | assumption
  | (refine atI_get (d := (0 : Int)) ?a ?b; (case a => wtm_at "m.side"); (case b => wtm_at "m.side"))
  | (refine atI_ints (d := default) ?a ?b; (case a => wtm_at "m.side"); (case b => wtm_at "m.side"))
  | (refine atI_lit ?a ?b ?c; (case a => wtm_at "m.side"); (case b => wtm_at "m.side"); (case c => rfl))
  | solve_by_elim)
local macro_rules | `(tactic| wtm_at "m.ixd") => `(tactic| first
  | (refine' IxD.tup ?h; (case h => wtm_at "m.at"))
  | (refine' IxD.scr ?h; (case h => wtm_at "m.at"))
  | (refine' IxD.list ?x ?h; (case x => exact rfl); (case h => wtm_at "m.at")))
local macro_rules | `(tactic| wtm_at "m.cp") => `(tactic| first
  | (refine' cp_lt ?a ?b; (case a => wtm_at "m.ed"); (case b => wtm_at "m.ed"))
  | (refine' cp_le ?a ?b; (case a => wtm_at "m.ed"); (case b => wtm_at "m.ed"))
  | (refine' cp_gt ?a ?b; (case a => wtm_at "m.ed"); (case b => wtm_at "m.ed"))
  | (refine' cp_ge ?a ?b; (case a => wtm_at "m.ed"); (case b => wtm_at "m.ed"))
  | (refine' cp_eq ?a ?b ?c ?d; (case a => wtm_at "m.ed"); (case b => wtm_at "m.ed"); (case c => wtm_at "m.dn"); (case d => wtm_at "m.dn"))
  | (refine' cp_ne ?a ?b ?c ?d; (case a => wtm_at "m.ed"); (case b => wtm_at "m.ed"); (case c => wtm_at "m.dn"); (case d => wtm_at "m.dn"))
  | (refine' cp_in ?a ?b ?e ?c ?d ?m; (case a => wtm_at "m.ed"); (case b => wtm_at "m.ed"); (case e => exact rfl); (case c => wtm_at "m.dn"); (case d => wtm_at "m.dm"); (case m => rfl))
  | (refine' cp_nin ?a ?b ?e ?c ?d ?m; (case a => wtm_at "m.ed"); (case b => wtm_at "m.ed"); (case e => exact rfl); (case c => wtm_at "m.dn"); (case d => wtm_at "m.dm"); (case m => rfl))
  | (refine' cp_isN ?a; (case a => wtm_at "m.ed"))
  | (refine' cp_notN ?a; (case a => wtm_at "m.ed"))
  | (refine' ch_le_lt ?a ?b ?c; (case a => wtm_at "m.ed"); (case b => wtm_at "m.ed"); (case c => wtm_at "m.ed"))
  | (refine' ch_le_le ?a ?b ?c; (case a => wtm_at "m.ed"); (case b => wtm_at "m.ed"); (case c => wtm_at "m.ed")))
local macro_rules | `(tactic| wtm_at "m.tw") => `(tactic| first
  | (refine' tw_and ?a ?b; (case a => wtm_at "m.td"); (case b => intro _; wtm_at "m.tw"))
  | (refine' tw_or ?a ?b; (case a => wtm_at "m.td"); (case b => intro _; wtm_at "m.tw"))
  | (refine' tw_and1 ?a; (case a => wtm_at "m.td"))
  | (refine' tw_or1 ?a; (case a => wtm_at "m.td")))
local macro_rules | `(tactic| wtm_at "m.td") => `(tactic| first
  | (refine' And.right (a := ?p) ?h; (case h => wtm_at "m.cp"))
  | (refine' td_not ?h; (case h => wtm_at "m.td"))
  | (refine' td_bool ?h; (case h => wtm_at "m.tw"))
  | (refine' td_val ?h; (case h => wtm_at "m.ed")))
local macro_rules | `(tactic| wtm_at "m.bo") => `(tactic| first
  | (refine' ed_and ?a ?b; (case a => wtm_at "m.ed"); (case b => intro _; wtm_at "m.bo"))
  | (refine' ed_or ?a ?b; (case a => wtm_at "m.ed"); (case b => intro _; wtm_at "m.bo"))
  | (refine' ed_one ?a; (case a => wtm_at "m.ed")))
local macro_rules | `(tactic| wtm_at "m.pre") => `(tactic| first
  | exact ⟨_, rfl, rfl⟩ | exact ⟨_, _, rfl, rfl⟩ | exact ⟨_, _, _, rfl, rfl⟩ | exact ⟨_, _, _, _, rfl, rfl⟩ | exact ⟨_, _, _, _, _, rfl, rfl⟩
  | (refine ⟨_, rfl, ?_, rfl⟩; wtm_at "m.side") | (refine ⟨_, _, rfl, ?_, rfl⟩; wtm_at "m.side") | (refine ⟨_, _, _, rfl, ?_, rfl⟩; wtm_at "m.side") | (refine ⟨_, _, _, _, rfl, ?_, rfl⟩; wtm_at "m.side") | (refine ⟨_, _, _, _, _, rfl, ?_, rfl⟩; wtm_at "m.side"))
local macro_rules | `(tactic| wtm_at "m.call") => `(tactic| first
  | wtm_at "m.direct"
  | (refine' ed_thaw ?h ?d; (case h => wtm_at "m.direct"); (case d => rfl)))
local macro_rules | `(tactic| wtm_at "m.od") => `(tactic| first | exact od_none | (refine' od_some ?h; (case h => wtm_at "m.ed")))
local macro_rules | `(tactic| wtm_at "m.direct") => `(tactic| first
  | (refine' ed_call ?T ?k ?g ?a ?A; (case T => assumption); (case k => (dsimp only [Gx.blk]; decide)); (case g => rfl); (case a => wtm_at "m.ad"); (case A => wtm_at "m.pre"))
  | (refine' ed_many (by assumption) ?a ?b; (case a => wtm_at "m.ed"); (case b => exact rfl))
  | (refine' ed_rows (by assumption) ?a; (case a => wtm_at "m.ed"))
  | (refine' ed_meth (by assumption) ?T ?k ?o ?d ?a ?A; (case T => assumption); (case k => (dsimp only [Gx.blk]; decide)); (case o => wtm_at "m.ed"); (case d => exact rfl); (case a => wtm_at "m.ad"); (case A => wtm_at "m.pre")))
local macro_rules | `(tactic| wtm_at "m.ed") => `(tactic| first
  | (refine' ed_varA ?h ?v; (case h => exact rfl); (case v => rfl))
  | (refine' ed_var ?h ?v; (case h => exact rfl); (case v => rfl))
  | exact ed_int
  | (refine' ed_ixR ?a ?b ?c; (case a => wtm_at "m.ed"); (case b => wtm_at "m.ed"); (case c => wtm_at "m.ixd"))
  | (refine' And.left (b := ?p) ?h; (case h => wtm_at "m.cp"))
  | (refine' ed_addR ?a ?b ?c; (case a => wtm_at "m.ed"); (case b => wtm_at "m.ed"); (case c => wtm_at "m.addr"))
  | (refine' ed_sub ?a ?b; (case a => wtm_at "m.ed"); (case b => wtm_at "m.ed"))
  | (refine' ed_mul ?a ?b ?c; (case a => wtm_at "m.ed"); (case b => wtm_at "m.ed"); (case c => wtm_at "m.side"))
  | (refine' ed_fdiv ?a ?b ?c; (case a => wtm_at "m.ed"); (case b => wtm_at "m.ed"); (case c => wtm_at "m.side"))
  | (refine' ed_mod ?a ?b ?c; (case a => wtm_at "m.ed"); (case b => wtm_at "m.ed"); (case c => wtm_at "m.side"))
  | (refine' ed_pow ?a ?b ?c; (case a => wtm_at "m.ed"); (case b => wtm_at "m.ed"); (case c => wtm_at "m.side"))
  | (refine' ed_neg ?a; (case a => wtm_at "m.ed"))
  | (refine' LD.ed ?a; (case a => wtm_at "m.ld"))
  | (refine' ed_len (by assumption) ?a ?b ?g; (case a => wtm_at "m.ed"); (case b => exact rfl); (case g => rfl))
  | (refine' ed_listRange (by assumption) ?a ?b ?c ?g ?g2; (case a => wtm_at "m.ed"); (case b => wtm_at "m.side"); (case c => wtm_at "m.side"); (case g => rfl); (case g2 => rfl))
  | (refine' ed_list (by assumption) ?a ?b ?g; (case a => wtm_at "m.ed"); (case b => exact rfl); (case g => rfl))
  | (refine' ed_all (by assumption) ?a ?b ?g; (case a => wtm_at "m.ed"); (case b => exact rfl); (case g => rfl))
  | (refine' ed_any (by assumption) ?a ?b ?g; (case a => wtm_at "m.ed"); (case b => exact rfl); (case g => rfl))
  | (refine' ed_sum (by assumption) ?a ?b ?g; (case a => wtm_at "m.ed"); (case b => exact rfl); (case g => rfl))
  | (refine' ed_sorted (by assumption) ?a ?b ?g; (case a => wtm_at "m.ed"); (case b => exact rfl); (case g => rfl))
  | (refine' ed_intB (by assumption) ?a ?g; (case a => wtm_at "m.ed"); (case g => rfl))
  | (refine' ed_max (by assumption) ?a ?b ?g; (case a => wtm_at "m.ed"); (case b => wtm_at "m.ed"); (case g => rfl))
  | (refine' ed_min (by assumption) ?a ?b ?g; (case a => wtm_at "m.ed"); (case b => wtm_at "m.ed"); (case g => rfl))
  | (refine' ed_isi (k := true) (by assumption) ?a ?b ?t ?k ?g; (case a => wtm_at "m.ed"); (case b => wtm_at "m.ed"); (case t => exact rfl); (case k => decide +kernel); (case g => rfl))
  | (refine' ed_isi (k := false) (by assumption) ?a ?b ?t ?k ?g; (case a => wtm_at "m.ed"); (case b => wtm_at "m.ed"); (case t => exact rfl); (case k => decide +kernel); (case g => rfl))
  | (refine' ed_tup ?a ?b; (case a => wtm_at "m.adk"); (case b => wtm_at "m.side"))
  | (refine' ed_lst ?a ?b; (case a => wtm_at "m.adk"); (case b => wtm_at "m.side"))
  | (refine' ed_sl ?a ?x ?l ?u; (case a => wtm_at "m.ed"); (case x => exact rfl); (case l => wtm_at "m.od"); (case u => wtm_at "m.od"))
  | (refine' ed_not ?a; (case a => wtm_at "m.ed"))
  | wtm_at "m.bo"
  | wtm_at "m.call"
  | (refine' ed_own ?h ?v; (case h => exact rfl); (case v => rfl))
  | exact ed_bl
  | exact ed_non
  | (refine' ed_globI ?h ?m; (case h => rfl); (case m => assumption))
  | (refine' ed_tyInt (by assumption) ?g; (case g => rfl))
  | (refine' ed_tyList (by assumption) ?g; (case g => rfl))
  | (refine' ed_tyTuple (by assumption) ?g; (case g => rfl))
  | (refine' ed_tyBool (by assumption) ?g; (case g => rfl)))
local macro_rules | `(tactic| wtm_at "s.set") => `(tactic| (refine' sd_cons (s_set ?e ?q ?n ?i ?o); (case n => assumption); (case i => wtm_at "m.dec"); (case o => wtm_at "m.dec"); (case e => wtm_at "m.eds")))
local macro_rules | `(tactic| wtm_at "s.own") => `(tactic| (refine' sd_cons (s_own ?e ?q ?n ?i ?o); (case n => assumption); (case i => wtm_at "m.dec"); (case o => wtm_at "m.dec"); (case e => wtm_at "m.ed")))
local macro_rules | `(tactic| wtm_at "s.lc") => `(tactic| (refine' sd_cons (s_lc ?e ?q ?i ?k ?y ?l ?a); (case i => wtm_at "m.dec"); (case k => rfl); (case y => rfl); (case l => rfl); (case a => decide +kernel); (case e => wtm_at "m.ld")))
local macro_rules | `(tactic| wtm_at "s.lco") => `(tactic| (refine' sd_cons (s_lcO ?e ?q ?i ?k ?y ?l ?a); (case i => wtm_at "m.dec"); (case k => rfl); (case y => rfl); (case l => rfl); (case a => decide +kernel); (case e => wtm_at "m.ld")))
local macro_rules | `(tactic| wtm_at "s.lcc") => `(tactic| (refine' sd_cons (s_set ?e ?q ?n ?i ?o (swapF ?s)); (case n => assumption); (case i => wtm_at "m.dec"); (case o => wtm_at "m.dec"); (case s => rfl); (case e => (refine' ED.shr (LD.ed ?f); (case f => wtm_at "m.ld")))))
local macro_rules | `(tactic| wtm_at "s.ret") => `(tactic| (refine' sd_cons (s_ret ?e ?q); (case e => wtm_at "m.ed")))
local macro_rules | `(tactic| wtm_at "s.if") => `(tactic| (refine' sd_cons (s_if ?zzt ?zzy ?zzm); (case zzt => wtm_at "m.td")))
local macro_rules | `(tactic| wtm_at "s.ift") => `(tactic| (refine' sd_cons (s_if (td_thaw ?zzt) ?zzy ?zzm); (case zzt => wtm_at "m.td")))
local macro_rules | `(tactic| wtm_at "s.app") => `(tactic| (refine' sd_cons (s_app ?e ?h ?v ?z ?q); (case h => exact rfl); (case v => rfl); (case e => wtm_at "m.eds"); (case z => wtm_at "m.side")))
local macro_rules | `(tactic| wtm_at "s.ifset") => `(tactic| (refine' sd_cons (s_ifset ?c ?e ?h1 ?h2 ?h0 ?q ?n ?i ?o); (case n => assumption); (case i => wtm_at "m.dec"); (case o => wtm_at "m.dec"); (case h0 => exact rfl); (case c => wtm_at "m.td"); (case e => intro _; wtm_at "m.eds")))
local macro_rules | `(tactic| wtm_at "s.raise") => `(tactic| (refine' sd_cons (s_raise ?T ?g ?r); (case T => assumption); (case g => rfl)))
local macro_rules | `(tactic| wtm_at "m.make") => `(tactic| (refine' ed_make ?T ?k ?g ?a ?b ?A; (case T => assumption); (case k => (dsimp only [Gx.blk]; decide)); (case g => rfl); (case a => wtm_at "m.ed"); (case b => wtm_at "m.eds"); (case A => assumption)))
local macro_rules | `(tactic| wtm_at "sl.flat") => `(tactic| first | exact flat_sets | exact flat_tab | exact flat_scr | exact flat_int | exact flat_pair flat_int flat_sets)
local macro_rules | `(tactic| wtm_at "sl.one") => `(tactic| first
  | exact Or.inl rfl
  | exact SpM.no
  | exact SpR.no
  | exact SpM.told rfl
  | exact SpR.told rfl
  | (refine SpM.keep (by decide) rfl ?_ rfl; wtm_at "sl.flat")
  | exact SpM.conv (by decide) rfl conv_int.1
  | exact SpR.keep (by decide) (by decide) rfl rfl rfl
  | exact SpR.conv (by decide) rfl conv_int.2
  | exact SpR.conv (by decide) rfl back_rules
  | exact SpR.conv (by decide) rfl back_sets
  | (refine Or.inr ⟨_, rfl, rfl, ?_⟩; wtm_at "sl.flat"))
local macro_rules | `(tactic| wtm_at "sl.all") => `(tactic| ((repeat' first | exact slAll_nil | refine slAll_cons ?_ ?_) <;> wtm_at "sl.one"))
local macro_rules | `(tactic| wtm_at "op.mem") => `(tactic| first | exact .head _ | exact .tail _ (.head _) | exact .tail _ (.tail _ (.head _)) | exact .tail _ (.tail _ (.tail _ (.head _))) | exact .tail _ (.tail _ (.tail _ (.tail _ (.head _)))) | exact .tail _ (.tail _ (.tail _ (.tail _ (.tail _ (.head _))))) | exact .tail _ (.tail _ (.tail _ (.tail _ (.tail _ (.tail _ (.head _)))))))
local macro_rules | `(tactic| wtm_at "op.d") => `(tactic| first
  | exact opn_refl
  | (refine opn_ints ?_; wtm_at "op.mem")
  | (refine opn_tup ?_; wtm_at "op.l")
  | (refine opn_lst ?_; wtm_at "op.l")
  | (refine opn_cell ?zopm ?zopl; (case zopm => wtm_at "op.mem"); (case zopl => first | exact opnL_refl | wtm_at "op.l")))
local macro_rules | `(tactic| wtm_at "op.l") => `(tactic| first
  | exact opnL_nil
  | (refine opnL_cons ?zopa ?zopb; (case zopa => wtm_at "op.d"); (case zopb => wtm_at "op.l")))
local macro_rules | `(tactic| wtm_at "op.one") => `(tactic| first
  | exact OpS.no
  | exact OpS.own rfl
  | (refine OpS.sh rfl ?_; wtm_at "op.d"))
local macro_rules | `(tactic| wtm_at "op.all") => `(tactic| ((repeat' first | exact slAll_nil | refine slAll_cons ?_ ?_) <;> wtm_at "op.one"))
local macro_rules | `(tactic| wtm_at "op.one2") => `(tactic| first
  | exact OpS.no
  | exact OpS.own rfl
  | exact OpS.sh rfl (by assumption)
  | exact OpS.sh rfl opn_refl)
local macro_rules | `(tactic| wtm_at "op.all2") => `(tactic| ((repeat' first | exact slAll_nil | refine slAll_cons ?_ ?_) <;> wtm_at "op.one2"))
section
variable {U : Wd} (T : Bl U.mg) (C : TabOk U) {f : Addr} {fd : FuncData} {x q : Str} {cS cM cT : Addr}
include T
theorem ok_lies (hW : FnT U "within" 1 A_within) (F : Fun U.K x q s_lies_under f fd) : FnOk U.P U.w U.K U.mg U.base (L2.CX U.P U.w) 2 f fd ["one", "other"] (spX U A_lies) := by
  have hN := sc_lies_under.nd
  refine fn_ok F sc_lies_under (fun ds o h => ?_) fun ds o h => ?_
  · obtain ⟨a, b, rfl, _⟩ := h
    rfl
  · obtain ⟨a, b, rfl, rfl⟩ := h
    refine sd_at (ρ' := [.sh (encRn a), .sh (encRn b)]) rfl ?_
    refine sd_cons (s_ret (r := .sh (.bl (liesB a b))) (ED.cast (r := ?zr) ?ze ?zq) rfl)
    case ze => wtm_at "m.ed"
    case zq =>
      unfold liesB
      simp only [List.length_map, Int.ofNat_lt]
theorem ok_rover (hL : FnT U "lies_under" 2 A_lies) (F : Fun U.K x q s_right_over f fd) : FnOk U.P U.w U.K U.mg U.base (L2.CX U.P U.w) 3 f fd ["found", "k"] (spX U A_rover) := by
  have hN := sc_right_over.nd
  refine fn_ok F sc_right_over (fun ds o h => ?_) fun ds o h => ?_
  · obtain ⟨bs, k, rfl, _⟩ := h
    rfl
  · obtain ⟨bs, k, rfl, ⟨hb, hk⟩, ho⟩ := h
    have hz1 : (((bs.map encRn).length : Nat) : Int) ≤ 16777216 := by rw [List.length_map]; omega
    have hat : ∀ i : Nat, i < bs.length → atI (bs.map encRn) (i : Int) = some (encRn (bs.getD i ([], []))) := fun i hi => atI_ints (d := ([], [])) (by omega) (by omega)
    have hat0 := hat k hk
    have hat1 : ∀ i : Nat, i < ((((bs.map encRn).length : Nat) : Int)).toNat → atI (bs.map encRn) (i : Int) = some (encRn (bs.getD i ([], []))) := fun i hi => by
      rw [List.length_map] at hi
      exact hat i (by omega)
    have hat2 : ∀ i : Nat, i ∈ higherL bs k → atI (bs.map encRn) (i : Int) = some (encRn (bs.getD i ([], []))) := fun i hi => hat i (rover_in hi)
    refine sd_at (ρ' := [.sh (.lst (bs.map encRn)), .sh (.int (k : Int)), .no, .no, .no]) rfl ?_
    refine sd_cons (s_set (d := .lst ((higherL bs k).map encK)) (ED.toSh (r := .fr ((higherL bs k).map encK)) (ED.cast (r := ?zr) ?ze ?zq) (.fr _) rfl) ?zq2 hN ?zi ?zj (swapF ?zk))
    case zk => rfl
    case zi => wtm_at "m.dec"
    case zj => wtm_at "m.dec"
    case ze => wtm_at "m.ed"
    case zq =>
      unfold higherL
      rw [List.length_map, Int.toNat_natCast]
    case zq2 =>
    refine sd_at (ρ' := [.sh (.lst (bs.map encRn)), .sh (.int (k : Int)), .sh (.lst ((higherL bs k).map encK)), .no, .no]) rfl ?_
    refine sd_cons (s_ret (r := .fr ((roverL bs k).map encK)) (ED.cast (r := ?zr3) ?ze3 ?zq3) ho)
    case ze3 => wtm_at "m.ed"
    case zq3 =>
      unfold roverL
      simp only [List.any_map]
include C in
theorem ok_steps (hB : FnT U "boxes" 3 A_boxes) (hR : FnT U "right_over" 3 A_rover) (F : Fun U.K x q s_steps f fd) : FnOk U.P U.w U.K U.mg U.base (L2.CX U.P U.w) 4 f fd ["table"] (spX U A_steps) := by
  have hN := sc_steps.nd
  refine fn_ok F sc_steps (fun ds o h => ?_) fun ds o h => ?_
  · obtain ⟨m, rows, rfl, _⟩ := h
    rfl
  · obtain ⟨m, rows, rfl, hc, rfl⟩ := h
    have hbl := box_len (rows := rows) hc.1 hc.2.1
    refine sd_at (ρ' := [.sh (.tab m rows), .no, .no, .no, .no]) rfl ?_
    wtm_at "s.set"
    obtain ⟨bs, hbs⟩ : ∃ bs, bs = boxL m rows := ⟨_, rfl⟩
    rw [← hbs] at hbl
    refine sd_at (ρ' := [.sh (.tab m rows), .sh (.lst (bs.map encRn)), .no, .no, .no]) (by rw [hbs]; rfl) ?_
    wtm_at "s.own"
    refine sd_at (ρ' := [.sh (.tab m rows), .sh (.lst (bs.map encRn)), .own ((((List.range 0).flatMap fun k => (roverL bs k).map fun l => (k, l))).map encKK), .no, .no]) rfl ?_
    have hz1 : (((bs.map encRn).length : Nat) : Int) < 2 ^ 62 := by rw [List.length_map]; omega
    have hz2 : -(2 ^ 62) ≤ (((bs.map encRn).length : Nat) : Int) := by omega
    have bound : ∀ i : Nat, i ≤ bs.length → ((List.range i).flatMap fun k => (roverL bs k).map fun l => (k, l)).length ≤ i * 256 := by
      intro i
      induction i with
      | zero => intro _; exact Nat.le_refl _
      | succ i ih =>
        intro hi
        rw [List.range_succ, List.flatMap_append, List.length_append, List.flatMap_cons, List.flatMap_nil, List.append_nil, List.length_map]
        have := ih (by omega)
        have := rover_len bs i
        omega
    refine' sd_cons (s_forR (m := bs.length) ?zi (fun i ρ => ∃ s t, ρ = [.sh (.tab m rows), .sh (.lst (bs.map encRn)), .own ((((List.range i).flatMap fun k => (roverL bs k).map fun l => (k, l))).map encKK), s, t]) ⟨.no, .no, rfl⟩ ?zs ?zd hN ?zi3 ?zi4)
    case zi3 => wtm_at "m.dec"
    case zi4 => wtm_at "m.dec"
    case zi =>
      refine' if_cast (if_range (i := (((bs.map encRn).length : Nat) : Int)) T ?zia hz1 hz2 ?zig) (by rw [List.length_map, Int.toNat_natCast])
      case zig => rfl
      case zia => wtm_at "m.ed"
    case zs =>
      intro i ρ' hi hs
      obtain ⟨s, t, rfl⟩ := hs
      have hbi := bound i (by omega)
      have hro := rover_len bs i
      rw [List.range_succ, List.flatMap_append, List.flatMap_cons, List.flatMap_nil, List.append_nil]
      generalize ((List.range i).flatMap fun k => (roverL bs k).map fun l => (k, l)) = acc at *
      refine sd_at (ρ' := [.sh (.tab m rows), .sh (.lst (bs.map encRn)), .own (acc.map encKK), .sh (.int (i : Int)), t]) rfl ?_
      refine' sd_cons (s_forL (xs := roverL bs i) (enc := encK) ?zi5 (fun j ρ => ∃ t, ρ = [.sh (.tab m rows), .sh (.lst (bs.map encRn)), .own ((acc ++ ((roverL bs i).take j).map fun l => (i, l)).map encKK), .sh (.int (i : Int)), t]) ⟨t, ?zz⟩ ?zs5 ?zd5 hN ?zi6 ?zi7)
      case zi6 => wtm_at "m.dec"
      case zi7 => wtm_at "m.dec"
      case zz => rw [List.take_zero, List.map_nil, List.append_nil]
      case zi5 =>
        refine' if_fr ?zf
        case zf =>
          refine' ed_call (A := A_rover) (ds := [.lst (bs.map encRn), .int (i : Int)]) hR ?zk5 rfl ?za5 ⟨bs, i, rfl, ⟨hbl, hi⟩, rfl⟩
          case zk5 => dsimp only; decide
          case za5 => wtm_at "m.ad"
      case zs5 =>
        intro j l ρ' hl hs
        obtain ⟨t, rfl⟩ := hs
        have hj : j < (roverL bs i).length := (List.getElem?_eq_some_iff.mp hl).1
        refine sd_at (ρ' := [.sh (.tab m rows), .sh (.lst (bs.map encRn)), .own ((acc ++ ((roverL bs i).take j).map fun l => (i, l)).map encKK), .sh (.int (i : Int)), .sh (encK l)]) rfl ?_
        have hz : ((acc ++ ((roverL bs i).take j).map fun l => (i, l)).map encKK).length < sizeLine := by
          rw [List.length_map, List.length_append, List.length_map, List.length_take, sizeLine_eq]
          omega
        refine sd_cons (s_app (d := encKK (i, l)) ?ze6 rfl ?zv6 hz ?zq6)
        case ze6 =>
          refine' ED.toSh ?zh6 (.sh _) rfl
          case zh6 => wtm_at "m.ed"
        case zv6 => wtm_at "m.dec"
        case zq6 =>
          refine sd_nil ⟨.sh (encK l), ?_⟩
          have e : acc ++ ((roverL bs i).take (j + 1)).map (fun l => (i, l)) = (acc ++ ((roverL bs i).take j).map fun l => (i, l)) ++ [(i, l)] := by
            rw [List.take_add_one, hl, List.map_append, List.append_assoc]
            rfl
          rw [e]
          generalize acc ++ ((roverL bs i).take j).map (fun l => (i, l)) = ac2
          rw [List.map_append]
          rfl
      case zd5 =>
        intro ρ' hs
        obtain ⟨t, rfl⟩ := hs
        rw [List.take_length]
        exact sd_nil ⟨_, _, rfl⟩
    case zd =>
      intro ρ' hs
      obtain ⟨s, t, rfl⟩ := hs
      refine sd_cons (s_retO (ds := (stepsL bs).map encKK) rfl ?zv7 ?zq7)
      case zv7 => wtm_at "m.dec"
      case zq7 => rw [hbs]; rfl
end
end Mb
set_option Elab.async false
set_option linter.all false
set_option maxRecDepth 100000
set_option maxHeartbeats 4000000
namespace Mb
open PySem PySem.Spec PyProof.Rows L2
local macro_rules | `(tactic| wtm_at "m.dec") => `(tactic| (dsimp only [Gx.blk]; decide +kernel))
local macro_rules | `(tactic| wtm_at "m.hint") => `(tactic| fail)
local macro_rules | `(tactic| wtm_at "m.side") => `(tactic| first | with_reducible assumption | assumption | decide | omega | exact Or.inr (And.intro (by omega) (by omega)) | exact Or.inl (And.intro (by omega) (by omega)) | exact And.intro (by omega) (by omega) | (simp only [List.length_cons, List.length_nil, List.length_map, List.length_range, List.length_append, sizeLine_eq]; omega) | wtm_at "m.hint" | solve_by_elim)
local macro_rules | `(tactic| wtm_at "m.dn") => `(tactic| first
  | exact Dn.int _ _ | exact Dn.bl _ _ | exact Dn.non _
  | (refine dn_lst (n := _) ?_; wtm_at "m.dm") | (refine dn_nls (n := _) ?_; wtm_at "m.dm") | (refine dn_tup (n := _) ?_; wtm_at "m.dm"))
local macro_rules | `(tactic| wtm_at "m.dm") => `(tactic| first
  | exact dm_nil | (refine dm_map ?_; intro _; wtm_at "m.dn") | (refine dm_cons ?a ?b; (case a => wtm_at "m.dn"); (case b => wtm_at "m.dm")) | (refine dm_app ?a ?b; (case a => wtm_at "m.dm"); (case b => wtm_at "m.dm")))
local macro_rules | `(tactic| wtm_at "m.tosh") => `(tactic| first | exact ToSh.sh _ | exact ToSh.fr _)
local macro_rules | `(tactic| wtm_at "m.eds") => `(tactic| (refine' ED.toSh ?h ?t ?q; (case h => wtm_at "m.ed"); (case t => wtm_at "m.tosh"); (case q => exact rfl)))
local macro_rules | `(tactic| wtm_at "m.tosha") => `(tactic| first | exact ToSh.un _ | exact ToSh.sh _ | exact ToSh.fr _)
local macro_rules | `(tactic| wtm_at "m.ad") => `(tactic| first
  | exact ad_nil
  | (refine' ad_cons' ?h ?t ?r; (case h => wtm_at "m.ed"); (case t => wtm_at "m.tosha"); (case r => wtm_at "m.ad")))
local macro_rules | `(tactic| wtm_at "m.adk") => `(tactic| first
  | exact ad_nil
  | (refine' ad_cons' ?h ?t ?r; (case h => wtm_at "m.ed"); (case t => wtm_at "m.tosh"); (case r => wtm_at "m.adk")))
local macro_rules | `(tactic| wtm_at "m.ic") => `(tactic| first
  | (refine' ic_range (by assumption) ?a ?b ?c ?g; (case a => wtm_at "m.ed"); (case g => rfl); (case b => wtm_at "m.side"); (case c => wtm_at "m.side"))
  | (refine' ic_list ?h ?q; (case h => wtm_at "m.ed"); (case q => exact rfl)))
local macro_rules | `(tactic| wtm_at "m.if") => `(tactic| first
  | (refine' if_range (by assumption) ?a ?b ?c ?g; (case a => wtm_at "m.ed"); (case g => rfl); (case b => wtm_at "m.side"); (case c => wtm_at "m.side"))
  | (refine' if_range2 (by assumption) ?a ?a2 ?b ?g; (case a => wtm_at "m.ed"); (case a2 => wtm_at "m.ed"); (case g => rfl); (case b => wtm_at "m.side"))
  | (refine' if_list ?h; (case h => wtm_at "m.ed"))
  | (refine' if_nls ?h; (case h => wtm_at "m.ed"))
  | (refine' if_fr ?h; (case h => wtm_at "m.ed"))
  | (refine' if_tup ?h; (case h => wtm_at "m.ed")))
local macro_rules | `(tactic| wtm_at "m.ld") => `(tactic| first
  | (refine' ld_lc0 ?n ?i ?j ?o ?l ?e; (case n => assumption); (case i => wtm_at "m.ic"); (case j => wtm_at "m.dec"); (case o => wtm_at "m.dec"); (case l => wtm_at "m.dec"); (case e => intro _ hx; (try have hx := List.mem_range.mp hx); wtm_at "m.eds"))
  | (refine' ld_lc1 ?n ?i ?j ?o ?l ?t ?e; (case n => assumption); (case i => wtm_at "m.ic"); (case j => wtm_at "m.dec"); (case o => wtm_at "m.dec"); (case l => wtm_at "m.dec"); (case t => (intro _ hx; (try have hx := List.mem_range.mp hx); refine' TD.cast ?h ?q; (case h => wtm_at "m.td"); (case q => exact rfl))); (case e => intro _ hx _; (try have hx := List.mem_range.mp hx); wtm_at "m.eds"))
  | (refine' ld_lcp0 ?n ?i ?j ?j2 ?o ?l ?l2 ?e; (case n => assumption); (case i => wtm_at "m.ic"); (case j => wtm_at "m.dec"); (case j2 => wtm_at "m.dec"); (case o => wtm_at "m.dec"); (case l => wtm_at "m.dec"); (case l2 => wtm_at "m.dec"); (case e => intro _ _; wtm_at "m.eds"))
  | (refine' ld_lcp1 ?n ?i ?j ?j2 ?o ?l ?l2 ?t ?e; (case n => assumption); (case i => wtm_at "m.ic"); (case j => wtm_at "m.dec"); (case j2 => wtm_at "m.dec"); (case o => wtm_at "m.dec"); (case l => wtm_at "m.dec"); (case l2 => wtm_at "m.dec"); (case t => (intro _ hx; (try have hx := List.mem_range.mp hx); refine' TD.cast ?h ?q; (case h => wtm_at "m.td"); (case q => exact rfl))); (case e => intro _ hx _; (try have hx := List.mem_range.mp hx); wtm_at "m.eds")))
local macro_rules | `(tactic| wtm_at "m.addr") => `(tactic| first | exact AddR.int _ _ | (refine' AddR.cat ?x ?y ?z; (case x => exact rfl); (case y => exact rfl); (case z => wtm_at "m.side")))
local macro_rules | `(tactic| wtm_at "m.at") => `(tactic| first
  | exact rfl
  | assumption
  | (refine atI_get (d := (0 : Int)) ?a ?b; (case a => wtm_at "m.side"); (case b => wtm_at "m.side"))
  | (refine atI_ints (d := default) ?a ?b; (case a => wtm_at "m.side"); (case b => wtm_at "m.side"))
  | (refine atI_lit ?a ?b ?c; (case a => wtm_at "m.side"); (case b => wtm_at "m.side"); (case c => rfl))
  | solve_by_elim)
local macro_rules | `(tactic| wtm_at "m.ixd") => `(tactic| first
  | (refine' IxD.tup ?h; (case h => wtm_at "m.at"))
  | (refine' IxD.scr ?h; (case h => wtm_at "m.at"))
  | (refine' IxD.list ?x ?h; (case x => exact rfl); (case h => wtm_at "m.at")))
local macro_rules | `(tactic| wtm_at "m.cp") => `(tactic| first
  | (refine' cp_lt ?a ?b; (case a => wtm_at "m.ed"); (case b => wtm_at "m.ed"))
  | (refine' cp_le ?a ?b; (case a => wtm_at "m.ed"); (case b => wtm_at "m.ed"))
  | (refine' cp_gt ?a ?b; (case a => wtm_at "m.ed"); (case b => wtm_at "m.ed"))
  | (refine' cp_ge ?a ?b; (case a => wtm_at "m.ed"); (case b => wtm_at "m.ed"))
  | (refine' cp_eq ?a ?b ?c ?d; (case a => wtm_at "m.ed"); (case b => wtm_at "m.ed"); (case c => wtm_at "m.dn"); (case d => wtm_at "m.dn"))
  | (refine' cp_ne ?a ?b ?c ?d; (case a => wtm_at "m.ed"); (case b => wtm_at "m.ed"); (case c => wtm_at "m.dn"); (case d => wtm_at "m.dn"))
  | (refine' cp_in ?a ?b ?e ?c ?d ?m; (case a => wtm_at "m.ed"); (case b => wtm_at "m.ed"); (case e => exact rfl); (case c => wtm_at "m.dn"); (case d => wtm_at "m.dm"); (case m => rfl))
  | (refine' cp_nin ?a ?b ?e ?c ?d ?m; (case a => wtm_at "m.ed"); (case b => wtm_at "m.ed"); (case e => exact rfl); (case c => wtm_at "m.dn"); (case d => wtm_at "m.dm"); (case m => rfl))
  | (refine' cp_isN ?a; (case a => wtm_at "m.ed"))
  | (refine' cp_notN ?a; (case a => wtm_at "m.ed"))
  | (refine' ch_le_lt ?a ?b ?c; (case a => wtm_at "m.ed"); (case b => wtm_at "m.ed"); (case c => wtm_at "m.ed"))
  | (refine' ch_le_le ?a ?b ?c; (case a => wtm_at "m.ed"); (case b => wtm_at "m.ed"); (case c => wtm_at "m.ed")))
local macro_rules | `(tactic| wtm_at "m.tw") => `(tactic| first
  | (refine' tw_and ?a ?b; (case a => wtm_at "m.td"); (case b => intro _; wtm_at "m.tw"))
  | (refine' tw_or ?a ?b; (case a => wtm_at "m.td"); (case b => intro _; wtm_at "m.tw"))
  | (refine' tw_and1 ?a; (case a => wtm_at "m.td"))
  | (refine' tw_or1 ?a; (case a => wtm_at "m.td")))
local macro_rules | `(tactic| wtm_at "m.td") => `(tactic| first
  | (refine' And.right (a := ?p) ?h; (case h => wtm_at "m.cp"))
  | (refine' td_not ?h; (case h => wtm_at "m.td"))
  | (refine' td_bool ?h; (case h => wtm_at "m.tw"))
  | (refine' td_val ?h; (case h => wtm_at "m.ed")))
local macro_rules | `(tactic| wtm_at "m.bo") => `(tactic| first
  | (refine' ed_and ?a ?b; (case a => wtm_at "m.ed"); (case b => intro _; wtm_at "m.bo"))
  | (refine' ed_or ?a ?b; (case a => wtm_at "m.ed"); (case b => intro _; wtm_at "m.bo"))
  | (refine' ed_one ?a; (case a => wtm_at "m.ed")))
local macro_rules | `(tactic| wtm_at "m.pre") => `(tactic| first
  | exact ⟨_, rfl, rfl⟩ | exact ⟨_, _, rfl, rfl⟩ | exact ⟨_, _, _, rfl, rfl⟩ | exact ⟨_, _, _, _, rfl, rfl⟩ | exact ⟨_, _, _, _, _, rfl, rfl⟩
  | (refine ⟨_, rfl, ?_, rfl⟩; wtm_at "m.side") | (refine ⟨_, _, rfl, ?_, rfl⟩; wtm_at "m.side") | (refine ⟨_, _, _, rfl, ?_, rfl⟩; wtm_at "m.side") | (refine ⟨_, _, _, _, rfl, ?_, rfl⟩; wtm_at "m.side") | (refine ⟨_, _, _, _, _, rfl, ?_, rfl⟩; wtm_at "m.side"))
local macro_rules | `(tactic| wtm_at "m.call") => `(tactic| first
  | wtm_at "m.direct"
  | (refine' ed_thaw ?h ?d; (case h => wtm_at "m.direct"); (case d => rfl)))
local macro_rules | `(tactic| wtm_at "m.od") => `(tactic| first | exact od_none | (refine' od_some ?h; (case h => wtm_at "m.ed")))
local macro_rules | `(tactic| wtm_at "m.direct") => `(tactic| first
  | (refine' ed_call ?T ?k ?g ?a ?A; (case T => assumption); (case k => (dsimp only [Gx.blk]; decide)); (case g => rfl); (case a => wtm_at "m.ad"); (case A => wtm_at "m.pre"))
  | (refine' ed_many (by assumption) ?a ?b; (case a => wtm_at "m.ed"); (case b => exact rfl))
  | (refine' ed_rows (by assumption) ?a; (case a => wtm_at "m.ed"))
  | (refine' ed_meth (by assumption) ?T ?k ?o ?d ?a ?A; (case T => assumption); (case k => (dsimp only [Gx.blk]; decide)); (case o => wtm_at "m.ed"); (case d => exact rfl); (case a => wtm_at "m.ad"); (case A => wtm_at "m.pre")))
local macro_rules | `(tactic| wtm_at "m.ed") => `(tactic| first
  | (refine' ed_varA ?h ?v; (case h => exact rfl); (case v => rfl))
  | (refine' ed_var ?h ?v; (case h => exact rfl); (case v => rfl))
  | exact ed_int
  | (refine' ed_ixR ?a ?b ?c; (case a => wtm_at "m.ed"); (case b => wtm_at "m.ed"); (case c => wtm_at "m.ixd"))
  | (refine' And.left (b := ?p) ?h; (case h => wtm_at "m.cp"))
  | (refine' ed_addR ?a ?b ?c; (case a => wtm_at "m.ed"); (case b => wtm_at "m.ed"); (case c => wtm_at "m.addr"))
  | (refine' ed_sub ?a ?b; (case a => wtm_at "m.ed"); (case b => wtm_at "m.ed"))
  | (refine' ed_mul ?a ?b ?c; (case a => wtm_at "m.ed"); (case b => wtm_at "m.ed"); (case c => wtm_at "m.side"))
  | (refine' ed_fdiv ?a ?b ?c; (case a => wtm_at "m.ed"); (case b => wtm_at "m.ed"); (case c => wtm_at "m.side"))
  | (refine' ed_mod ?a ?b ?c; (case a => wtm_at "m.ed"); (case b => wtm_at "m.ed"); (case c => wtm_at "m.side"))
  | (refine' ed_pow ?a ?b ?c; (case a => wtm_at "m.ed"); (case b => wtm_at "m.ed"); (case c => wtm_at "m.side"))
  | (refine' ed_neg ?a; (case a => wtm_at "m.ed"))
  | (refine' LD.ed ?a; (case a => wtm_at "m.ld"))
  | (refine' ed_len (by assumption) ?a ?b ?g; (case a => wtm_at "m.ed"); (case b => exact rfl); (case g => rfl))
  | (refine' ed_listRange (by assumption) ?a ?b ?c ?g ?g2; (case a => wtm_at "m.ed"); (case b => wtm_at "m.side"); (case c => wtm_at "m.side"); (case g => rfl); (case g2 => rfl))
  | (refine' ed_list (by assumption) ?a ?b ?g; (case a => wtm_at "m.ed"); (case b => exact rfl); (case g => rfl))
  | (refine' ed_all (by assumption) ?a ?b ?g; (case a => wtm_at "m.ed"); (case b => exact rfl); (case g => rfl))
  | (refine' ed_any (by assumption) ?a ?b ?g; (case a => wtm_at "m.ed"); (case b => exact rfl); (case g => rfl))
  | (refine' ed_sum (by assumption) ?a ?b ?g; (case a => wtm_at "m.ed"); (case b => exact rfl); (case g => rfl))
  | (refine' ed_sorted (by assumption) ?a ?b ?g; (case a => wtm_at "m.ed"); (case b => exact rfl); (case g => rfl))
  | (refine' ed_intB (by assumption) ?a ?g; (case a => wtm_at "m.ed"); (case g => rfl))
  | (refine' ed_max (by assumption) ?a ?b ?g; (case a => wtm_at "m.ed"); (case b => wtm_at "m.ed"); (case g => rfl))
  | (refine' ed_min (by assumption) ?a ?b ?g; (case a => wtm_at "m.ed"); (case b => wtm_at "m.ed"); (case g => rfl))
  | (refine' ed_isi (k := true) (by assumption) ?a ?b ?t ?k ?g; (case a => wtm_at "m.ed"); (case b => wtm_at "m.ed"); (case t => exact rfl); (case k => decide +kernel); (case g => rfl))
  | (refine' ed_isi (k := false) (by assumption) ?a ?b ?t ?k ?g; (case a => wtm_at "m.ed"); (case b => wtm_at "m.ed"); (case t => exact rfl); (case k => decide +kernel); (case g => rfl))
  | (refine' ed_tup ?a ?b; (case a => wtm_at "m.adk"); (case b => wtm_at "m.side"))
  | (refine' ed_lst ?a ?b; (case a => wtm_at "m.adk"); (case b => wtm_at "m.side"))
  | (refine' ed_sl ?a ?x ?l ?u; (case a => wtm_at "m.ed"); (case x => exact rfl); (case l => wtm_at "m.od"); (case u => wtm_at "m.od"))
  | (refine' ed_not ?a; (case a => wtm_at "m.ed"))
  | wtm_at "m.bo"
  | wtm_at "m.call"
  | (refine' ed_own ?h ?v; (case h => exact rfl); (case v => rfl))
  | exact ed_bl
  | exact ed_non
  | (refine' ed_globI ?h ?m; (case h => rfl); (case m => assumption))
  | (refine' ed_tyInt (by assumption) ?g; (case g => rfl))
  | (refine' ed_tyList (by assumption) ?g; (case g => rfl))
  | (refine' ed_tyTuple (by assumption) ?g; (case g => rfl))
  | (refine' ed_tyBool (by assumption) ?g; (case g => rfl)))
local macro_rules | `(tactic| wtm_at "s.set") => `(tactic| (refine' sd_cons (s_set ?e ?q ?n ?i ?o); (case n => assumption); (case i => wtm_at "m.dec"); (case o => wtm_at "m.dec"); (case e => wtm_at "m.eds")))
local macro_rules | `(tactic| wtm_at "s.own") => `(tactic| (refine' sd_cons (s_own ?e ?q ?n ?i ?o); (case n => assumption); (case i => wtm_at "m.dec"); (case o => wtm_at "m.dec"); (case e => wtm_at "m.ed")))
local macro_rules | `(tactic| wtm_at "s.lc") => `(tactic| (refine' sd_cons (s_lc ?e ?q ?i ?k ?y ?l ?a); (case i => wtm_at "m.dec"); (case k => rfl); (case y => rfl); (case l => rfl); (case a => decide +kernel); (case e => wtm_at "m.ld")))
local macro_rules | `(tactic| wtm_at "s.lco") => `(tactic| (refine' sd_cons (s_lcO ?e ?q ?i ?k ?y ?l ?a); (case i => wtm_at "m.dec"); (case k => rfl); (case y => rfl); (case l => rfl); (case a => decide +kernel); (case e => wtm_at "m.ld")))
local macro_rules | `(tactic| wtm_at "s.lcc") => `(tactic| (refine' sd_cons (s_set ?e ?q ?n ?i ?o (swapF ?s)); (case n => assumption); (case i => wtm_at "m.dec"); (case o => wtm_at "m.dec"); (case s => rfl); (case e => (refine' ED.shr (LD.ed ?f); (case f => wtm_at "m.ld")))))
local macro_rules | `(tactic| wtm_at "s.ret") => `(tactic| (refine' sd_cons (s_ret ?e ?q); (case e => wtm_at "m.ed")))
local macro_rules | `(tactic| wtm_at "s.if") => `(tactic| (refine' sd_cons (s_if ?zzt ?zzy ?zzm); (case zzt => wtm_at "m.td")))
local macro_rules | `(tactic| wtm_at "s.ift") => `(tactic| (refine' sd_cons (s_if (td_thaw ?zzt) ?zzy ?zzm); (case zzt => wtm_at "m.td")))
local macro_rules | `(tactic| wtm_at "s.app") => `(tactic| (refine' sd_cons (s_app ?e ?h ?v ?z ?q); (case h => exact rfl); (case v => rfl); (case e => wtm_at "m.eds"); (case z => wtm_at "m.side")))
local macro_rules | `(tactic| wtm_at "s.ifset") => `(tactic| (refine' sd_cons (s_ifset ?c ?e ?h1 ?h2 ?h0 ?q ?n ?i ?o); (case n => assumption); (case i => wtm_at "m.dec"); (case o => wtm_at "m.dec"); (case h0 => exact rfl); (case c => wtm_at "m.td"); (case e => intro _; wtm_at "m.eds")))
local macro_rules | `(tactic| wtm_at "s.raise") => `(tactic| (refine' sd_cons (s_raise ?T ?g ?r); (case T => assumption); (case g => rfl)))
local macro_rules | `(tactic| wtm_at "m.make") => `(tactic| (refine' ed_make ?T ?k ?g ?a ?b ?A; (case T => assumption); (case k => (dsimp only [Gx.blk]; decide)); (case g => rfl); (case a => wtm_at "m.ed"); (case b => wtm_at "m.eds"); (case A => assumption)))
local macro_rules | `(tactic| wtm_at "sl.flat") => `(tactic| first | exact flat_sets | exact flat_tab | exact flat_scr | exact flat_int | exact flat_pair flat_int flat_sets)
local macro_rules | `(tactic| wtm_at "sl.one") => `(tactic| first
  | exact Or.inl rfl
  | exact SpM.no
  | exact SpR.no
  | exact SpM.told rfl
  | exact SpR.told rfl
  | (refine SpM.keep (by decide) rfl ?_ rfl; wtm_at "sl.flat")
  | exact SpM.conv (by decide) rfl conv_int.1
  | exact SpR.keep (by decide) (by decide) rfl rfl rfl
  | exact SpR.conv (by decide) rfl conv_int.2
  | exact SpR.conv (by decide) rfl back_rules
  | exact SpR.conv (by decide) rfl back_sets
  | (refine Or.inr ⟨_, rfl, rfl, ?_⟩; wtm_at "sl.flat"))
local macro_rules | `(tactic| wtm_at "sl.all") => `(tactic| ((repeat' first | exact slAll_nil | refine slAll_cons ?_ ?_) <;> wtm_at "sl.one"))
local macro_rules | `(tactic| wtm_at "op.mem") => `(tactic| first | exact .head _ | exact .tail _ (.head _) | exact .tail _ (.tail _ (.head _)) | exact .tail _ (.tail _ (.tail _ (.head _))) | exact .tail _ (.tail _ (.tail _ (.tail _ (.head _)))) | exact .tail _ (.tail _ (.tail _ (.tail _ (.tail _ (.head _))))) | exact .tail _ (.tail _ (.tail _ (.tail _ (.tail _ (.tail _ (.head _)))))))
local macro_rules | `(tactic| wtm_at "op.d") => `(tactic| first
  | exact opn_refl
  | (refine opn_ints ?_; wtm_at "op.mem")
  | (refine opn_tup ?_; wtm_at "op.l")
  | (refine opn_lst ?_; wtm_at "op.l")
  | (refine opn_cell ?zopm ?zopl; (case zopm => wtm_at "op.mem"); (case zopl => first | exact opnL_refl | wtm_at "op.l")))
local macro_rules | `(tactic| wtm_at "op.l") => `(tactic| first
  | exact opnL_nil
  | (refine opnL_cons ?zopa ?zopb; (case zopa => wtm_at "op.d"); (case zopb => wtm_at "op.l")))
local macro_rules | `(tactic| wtm_at "op.one") => `(tactic| first
  | exact OpS.no
  | exact OpS.own rfl
  | (refine OpS.sh rfl ?_; wtm_at "op.d"))
local macro_rules | `(tactic| wtm_at "op.all") => `(tactic| ((repeat' first | exact slAll_nil | refine slAll_cons ?_ ?_) <;> wtm_at "op.one"))
local macro_rules | `(tactic| wtm_at "op.one2") => `(tactic| first
  | exact OpS.no
  | exact OpS.own rfl
  | exact OpS.sh rfl (by assumption)
  | exact OpS.sh rfl opn_refl)
local macro_rules | `(tactic| wtm_at "op.all2") => `(tactic| ((repeat' first | exact slAll_nil | refine slAll_cons ?_ ?_) <;> wtm_at "op.one2"))
section
variable {U : Wd} (T : Bl U.mg) (C : TabOk U) {f : Addr} {fd : FuncData} {x q : Str} {cS cM cT : Addr}
include T C
theorem ok_ahead (hCl : MtT U "closed" 3 (A_closed cM)) (hTh : MtT U "things_with" 2 (A_things cM)) (hMk : MtT U "marks_of" 1 (A_marks cT)) (hB : FnA U "boxes" 3 A_boxes) (hS : FnT U "steps" 4 A_steps) (hF : FnA U "fewest" 4 A_fewest) (F : Fun U.K x q s_law_ahead f fd) : FnOk U.P U.w U.K U.mg U.base (L2.CX U.P U.w) 5 f fd ["_law_table", "_law_cell"] (spX U A_ahead) := by
  have hN := sc_law_ahead.nd
  have hBf := hB.fn
  refine fn_ok F sc_law_ahead (fun ds o h => ?_) fun ds o h => ?_
  · obtain ⟨m, rows, cell, rfl, _⟩ := h
    rfl
  · obtain ⟨m, rows, cell, rfl, ⟨hm0, hm8, hr⟩, rfl⟩ := h
    have hc : 0 ≤ m ∧ m ≤ 8 ∧ rows.length ≤ 12 := ⟨hm0, hm8, hr⟩
    have w0 := fmod_lo (a := cell.fdiv 5) (b := 2) (by decide)
    have w1 := fmod_hi (a := cell.fdiv 5) (b := 2) (by decide)
    have w2 : (cell.fdiv 5).fmod 2 = 0 ∨ (cell.fdiv 5).fmod 2 = 1 := by omega
    refine sd_at (ρ' := [.sh (.tab m rows), .sh (.int cell), .no, .no, .no]) rfl ?_
    wtm_at "s.if"
    · intro hk
      exact sd_cons (s_retN rfl)
    intro hk
    refine sd_nil ?_
    clear hk
    -- what is told of two sets, changed
    refine sd_cons (S1.imp (R' := fun o => ∃ s t u, o = .nx [.sh (.tab m rows), .sh (.int cell), s, t, u]) ?zp1 ?zc1)
    case zp1 =>
      refine s_if (k := decide (cell.fmod 10 = 5)) (TD.cast (b := ?zb1) ?zt1 ?zq1) (fun hk => ?_) fun hk => sd_nil ⟨_, _, _, rfl⟩
      case zt1 => wtm_at "m.td"
      case zq1 => simp only [Rs.d, deq_int]
      have hmz : m ≤ 16777216 := by omega
      have hmy : -16777216 ≤ m := by omega
      refine' sd_cons (s_forL (xs := [[], rangeL m]) (enc := encS) ?zi (fun i ρ => ∃ s, ρ = [.sh (.tab m rows), .sh (.int cell), s, .no, .no]) ⟨.no, rfl⟩ ?zs ?zd hN ?zi3 ?zi4)
      case zi3 => wtm_at "m.dec"
      case zi4 => wtm_at "m.dec"
      case zi =>
        refine' if_tup (ds := [encS [], encS (rangeL m)]) ?zf
        case zf =>
          refine' ed_tup (ad_cons' (ed_lst ad_nil ?zs1) (.fr _) (ad_cons' (r := .fr ((rangeL m).map D.int)) (ED.cast (r := ?zr2) ?ze2 ?zq2) (.fr _) ad_nil)) ?zs2
          case zs1 => wtm_at "m.side"
          case zs2 => wtm_at "m.side"
          case ze2 => wtm_at "m.ed"
          case zq2 => rw [range_int]
      case zs =>
        intro i ms ρ' hms hs
        obtain ⟨s, rfl⟩ := hs
        have hin : inR m ms = true := by
          have := List.mem_of_getElem? hms
          rcases List.mem_cons.mp this with e | e
          · rw [e]
            rfl
          · rw [List.mem_singleton.mp e]
            exact inR_iff.mpr (range_in m).inr
        have hz1 : ((clL m rows ms).map D.int).length < sizeLine := by
          have := in_len (cl_in (m := m) (rows := rows) ms) hm0
          rw [List.length_map, sizeLine_eq]
          omega
        have hz2 : ((thI rows ms).map D.int).length < sizeLine := by
          have := in_len (th_in rows ms) (by omega)
          rw [List.length_map, sizeLine_eq]
          omega
        refine sd_at (ρ' := [.sh (.tab m rows), .sh (.int cell), .sh (encS ms), .no, .no]) rfl ?_
        refine sd_cons (s_appF (ds := (clL m rows ms).map D.int) (d := .int 99) ?ze3 ed_int hz1 ?zq3)
        case ze3 =>
          refine' ed_meth (A := A_closed cM) (d := .tab m rows) (i := m) (ds := [D.ints ms]) C hCl ?zk3 (ed_var rfl rfl) rfl (ad_cons' (ed_var rfl rfl) (.sh _) ad_nil) ⟨_, _, _, rfl, hc, by rw [if_pos hin]⟩
          case zk3 => dsimp only; decide
        case zq3 =>
        refine sd_cons (s_appF (ds := (thI rows ms).map D.int) (d := .int 99) ?ze4 ed_int hz2 ?zq4)
        case ze4 =>
          refine' ed_meth (A := A_things cM) (d := .tab m rows) (i := m) (ds := [D.ints ms]) C hTh ?zk4 (ed_var rfl rfl) rfl (ad_cons' (ed_var rfl rfl) (.sh _) ad_nil) ⟨_, _, _, rfl, hr, by rw [if_pos hin]⟩
          case zk4 => dsimp only; decide
        case zq4 => exact sd_nil ⟨_, rfl⟩
      case zd =>
        intro ρ' hs
        obtain ⟨s, rfl⟩ := hs
        have hin2 : inR (rows.length : Int) (rangeL (rows.length : Int)) = true := inR_iff.mpr (range_in _).inr
        have hlz : (((rows.map encS).length : Nat) : Int) ≤ 16777216 := by rw [List.length_map]; omega
        have hly : -16777216 ≤ (((rows.map encS).length : Nat) : Int) := by omega
        refine sd_cons (s_clrF (ds := (mkL m rows (rangeL (rows.length : Int))).map D.int) ?ze5 ?zq5)
        case zq5 => exact sd_nil ⟨_, _, _, rfl⟩
        case ze5 =>
          refine' ed_meth (A := A_marks cT) (d := .tab m rows) (i := m) (ds := [D.ints (rangeL (rows.length : Int))]) C hMk ?zk5 (ed_var rfl rfl) rfl (ad_cons' (r := .fr ((rangeL (rows.length : Int)).map D.int)) (ED.cast (r := ?zr6) ?ze6 ?zq6) (.fr _) ad_nil) ⟨_, _, _, rfl, ⟨hm0, hm8⟩, by rw [if_pos hin2]⟩
          case zk5 => dsimp only; decide
          case ze6 => wtm_at "m.ed"
          case zq6 => rw [range_int, List.length_map]
    case zc1 =>
    rintro o ⟨s, t, u, rfl⟩
    show SD _ _ _ _
    -- boxes, changed
    refine sd_cons (S1.imp (R' := fun o => ∃ s t u, o = .nx [.sh (.tab m rows), .sh (.int cell), s, t, u]) ?zp2 ?zc2)
    case zp2 =>
      refine s_if (k := decide (cell.fmod 5 = 1)) (TD.cast (b := ?zb7) ?zt7 ?zq7) (fun hk => ?_) fun hk => sd_nil ⟨_, _, _, rfl⟩
      case zt7 => wtm_at "m.td"
      case zq7 => simp only [Rs.d, deq_int]
      have hbl := box_len (rows := rows) hm0 hm8
      refine sd_cons (s_forNew (xs := boxL m rows) (d1 := .tab m rows) (i := (cell.fdiv 5).fmod 2) (cc := 99) hB ?zk8 rfl (ed_var rfl rfl) flat_tab ⟨m, rows, rfl, hc, rfl⟩ (by omega) (fun r hr2 => ?_) w2 (fun d => ?_) (fun d => ed_int) ?zq8 hN ?zi8 ?zi9 ?zi10 ?zi11)
      case zk8 => dsimp only; decide
      case zi8 => show List.idxOf _ N_law_ahead < 5; decide +kernel
      case zi9 => wtm_at "m.dec"
      case zi10 => wtm_at "m.dec"
      case zi11 => wtm_at "m.dec"
      case zq8 => exact sd_nil ⟨_, _, _, rfl⟩
      · obtain ⟨h1, h2, _⟩ := box_mem hr2
        have := in_len h1 hm0
        have := in_len (th_in rows r.2) (by omega)
        rw [h2]
        omega
      · wtm_at "m.ed"
    case zc2 =>
    rintro o ⟨s, t, u, rfl⟩
    show SD _ _ _ _
    refine sd_cons (S1.imp (R' := fun o => ∃ s t u, o = .nx [.sh (.tab m rows), .sh (.int cell), s, t, u]) ?zp3 ?zc3)
    case zp3 =>
      refine s_if (k := decide (cell.fmod 5 = 2)) (TD.cast (b := ?zb12) ?zt12 ?zq12) (fun hk => ?_) fun hk => sd_nil ⟨_, _, _, rfl⟩
      case zt12 => wtm_at "m.td"
      case zq12 => simp only [Rs.d, deq_int]
      refine sd_cons (s_clrF (ds := (boxL m rows).map encRn) ?ze13 ?zq13)
      case ze13 => wtm_at "m.ed"
      case zq13 => exact sd_nil ⟨_, _, _, rfl⟩
    case zc3 =>
    rintro o ⟨s, t, u, rfl⟩
    show SD _ _ _ _
    refine sd_cons (S1.imp (R' := fun o => ∃ s t u, o = .nx [.sh (.tab m rows), .sh (.int cell), s, t, u]) ?zp4 ?zc4)
    case zp4 =>
      refine s_if (k := decide (cell.fmod 5 = 3)) (TD.cast (b := ?zb14) ?zt14 ?zq14) (fun hk => ?_) fun hk => sd_nil ⟨_, _, _, rfl⟩
      case zt14 => wtm_at "m.td"
      case zq14 => simp only [Rs.d, deq_int]
      refine sd_cons (s_clrF (ds := (stepsL (boxL m rows)).map encKK) ?ze15 ?zq15)
      case ze15 => wtm_at "m.ed"
      case zq15 => exact sd_nil ⟨_, _, _, rfl⟩
    case zc4 =>
    rintro o ⟨s, t, u, rfl⟩
    show SD _ _ _ _
    refine sd_cons (S1.imp (R' := fun o => ∃ s t u, o = .nx [.sh (.tab m rows), .sh (.int cell), s, t, u]) ?zp5 ?zc5)
    case zp5 =>
      refine s_if (k := decide (cell.fmod 5 = 4)) (TD.cast (b := ?zb16) ?zt16 ?zq16) (fun hk => ?_) fun hk => sd_nil ⟨_, _, _, rfl⟩
      case zt16 => wtm_at "m.td"
      case zq16 => simp only [Rs.d, deq_int]
      have hfl : (fewL m rows).length ≤ 256 := by
        unfold fewL
        rw [List.length_map]
        exact Nat.le_trans (fewP_len _ _ _) (allL_len hm8)
      refine sd_cons (s_forNew (xs := fewL m rows) (d1 := .tab m rows) (i := (cell.fdiv 5).fmod 2) (cc := 99) hF ?zk17 rfl (ed_var rfl rfl) flat_tab ⟨m, rows, rfl, hc, rfl⟩ (by omega) (fun r hr2 => ?_) w2 (fun d => ?_) (fun d => ed_int) ?zq17 hN ?zi17 ?zi18 ?zi19 ?zi20)
      case zk17 => dsimp only; decide
      case zi17 => show List.idxOf _ N_law_ahead < 5; decide +kernel
      case zi18 => wtm_at "m.dec"
      case zi19 => wtm_at "m.dec"
      case zi20 => wtm_at "m.dec"
      case zq17 => exact sd_nil ⟨_, _, _, rfl⟩
      · obtain ⟨p, hp, rfl⟩ := List.mem_map.mp hr2
        have kn := few_knots (rows := rows) hm0
        have h1 := in_len (kn.inm p hp) hm0
        have h2 := kn.full p hp
        have h3 := in_len (cl_in (m := m) (rows := rows) p.1) hm0
        have h4 := List.length_filter_le (fun x => !decide (x ∈ p.1)) p.2
        unfold lacksL
        rw [h2] at h4 ⊢
        dsimp only
        omega
      · wtm_at "m.ed"
    case zc5 =>
    rintro o ⟨s, t, u, rfl⟩
    exact sd_nil rfl
end
end Mb
set_option Elab.async false
set_option linter.all false
set_option maxRecDepth 100000
set_option maxHeartbeats 4000000
namespace Mb
open PySem PySem.Spec PyProof.Rows L2
local macro_rules | `(tactic| wtm_at "m.dec") => `(tactic| (dsimp only [Gx.blk]; decide +kernel))
local macro_rules | `(tactic| wtm_at "m.hint") => `(tactic| fail)
local macro_rules | `(tactic| wtm_at "m.side") => `(tactic| first | with_reducible assumption | assumption | decide | omega | exact Or.inr (And.intro (by omega) (by omega)) | exact Or.inl (And.intro (by omega) (by omega)) | exact And.intro (by omega) (by omega) | (simp only [List.length_cons, List.length_nil, List.length_map, List.length_range, List.length_append, sizeLine_eq]; omega) | wtm_at "m.hint" | solve_by_elim)
local macro_rules | `(tactic| wtm_at "m.dn") => `(tactic| first
  | exact Dn.int _ _ | exact Dn.bl _ _ | exact Dn.non _
  | (refine dn_lst (n := _) ?_; wtm_at "m.dm") | (refine dn_nls (n := _) ?_; wtm_at "m.dm") | (refine dn_tup (n := _) ?_; wtm_at "m.dm"))
local macro_rules | `(tactic| wtm_at "m.dm") => `(tactic| first
  | exact dm_nil | (refine dm_map ?_; intro _; wtm_at "m.dn") | (refine dm_cons ?a ?b; (case a => wtm_at "m.dn"); (case b => wtm_at "m.dm")) | (refine dm_app ?a ?b; (case a => wtm_at "m.dm"); (case b => wtm_at "m.dm")))
local macro_rules | `(tactic| wtm_at "m.tosh") => `(tactic| first | exact ToSh.sh _ | exact ToSh.fr _)
local macro_rules | `(tactic| wtm_at "m.eds") => `(tactic| (refine' ED.toSh ?h ?t ?q; (case h => wtm_at "m.ed"); (case t => wtm_at "m.tosh"); (case q => exact rfl)))
local macro_rules | `(tactic| wtm_at "m.tosha") => `(tactic| first | exact ToSh.un _ | exact ToSh.sh _ | exact ToSh.fr _)
local macro_rules | `(tactic| wtm_at "m.ad") => `(tactic| first
  | exact ad_nil
  | (refine' ad_cons' ?h ?t ?r; (case h => wtm_at "m.ed"); (case t => wtm_at "m.tosha"); (case r => wtm_at "m.ad")))
local macro_rules | `(tactic| wtm_at "m.adk") => `(tactic| first
  | exact ad_nil
  | (refine' ad_cons' ?h ?t ?r; (case h => wtm_at "m.ed"); (case t => wtm_at "m.tosh"); (case r => wtm_at "m.adk")))
local macro_rules | `(tactic| wtm_at "m.ic") => `(tactic| first
  | (refine' ic_range (by assumption) ?a ?b ?c ?g; (case a => wtm_at "m.ed"); (case g => rfl); (case b => wtm_at "m.side"); (case c => wtm_at "m.side"))
  | (refine' ic_list ?h ?q; (case h => wtm_at "m.ed"); (case q => exact rfl)))
local macro_rules | `(tactic| wtm_at "m.if") => `(tactic| first
  | (refine' if_range (by assumption) ?a ?b ?c ?g; (case a => wtm_at "m.ed"); (case g => rfl); (case b => wtm_at "m.side"); (case c => wtm_at "m.side"))
  | (refine' if_range2 (by assumption) ?a ?a2 ?b ?g; (case a => wtm_at "m.ed"); (case a2 => wtm_at "m.ed"); (case g => rfl); (case b => wtm_at "m.side"))
  | (refine' if_list ?h; (case h => wtm_at "m.ed"))
  | (refine' if_nls ?h; (case h => wtm_at "m.ed"))
  | (refine' if_fr ?h; (case h => wtm_at "m.ed"))
  | (refine' if_tup ?h; (case h => wtm_at "m.ed")))
local macro_rules | `(tactic| wtm_at "m.ld") => `(tactic| first
  | (refine' ld_lc0 ?n ?i ?j ?o ?l ?e; (case n => assumption); (case i => wtm_at "m.ic"); (case j => wtm_at "m.dec"); (case o => wtm_at "m.dec"); (case l => wtm_at "m.dec"); (case e => intro _ hx; (try have hx := List.mem_range.mp hx); wtm_at "m.eds"))
  | (refine' ld_lc1 ?n ?i ?j ?o ?l ?t ?e; (case n => assumption); (case i => wtm_at "m.ic"); (case j => wtm_at "m.dec"); (case o => wtm_at "m.dec"); (case l => wtm_at "m.dec"); (case t => (intro _ hx; (try have hx := List.mem_range.mp hx); refine' TD.cast ?h ?q; (case h => wtm_at "m.td"); (case q => exact rfl))); (case e => intro _ hx _; (try have hx := List.mem_range.mp hx); wtm_at "m.eds"))
  | (refine' ld_lcp0 ?n ?i ?j ?j2 ?o ?l ?l2 ?e; (case n => assumption); (case i => wtm_at "m.ic"); (case j => wtm_at "m.dec"); (case j2 => wtm_at "m.dec"); (case o => wtm_at "m.dec"); (case l => wtm_at "m.dec"); (case l2 => wtm_at "m.dec"); (case e => intro _ _; wtm_at "m.eds"))
  | (refine' ld_lcp1 ?n ?i ?j ?j2 ?o ?l ?l2 ?t ?e; (case n => assumption); (case i => wtm_at "m.ic"); (case j => wtm_at "m.dec"); (case j2 => wtm_at "m.dec"); (case o => wtm_at "m.dec"); (case l => wtm_at "m.dec"); (case l2 => wtm_at "m.dec"); (case t => (intro _ hx; (try have hx := List.mem_range.mp hx); refine' TD.cast ?h ?q; (case h => wtm_at "m.td"); (case q => exact rfl))); (case e => intro _ hx _; (try have hx := List.mem_range.mp hx); wtm_at "m.eds")))
local macro_rules | `(tactic| wtm_at "m.addr") => `(tactic| first | exact AddR.int _ _ | (refine' AddR.cat ?x ?y ?z; (case x => exact rfl); (case y => exact rfl); (case z => wtm_at "m.side")))
local macro_rules | `(tactic| wtm_at "m.at") => `(tactic| first
  | exact rfl
  | assumption
  | (refine atI_get (d := (0 : Int)) ?a ?b; (case a => wtm_at "m.side"); (case b => wtm_at "m.side"))
  | (refine atI_ints (d := default) ?a ?b; (case a => wtm_at "m.side"); (case b => wtm_at "m.side"))
  | (refine atI_lit ?a ?b ?c; (case a => wtm_at "m.side"); (case b => wtm_at "m.side"); (case c => rfl))
  | solve_by_elim)
local macro_rules | `(tactic| wtm_at "m.ixd") => `(tactic| first
  | (refine' IxD.tup ?h; (case h => wtm_at "m.at"))
  | (refine' IxD.scr ?h; (case h => wtm_at "m.at"))
  | (refine' IxD.list ?x ?h; (case x => exact rfl); (case h => wtm_at "m.at")))
local macro_rules | `(tactic| wtm_at "m.cp") => `(tactic| first
  | (refine' cp_lt ?a ?b; (case a => wtm_at "m.ed"); (case b => wtm_at "m.ed"))
  | (refine' cp_le ?a ?b; (case a => wtm_at "m.ed"); (case b => wtm_at "m.ed"))
  | (refine' cp_gt ?a ?b; (case a => wtm_at "m.ed"); (case b => wtm_at "m.ed"))
  | (refine' cp_ge ?a ?b; (case a => wtm_at "m.ed"); (case b => wtm_at "m.ed"))
  | (refine' cp_eq ?a ?b ?c ?d; (case a => wtm_at "m.ed"); (case b => wtm_at "m.ed"); (case c => wtm_at "m.dn"); (case d => wtm_at "m.dn"))
  | (refine' cp_ne ?a ?b ?c ?d; (case a => wtm_at "m.ed"); (case b => wtm_at "m.ed"); (case c => wtm_at "m.dn"); (case d => wtm_at "m.dn"))
  | (refine' cp_in ?a ?b ?e ?c ?d ?m; (case a => wtm_at "m.ed"); (case b => wtm_at "m.ed"); (case e => exact rfl); (case c => wtm_at "m.dn"); (case d => wtm_at "m.dm"); (case m => rfl))
  | (refine' cp_nin ?a ?b ?e ?c ?d ?m; (case a => wtm_at "m.ed"); (case b => wtm_at "m.ed"); (case e => exact rfl); (case c => wtm_at "m.dn"); (case d => wtm_at "m.dm"); (case m => rfl))
  | (refine' cp_isN ?a; (case a => wtm_at "m.ed"))
  | (refine' cp_notN ?a; (case a => wtm_at "m.ed"))
  | (refine' ch_le_lt ?a ?b ?c; (case a => wtm_at "m.ed"); (case b => wtm_at "m.ed"); (case c => wtm_at "m.ed"))
  | (refine' ch_le_le ?a ?b ?c; (case a => wtm_at "m.ed"); (case b => wtm_at "m.ed"); (case c => wtm_at "m.ed")))
local macro_rules | `(tactic| wtm_at "m.tw") => `(tactic| first
  | (refine' tw_and ?a ?b; (case a => wtm_at "m.td"); (case b => intro _; wtm_at "m.tw"))
  | (refine' tw_or ?a ?b; (case a => wtm_at "m.td"); (case b => intro _; wtm_at "m.tw"))
  | (refine' tw_and1 ?a; (case a => wtm_at "m.td"))
  | (refine' tw_or1 ?a; (case a => wtm_at "m.td")))
local macro_rules | `(tactic| wtm_at "m.td") => `(tactic| first
  | (refine' And.right (a := ?p) ?h; (case h => wtm_at "m.cp"))
  | (refine' td_not ?h; (case h => wtm_at "m.td"))
  | (refine' td_bool ?h; (case h => wtm_at "m.tw"))
  | (refine' td_val ?h; (case h => wtm_at "m.ed")))
local macro_rules | `(tactic| wtm_at "m.bo") => `(tactic| first
  | (refine' ed_and ?a ?b; (case a => wtm_at "m.ed"); (case b => intro _; wtm_at "m.bo"))
  | (refine' ed_or ?a ?b; (case a => wtm_at "m.ed"); (case b => intro _; wtm_at "m.bo"))
  | (refine' ed_one ?a; (case a => wtm_at "m.ed")))
local macro_rules | `(tactic| wtm_at "m.pre") => `(tactic| first
  | exact ⟨_, rfl, rfl⟩ | exact ⟨_, _, rfl, rfl⟩ | exact ⟨_, _, _, rfl, rfl⟩ | exact ⟨_, _, _, _, rfl, rfl⟩ | exact ⟨_, _, _, _, _, rfl, rfl⟩
  | (refine ⟨_, rfl, ?_, rfl⟩; wtm_at "m.side") | (refine ⟨_, _, rfl, ?_, rfl⟩; wtm_at "m.side") | (refine ⟨_, _, _, rfl, ?_, rfl⟩; wtm_at "m.side") | (refine ⟨_, _, _, _, rfl, ?_, rfl⟩; wtm_at "m.side") | (refine ⟨_, _, _, _, _, rfl, ?_, rfl⟩; wtm_at "m.side"))
local macro_rules | `(tactic| wtm_at "m.call") => `(tactic| first
  | wtm_at "m.direct"
  | (refine' ed_thaw ?h ?d; (case h => wtm_at "m.direct"); (case d => rfl)))
local macro_rules | `(tactic| wtm_at "m.od") => `(tactic| first | exact od_none | (refine' od_some ?h; (case h => wtm_at "m.ed")))
local macro_rules | `(tactic| wtm_at "m.direct") => `(tactic| first
  | (refine' ed_call ?T ?k ?g ?a ?A; (case T => assumption); (case k => (dsimp only [Gx.blk]; decide)); (case g => rfl); (case a => wtm_at "m.ad"); (case A => wtm_at "m.pre"))
  | (refine' ed_many (by assumption) ?a ?b; (case a => wtm_at "m.ed"); (case b => exact rfl))
  | (refine' ed_rows (by assumption) ?a; (case a => wtm_at "m.ed"))
  | (refine' ed_meth (by assumption) ?T ?k ?o ?d ?a ?A; (case T => assumption); (case k => (dsimp only [Gx.blk]; decide)); (case o => wtm_at "m.ed"); (case d => exact rfl); (case a => wtm_at "m.ad"); (case A => wtm_at "m.pre")))
local macro_rules | `(tactic| wtm_at "m.ed") => `(tactic| first
  | (refine' ed_varA ?h ?v; (case h => exact rfl); (case v => rfl))
  | (refine' ed_var ?h ?v; (case h => exact rfl); (case v => rfl))
  | exact ed_int
  | (refine' ed_ixR ?a ?b ?c; (case a => wtm_at "m.ed"); (case b => wtm_at "m.ed"); (case c => wtm_at "m.ixd"))
  | (refine' And.left (b := ?p) ?h; (case h => wtm_at "m.cp"))
  | (refine' ed_addR ?a ?b ?c; (case a => wtm_at "m.ed"); (case b => wtm_at "m.ed"); (case c => wtm_at "m.addr"))
  | (refine' ed_sub ?a ?b; (case a => wtm_at "m.ed"); (case b => wtm_at "m.ed"))
  | (refine' ed_mul ?a ?b ?c; (case a => wtm_at "m.ed"); (case b => wtm_at "m.ed"); (case c => wtm_at "m.side"))
  | (refine' ed_fdiv ?a ?b ?c; (case a => wtm_at "m.ed"); (case b => wtm_at "m.ed"); (case c => wtm_at "m.side"))
  | (refine' ed_mod ?a ?b ?c; (case a => wtm_at "m.ed"); (case b => wtm_at "m.ed"); (case c => wtm_at "m.side"))
  | (refine' ed_pow ?a ?b ?c; (case a => wtm_at "m.ed"); (case b => wtm_at "m.ed"); (case c => wtm_at "m.side"))
  | (refine' ed_neg ?a; (case a => wtm_at "m.ed"))
  | (refine' LD.ed ?a; (case a => wtm_at "m.ld"))
  | (refine' ed_len (by assumption) ?a ?b ?g; (case a => wtm_at "m.ed"); (case b => exact rfl); (case g => rfl))
  | (refine' ed_listRange (by assumption) ?a ?b ?c ?g ?g2; (case a => wtm_at "m.ed"); (case b => wtm_at "m.side"); (case c => wtm_at "m.side"); (case g => rfl); (case g2 => rfl))
  | (refine' ed_list (by assumption) ?a ?b ?g; (case a => wtm_at "m.ed"); (case b => exact rfl); (case g => rfl))
  | (refine' ed_all (by assumption) ?a ?b ?g; (case a => wtm_at "m.ed"); (case b => exact rfl); (case g => rfl))
  | (refine' ed_any (by assumption) ?a ?b ?g; (case a => wtm_at "m.ed"); (case b => exact rfl); (case g => rfl))
  | (refine' ed_sum (by assumption) ?a ?b ?g; (case a => wtm_at "m.ed"); (case b => exact rfl); (case g => rfl))
  | (refine' ed_sorted (by assumption) ?a ?b ?g; (case a => wtm_at "m.ed"); (case b => exact rfl); (case g => rfl))
  | (refine' ed_intB (by assumption) ?a ?g; (case a => wtm_at "m.ed"); (case g => rfl))
  | (refine' ed_max (by assumption) ?a ?b ?g; (case a => wtm_at "m.ed"); (case b => wtm_at "m.ed"); (case g => rfl))
  | (refine' ed_min (by assumption) ?a ?b ?g; (case a => wtm_at "m.ed"); (case b => wtm_at "m.ed"); (case g => rfl))
  | (refine' ed_isi (k := true) (by assumption) ?a ?b ?t ?k ?g; (case a => wtm_at "m.ed"); (case b => wtm_at "m.ed"); (case t => exact rfl); (case k => decide +kernel); (case g => rfl))
  | (refine' ed_isi (k := false) (by assumption) ?a ?b ?t ?k ?g; (case a => wtm_at "m.ed"); (case b => wtm_at "m.ed"); (case t => exact rfl); (case k => decide +kernel); (case g => rfl))
  | (refine' ed_tup ?a ?b; (case a => wtm_at "m.adk"); (case b => wtm_at "m.side"))
  | (refine' ed_lst ?a ?b; (case a => wtm_at "m.adk"); (case b => wtm_at "m.side"))
  | (refine' ed_sl ?a ?x ?l ?u; (case a => wtm_at "m.ed"); (case x => exact rfl); (case l => wtm_at "m.od"); (case u => wtm_at "m.od"))
  | (refine' ed_not ?a; (case a => wtm_at "m.ed"))
  | wtm_at "m.bo"
  | wtm_at "m.call"
  | (refine' ed_own ?h ?v; (case h => exact rfl); (case v => rfl))
  | exact ed_bl
  | exact ed_non
  | (refine' ed_globI ?h ?m; (case h => rfl); (case m => assumption))
  | (refine' ed_tyInt (by assumption) ?g; (case g => rfl))
  | (refine' ed_tyList (by assumption) ?g; (case g => rfl))
  | (refine' ed_tyTuple (by assumption) ?g; (case g => rfl))
  | (refine' ed_tyBool (by assumption) ?g; (case g => rfl)))
local macro_rules | `(tactic| wtm_at "s.set") => `(tactic| (refine' sd_cons (s_set ?e ?q ?n ?i ?o); (case n => assumption); (case i => wtm_at "m.dec"); (case o => wtm_at "m.dec"); (case e => wtm_at "m.eds")))
local macro_rules | `(tactic| wtm_at "s.own") => `(tactic| (refine' sd_cons (s_own ?e ?q ?n ?i ?o); (case n => assumption); (case i => wtm_at "m.dec"); (case o => wtm_at "m.dec"); (case e => wtm_at "m.ed")))
local macro_rules | `(tactic| wtm_at "s.lc") => `(tactic| (refine' sd_cons (s_lc ?e ?q ?i ?k ?y ?l ?a); (case i => wtm_at "m.dec"); (case k => rfl); (case y => rfl); (case l => rfl); (case a => decide +kernel); (case e => wtm_at "m.ld")))
local macro_rules | `(tactic| wtm_at "s.lco") => `(tactic| (refine' sd_cons (s_lcO ?e ?q ?i ?k ?y ?l ?a); (case i => wtm_at "m.dec"); (case k => rfl); (case y => rfl); (case l => rfl); (case a => decide +kernel); (case e => wtm_at "m.ld")))
local macro_rules | `(tactic| wtm_at "s.lcc") => `(tactic| (refine' sd_cons (s_set ?e ?q ?n ?i ?o (swapF ?s)); (case n => assumption); (case i => wtm_at "m.dec"); (case o => wtm_at "m.dec"); (case s => rfl); (case e => (refine' ED.shr (LD.ed ?f); (case f => wtm_at "m.ld")))))
local macro_rules | `(tactic| wtm_at "s.ret") => `(tactic| (refine' sd_cons (s_ret ?e ?q); (case e => wtm_at "m.ed")))
local macro_rules | `(tactic| wtm_at "s.if") => `(tactic| (refine' sd_cons (s_if ?zzt ?zzy ?zzm); (case zzt => wtm_at "m.td")))
local macro_rules | `(tactic| wtm_at "s.ift") => `(tactic| (refine' sd_cons (s_if (td_thaw ?zzt) ?zzy ?zzm); (case zzt => wtm_at "m.td")))
local macro_rules | `(tactic| wtm_at "s.app") => `(tactic| (refine' sd_cons (s_app ?e ?h ?v ?z ?q); (case h => exact rfl); (case v => rfl); (case e => wtm_at "m.eds"); (case z => wtm_at "m.side")))
local macro_rules | `(tactic| wtm_at "s.ifset") => `(tactic| (refine' sd_cons (s_ifset ?c ?e ?h1 ?h2 ?h0 ?q ?n ?i ?o); (case n => assumption); (case i => wtm_at "m.dec"); (case o => wtm_at "m.dec"); (case h0 => exact rfl); (case c => wtm_at "m.td"); (case e => intro _; wtm_at "m.eds")))
local macro_rules | `(tactic| wtm_at "s.raise") => `(tactic| (refine' sd_cons (s_raise ?T ?g ?r); (case T => assumption); (case g => rfl)))
local macro_rules | `(tactic| wtm_at "m.make") => `(tactic| (refine' ed_make ?T ?k ?g ?a ?b ?A; (case T => assumption); (case k => (dsimp only [Gx.blk]; decide)); (case g => rfl); (case a => wtm_at "m.ed"); (case b => wtm_at "m.eds"); (case A => assumption)))
local macro_rules | `(tactic| wtm_at "sl.flat") => `(tactic| first | exact flat_sets | exact flat_tab | exact flat_scr | exact flat_int | exact flat_pair flat_int flat_sets)
local macro_rules | `(tactic| wtm_at "sl.one") => `(tactic| first
  | exact Or.inl rfl
  | exact SpM.no
  | exact SpR.no
  | exact SpM.told rfl
  | exact SpR.told rfl
  | (refine SpM.keep (by decide) rfl ?_ rfl; wtm_at "sl.flat")
  | exact SpM.conv (by decide) rfl conv_int.1
  | exact SpR.keep (by decide) (by decide) rfl rfl rfl
  | exact SpR.conv (by decide) rfl conv_int.2
  | exact SpR.conv (by decide) rfl back_rules
  | exact SpR.conv (by decide) rfl back_sets
  | (refine Or.inr ⟨_, rfl, rfl, ?_⟩; wtm_at "sl.flat"))
local macro_rules | `(tactic| wtm_at "sl.all") => `(tactic| ((repeat' first | exact slAll_nil | refine slAll_cons ?_ ?_) <;> wtm_at "sl.one"))
local macro_rules | `(tactic| wtm_at "op.mem") => `(tactic| first | exact .head _ | exact .tail _ (.head _) | exact .tail _ (.tail _ (.head _)) | exact .tail _ (.tail _ (.tail _ (.head _))) | exact .tail _ (.tail _ (.tail _ (.tail _ (.head _)))) | exact .tail _ (.tail _ (.tail _ (.tail _ (.tail _ (.head _))))) | exact .tail _ (.tail _ (.tail _ (.tail _ (.tail _ (.tail _ (.head _)))))))
local macro_rules | `(tactic| wtm_at "op.d") => `(tactic| first
  | exact opn_refl
  | (refine opn_ints ?_; wtm_at "op.mem")
  | (refine opn_tup ?_; wtm_at "op.l")
  | (refine opn_lst ?_; wtm_at "op.l")
  | (refine opn_cell ?zopm ?zopl; (case zopm => wtm_at "op.mem"); (case zopl => first | exact opnL_refl | wtm_at "op.l")))
local macro_rules | `(tactic| wtm_at "op.l") => `(tactic| first
  | exact opnL_nil
  | (refine opnL_cons ?zopa ?zopb; (case zopa => wtm_at "op.d"); (case zopb => wtm_at "op.l")))
local macro_rules | `(tactic| wtm_at "op.one") => `(tactic| first
  | exact OpS.no
  | exact OpS.own rfl
  | (refine OpS.sh rfl ?_; wtm_at "op.d"))
local macro_rules | `(tactic| wtm_at "op.all") => `(tactic| ((repeat' first | exact slAll_nil | refine slAll_cons ?_ ?_) <;> wtm_at "op.one"))
local macro_rules | `(tactic| wtm_at "op.one2") => `(tactic| first
  | exact OpS.no
  | exact OpS.own rfl
  | exact OpS.sh rfl (by assumption)
  | exact OpS.sh rfl opn_refl)
local macro_rules | `(tactic| wtm_at "op.all2") => `(tactic| ((repeat' first | exact slAll_nil | refine slAll_cons ?_ ?_) <;> wtm_at "op.one2"))
section
variable {U : Wd} (T : Bl U.mg) {f : Addr} {fd : FuncData} {x q : Str}
include T
theorem ok_cell (F : Fun U.K x q s_law_cell_at f fd) : FnOk U.P U.w U.K U.mg U.base (L2.CX U.P U.w) 1 f fd ["_law_script", "_law_k"] (spX U A_cell) := by
  have hN := sc_law_cell_at.nd
  refine fn_ok F sc_law_cell_at (fun ds o h => ?_) fun ds o h => ?_
  · obtain ⟨ns, k, rfl, _⟩ := h
    rfl
  · obtain ⟨ns, k, rfl, h0, rfl⟩ := h
    refine sd_at (ρ' := [.sh _, .sh _]) rfl ?_
    wtm_at "s.if"
    · intro hk
      have hk := of_decide_eq_true hk
      wtm_at "s.ret"
      rfl
    · intro hk
      have hk := of_decide_eq_false hk
      refine sd_nil ?_
      wtm_at "s.ret"
      show (Sum.inl _ : Ot) = Sum.inl _
      unfold cellI
      rw [List.getD_eq_getElem?_getD, List.getElem?_eq_none (by omega)]
      rfl
theorem ok_mix (hC : FnT U "_law_cell_at" 1 A_cell) (F : Fun U.K x q s_law_mix f fd) : FnOk U.P U.w U.K U.mg U.base (L2.CX U.P U.w) 2 f fd ["_law_script", "_law_first", "_law_k"] (spX U A_mix) := by
  have hN := sc_law_mix.nd
  refine fn_ok F sc_law_mix (fun ds o h => ?_) fun ds o h => ?_
  · obtain ⟨ns, fi, k, rfl, _⟩ := h
    rfl
  · obtain ⟨ns, fi, k, rfl, ⟨h0, h1, h2⟩, ho⟩ := h
    refine sd_at (ρ' := [.sh (.scr ns), .sh (.int fi), .sh (.int k), .no, .no]) rfl ?_
    wtm_at "s.set"
    refine sd_at (ρ' := [.sh (.scr ns), .sh (.int fi), .sh (.int k), .sh (.int (mixM ns fi)), .no]) rfl ?_
    obtain ⟨M, hM⟩ : ∃ M, M = mixM ns fi := ⟨_, rfl⟩
    have hp := mixM_pos ns fi
    have hq := mixM_le h0 h2
    unfold mixI at ho
    rw [← hM] at hp hq ho ⊢
    have hl := fmod_lo (a := k) hp
    have hc : 0 ≤ fi + k.fmod M := by omega
    wtm_at "s.set"
    refine sd_at (ρ' := [.sh (.scr ns), .sh (.int fi), .sh (.int k), .sh (.int M), .sh (.int (cellI ns (fi + k.fmod M)))]) rfl ?_
    wtm_at "s.if"
    · intro hk
      have hk := of_decide_eq_true hk
      rw [if_pos hk] at ho
      wtm_at "s.ret"
      exact ho
    · intro hk
      have hk := of_decide_eq_false hk
      rw [if_neg hk] at ho
      refine sd_nil ?_
      wtm_at "s.ret"
      exact ho
theorem ok_on (F : Fun U.K x q s_law_on f fd) : FnOk U.P U.w U.K U.mg U.base (L2.CX U.P U.w) 1 f fd ["_law_number", "_law_mark", "_law_way", "_law_many"] (spX U (A_on worthL)) := by
  have hN := sc_law_on.nd
  refine fn_ok F sc_law_on (fun ds o h => ?_) fun ds o h => ?_
  · obtain ⟨n, mk, way, m, rfl, _⟩ := h
    rfl
  · obtain ⟨n, mk, way, m, rfl, ⟨h0, h8, hm⟩, ho⟩ := h
    have h8 : mk < 8 := h8
    refine sd_at (ρ' := [.sh (.int n), .sh (.int mk), .sh (.int way), .sh (.int m), .no, .no, .no]) rfl ?_
    wtm_at "s.set"
    refine sd_at (ρ' := [.sh (.int n), .sh (.int mk), .sh (.int way), .sh (.int m), .sh (.int (worthL.getD mk.toNat 0)), .no, .no]) rfl ?_
    obtain ⟨hw1, hw2⟩ := worth_pos h0 h8
    unfold onB at ho
    generalize worthL.getD mk.toNat 0 = w at *
    wtm_at "s.set"
    wtm_at "s.set"
    refine sd_at (ρ' := [.sh (.int n), .sh (.int mk), .sh (.int way), .sh (.int m), .sh (.int w), .sh (.bl (decide ((n.fdiv w).fmod 2 = 1))), .sh (.bl (decide (((n.fdiv 256).fdiv w).fmod 2 = 1)))]) ?_ ?_
    · simp only [Rs.d, deq_int]
      rfl
    wtm_at "s.if"
    · intro hk
      simp only [Rs.d, deq_int, decide_eq_true_eq] at hk
      rw [if_pos hk] at ho
      wtm_at "s.ret"
      exact ho
    intro hk
    simp only [Rs.d, deq_int, decide_eq_false_iff_not] at hk
    rw [if_neg hk] at ho
    refine sd_nil ?_
    wtm_at "s.if"
    · intro hk
      simp only [Rs.d, deq_int, decide_eq_true_eq] at hk
      rw [if_pos hk] at ho
      wtm_at "s.ret"
      exact ho
    intro hk
    simp only [Rs.d, deq_int, decide_eq_false_iff_not] at hk
    rw [if_neg hk] at ho
    refine sd_nil ?_
    wtm_at "s.if"
    · intro hk
      simp only [Rs.d, deq_int, decide_eq_true_eq] at hk
      rw [if_pos hk] at ho
      wtm_at "s.ret"
      exact ho
    intro hk
    simp only [Rs.d, deq_int, decide_eq_false_iff_not] at hk
    rw [if_neg hk] at ho
    refine sd_nil ?_
    have hm1 : m + 1 ≠ 0 := by omega
    wtm_at "s.ret"
    rw [ho]
    show (Sum.inl _ : Ot) = Sum.inl _
    simp only [Rs.d, deq_int]
end
local macro_rules | `(tactic| wtm_at "m.hint") => `(tactic| first | exact prime_ok (by omega) | exact prime_ok hx)
section
variable {U : Wd} (T : Bl U.mg) {f : Addr} {fd : FuncData} {x q : Str}
include T
theorem ok_whole (F : Fun U.K x q s_law_whole f fd) : FnOk U.P U.w U.K U.mg U.base (L2.CX U.P U.w) 1 f fd ["_law_found"] (spX U A_whole) := by
  have hN := sc_law_whole.nd
  have t1 := T.int
  have t2 := T.bool
  refine fn_ok F sc_law_whole (fun ds o h => ?_) fun ds o h => ?_
  · obtain ⟨i, rfl, _⟩ := h
    rfl
  · obtain ⟨i, rfl, rfl⟩ := h
    refine sd_at (ρ' := [.sh _]) rfl ?_
    wtm_at "s.ret"
    rfl
end
def tabM (ns : List Int) : Int := if ((cellI ns 0).fdiv 6).fmod 8 = 1 then 6 + ((cellI ns 0).fdiv 48).fmod 3 else (cellI ns 0).fmod 6
def tabT1 (ns : List Int) : Int := if ((cellI ns 1).fdiv 7).fmod 8 = 1 then 7 + ((cellI ns 1).fdiv 56).fmod 6 else (cellI ns 1).fmod 7
def tabT (ns : List Int) : Int := if 5 < tabM ns then (tabT1 ns).fmod 6 else tabT1 ns
def tabRow (ns : List Int) (k : Nat) : List Int := (rangeL (tabM ns)).filter fun mk => onB worthL (mixI ns 10 (k : Int)) mk ((cellI ns 2).fmod 4) (tabM ns)
def tabRows (ns : List Int) : List (List Int) := (List.range (tabT ns).toNat).map (tabRow ns)
theorem tabM_in (ns : List Int) : 0 ≤ tabM ns ∧ tabM ns ≤ 8 := by
  unfold tabM
  have := fmod_lo (a := cellI ns 0) (b := 6) (by decide)
  have := fmod_hi (a := cellI ns 0) (b := 6) (by decide)
  have := fmod_lo (a := (cellI ns 0).fdiv 48) (b := 3) (by decide)
  have := fmod_hi (a := (cellI ns 0).fdiv 48) (b := 3) (by decide)
  split <;> omega
theorem tabT1_in (ns : List Int) : 0 ≤ tabT1 ns ∧ tabT1 ns ≤ 12 := by
  unfold tabT1
  have := fmod_lo (a := (cellI ns 1).fdiv 56) (b := 6) (by decide)
  have := fmod_hi (a := (cellI ns 1).fdiv 56) (b := 6) (by decide)
  have := fmod_lo (a := cellI ns 1) (b := 7) (by decide)
  have := fmod_hi (a := cellI ns 1) (b := 7) (by decide)
  split <;> omega
theorem tabT_in (ns : List Int) : 0 ≤ tabT ns ∧ tabT ns ≤ 12 := by
  unfold tabT
  have := tabT1_in ns
  have := fmod_lo (a := tabT1 ns) (b := 6) (by decide)
  have := fmod_hi (a := tabT1 ns) (b := 6) (by decide)
  split <;> omega
theorem tabRow_in (ns : List Int) (k : Nat) : InM (tabM ns) (tabRow ns k) := (range_in _).filter _
theorem tabRows_len (ns : List Int) : (tabRows ns).length ≤ 12 := by
  unfold tabRows
  rw [List.length_map, List.length_range]
  have := tabT_in ns
  omega
theorem tabRows_in {ns : List Int} {r : List Int} (h : r ∈ tabRows ns) : InM (tabM ns) r := by
  obtain ⟨k, _, rfl⟩ := List.mem_map.mp h
  exact tabRow_in ns k
abbrev A_table : List D → Ot → Prop := fun ds o => ∃ ns : List Int, ds = [.scr ns] ∧ ns.length ≤ 63 ∧ o = .inl (.sh (.tup [.int (tabM ns), D.sets (tabRows ns)]))
section
variable {U : Wd} (T : Bl U.mg) {f : Addr} {fd : FuncData} {x q : Str}
include T
theorem ok_table (hC : FnT U "_law_cell_at" 1 A_cell) (hMx : FnT U "_law_mix" 2 A_mix) (hO : FnT U "_law_on" 1 (A_on worthL)) (F : Fun U.K x q s_law_table_by f fd) : FnOk U.P U.w U.K U.mg U.base (L2.CX U.P U.w) 3 f fd ["_law_script"] (spX U A_table) := by
  have hN := sc_law_table_by.nd
  refine fn_ok F sc_law_table_by (fun ds o h => ?_) fun ds o h => ?_
  · obtain ⟨ns, rfl, _⟩ := h
    rfl
  · obtain ⟨ns, rfl, hn, rfl⟩ := h
    refine sd_at (ρ' := [.sh (.scr ns), .no, .no, .no, .no, .no, .no]) rfl ?_
    wtm_at "s.set"
    refine sd_at (ρ' := [.sh (.scr ns), .sh (.int ((cellI ns 0).fmod 6)), .no, .no, .no, .no, .no]) rfl ?_
    refine' sd_cons (s_ifset (d' := .int (tabM ns)) ?zca ?zea ?zh1a ?zh2a ?zh0a ?zqa hN ?zj1a ?zj2a)
    case zj1a => wtm_at "m.dec"
    case zj2a => wtm_at "m.dec"
    case zh0a => exact rfl
    case zca => wtm_at "m.td"
    case zea => intro _; wtm_at "m.eds"
    case zh1a =>
      intro hk
      simp only [Rs.d, deq_int] at hk
      unfold tabM
      rw [if_pos (of_decide_eq_true hk)]
    case zh2a =>
      intro hk
      simp only [Rs.d, deq_int] at hk
      unfold tabM
      rw [if_neg (of_decide_eq_false hk)]
    case zqa =>
    obtain ⟨hm0, hm8⟩ := tabM_in ns
    obtain ⟨l1, l2⟩ := tabT_in ns
    refine sd_at (ρ' := [.sh (.scr ns), .sh (.int (tabM ns)), .no, .no, .no, .no, .no]) rfl ?_
    wtm_at "s.set"
    refine sd_at (ρ' := [.sh (.scr ns), .sh (.int (tabM ns)), .sh (.int ((cellI ns 1).fmod 7)), .no, .no, .no, .no]) rfl ?_
    refine' sd_cons (s_ifset (d' := .int (tabT1 ns)) ?zcb ?zeb ?zh1b ?zh2b ?zh0b ?zqb hN ?zj1b ?zj2b)
    case zj1b => wtm_at "m.dec"
    case zj2b => wtm_at "m.dec"
    case zh0b => exact rfl
    case zcb => wtm_at "m.td"
    case zeb => intro _; wtm_at "m.eds"
    case zh1b =>
      intro hk
      simp only [Rs.d, deq_int] at hk
      unfold tabT1
      rw [if_pos (of_decide_eq_true hk)]
    case zh2b =>
      intro hk
      simp only [Rs.d, deq_int] at hk
      unfold tabT1
      rw [if_neg (of_decide_eq_false hk)]
    case zqb =>
    refine sd_at (ρ' := [.sh (.scr ns), .sh (.int (tabM ns)), .sh (.int (tabT1 ns)), .no, .no, .no, .no]) rfl ?_
    refine' sd_cons (s_ifset (d' := .int (tabT ns)) ?zcc ?zec ?zh1c ?zh2c ?zh0c ?zqc hN ?zj1c ?zj2c)
    case zj1c => wtm_at "m.dec"
    case zj2c => wtm_at "m.dec"
    case zh0c => exact rfl
    case zcc => wtm_at "m.td"
    case zec => intro _; wtm_at "m.eds"
    case zh1c =>
      intro hk
      unfold tabT
      rw [if_pos (of_decide_eq_true hk)]
    case zh2c =>
      intro hk
      unfold tabT
      rw [if_neg (of_decide_eq_false hk)]
    case zqc =>
    refine sd_at (ρ' := [.sh (.scr ns), .sh (.int (tabM ns)), .sh (.int (tabT ns)), .no, .no, .no, .no]) rfl ?_
    wtm_at "s.own"
    refine sd_at (ρ' := [.sh (.scr ns), .sh (.int (tabM ns)), .sh (.int (tabT ns)), .own (((List.range 0).map (tabRow ns)).map encS), .no, .no, .no]) rfl ?_
    refine' sd_cons (s_forR (m := (tabT ns).toNat) ?zi (fun i ρ => ∃ s u, ρ = [.sh (.scr ns), .sh (.int (tabM ns)), .sh (.int (tabT ns)), .own (((List.range i).map (tabRow ns)).map encS), s, u, .no]) ⟨.no, .no, rfl⟩ ?zs ?zd hN ?zi3 ?zi4)
    case zi3 => wtm_at "m.dec"
    case zi4 => wtm_at "m.dec"
    case zi => wtm_at "m.if"
    case zs =>
      intro i ρ' hi hs
      obtain ⟨s, u, rfl⟩ := hs
      have hi2 : (0 : Int) ≤ (i : Int) := by omega
      refine sd_at (ρ' := [.sh (.scr ns), .sh (.int (tabM ns)), .sh (.int (tabT ns)), .own (((List.range i).map (tabRow ns)).map encS), .sh (.int (i : Int)), u, .no]) rfl ?_
      have hmx : 0 ≤ (10 : Int) ∧ 0 ≤ (i : Int) ∧ ns.length ≤ 63 := ⟨by decide, hi2, hn⟩
      wtm_at "s.set"
      refine sd_at (ρ' := [.sh (.scr ns), .sh (.int (tabM ns)), .sh (.int (tabT ns)), .own (((List.range i).map (tabRow ns)).map encS), .sh (.int (i : Int)), .sh (.int (mixI ns 10 (i : Int))), .no]) rfl ?_
      have hon : ∀ j : Nat, j < (tabM ns).toNat → 0 ≤ (j : Int) ∧ (j : Int) < (worthL.length : Int) ∧ 0 ≤ tabM ns := fun j hj => ⟨by omega, by show (j : Int) < 8; omega, hm0⟩
      have hz : (((List.range i).map (tabRow ns)).map encS).length < sizeLine := by
        rw [List.length_map, List.length_map, List.length_range, sizeLine_eq]
        omega
      have hmz : tabM ns ≤ 16777216 := by omega
      refine sd_cons (s_app (d := encS (tabRow ns i)) (ED.toSh (r := .fr ((tabRow ns i).map D.int)) (ED.cast (r := ?zr5) ?ze5 ?zq5) (.fr _) rfl) rfl ?zv5 hz ?zq6)
      case zv5 => wtm_at "m.dec"
      case ze5 => wtm_at "m.ed"
      case zq5 =>
        unfold tabRow
        rw [filter_range]
      case zq6 =>
        refine sd_nil ⟨.sh (.int (i : Int)), .sh (.int (mixI ns 10 (i : Int))), ?_⟩
        rw [List.range_succ, List.map_append, List.map_append]
        rfl
    case zd =>
      intro ρ' hs
      obtain ⟨s, u, rfl⟩ := hs
      refine sd_freeze 3 rfl ?_
      refine sd_at (ρ' := [.sh (.scr ns), .sh (.int (tabM ns)), .sh (.int (tabT ns)), .sh (D.sets (tabRows ns)), s, u, .no]) rfl ?_
      wtm_at "s.ret"
      rfl
end
end Mb
set_option Elab.async false
set_option linter.all false
set_option maxRecDepth 100000
set_option maxHeartbeats 4000000
namespace Mb
open PySem PySem.Spec PyProof.Rows L2
local macro_rules | `(tactic| wtm_at "m.dec") => `(tactic| (dsimp only [Gx.blk]; decide +kernel))
local macro_rules | `(tactic| wtm_at "m.hint") => `(tactic| fail)
local macro_rules | `(tactic| wtm_at "m.side") => `(tactic| first | with_reducible assumption | assumption | decide | omega | exact Or.inr (And.intro (by omega) (by omega)) | exact Or.inl (And.intro (by omega) (by omega)) | exact And.intro (by omega) (by omega) | (simp only [List.length_cons, List.length_nil, List.length_map, List.length_range, List.length_append, sizeLine_eq]; omega) | wtm_at "m.hint" | solve_by_elim)
local macro_rules | `(tactic| wtm_at "m.dn") => `(tactic| first
  | exact Dn.int _ _ | exact Dn.bl _ _ | exact Dn.non _
  | (refine dn_lst (n := _) ?_; wtm_at "m.dm") | (refine dn_nls (n := _) ?_; wtm_at "m.dm") | (refine dn_tup (n := _) ?_; wtm_at "m.dm"))
local macro_rules | `(tactic| wtm_at "m.dm") => `(tactic| first
  | exact dm_nil | (refine dm_map ?_; intro _; wtm_at "m.dn") | (refine dm_cons ?a ?b; (case a => wtm_at "m.dn"); (case b => wtm_at "m.dm")) | (refine dm_app ?a ?b; (case a => wtm_at "m.dm"); (case b => wtm_at "m.dm")))
local macro_rules | `(tactic| wtm_at "m.tosh") => `(tactic| first | exact ToSh.sh _ | exact ToSh.fr _)
local macro_rules | `(tactic| wtm_at "m.eds") => `(tactic| (refine' ED.toSh ?h ?t ?q; (case h => wtm_at "m.ed"); (case t => wtm_at "m.tosh"); (case q => exact rfl)))
local macro_rules | `(tactic| wtm_at "m.tosha") => `(tactic| first | exact ToSh.un _ | exact ToSh.sh _ | exact ToSh.fr _)
local macro_rules | `(tactic| wtm_at "m.ad") => `(tactic| first
  | exact ad_nil
  | (refine' ad_cons' ?h ?t ?r; (case h => wtm_at "m.ed"); (case t => wtm_at "m.tosha"); (case r => wtm_at "m.ad")))
local macro_rules | `(tactic| wtm_at "m.adk") => `(tactic| first
  | exact ad_nil
  | (refine' ad_cons' ?h ?t ?r; (case h => wtm_at "m.ed"); (case t => wtm_at "m.tosh"); (case r => wtm_at "m.adk")))
local macro_rules | `(tactic| wtm_at "m.ic") => `(tactic| first
  | (refine' ic_range (by assumption) ?a ?b ?c ?g; (case a => wtm_at "m.ed"); (case g => rfl); (case b => wtm_at "m.side"); (case c => wtm_at "m.side"))
  | (refine' ic_list ?h ?q; (case h => wtm_at "m.ed"); (case q => exact rfl)))
local macro_rules | `(tactic| wtm_at "m.if") => `(tactic| first
  | (refine' if_range (by assumption) ?a ?b ?c ?g; (case a => wtm_at "m.ed"); (case g => rfl); (case b => wtm_at "m.side"); (case c => wtm_at "m.side"))
  | (refine' if_range2 (by assumption) ?a ?a2 ?b ?g; (case a => wtm_at "m.ed"); (case a2 => wtm_at "m.ed"); (case g => rfl); (case b => wtm_at "m.side"))
  | (refine' if_list ?h; (case h => wtm_at "m.ed"))
  | (refine' if_nls ?h; (case h => wtm_at "m.ed"))
  | (refine' if_fr ?h; (case h => wtm_at "m.ed"))
  | (refine' if_tup ?h; (case h => wtm_at "m.ed")))
local macro_rules | `(tactic| wtm_at "m.ld") => `(tactic| first
  | (refine' ld_lc0 ?n ?i ?j ?o ?l ?e; (case n => assumption); (case i => wtm_at "m.ic"); (case j => wtm_at "m.dec"); (case o => wtm_at "m.dec"); (case l => wtm_at "m.dec"); (case e => intro _ hx; (try have hx := List.mem_range.mp hx); wtm_at "m.eds"))
  | (refine' ld_lc1 ?n ?i ?j ?o ?l ?t ?e; (case n => assumption); (case i => wtm_at "m.ic"); (case j => wtm_at "m.dec"); (case o => wtm_at "m.dec"); (case l => wtm_at "m.dec"); (case t => (intro _ hx; (try have hx := List.mem_range.mp hx); refine' TD.cast ?h ?q; (case h => wtm_at "m.td"); (case q => exact rfl))); (case e => intro _ hx _; (try have hx := List.mem_range.mp hx); wtm_at "m.eds"))
  | (refine' ld_lcp0 ?n ?i ?j ?j2 ?o ?l ?l2 ?e; (case n => assumption); (case i => wtm_at "m.ic"); (case j => wtm_at "m.dec"); (case j2 => wtm_at "m.dec"); (case o => wtm_at "m.dec"); (case l => wtm_at "m.dec"); (case l2 => wtm_at "m.dec"); (case e => intro _ _; wtm_at "m.eds"))
  | (refine' ld_lcp1 ?n ?i ?j ?j2 ?o ?l ?l2 ?t ?e; (case n => assumption); (case i => wtm_at "m.ic"); (case j => wtm_at "m.dec"); (case j2 => wtm_at "m.dec"); (case o => wtm_at "m.dec"); (case l => wtm_at "m.dec"); (case l2 => wtm_at "m.dec"); (case t => (intro _ hx; (try have hx := List.mem_range.mp hx); refine' TD.cast ?h ?q; (case h => wtm_at "m.td"); (case q => exact rfl))); (case e => intro _ hx _; (try have hx := List.mem_range.mp hx); wtm_at "m.eds")))
local macro_rules | `(tactic| wtm_at "m.addr") => `(tactic| first | exact AddR.int _ _ | (refine' AddR.cat ?x ?y ?z; (case x => exact rfl); (case y => exact rfl); (case z => wtm_at "m.side")))
local macro_rules | `(tactic| wtm_at "m.at") => `(tactic| first
  | exact rfl
  | assumption
  | (refine atI_get (d := (0 : Int)) ?a ?b; (case a => wtm_at "m.side"); (case b => wtm_at "m.side"))
  | (refine atI_ints (d := default) ?a ?b; (case a => wtm_at "m.side"); (case b => wtm_at "m.side"))
  | (refine atI_lit ?a ?b ?c; (case a => wtm_at "m.side"); (case b => wtm_at "m.side"); (case c => rfl))
  | solve_by_elim)
local macro_rules | `(tactic| wtm_at "m.ixd") => `(tactic| first
  | (refine' IxD.tup ?h; (case h => wtm_at "m.at"))
  | (refine' IxD.scr ?h; (case h => wtm_at "m.at"))
  | (refine' IxD.list ?x ?h; (case x => exact rfl); (case h => wtm_at "m.at")))
local macro_rules | `(tactic| wtm_at "m.cp") => `(tactic| first
  | (refine' cp_lt ?a ?b; (case a => wtm_at "m.ed"); (case b => wtm_at "m.ed"))
  | (refine' cp_le ?a ?b; (case a => wtm_at "m.ed"); (case b => wtm_at "m.ed"))
  | (refine' cp_gt ?a ?b; (case a => wtm_at "m.ed"); (case b => wtm_at "m.ed"))
  | (refine' cp_ge ?a ?b; (case a => wtm_at "m.ed"); (case b => wtm_at "m.ed"))
  | (refine' cp_eq ?a ?b ?c ?d; (case a => wtm_at "m.ed"); (case b => wtm_at "m.ed"); (case c => wtm_at "m.dn"); (case d => wtm_at "m.dn"))
  | (refine' cp_ne ?a ?b ?c ?d; (case a => wtm_at "m.ed"); (case b => wtm_at "m.ed"); (case c => wtm_at "m.dn"); (case d => wtm_at "m.dn"))
  | (refine' cp_in ?a ?b ?e ?c ?d ?m; (case a => wtm_at "m.ed"); (case b => wtm_at "m.ed"); (case e => exact rfl); (case c => wtm_at "m.dn"); (case d => wtm_at "m.dm"); (case m => rfl))
  | (refine' cp_nin ?a ?b ?e ?c ?d ?m; (case a => wtm_at "m.ed"); (case b => wtm_at "m.ed"); (case e => exact rfl); (case c => wtm_at "m.dn"); (case d => wtm_at "m.dm"); (case m => rfl))
  | (refine' cp_isN ?a; (case a => wtm_at "m.ed"))
  | (refine' cp_notN ?a; (case a => wtm_at "m.ed"))
  | (refine' ch_le_lt ?a ?b ?c; (case a => wtm_at "m.ed"); (case b => wtm_at "m.ed"); (case c => wtm_at "m.ed"))
  | (refine' ch_le_le ?a ?b ?c; (case a => wtm_at "m.ed"); (case b => wtm_at "m.ed"); (case c => wtm_at "m.ed")))
local macro_rules | `(tactic| wtm_at "m.tw") => `(tactic| first
  | (refine' tw_and ?a ?b; (case a => wtm_at "m.td"); (case b => intro _; wtm_at "m.tw"))
  | (refine' tw_or ?a ?b; (case a => wtm_at "m.td"); (case b => intro _; wtm_at "m.tw"))
  | (refine' tw_and1 ?a; (case a => wtm_at "m.td"))
  | (refine' tw_or1 ?a; (case a => wtm_at "m.td")))
local macro_rules | `(tactic| wtm_at "m.td") => `(tactic| first
  | (refine' And.right (a := ?p) ?h; (case h => wtm_at "m.cp"))
  | (refine' td_not ?h; (case h => wtm_at "m.td"))
  | (refine' td_bool ?h; (case h => wtm_at "m.tw"))
  | (refine' td_val ?h; (case h => wtm_at "m.ed")))
local macro_rules | `(tactic| wtm_at "m.bo") => `(tactic| first
  | (refine' ed_and ?a ?b; (case a => wtm_at "m.ed"); (case b => intro _; wtm_at "m.bo"))
  | (refine' ed_or ?a ?b; (case a => wtm_at "m.ed"); (case b => intro _; wtm_at "m.bo"))
  | (refine' ed_one ?a; (case a => wtm_at "m.ed")))
local macro_rules | `(tactic| wtm_at "m.pre") => `(tactic| first
  | exact ⟨_, rfl, rfl⟩ | exact ⟨_, _, rfl, rfl⟩ | exact ⟨_, _, _, rfl, rfl⟩ | exact ⟨_, _, _, _, rfl, rfl⟩ | exact ⟨_, _, _, _, _, rfl, rfl⟩
  | (refine ⟨_, rfl, ?_, rfl⟩; wtm_at "m.side") | (refine ⟨_, _, rfl, ?_, rfl⟩; wtm_at "m.side") | (refine ⟨_, _, _, rfl, ?_, rfl⟩; wtm_at "m.side") | (refine ⟨_, _, _, _, rfl, ?_, rfl⟩; wtm_at "m.side") | (refine ⟨_, _, _, _, _, rfl, ?_, rfl⟩; wtm_at "m.side"))
local macro_rules | `(tactic| wtm_at "m.call") => `(tactic| first
  | wtm_at "m.direct"
  | (refine' ed_thaw ?h ?d; (case h => wtm_at "m.direct"); (case d => rfl)))
local macro_rules | `(tactic| wtm_at "m.od") => `(tactic| first | exact od_none | (refine' od_some ?h; (case h => wtm_at "m.ed")))
local macro_rules | `(tactic| wtm_at "m.direct") => `(tactic| first
  | (refine' ed_call ?T ?k ?g ?a ?A; (case T => assumption); (case k => (dsimp only [Gx.blk]; decide)); (case g => rfl); (case a => wtm_at "m.ad"); (case A => wtm_at "m.pre"))
  | (refine' ed_many (by assumption) ?a ?b; (case a => wtm_at "m.ed"); (case b => exact rfl))
  | (refine' ed_rows (by assumption) ?a; (case a => wtm_at "m.ed"))
  | (refine' ed_meth (by assumption) ?T ?k ?o ?d ?a ?A; (case T => assumption); (case k => (dsimp only [Gx.blk]; decide)); (case o => wtm_at "m.ed"); (case d => exact rfl); (case a => wtm_at "m.ad"); (case A => wtm_at "m.pre")))
local macro_rules | `(tactic| wtm_at "m.ed") => `(tactic| first
  | (refine' ed_varA ?h ?v; (case h => exact rfl); (case v => rfl))
  | (refine' ed_var ?h ?v; (case h => exact rfl); (case v => rfl))
  | exact ed_int
  | (refine' ed_ixR ?a ?b ?c; (case a => wtm_at "m.ed"); (case b => wtm_at "m.ed"); (case c => wtm_at "m.ixd"))
  | (refine' And.left (b := ?p) ?h; (case h => wtm_at "m.cp"))
  | (refine' ed_addR ?a ?b ?c; (case a => wtm_at "m.ed"); (case b => wtm_at "m.ed"); (case c => wtm_at "m.addr"))
  | (refine' ed_sub ?a ?b; (case a => wtm_at "m.ed"); (case b => wtm_at "m.ed"))
  | (refine' ed_mul ?a ?b ?c; (case a => wtm_at "m.ed"); (case b => wtm_at "m.ed"); (case c => wtm_at "m.side"))
  | (refine' ed_fdiv ?a ?b ?c; (case a => wtm_at "m.ed"); (case b => wtm_at "m.ed"); (case c => wtm_at "m.side"))
  | (refine' ed_mod ?a ?b ?c; (case a => wtm_at "m.ed"); (case b => wtm_at "m.ed"); (case c => wtm_at "m.side"))
  | (refine' ed_pow ?a ?b ?c; (case a => wtm_at "m.ed"); (case b => wtm_at "m.ed"); (case c => wtm_at "m.side"))
  | (refine' ed_neg ?a; (case a => wtm_at "m.ed"))
  | (refine' LD.ed ?a; (case a => wtm_at "m.ld"))
  | (refine' ed_len (by assumption) ?a ?b ?g; (case a => wtm_at "m.ed"); (case b => exact rfl); (case g => rfl))
  | (refine' ed_listRange (by assumption) ?a ?b ?c ?g ?g2; (case a => wtm_at "m.ed"); (case b => wtm_at "m.side"); (case c => wtm_at "m.side"); (case g => rfl); (case g2 => rfl))
  | (refine' ed_list (by assumption) ?a ?b ?g; (case a => wtm_at "m.ed"); (case b => exact rfl); (case g => rfl))
  | (refine' ed_all (by assumption) ?a ?b ?g; (case a => wtm_at "m.ed"); (case b => exact rfl); (case g => rfl))
  | (refine' ed_any (by assumption) ?a ?b ?g; (case a => wtm_at "m.ed"); (case b => exact rfl); (case g => rfl))
  | (refine' ed_sum (by assumption) ?a ?b ?g; (case a => wtm_at "m.ed"); (case b => exact rfl); (case g => rfl))
  | (refine' ed_sorted (by assumption) ?a ?b ?g; (case a => wtm_at "m.ed"); (case b => exact rfl); (case g => rfl))
  | (refine' ed_intB (by assumption) ?a ?g; (case a => wtm_at "m.ed"); (case g => rfl))
  | (refine' ed_max (by assumption) ?a ?b ?g; (case a => wtm_at "m.ed"); (case b => wtm_at "m.ed"); (case g => rfl))
  | (refine' ed_min (by assumption) ?a ?b ?g; (case a => wtm_at "m.ed"); (case b => wtm_at "m.ed"); (case g => rfl))
  | (refine' ed_isi (k := true) (by assumption) ?a ?b ?t ?k ?g; (case a => wtm_at "m.ed"); (case b => wtm_at "m.ed"); (case t => exact rfl); (case k => decide +kernel); (case g => rfl))
  | (refine' ed_isi (k := false) (by assumption) ?a ?b ?t ?k ?g; (case a => wtm_at "m.ed"); (case b => wtm_at "m.ed"); (case t => exact rfl); (case k => decide +kernel); (case g => rfl))
  | (refine' ed_tup ?a ?b; (case a => wtm_at "m.adk"); (case b => wtm_at "m.side"))
  | (refine' ed_lst ?a ?b; (case a => wtm_at "m.adk"); (case b => wtm_at "m.side"))
  | (refine' ed_sl ?a ?x ?l ?u; (case a => wtm_at "m.ed"); (case x => exact rfl); (case l => wtm_at "m.od"); (case u => wtm_at "m.od"))
  | (refine' ed_not ?a; (case a => wtm_at "m.ed"))
  | wtm_at "m.bo"
  | wtm_at "m.call"
  | (refine' ed_own ?h ?v; (case h => exact rfl); (case v => rfl))
  | exact ed_bl
  | exact ed_non
  | (refine' ed_globI ?h ?m; (case h => rfl); (case m => assumption))
  | (refine' ed_tyInt (by assumption) ?g; (case g => rfl))
  | (refine' ed_tyList (by assumption) ?g; (case g => rfl))
  | (refine' ed_tyTuple (by assumption) ?g; (case g => rfl))
  | (refine' ed_tyBool (by assumption) ?g; (case g => rfl)))
local macro_rules | `(tactic| wtm_at "s.set") => `(tactic| (refine' sd_cons (s_set ?e ?q ?n ?i ?o); (case n => assumption); (case i => wtm_at "m.dec"); (case o => wtm_at "m.dec"); (case e => wtm_at "m.eds")))
local macro_rules | `(tactic| wtm_at "s.own") => `(tactic| (refine' sd_cons (s_own ?e ?q ?n ?i ?o); (case n => assumption); (case i => wtm_at "m.dec"); (case o => wtm_at "m.dec"); (case e => wtm_at "m.ed")))
local macro_rules | `(tactic| wtm_at "s.lc") => `(tactic| (refine' sd_cons (s_lc ?e ?q ?i ?k ?y ?l ?a); (case i => wtm_at "m.dec"); (case k => rfl); (case y => rfl); (case l => rfl); (case a => decide +kernel); (case e => wtm_at "m.ld")))
local macro_rules | `(tactic| wtm_at "s.lco") => `(tactic| (refine' sd_cons (s_lcO ?e ?q ?i ?k ?y ?l ?a); (case i => wtm_at "m.dec"); (case k => rfl); (case y => rfl); (case l => rfl); (case a => decide +kernel); (case e => wtm_at "m.ld")))
local macro_rules | `(tactic| wtm_at "s.lcc") => `(tactic| (refine' sd_cons (s_set ?e ?q ?n ?i ?o (swapF ?s)); (case n => assumption); (case i => wtm_at "m.dec"); (case o => wtm_at "m.dec"); (case s => rfl); (case e => (refine' ED.shr (LD.ed ?f); (case f => wtm_at "m.ld")))))
local macro_rules | `(tactic| wtm_at "s.ret") => `(tactic| (refine' sd_cons (s_ret ?e ?q); (case e => wtm_at "m.ed")))
local macro_rules | `(tactic| wtm_at "s.if") => `(tactic| (refine' sd_cons (s_if ?zzt ?zzy ?zzm); (case zzt => wtm_at "m.td")))
local macro_rules | `(tactic| wtm_at "s.ift") => `(tactic| (refine' sd_cons (s_if (td_thaw ?zzt) ?zzy ?zzm); (case zzt => wtm_at "m.td")))
local macro_rules | `(tactic| wtm_at "s.app") => `(tactic| (refine' sd_cons (s_app ?e ?h ?v ?z ?q); (case h => exact rfl); (case v => rfl); (case e => wtm_at "m.eds"); (case z => wtm_at "m.side")))
local macro_rules | `(tactic| wtm_at "s.ifset") => `(tactic| (refine' sd_cons (s_ifset ?c ?e ?h1 ?h2 ?h0 ?q ?n ?i ?o); (case n => assumption); (case i => wtm_at "m.dec"); (case o => wtm_at "m.dec"); (case h0 => exact rfl); (case c => wtm_at "m.td"); (case e => intro _; wtm_at "m.eds")))
local macro_rules | `(tactic| wtm_at "s.raise") => `(tactic| (refine' sd_cons (s_raise ?T ?g ?r); (case T => assumption); (case g => rfl)))
local macro_rules | `(tactic| wtm_at "m.make") => `(tactic| (refine' ed_make ?T ?k ?g ?a ?b ?A; (case T => assumption); (case k => (dsimp only [Gx.blk]; decide)); (case g => rfl); (case a => wtm_at "m.ed"); (case b => wtm_at "m.eds"); (case A => assumption)))
local macro_rules | `(tactic| wtm_at "sl.flat") => `(tactic| first | exact flat_sets | exact flat_tab | exact flat_scr | exact flat_int | exact flat_pair flat_int flat_sets)
local macro_rules | `(tactic| wtm_at "sl.one") => `(tactic| first
  | exact Or.inl rfl
  | exact SpM.no
  | exact SpR.no
  | exact SpM.told rfl
  | exact SpR.told rfl
  | (refine SpM.keep (by decide) rfl ?_ rfl; wtm_at "sl.flat")
  | exact SpM.conv (by decide) rfl conv_int.1
  | exact SpR.keep (by decide) (by decide) rfl rfl rfl
  | exact SpR.conv (by decide) rfl conv_int.2
  | exact SpR.conv (by decide) rfl back_rules
  | exact SpR.conv (by decide) rfl back_sets
  | (refine Or.inr ⟨_, rfl, rfl, ?_⟩; wtm_at "sl.flat"))
local macro_rules | `(tactic| wtm_at "sl.all") => `(tactic| ((repeat' first | exact slAll_nil | refine slAll_cons ?_ ?_) <;> wtm_at "sl.one"))
local macro_rules | `(tactic| wtm_at "op.mem") => `(tactic| first | exact .head _ | exact .tail _ (.head _) | exact .tail _ (.tail _ (.head _)) | exact .tail _ (.tail _ (.tail _ (.head _))) | exact .tail _ (.tail _ (.tail _ (.tail _ (.head _)))) | exact .tail _ (.tail _ (.tail _ (.tail _ (.tail _ (.head _))))) | exact .tail _ (.tail _ (.tail _ (.tail _ (.tail _ (.tail _ (.head _)))))))
local macro_rules | `(tactic| wtm_at "op.d") => `(tactic| first
  | exact opn_refl
  | (refine opn_ints ?_; wtm_at "op.mem")
  | (refine opn_tup ?_; wtm_at "op.l")
  | (refine opn_lst ?_; wtm_at "op.l")
  | (refine opn_cell ?zopm ?zopl; (case zopm => wtm_at "op.mem"); (case zopl => first | exact opnL_refl | wtm_at "op.l")))
local macro_rules | `(tactic| wtm_at "op.l") => `(tactic| first
  | exact opnL_nil
  | (refine opnL_cons ?zopa ?zopb; (case zopa => wtm_at "op.d"); (case zopb => wtm_at "op.l")))
local macro_rules | `(tactic| wtm_at "op.one") => `(tactic| first
  | exact OpS.no
  | exact OpS.own rfl
  | (refine OpS.sh rfl ?_; wtm_at "op.d"))
local macro_rules | `(tactic| wtm_at "op.all") => `(tactic| ((repeat' first | exact slAll_nil | refine slAll_cons ?_ ?_) <;> wtm_at "op.one"))
local macro_rules | `(tactic| wtm_at "op.one2") => `(tactic| first
  | exact OpS.no
  | exact OpS.own rfl
  | exact OpS.sh rfl (by assumption)
  | exact OpS.sh rfl opn_refl)
local macro_rules | `(tactic| wtm_at "op.all2") => `(tactic| ((repeat' first | exact slAll_nil | refine slAll_cons ?_ ?_) <;> wtm_at "op.one2"))
section
variable {m : Int} {rows : List (List Int)}
theorem mem_addP {acc : List (List Int)} {p X : List Int} : X ∈ addP acc p ↔ X ∈ acc ∨ X = p := by
  unfold addP
  split
  · rename_i h
    exact ⟨.inl, fun k => k.elim id fun e => e ▸ h⟩
  · simp
theorem mem_boxRow {found : List (List Int)} {row X : List Int} : X ∈ boxRow found row ↔ X ∈ found ∨ ∃ one ∈ found, X = bothL one row := by
  unfold boxRow
  have go : ∀ (l acc : List (List Int)), X ∈ l.foldl (fun acc one => addP acc (bothL one row)) acc ↔ X ∈ acc ∨ ∃ one ∈ l, X = bothL one row := by
    intro l
    induction l with
    | nil => intro acc; simp
    | cons a l ih =>
      intro acc
      rw [List.foldl_cons, ih, mem_addP]
      simp only [List.mem_cons, exists_eq_or_imp]
      exact or_assoc
  exact go found found
/-- the marks that all of some rows have -/
def meetL (m : Int) (l : List (List Int)) : List Int := (rangeL m).filter fun x => l.all fun r => decide (x ∈ r)
theorem mem_meetL {l : List (List Int)} {x : Int} : x ∈ meetL m l ↔ (0 ≤ x ∧ x < m) ∧ ∀ r ∈ l, x ∈ r := by
  unfold meetL
  rw [List.mem_filter, mem_range, List.all_eq_true]
  simp
theorem meet_in (l : List (List Int)) : InM m (meetL m l) := (range_in m).filter _
theorem meet_snoc (l : List (List Int)) (r : List Int) : meetL m (l ++ [r]) = bothL (meetL m l) r := by
  unfold meetL bothL
  rw [List.filter_filter]
  refine List.filter_congr fun x _ => ?_
  rw [List.all_append]
  simp [Bool.and_comm]
theorem meet_ext {l k : List (List Int)} (h : ∀ r, r ∈ l ↔ r ∈ k) : meetL m l = meetL m k := (meet_in l).one (meet_in k) (fun x hx => mem_meetL.mpr ⟨(mem_meetL.mp hx).1, fun r hr => (mem_meetL.mp hx).2 r ((h r).mpr hr)⟩) fun x hx => mem_meetL.mpr ⟨(mem_meetL.mp hx).1, fun r hr => (mem_meetL.mp hx).2 r ((h r).mp hr)⟩
theorem box_all (rows : List (List Int)) : ∀ X, X ∈ boxF m rows ↔ ∃ l : List (List Int), (∀ r ∈ l, r ∈ rows) ∧ X = meetL m l := by
  unfold boxF
  refine snocInd (p := fun rows => ∀ X, X ∈ rows.foldl boxRow [rangeL m] ↔ ∃ l : List (List Int), (∀ r ∈ l, r ∈ rows) ∧ X = meetL m l) ?_ ?_ rows
  · intro X
    rw [List.foldl_nil, List.mem_singleton]
    constructor
    · rintro rfl
      exact ⟨[], ⟨fun r h => absurd h List.not_mem_nil, (List.filter_eq_self.mpr fun _ _ => rfl).symm⟩⟩
    · rintro ⟨l, h, rfl⟩
      have : l = [] := List.eq_nil_iff_forall_not_mem.mpr fun r hr => nomatch h r hr
      rw [this]
      exact List.filter_eq_self.mpr fun _ _ => rfl
  · intro rows r ih X
    rw [List.foldl_append, List.foldl_cons, List.foldl_nil, mem_boxRow, ih]
    constructor
    · rintro (⟨l, h, rfl⟩ | ⟨one, h1, rfl⟩)
      · exact ⟨l, fun r hr => List.mem_append_left _ (h r hr), rfl⟩
      · obtain ⟨l, h, rfl⟩ := (ih one).mp h1
        refine ⟨l ++ [r], fun q hq => ?_, (meet_snoc l r).symm⟩
        rcases List.mem_append.mp hq with hq | hq
        · exact List.mem_append_left _ (h q hq)
        · exact List.mem_append_right _ hq
    · rintro ⟨l, h, rfl⟩
      by_cases hr : r ∈ l
      · refine .inr ⟨meetL m (l.filter fun q => !decide (q = r)), (ih _).mpr ⟨_, fun q hq => ?_, rfl⟩, ?_⟩
        · obtain ⟨h1, h2⟩ := List.mem_filter.mp hq
          rcases List.mem_append.mp (h q h1) with h3 | h3
          · exact h3
          · rw [List.mem_singleton.mp h3] at h2
            simp at h2
        · rw [← meet_snoc]
          refine meet_ext fun q => ?_
          rw [List.mem_append, List.mem_filter, List.mem_singleton]
          by_cases e : q = r
          · subst e
            exact ⟨fun _ => .inr rfl, fun _ => hr⟩
          · simp [e]
      · refine .inl ⟨l, fun q hq => ?_, rfl⟩
        rcases List.mem_append.mp (h q hq) with h3 | h3
        · exact h3
        · rw [List.mem_singleton.mp h3] at hq
          exact absurd hq hr
/-- the boxes' sets of marks are the closed ones -/
theorem box_closed {X : List Int} : X ∈ boxF m rows ↔ InM m X ∧ clL m rows X = X := by
  rw [box_all]
  constructor
  · rintro ⟨l, h, rfl⟩
    refine ⟨meet_in l, cl_eq (meet_in l) fun x hx => ?_⟩
    obtain ⟨h1, h2⟩ := mem_clL.mp hx
    refine mem_meetL.mpr ⟨h1, fun r hr => ?_⟩
    obtain ⟨i, hi, e⟩ := List.mem_iff_getElem.mp (h r hr)
    have := h2 i hi
    rw [List.getD_eq_getElem?_getD, List.getElem?_eq_getElem hi, Option.getD_some, e] at this
    exact this fun y hy => (mem_meetL.mp hy).2 r hr
  · rintro ⟨h, e⟩
    refine ⟨(thI rows X).map fun t => rows.getD t.toNat [], fun r hr => ?_, ?_⟩
    · obtain ⟨t, ht, rfl⟩ := List.mem_map.mp hr
      obtain ⟨i, hi, rfl, _⟩ := mem_thI.mp ht
      rw [Int.toNat_natCast, List.getD_eq_getElem?_getD, List.getElem?_eq_getElem hi, Option.getD_some]
      exact List.getElem_mem hi
    · conv => lhs; rw [← e]
      unfold clL mkL meetL
      refine List.filter_congr fun x _ => ?_
      rw [List.all_map]
      rfl
theorem box_known : (boxL m rows).map (·.2) = orderedL (boxF m rows) := by
  unfold boxL
  rw [List.map_map]
  exact List.map_id _
theorem mem_known {X : List Int} : X ∈ (boxL m rows).map (·.2) ↔ InM m X ∧ clL m rows X = X := by
  rw [box_known, ← box_closed]
  exact (List.mergeSort_perm _ _).mem_iff
theorem known_len : ((boxL m rows).map (·.2)).length = (boxL m rows).length := List.length_map _
theorem known_sorted : ((boxL m rows).map (·.2)).Pairwise fun a b => leS a b = true ∧ a ≠ b := by
  rw [box_known]
  have nd : (orderedL (boxF m rows)).Nodup := (List.mergeSort_perm _ _).nodup_iff.mpr (box_sets m rows).nodup
  exact (ordered_sorted (boxF m rows)).and nd
end
section
variable {m : Int} {rows : List (List Int)}
theorem box_iff {b : Rule} : b ∈ boxL m rows ↔ InM m b.2 ∧ clL m rows b.2 = b.2 ∧ b.1 = thI rows b.2 := by
  constructor
  · intro h
    obtain ⟨h1, h2, h3⟩ := box_mem h
    exact ⟨h1, (box_closed.mp h3).2, h2⟩
  · rintro ⟨h1, h2, h3⟩
    obtain ⟨b', hb, e⟩ := List.mem_map.mp (mem_known.mpr ⟨h1, h2⟩)
    have := (box_mem hb).2.1
    rw [show b = b' from Prod.ext (by rw [h3, this, e]) e.symm]
    exact hb
theorem th_cl {X : List Int} (h : inR m X = true) : thI rows (clL m rows X) = thI rows X := by
  unfold thI thL
  congr 1
  refine List.filter_congr fun i hi => ?_
  have hi := List.mem_range.mp hi
  rw [Bool.eq_iff_iff, sub_iff, sub_iff]
  constructor
  · intro hs x hx
    exact hs x (mem_clL.mpr ⟨inR_iff.mp h x hx, fun _ _ hq => hq x hx⟩)
  · intro hs x hx
    exact (mem_clL.mp hx).2 i hi hs
theorem box_of {X : List Int} (h : inR m X = true) : (thI rows X, clL m rows X) ∈ boxL m rows := by
  refine box_iff.mpr ⟨cl_in _, cl_idem _, ?_⟩
  exact (th_cl h).symm
end
abbrev bx (m : Int) (rows : List (List Int)) (b : Rule) : Bool := decide (b ∈ boxL m rows)
def overR (rows : List (List Int)) (a b : Rule) : Rule := (thI rows (bothL a.2 b.2), bothL a.2 b.2)
def underR (m : Int) (rows : List (List Int)) (a b : Rule) : Rule := (bothL a.1 b.1, mkL m rows (bothL a.1 b.1))
def wayR (m : Int) (rows : List (List Int)) (w : Int) (a b : Rule) : Rule := if w = 0 then overR rows a b else underR m rows a b
abbrev A_needB (cN : Addr) : List D → Ot → Prop := fun ds o => ∃ (m : Int) (rows : List (List Int)) (bs : List Rule), ds = [.tab m rows, D.rules bs] ∧ (0 ≤ m ∧ m ≤ 8 ∧ rows.length ≤ 12) ∧ o = if bs.all (bx m rows) then .inl (.sh .non) else .inr cN
abbrev A_over (cN : Addr) : List D → Ot → Prop := fun ds o => ∃ (m : Int) (rows : List (List Int)) (a b : Rule), ds = [.tab m rows, encR a, encR b] ∧ (0 ≤ m ∧ m ≤ 8 ∧ rows.length ≤ 12) ∧ o = if (bx m rows a && bx m rows b) then .inl (.sh (encR (overR rows a b))) else .inr cN
abbrev A_under (cN : Addr) : List D → Ot → Prop := fun ds o => ∃ (m : Int) (rows : List (List Int)) (a b : Rule), ds = [.tab m rows, encR a, encR b] ∧ (0 ≤ m ∧ m ≤ 8 ∧ rows.length ≤ 12) ∧ o = if (bx m rows a && bx m rows b) then .inl (.sh (encR (underR m rows a b))) else .inr cN
abbrev A_box : List D → Ot → Prop := fun ds o => ∃ (m : Int) (rows : List (List Int)) (ms : List Int), ds = [.int m, D.sets rows, .ints ms] ∧ (0 ≤ m ∧ m ≤ 8 ∧ rows.length ≤ 12) ∧ o = .inl (.sh (encR (thI rows ms, clL m rows ms)))
abbrev A_same : List D → Ot → Prop := fun ds o => ∃ a : Rule, ds = [encR a, encR a] ∧ o = .inl (.sh (.bl true))
abbrev A_dueB : List D → Ot → Prop := fun ds o => ∃ (m : Int) (rows : List (List Int)) (a b : Rule), ds = [.int m, D.sets rows, encR a, encR b] ∧ (0 ≤ m ∧ m ≤ 8 ∧ rows.length ≤ 12 ∧ inR (rows.length : Int) a.1 = true) ∧ o = .inl (.sh (.tup [encR (overR rows a b), encR (underR m rows a b)]))
abbrev A_badB : List D → Ot → Prop := fun ds o => ∃ (m : Int) (rows : List (List Int)) (w : Int) (a b : Rule), ds = [.tab m rows, .int w, encR a, encR b] ∧ (0 ≤ m ∧ m ≤ 8 ∧ rows.length ≤ 12 ∧ (bx m rows a && bx m rows b) = false) ∧ o = .inl (.sh .non)
abbrev A_badE : List D → Ot → Prop := fun ds o => ∃ (m : Int) (rows : List (List Int)) (w : Int) (a b : Rule), ds = [.tab m rows, .int w, encR a, encR b] ∧ (0 ≤ m ∧ m ≤ 8 ∧ rows.length ≤ 12 ∧ (bx m rows a && bx m rows b) = false) ∧ o = .inl (.sh (.bl true))
abbrev A_refs : List D → Ot → Prop := fun ds o => ∃ (m : Int) (rows : List (List Int)) (a b : Rule), ds = [.tab m rows, encR a, encR b] ∧ (0 ≤ m ∧ m ≤ 8 ∧ rows.length ≤ 12 ∧ bx m rows a = false) ∧ o = .inl (.sh (.bl true))
structure ErrsN (U : Wd) (cN cE cM cT cS : Addr) : Prop where
  x : ExcC U.K cN
  nn : PySem.W.exmOne U.K (.ref cN) (.ref cN) = some true
  ne : PySem.W.exmOne U.K (.ref cN) (.ref cE) = some true
  v : PySem.W.kitOne U.K (.ref cN) (.type "ValueError") = some true
  o : PySem.W.kitAny U.K (.ref cN) [.ref cM, .ref cT, .ref cS] = some false
theorem hso_yes {G : Gx} {R : Oc → Prop} {c : Addr} {ρ : List Sl} {cv : Value} {s : List Stmt} {l : List (Value × List Stmt)} (h : PySem.W.exmOne G.U.K (.ref c) cv = some true) (k : HD G s c ρ R) : HsO G R c ρ ((cv, s) :: l) := ⟨true, h, fun _ => k, fun q => nomatch q⟩
section
variable {U : Wd} (T : Bl U.mg) (C : TabOk U) {f : Addr} {fd : FuncData} {x q : Str} {cM cT cE cS cN : Addr}
include T C
theorem ok_needB (hB : FnT U "boxes" 3 A_boxes) (xN : ExT U "NoBox" cN) (F : Fun U.K x q s_need_boxes f fd) : FnOk U.P U.w U.K U.mg U.base (L2.CX U.P U.w) 4 f fd ["table", "some"] (spX U (A_needB cN)) := by
  have hN := sc_need_boxes.nd
  refine fn_ok F sc_need_boxes (fun ds o h => ?_) fun ds o h => ?_
  · obtain ⟨m, rows, bs, rfl, _⟩ := h
    rfl
  · obtain ⟨m, rows, bs, rfl, hc, ho⟩ := h
    refine sd_at (ρ' := [.sh (.tab m rows), .sh (D.rules bs), .no, .no]) rfl ?_
    refine sd_cons (s_set (d := D.rules (boxL m rows)) (ED.shr (ED.weakR ?ze0)) ?zR0 hN ?zi0 ?zj0)
    case zi0 => wtm_at "m.dec"
    case zj0 => wtm_at "m.dec"
    case ze0 => wtm_at "m.ed"
    case zR0 =>
    refine sd_at (ρ' := [.sh (.tab m rows), .sh (D.rules bs), .sh (D.rules (boxL m rows)), .no]) rfl ?_
    refine' sd_cons (s_forL (xs := bs) (enc := encR) ?i (fun i ρ => (∃ s, ρ = [.sh (.tab m rows), .sh (D.rules bs), .sh (D.rules (boxL m rows)), s]) ∧ ∀ y ∈ bs.take i, y ∈ boxL m rows) ⟨⟨.no, rfl⟩, fun y hy => nomatch hy⟩ ?s ?d hN ?i1 ?i2)
    case i1 => wtm_at "m.dec"
    case i2 => wtm_at "m.dec"
    case i => wtm_at "m.if"
    case s =>
      intro i y ρ' hy hs
      obtain ⟨⟨s, rfl⟩, hp⟩ := hs
      refine sd_at (ρ' := [.sh (.tab m rows), .sh (D.rules bs), .sh (D.rules (boxL m rows)), .sh (encR y)]) rfl ?_
      refine sd_cons (s_if (k := !decide (y ∈ boxL m rows)) (TD.cast (b := ?zb1) ?zt1 ?zq1) (fun hk => ?zA1) fun hk => ?zB1)
      case zt1 => wtm_at "m.td"
      case zq1 =>
        show (!((boxL m rows).map encR).any fun z => deq z (encR y)) = _
        rw [Enc.any Enc.rule]
        exact congrArg (!·) (Bool.eq_iff_iff.mpr (by simp))
      case zA1 =>
        wtm_at "s.raise"
        show o = .inr cN
        rw [ho, if_neg]
        intro hR
        have := List.all_eq_true.mp hR y (List.mem_of_getElem? hy)
        simp only [bx] at this
        rw [this] at hk
        cases hk
      case zB1 =>
        refine sd_nil (sd_nil ⟨⟨.sh (encR y), rfl⟩, ?_⟩)
        rw [List.take_add_one, hy]
        intro z hz
        rcases List.mem_append.mp hz with hz | hz
        · exact hp z hz
        · simp at hz
          subst hz
          simpa using hk
    case d =>
      intro ρ' hs
      obtain ⟨⟨s, rfl⟩, hp⟩ := hs
      rw [List.take_length] at hp
      refine sd_nil ?_
      show o = .inl (.sh .non)
      rw [ho, if_pos]
      exact List.all_eq_true.mpr fun y hy => decide_eq_true (hp y hy)
theorem ok_over (hNb : FnT U "need_boxes" 4 (A_needB cN)) (hBo : FnT U "both" 1 A_both) (hTh : MtT U "things_with" 2 (A_things cM)) (F : Fun U.K x q s_over f fd) : FnOk U.P U.w U.K U.mg U.base (L2.CX U.P U.w) 5 f fd ["table", "one", "other"] (spX U (A_over cN)) := by
  have hN := sc_over.nd
  refine fn_ok F sc_over (fun ds o h => ?_) fun ds o h => ?_
  · obtain ⟨m, rows, a, b, rfl, _⟩ := h
    rfl
  · obtain ⟨m, rows, a, b, rfl, hc, ho⟩ := h
    refine sd_at (ρ' := [.sh (.tab m rows), .sh (encR a), .sh (encR b), .no]) rfl ?_
    refine sd_cons (s_exprX (O := fun o => o = if ([a, b] : List Rule).all (bx m rows) then .inl (.sh .non) else .inr cN) (xd_call (A := A_needB cN) (ds := [.tab m rows, D.rules [a, b]]) hNb ?zk rfl (ad_cons' (ed_var rfl rfl) (.sh _) (ad_cons' (r := .fr (([a, b] : List Rule).map encR)) ?za (.fr _) ad_nil)) ⟨m, rows, [a, b], rfl, hc, rfl⟩ rfl) (fun r1 hr1 => ?zg) fun c hcc => ?zbad)
    case zk => dsimp only; decide
    case za => wtm_at "m.ed"
    case zbad =>
      show o = .inr c
      cases e1 : bx m rows a <;> cases e2 : bx m rows b <;> simp [e1, e2, bx] at hcc ho <;> simp_all
    case zg =>
      have hg : bx m rows a = true ∧ bx m rows b = true := by
        cases e1 : bx m rows a <;> cases e2 : bx m rows b <;> simp [e1, e2, bx] at hr1 ⊢ <;> simp_all
      rw [hg.1, hg.2] at ho
      have hia := (box_iff.mp (of_decide_eq_true hg.1)).1
      have hin : inR m (bothL a.2 b.2) = true := inR_iff.mpr (both_in hia b.2).inr
      show SD _ _ _ _
      refine sd_cons (s_set (d := .ints (bothL a.2 b.2)) ?ze2 ?zR2 hN ?zi2 ?zj2)
      case zi2 => wtm_at "m.dec"
      case zj2 => wtm_at "m.dec"
      case ze2 => wtm_at "m.eds"
      case zR2 =>
      refine sd_at (ρ' := [.sh (.tab m rows), .sh (encR a), .sh (encR b), .sh (.ints (bothL a.2 b.2))]) rfl ?_
      refine sd_cons (s_ret (r := .sh (encR (overR rows a b))) (ed_tup (ad_cons' (r := .fr ((thI rows (bothL a.2 b.2)).map D.int)) ?ze3 (.fr _) (ad_cons' (ed_var rfl rfl) (.sh _) ad_nil)) ?zs3) ho)
      case zs3 => wtm_at "m.side"
      case ze3 =>
        refine' ed_meth (A := A_things cM) (ds := [.ints (bothL a.2 b.2)]) C hTh ?zk3 ?zo3 rfl ?za3 ⟨m, rows, bothL a.2 b.2, rfl, hc.2.2, by rw [hin, if_pos rfl]⟩
        case zk3 => dsimp only; decide
        case zo3 => wtm_at "m.ed"
        case za3 => wtm_at "m.ad"
theorem ok_under (hNb : FnT U "need_boxes" 4 (A_needB cN)) (hBo : FnT U "both" 1 A_both) (hMk : MtT U "marks_of" 1 (A_marks cT)) (F : Fun U.K x q s_under f fd) : FnOk U.P U.w U.K U.mg U.base (L2.CX U.P U.w) 5 f fd ["table", "one", "other"] (spX U (A_under cN)) := by
  have hN := sc_under.nd
  refine fn_ok F sc_under (fun ds o h => ?_) fun ds o h => ?_
  · obtain ⟨m, rows, a, b, rfl, _⟩ := h
    rfl
  · obtain ⟨m, rows, a, b, rfl, hc, ho⟩ := h
    refine sd_at (ρ' := [.sh (.tab m rows), .sh (encR a), .sh (encR b), .no]) rfl ?_
    refine sd_cons (s_exprX (O := fun o => o = if ([a, b] : List Rule).all (bx m rows) then .inl (.sh .non) else .inr cN) (xd_call (A := A_needB cN) (ds := [.tab m rows, D.rules [a, b]]) hNb ?zk rfl (ad_cons' (ed_var rfl rfl) (.sh _) (ad_cons' (r := .fr (([a, b] : List Rule).map encR)) ?za (.fr _) ad_nil)) ⟨m, rows, [a, b], rfl, hc, rfl⟩ rfl) (fun r1 hr1 => ?zg) fun c hcc => ?zbad)
    case zk => dsimp only; decide
    case za => wtm_at "m.ed"
    case zbad =>
      show o = .inr c
      cases e1 : bx m rows a <;> cases e2 : bx m rows b <;> simp [e1, e2, bx] at hcc ho <;> simp_all
    case zg =>
      have hg : bx m rows a = true ∧ bx m rows b = true := by
        cases e1 : bx m rows a <;> cases e2 : bx m rows b <;> simp [e1, e2, bx] at hr1 ⊢ <;> simp_all
      rw [hg.1, hg.2] at ho
      have hia := (box_iff.mp (of_decide_eq_true hg.1)).2.2
      have hin : inR (rows.length : Int) (bothL a.1 b.1) = true := inR_iff.mpr fun y hy => by
        rw [hia] at hy
        exact inR_iff.mp (thI_in rows a.2) y (List.mem_filter.mp hy).1
      show SD _ _ _ _
      refine sd_cons (s_set (d := .ints (bothL a.1 b.1)) ?ze2 ?zR2 hN ?zi2 ?zj2)
      case zi2 => wtm_at "m.dec"
      case zj2 => wtm_at "m.dec"
      case ze2 => wtm_at "m.eds"
      case zR2 =>
      refine sd_at (ρ' := [.sh (.tab m rows), .sh (encR a), .sh (encR b), .sh (.ints (bothL a.1 b.1))]) rfl ?_
      refine sd_cons (s_ret (r := .sh (encR (underR m rows a b))) (ed_tup (ad_cons' (ed_var rfl rfl) (.sh _) (ad_cons' (r := .fr ((mkL m rows (bothL a.1 b.1)).map D.int)) ?ze3 (.fr _) ad_nil)) ?zs3) ho)
      case zs3 => wtm_at "m.side"
      case ze3 =>
        refine' ed_meth (A := A_marks cT) (ds := [.ints (bothL a.1 b.1)]) C hMk ?zk3 ?zo3 rfl ?za3 ⟨m, rows, bothL a.1 b.1, rfl, ⟨hc.1, hc.2.1⟩, by rw [hin, if_pos rfl]⟩
        case zk3 => dsimp only; decide
        case zo3 => wtm_at "m.ed"
        case za3 => wtm_at "m.ad"
end
end Mb
set_option Elab.async false
set_option linter.all false
set_option maxRecDepth 100000
set_option maxHeartbeats 4000000
namespace Mb
open PySem PySem.Spec PyProof.Rows L2
local macro_rules | `(tactic| wtm_at "m.dec") => `(tactic| (dsimp only [Gx.blk]; decide +kernel))
local macro_rules | `(tactic| wtm_at "m.hint") => `(tactic| fail)
local macro_rules | `(tactic| wtm_at "m.side") => `(tactic| first | with_reducible assumption | assumption | decide | omega | exact Or.inr (And.intro (by omega) (by omega)) | exact Or.inl (And.intro (by omega) (by omega)) | exact And.intro (by omega) (by omega) | (simp only [List.length_cons, List.length_nil, List.length_map, List.length_range, List.length_append, sizeLine_eq]; omega) | wtm_at "m.hint" | solve_by_elim)
local macro_rules | `(tactic| wtm_at "m.dn") => `(tactic| first
  | exact Dn.int _ _ | exact Dn.bl _ _ | exact Dn.non _
  | (refine dn_lst (n := _) ?_; wtm_at "m.dm") | (refine dn_nls (n := _) ?_; wtm_at "m.dm") | (refine dn_tup (n := _) ?_; wtm_at "m.dm"))
local macro_rules | `(tactic| wtm_at "m.dm") => `(tactic| first
  | exact dm_nil | (refine dm_map ?_; intro _; wtm_at "m.dn") | (refine dm_cons ?a ?b; (case a => wtm_at "m.dn"); (case b => wtm_at "m.dm")) | (refine dm_app ?a ?b; (case a => wtm_at "m.dm"); (case b => wtm_at "m.dm")))
local macro_rules | `(tactic| wtm_at "m.tosh") => `(tactic| first | exact ToSh.sh _ | exact ToSh.fr _)
local macro_rules | `(tactic| wtm_at "m.eds") => `(tactic| (refine' ED.toSh ?h ?t ?q; (case h => wtm_at "m.ed"); (case t => wtm_at "m.tosh"); (case q => exact rfl)))
local macro_rules | `(tactic| wtm_at "m.tosha") => `(tactic| first | exact ToSh.un _ | exact ToSh.sh _ | exact ToSh.fr _)
local macro_rules | `(tactic| wtm_at "m.ad") => `(tactic| first
  | exact ad_nil
  | (refine' ad_cons' ?h ?t ?r; (case h => wtm_at "m.ed"); (case t => wtm_at "m.tosha"); (case r => wtm_at "m.ad")))
local macro_rules | `(tactic| wtm_at "m.adk") => `(tactic| first
  | exact ad_nil
  | (refine' ad_cons' ?h ?t ?r; (case h => wtm_at "m.ed"); (case t => wtm_at "m.tosh"); (case r => wtm_at "m.adk")))
local macro_rules | `(tactic| wtm_at "m.ic") => `(tactic| first
  | (refine' ic_range (by assumption) ?a ?b ?c ?g; (case a => wtm_at "m.ed"); (case g => rfl); (case b => wtm_at "m.side"); (case c => wtm_at "m.side"))
  | (refine' ic_list ?h ?q; (case h => wtm_at "m.ed"); (case q => exact rfl)))
local macro_rules | `(tactic| wtm_at "m.if") => `(tactic| first
  | (refine' if_range (by assumption) ?a ?b ?c ?g; (case a => wtm_at "m.ed"); (case g => rfl); (case b => wtm_at "m.side"); (case c => wtm_at "m.side"))
  | (refine' if_range2 (by assumption) ?a ?a2 ?b ?g; (case a => wtm_at "m.ed"); (case a2 => wtm_at "m.ed"); (case g => rfl); (case b => wtm_at "m.side"))
  | (refine' if_list ?h; (case h => wtm_at "m.ed"))
  | (refine' if_nls ?h; (case h => wtm_at "m.ed"))
  | (refine' if_fr ?h; (case h => wtm_at "m.ed"))
  | (refine' if_tup ?h; (case h => wtm_at "m.ed")))
local macro_rules | `(tactic| wtm_at "m.ld") => `(tactic| first
  | (refine' ld_lc0 ?n ?i ?j ?o ?l ?e; (case n => assumption); (case i => wtm_at "m.ic"); (case j => wtm_at "m.dec"); (case o => wtm_at "m.dec"); (case l => wtm_at "m.dec"); (case e => intro _ hx; (try have hx := List.mem_range.mp hx); wtm_at "m.eds"))
  | (refine' ld_lc1 ?n ?i ?j ?o ?l ?t ?e; (case n => assumption); (case i => wtm_at "m.ic"); (case j => wtm_at "m.dec"); (case o => wtm_at "m.dec"); (case l => wtm_at "m.dec"); (case t => (intro _ hx; (try have hx := List.mem_range.mp hx); refine' TD.cast ?h ?q; (case h => wtm_at "m.td"); (case q => exact rfl))); (case e => intro _ hx _; (try have hx := List.mem_range.mp hx); wtm_at "m.eds"))
  | (refine' ld_lcp0 ?n ?i ?j ?j2 ?o ?l ?l2 ?e; (case n => assumption); (case i => wtm_at "m.ic"); (case j => wtm_at "m.dec"); (case j2 => wtm_at "m.dec"); (case o => wtm_at "m.dec"); (case l => wtm_at "m.dec"); (case l2 => wtm_at "m.dec"); (case e => intro _ _; wtm_at "m.eds"))
  | (refine' ld_lcp1 ?n ?i ?j ?j2 ?o ?l ?l2 ?t ?e; (case n => assumption); (case i => wtm_at "m.ic"); (case j => wtm_at "m.dec"); (case j2 => wtm_at "m.dec"); (case o => wtm_at "m.dec"); (case l => wtm_at "m.dec"); (case l2 => wtm_at "m.dec"); (case t => (intro _ hx; (try have hx := List.mem_range.mp hx); refine' TD.cast ?h ?q; (case h => wtm_at "m.td"); (case q => exact rfl))); (case e => intro _ hx _; (try have hx := List.mem_range.mp hx); wtm_at "m.eds")))
local macro_rules | `(tactic| wtm_at "m.addr") => `(tactic| first | exact AddR.int _ _ | (refine' AddR.cat ?x ?y ?z; (case x => exact rfl); (case y => exact rfl); (case z => wtm_at "m.side")))
local macro_rules | `(tactic| wtm_at "m.at") => `(tactic| first
  | exact rfl
  | assumption
  | (refine atI_get (d := (0 : Int)) ?a ?b; (case a => wtm_at "m.side"); (case b => wtm_at "m.side"))
  | (refine atI_ints (d := default) ?a ?b; (case a => wtm_at "m.side"); (case b => wtm_at "m.side"))
  | (refine atI_lit ?a ?b ?c; (case a => wtm_at "m.side"); (case b => wtm_at "m.side"); (case c => rfl))
  | solve_by_elim)
local macro_rules | `(tactic| wtm_at "m.ixd") => `(tactic| first
  | (refine' IxD.tup ?h; (case h => wtm_at "m.at"))
  | (refine' IxD.scr ?h; (case h => wtm_at "m.at"))
  | (refine' IxD.list ?x ?h; (case x => exact rfl); (case h => wtm_at "m.at")))
local macro_rules | `(tactic| wtm_at "m.cp") => `(tactic| first
  | (refine' cp_lt ?a ?b; (case a => wtm_at "m.ed"); (case b => wtm_at "m.ed"))
  | (refine' cp_le ?a ?b; (case a => wtm_at "m.ed"); (case b => wtm_at "m.ed"))
  | (refine' cp_gt ?a ?b; (case a => wtm_at "m.ed"); (case b => wtm_at "m.ed"))
  | (refine' cp_ge ?a ?b; (case a => wtm_at "m.ed"); (case b => wtm_at "m.ed"))
  | (refine' cp_eq ?a ?b ?c ?d; (case a => wtm_at "m.ed"); (case b => wtm_at "m.ed"); (case c => wtm_at "m.dn"); (case d => wtm_at "m.dn"))
  | (refine' cp_ne ?a ?b ?c ?d; (case a => wtm_at "m.ed"); (case b => wtm_at "m.ed"); (case c => wtm_at "m.dn"); (case d => wtm_at "m.dn"))
  | (refine' cp_in ?a ?b ?e ?c ?d ?m; (case a => wtm_at "m.ed"); (case b => wtm_at "m.ed"); (case e => exact rfl); (case c => wtm_at "m.dn"); (case d => wtm_at "m.dm"); (case m => rfl))
  | (refine' cp_nin ?a ?b ?e ?c ?d ?m; (case a => wtm_at "m.ed"); (case b => wtm_at "m.ed"); (case e => exact rfl); (case c => wtm_at "m.dn"); (case d => wtm_at "m.dm"); (case m => rfl))
  | (refine' cp_isN ?a; (case a => wtm_at "m.ed"))
  | (refine' cp_notN ?a; (case a => wtm_at "m.ed"))
  | (refine' ch_le_lt ?a ?b ?c; (case a => wtm_at "m.ed"); (case b => wtm_at "m.ed"); (case c => wtm_at "m.ed"))
  | (refine' ch_le_le ?a ?b ?c; (case a => wtm_at "m.ed"); (case b => wtm_at "m.ed"); (case c => wtm_at "m.ed")))
local macro_rules | `(tactic| wtm_at "m.tw") => `(tactic| first
  | (refine' tw_and ?a ?b; (case a => wtm_at "m.td"); (case b => intro _; wtm_at "m.tw"))
  | (refine' tw_or ?a ?b; (case a => wtm_at "m.td"); (case b => intro _; wtm_at "m.tw"))
  | (refine' tw_and1 ?a; (case a => wtm_at "m.td"))
  | (refine' tw_or1 ?a; (case a => wtm_at "m.td")))
local macro_rules | `(tactic| wtm_at "m.td") => `(tactic| first
  | (refine' And.right (a := ?p) ?h; (case h => wtm_at "m.cp"))
  | (refine' td_not ?h; (case h => wtm_at "m.td"))
  | (refine' td_bool ?h; (case h => wtm_at "m.tw"))
  | (refine' td_val ?h; (case h => wtm_at "m.ed")))
local macro_rules | `(tactic| wtm_at "m.bo") => `(tactic| first
  | (refine' ed_and ?a ?b; (case a => wtm_at "m.ed"); (case b => intro _; wtm_at "m.bo"))
  | (refine' ed_or ?a ?b; (case a => wtm_at "m.ed"); (case b => intro _; wtm_at "m.bo"))
  | (refine' ed_one ?a; (case a => wtm_at "m.ed")))
local macro_rules | `(tactic| wtm_at "m.pre") => `(tactic| first
  | exact ⟨_, rfl, rfl⟩ | exact ⟨_, _, rfl, rfl⟩ | exact ⟨_, _, _, rfl, rfl⟩ | exact ⟨_, _, _, _, rfl, rfl⟩ | exact ⟨_, _, _, _, _, rfl, rfl⟩
  | (refine ⟨_, rfl, ?_, rfl⟩; wtm_at "m.side") | (refine ⟨_, _, rfl, ?_, rfl⟩; wtm_at "m.side") | (refine ⟨_, _, _, rfl, ?_, rfl⟩; wtm_at "m.side") | (refine ⟨_, _, _, _, rfl, ?_, rfl⟩; wtm_at "m.side") | (refine ⟨_, _, _, _, _, rfl, ?_, rfl⟩; wtm_at "m.side"))
local macro_rules | `(tactic| wtm_at "m.call") => `(tactic| first
  | wtm_at "m.direct"
  | (refine' ed_thaw ?h ?d; (case h => wtm_at "m.direct"); (case d => rfl)))
local macro_rules | `(tactic| wtm_at "m.od") => `(tactic| first | exact od_none | (refine' od_some ?h; (case h => wtm_at "m.ed")))
local macro_rules | `(tactic| wtm_at "m.direct") => `(tactic| first
  | (refine' ed_call ?T ?k ?g ?a ?A; (case T => assumption); (case k => (dsimp only [Gx.blk]; decide)); (case g => rfl); (case a => wtm_at "m.ad"); (case A => wtm_at "m.pre"))
  | (refine' ed_many (by assumption) ?a ?b; (case a => wtm_at "m.ed"); (case b => exact rfl))
  | (refine' ed_rows (by assumption) ?a; (case a => wtm_at "m.ed"))
  | (refine' ed_meth (by assumption) ?T ?k ?o ?d ?a ?A; (case T => assumption); (case k => (dsimp only [Gx.blk]; decide)); (case o => wtm_at "m.ed"); (case d => exact rfl); (case a => wtm_at "m.ad"); (case A => wtm_at "m.pre")))
local macro_rules | `(tactic| wtm_at "m.ed") => `(tactic| first
  | (refine' ed_varA ?h ?v; (case h => exact rfl); (case v => rfl))
  | (refine' ed_var ?h ?v; (case h => exact rfl); (case v => rfl))
  | exact ed_int
  | (refine' ed_ixR ?a ?b ?c; (case a => wtm_at "m.ed"); (case b => wtm_at "m.ed"); (case c => wtm_at "m.ixd"))
  | (refine' And.left (b := ?p) ?h; (case h => wtm_at "m.cp"))
  | (refine' ed_addR ?a ?b ?c; (case a => wtm_at "m.ed"); (case b => wtm_at "m.ed"); (case c => wtm_at "m.addr"))
  | (refine' ed_sub ?a ?b; (case a => wtm_at "m.ed"); (case b => wtm_at "m.ed"))
  | (refine' ed_mul ?a ?b ?c; (case a => wtm_at "m.ed"); (case b => wtm_at "m.ed"); (case c => wtm_at "m.side"))
  | (refine' ed_fdiv ?a ?b ?c; (case a => wtm_at "m.ed"); (case b => wtm_at "m.ed"); (case c => wtm_at "m.side"))
  | (refine' ed_mod ?a ?b ?c; (case a => wtm_at "m.ed"); (case b => wtm_at "m.ed"); (case c => wtm_at "m.side"))
  | (refine' ed_pow ?a ?b ?c; (case a => wtm_at "m.ed"); (case b => wtm_at "m.ed"); (case c => wtm_at "m.side"))
  | (refine' ed_neg ?a; (case a => wtm_at "m.ed"))
  | (refine' LD.ed ?a; (case a => wtm_at "m.ld"))
  | (refine' ed_len (by assumption) ?a ?b ?g; (case a => wtm_at "m.ed"); (case b => exact rfl); (case g => rfl))
  | (refine' ed_listRange (by assumption) ?a ?b ?c ?g ?g2; (case a => wtm_at "m.ed"); (case b => wtm_at "m.side"); (case c => wtm_at "m.side"); (case g => rfl); (case g2 => rfl))
  | (refine' ed_list (by assumption) ?a ?b ?g; (case a => wtm_at "m.ed"); (case b => exact rfl); (case g => rfl))
  | (refine' ed_all (by assumption) ?a ?b ?g; (case a => wtm_at "m.ed"); (case b => exact rfl); (case g => rfl))
  | (refine' ed_any (by assumption) ?a ?b ?g; (case a => wtm_at "m.ed"); (case b => exact rfl); (case g => rfl))
  | (refine' ed_sum (by assumption) ?a ?b ?g; (case a => wtm_at "m.ed"); (case b => exact rfl); (case g => rfl))
  | (refine' ed_sorted (by assumption) ?a ?b ?g; (case a => wtm_at "m.ed"); (case b => exact rfl); (case g => rfl))
  | (refine' ed_intB (by assumption) ?a ?g; (case a => wtm_at "m.ed"); (case g => rfl))
  | (refine' ed_max (by assumption) ?a ?b ?g; (case a => wtm_at "m.ed"); (case b => wtm_at "m.ed"); (case g => rfl))
  | (refine' ed_min (by assumption) ?a ?b ?g; (case a => wtm_at "m.ed"); (case b => wtm_at "m.ed"); (case g => rfl))
  | (refine' ed_isi (k := true) (by assumption) ?a ?b ?t ?k ?g; (case a => wtm_at "m.ed"); (case b => wtm_at "m.ed"); (case t => exact rfl); (case k => decide +kernel); (case g => rfl))
  | (refine' ed_isi (k := false) (by assumption) ?a ?b ?t ?k ?g; (case a => wtm_at "m.ed"); (case b => wtm_at "m.ed"); (case t => exact rfl); (case k => decide +kernel); (case g => rfl))
  | (refine' ed_tup ?a ?b; (case a => wtm_at "m.adk"); (case b => wtm_at "m.side"))
  | (refine' ed_lst ?a ?b; (case a => wtm_at "m.adk"); (case b => wtm_at "m.side"))
  | (refine' ed_sl ?a ?x ?l ?u; (case a => wtm_at "m.ed"); (case x => exact rfl); (case l => wtm_at "m.od"); (case u => wtm_at "m.od"))
  | (refine' ed_not ?a; (case a => wtm_at "m.ed"))
  | wtm_at "m.bo"
  | wtm_at "m.call"
  | (refine' ed_own ?h ?v; (case h => exact rfl); (case v => rfl))
  | exact ed_bl
  | exact ed_non
  | (refine' ed_globI ?h ?m; (case h => rfl); (case m => assumption))
  | (refine' ed_tyInt (by assumption) ?g; (case g => rfl))
  | (refine' ed_tyList (by assumption) ?g; (case g => rfl))
  | (refine' ed_tyTuple (by assumption) ?g; (case g => rfl))
  | (refine' ed_tyBool (by assumption) ?g; (case g => rfl)))
local macro_rules | `(tactic| wtm_at "s.set") => `(tactic| (refine' sd_cons (s_set ?e ?q ?n ?i ?o); (case n => assumption); (case i => wtm_at "m.dec"); (case o => wtm_at "m.dec"); (case e => wtm_at "m.eds")))
local macro_rules | `(tactic| wtm_at "s.own") => `(tactic| (refine' sd_cons (s_own ?e ?q ?n ?i ?o); (case n => assumption); (case i => wtm_at "m.dec"); (case o => wtm_at "m.dec"); (case e => wtm_at "m.ed")))
local macro_rules | `(tactic| wtm_at "s.lc") => `(tactic| (refine' sd_cons (s_lc ?e ?q ?i ?k ?y ?l ?a); (case i => wtm_at "m.dec"); (case k => rfl); (case y => rfl); (case l => rfl); (case a => decide +kernel); (case e => wtm_at "m.ld")))
local macro_rules | `(tactic| wtm_at "s.lco") => `(tactic| (refine' sd_cons (s_lcO ?e ?q ?i ?k ?y ?l ?a); (case i => wtm_at "m.dec"); (case k => rfl); (case y => rfl); (case l => rfl); (case a => decide +kernel); (case e => wtm_at "m.ld")))
local macro_rules | `(tactic| wtm_at "s.lcc") => `(tactic| (refine' sd_cons (s_set ?e ?q ?n ?i ?o (swapF ?s)); (case n => assumption); (case i => wtm_at "m.dec"); (case o => wtm_at "m.dec"); (case s => rfl); (case e => (refine' ED.shr (LD.ed ?f); (case f => wtm_at "m.ld")))))
local macro_rules | `(tactic| wtm_at "s.ret") => `(tactic| (refine' sd_cons (s_ret ?e ?q); (case e => wtm_at "m.ed")))
local macro_rules | `(tactic| wtm_at "s.if") => `(tactic| (refine' sd_cons (s_if ?zzt ?zzy ?zzm); (case zzt => wtm_at "m.td")))
local macro_rules | `(tactic| wtm_at "s.ift") => `(tactic| (refine' sd_cons (s_if (td_thaw ?zzt) ?zzy ?zzm); (case zzt => wtm_at "m.td")))
local macro_rules | `(tactic| wtm_at "s.app") => `(tactic| (refine' sd_cons (s_app ?e ?h ?v ?z ?q); (case h => exact rfl); (case v => rfl); (case e => wtm_at "m.eds"); (case z => wtm_at "m.side")))
local macro_rules | `(tactic| wtm_at "s.ifset") => `(tactic| (refine' sd_cons (s_ifset ?c ?e ?h1 ?h2 ?h0 ?q ?n ?i ?o); (case n => assumption); (case i => wtm_at "m.dec"); (case o => wtm_at "m.dec"); (case h0 => exact rfl); (case c => wtm_at "m.td"); (case e => intro _; wtm_at "m.eds")))
local macro_rules | `(tactic| wtm_at "s.raise") => `(tactic| (refine' sd_cons (s_raise ?T ?g ?r); (case T => assumption); (case g => rfl)))
local macro_rules | `(tactic| wtm_at "m.make") => `(tactic| (refine' ed_make ?T ?k ?g ?a ?b ?A; (case T => assumption); (case k => (dsimp only [Gx.blk]; decide)); (case g => rfl); (case a => wtm_at "m.ed"); (case b => wtm_at "m.eds"); (case A => assumption)))
local macro_rules | `(tactic| wtm_at "sl.flat") => `(tactic| first | exact flat_sets | exact flat_tab | exact flat_scr | exact flat_int | exact flat_pair flat_int flat_sets)
local macro_rules | `(tactic| wtm_at "sl.one") => `(tactic| first
  | exact Or.inl rfl
  | exact SpM.no
  | exact SpR.no
  | exact SpM.told rfl
  | exact SpR.told rfl
  | (refine SpM.keep (by decide) rfl ?_ rfl; wtm_at "sl.flat")
  | exact SpM.conv (by decide) rfl conv_int.1
  | exact SpR.keep (by decide) (by decide) rfl rfl rfl
  | exact SpR.conv (by decide) rfl conv_int.2
  | exact SpR.conv (by decide) rfl back_rules
  | exact SpR.conv (by decide) rfl back_sets
  | (refine Or.inr ⟨_, rfl, rfl, ?_⟩; wtm_at "sl.flat"))
local macro_rules | `(tactic| wtm_at "sl.all") => `(tactic| ((repeat' first | exact slAll_nil | refine slAll_cons ?_ ?_) <;> wtm_at "sl.one"))
local macro_rules | `(tactic| wtm_at "op.mem") => `(tactic| first | exact .head _ | exact .tail _ (.head _) | exact .tail _ (.tail _ (.head _)) | exact .tail _ (.tail _ (.tail _ (.head _))) | exact .tail _ (.tail _ (.tail _ (.tail _ (.head _)))) | exact .tail _ (.tail _ (.tail _ (.tail _ (.tail _ (.head _))))) | exact .tail _ (.tail _ (.tail _ (.tail _ (.tail _ (.tail _ (.head _)))))))
local macro_rules | `(tactic| wtm_at "op.d") => `(tactic| first
  | exact opn_refl
  | (refine opn_ints ?_; wtm_at "op.mem")
  | (refine opn_tup ?_; wtm_at "op.l")
  | (refine opn_lst ?_; wtm_at "op.l")
  | (refine opn_cell ?zopm ?zopl; (case zopm => wtm_at "op.mem"); (case zopl => first | exact opnL_refl | wtm_at "op.l")))
local macro_rules | `(tactic| wtm_at "op.l") => `(tactic| first
  | exact opnL_nil
  | (refine opnL_cons ?zopa ?zopb; (case zopa => wtm_at "op.d"); (case zopb => wtm_at "op.l")))
local macro_rules | `(tactic| wtm_at "op.one") => `(tactic| first
  | exact OpS.no
  | exact OpS.own rfl
  | (refine OpS.sh rfl ?_; wtm_at "op.d"))
local macro_rules | `(tactic| wtm_at "op.all") => `(tactic| ((repeat' first | exact slAll_nil | refine slAll_cons ?_ ?_) <;> wtm_at "op.one"))
local macro_rules | `(tactic| wtm_at "op.one2") => `(tactic| first
  | exact OpS.no
  | exact OpS.own rfl
  | exact OpS.sh rfl (by assumption)
  | exact OpS.sh rfl opn_refl)
local macro_rules | `(tactic| wtm_at "op.all2") => `(tactic| ((repeat' first | exact slAll_nil | refine slAll_cons ?_ ?_) <;> wtm_at "op.one2"))
section
variable {U : Wd} (T : Bl U.mg) (C : TabOk U) {f : Addr} {fd : FuncData} {x q : Str} {cM cT cE cS cN : Addr}
include T
theorem ok_box (F : Fun U.K x q s_law_box f fd) : FnOk U.P U.w U.K U.mg U.base (L2.CX U.P U.w) 1 f fd ["_law_many", "_law_rows", "_law_marks"] (spX U A_box) := by
  have hN := sc_law_box.nd
  refine fn_ok F sc_law_box (fun ds o h => ?_) fun ds o h => ?_
  · obtain ⟨m, rows, ms, rfl, _⟩ := h
    rfl
  · obtain ⟨m, rows, ms, rfl, ⟨h0, h8, hr⟩, rfl⟩ := h
    refine sd_at (ρ' := [.sh (.int m), .sh (D.sets rows), .sh (.ints ms), .no, .no, .no]) rfl ?_
    have hmz : m ≤ 16777216 := by omega
    have hat : ∀ i : Nat, i < ((((rows.map encS).length : Nat) : Int)).toNat → atI (rows.map encS) (i : Int) = some (encS (rows.getD i [])) := fun i hi => by
      rw [List.length_map] at hi
      exact atI_ints (d := []) (by omega) (by omega)
    have hz1 : (((rows.map encS).length : Nat) : Int) ≤ 16777216 := by rw [List.length_map]; omega
    refine' sd_cons (s_set (d := .ints (thI rows ms)) (ED.shr (LD.ed (LD.cast (ds := ?xd0) ?xe2 ?xq0))) ?xq2 hN ?xi ?xk (swapF ?xy))
    case xi => wtm_at "m.dec"
    case xk => wtm_at "m.dec"
    case xy => rfl
    case xe2 => wtm_at "m.ld"
    case xq0 =>
      unfold thI thL
      rw [List.map_map, List.length_map, Int.toNat_natCast]
      simp only [Rs.d, any_int, deq_lnil, List.map_eq_nil_iff, ← lacks_within]
      rfl
    case xq2 =>
    refine sd_at (ρ' := [.sh (.int m), .sh (D.sets rows), .sh (.ints ms), .sh (.ints (thI rows ms)), .no, .no]) rfl ?_
    have hat2 : ∀ t : Int, t ∈ thI rows ms → atI (rows.map encS) t = some (encS (rows.getD t.toNat [])) := fun t ht => by
      have := (th_in rows ms).inr t ht
      exact atI_ints (d := []) (by omega) (by omega)
    refine sd_cons (s_ret (r := .sh (encR (thI rows ms, clL m rows ms))) (ed_tup (ad_cons' (ed_var rfl ?zv1) (.sh _) (ad_cons' (r := .fr ((clL m rows ms).map D.int)) (ED.cast (r := ?zr1) ?ze1 ?zq1) (.fr _) ad_nil)) ?zs1) rfl)
    case zv1 => wtm_at "m.dec"
    case zs1 => wtm_at "m.side"
    case ze1 => wtm_at "m.ed"
    case zq1 =>
      have mk_eq : ∀ ts : List Int, mkL m rows ts = (rangeL m).filter fun x => decide ((ts.filter fun t => !decide (x ∈ rows.getD t.toNat [])) = []) := fun ts => by
        unfold mkL
        refine List.filter_congr fun x _ => ?_
        rw [Bool.eq_iff_iff, List.all_eq_true, decide_eq_true_eq, List.filter_eq_nil_iff]
        exact ⟨fun h t ht => by simpa using h t ht, fun h t ht => by simpa using h t ht⟩
      unfold clL
      rw [mk_eq, filter_range]
      simp only [Rs.d, any_int, deq_lnil, List.map_eq_nil_iff]
theorem ok_dueB (F : Fun U.K x q s_law_due f fd) : FnOk U.P U.w U.K U.mg U.base (L2.CX U.P U.w) 1 f fd ["_law_many", "_law_rows", "_law_one", "_law_other"] (spX U A_dueB) := by
  have hN := sc_law_due.nd
  refine fn_ok F sc_law_due (fun ds o h => ?_) fun ds o h => ?_
  · obtain ⟨m, rows, a, b, rfl, _⟩ := h
    rfl
  · obtain ⟨m, rows, a, b, rfl, ⟨h0, h8, hr, hia⟩, rfl⟩ := h
    refine sd_at (ρ' := [.sh (.int m), .sh (D.sets rows), .sh (encR a), .sh (encR b), .no, .no, .no, .no, .no]) rfl ?_
    have hmz : m ≤ 16777216 := by omega
    have hat : ∀ i : Nat, i < ((((rows.map encS).length : Nat) : Int)).toNat → atI (rows.map encS) (i : Int) = some (encS (rows.getD i [])) := fun i hi => by
      rw [List.length_map] at hi
      exact atI_ints (d := []) (by omega) (by omega)
    have hz1 : (((rows.map encS).length : Nat) : Int) ≤ 16777216 := by rw [List.length_map]; omega
    refine' sd_cons (s_set (d := .ints (bothL a.2 b.2)) (ED.shr (LD.ed (LD.cast (ds := ?xd0) ?xe2 ?xq0))) ?xq2 hN ?xi ?xk (swapF ?xy))
    case xi => wtm_at "m.dec"
    case xk => wtm_at "m.dec"
    case xy => rfl
    case xe2 => wtm_at "m.ld"
    case xq0 =>
      unfold bothL
      simp only [Rs.d, any_int]
      try rfl
    case xq2 =>
    refine sd_at (ρ' := [.sh (.int m), .sh (D.sets rows), .sh (encR a), .sh (encR b), .sh (.ints (bothL a.2 b.2)), .no, .no, .no, .no]) rfl ?_
    refine sd_cons (s_set (d := encR (overR rows a b)) (ed_tup (ad_cons' (r := .fr ((thI rows (bothL a.2 b.2)).map D.int)) (ED.cast (r := ?zr1) ?ze1 ?zq1) (.fr _) (ad_cons' (ed_var rfl ?zv1) (.sh _) ad_nil)) ?zs1) ?zR1 hN ?zi1 ?zj1)
    case zi1 => wtm_at "m.dec"
    case zj1 => wtm_at "m.dec"
    case zv1 => wtm_at "m.dec"
    case zs1 => wtm_at "m.side"
    case ze1 => wtm_at "m.ed"
    case zq1 =>
      unfold thI thL
      rw [List.map_map, List.length_map, Int.toNat_natCast]
      simp only [Rs.d, any_int, deq_lnil, List.map_eq_nil_iff, ← lacks_within]
      rfl
    case zR1 =>
    refine sd_at (ρ' := [.sh (.int m), .sh (D.sets rows), .sh (encR a), .sh (encR b), .sh (.ints (bothL a.2 b.2)), .no, .sh (encR (overR rows a b)), .no, .no]) rfl ?_
    refine' sd_cons (s_set (d := .ints (bothL a.1 b.1)) (ED.shr (LD.ed (LD.cast (ds := ?yd0) ?ye2 ?yq0))) ?yq2 hN ?yi ?yk (swapF ?yy))
    case yi => wtm_at "m.dec"
    case yk => wtm_at "m.dec"
    case yy => rfl
    case ye2 => wtm_at "m.ld"
    case yq0 =>
      unfold bothL
      simp only [Rs.d, any_int]
      try rfl
    case yq2 =>
    refine sd_at (ρ' := [.sh (.int m), .sh (D.sets rows), .sh (encR a), .sh (encR b), .sh (.ints (bothL a.2 b.2)), .no, .sh (encR (overR rows a b)), .no, .sh (.ints (bothL a.1 b.1))]) rfl ?_
    have hat2 : ∀ t : Int, t ∈ bothL a.1 b.1 → atI (rows.map encS) t = some (encS (rows.getD t.toNat [])) := fun t ht => by
      have := inR_iff.mp hia t (List.mem_filter.mp ht).1
      exact atI_ints (d := []) (by omega) (by omega)
    refine sd_cons (s_ret (r := .sh (.tup [encR (overR rows a b), encR (underR m rows a b)])) (ed_tup (ad_cons' (ed_var rfl ?zv2) (.sh _) (ad_cons' (r := .sh (encR (underR m rows a b))) (ed_tup (ad_cons' (ed_var rfl ?zv3) (.sh _) (ad_cons' (r := .fr ((mkL m rows (bothL a.1 b.1)).map D.int)) (ED.cast (r := ?zr3) ?ze3 ?zq3) (.fr _) ad_nil)) ?zs3) (.sh _) ad_nil)) ?zs2) rfl)
    case zv2 => wtm_at "m.dec"
    case zv3 => wtm_at "m.dec"
    case zs2 => wtm_at "m.side"
    case zs3 => wtm_at "m.side"
    case ze3 => wtm_at "m.ed"
    case zq3 =>
      have mk_eq : ∀ ts : List Int, mkL m rows ts = (rangeL m).filter fun x => decide ((ts.filter fun t => !decide (x ∈ rows.getD t.toNat [])) = []) := fun ts => by
        unfold mkL
        refine List.filter_congr fun x _ => ?_
        rw [Bool.eq_iff_iff, List.all_eq_true, decide_eq_true_eq, List.filter_eq_nil_iff]
        exact ⟨fun h t ht => by simpa using h t ht, fun h t ht => by simpa using h t ht⟩
      rw [mk_eq, filter_range]
      simp only [Rs.d, any_int, deq_lnil, List.map_eq_nil_iff]
theorem ok_same (hW : FnT U "_law_whole" 1 A_whole) (F : Fun U.K x q s_law_same f fd) : FnOk U.P U.w U.K U.mg U.base (L2.CX U.P U.w) 2 f fd ["_law_found", "_law_due_here"] (spX U A_same) := by
  have hN := sc_law_same.nd
  refine fn_ok F sc_law_same (fun ds o h => ?_) fun ds o h => ?_
  · obtain ⟨a, rfl, _⟩ := h
    rfl
  · obtain ⟨a, rfl, rfl⟩ := h
    refine sd_at (ρ' := [.sh (encR a), .sh (encR a), .no, .no]) rfl ?_
    refine sd_cons (s_if (k := false) (TD.cast (b := ?zb1) ?zt1 ?zq1) (fun hk => nomatch hk) fun hk => sd_nil ?zB1)
    case zt1 => wtm_at "m.td"
    case zq1 =>
      have e := Enc.rule a a
      show (_ || (_ || !deq (encR a) (encR a))) = false
      rw [e]
      simp only [Rs.d, deq_int]
      simp
    case zB1 =>
    refine' sd_cons (s_forL (xs := ([a.1, a.2] : List (List Int))) (enc := encS) ?i (fun i ρ => ∃ s, ρ = [.sh (encR a), .sh (encR a), s, .no]) ⟨.no, rfl⟩ ?s ?d hN ?i1 ?i2)
    case i1 => wtm_at "m.dec"
    case i2 => wtm_at "m.dec"
    case i => wtm_at "m.if"
    case s =>
      intro i y ρ' hy hs
      obtain ⟨s, rfl⟩ := hs
      refine sd_at (ρ' := [.sh (encR a), .sh (encR a), .sh (.ints y), .no]) rfl ?_
      refine sd_cons (s_if (k := false) (TD.cast (b := ?zb5) ?zt5 ?zq5) (fun hk => nomatch hk) fun hk => sd_nil (sd_nil ⟨_, rfl⟩))
      case zt5 => wtm_at "m.td"
      case zq5 =>
        simp only [Rs.d, deq_lnil, List.map_eq_nil_iff]
        simp
    case d =>
      intro ρ' hs
      obtain ⟨s, rfl⟩ := hs
      exact sd_cons (s_ret (r := .sh (.bl true)) ed_bl rfl)
include C
theorem ok_triedB (hOv : FnT U "over" 5 (A_over cN)) (hUn : FnT U "under" 5 (A_under cN)) (xN : ExT U "NoBox" cN) (er : ErrsN U cN cE cM cT cS) (F : Fun U.K x q s_law_tried f fd) : FnOk U.P U.w U.K U.mg U.base (L2.CX U.P U.w) 6 f fd ["_law_table", "_law_way", "_law_one", "_law_other"] (spX U A_badB) := by
  have hN := sc_law_tried.nd
  refine fn_ok F sc_law_tried (fun ds o h => ?_) fun ds o h => ?_
  · obtain ⟨m, rows, w, a, b, rfl, _⟩ := h
    rfl
  · obtain ⟨m, rows, w, a, b, rfl, ⟨h0, h8, hr, hb⟩, rfl⟩ := h
    refine sd_at (ρ' := [.sh (.tab m rows), .sh (.int w), .sh (encR a), .sh (encR b)]) rfl ?_
    refine sd_cons (s_tryM (l := [(.ref cN, _)]) (.cons (.own xN rfl) .nil) ?zb)
    case zb =>
      have fin : ∀ c : Addr, Sum.inr c = (Sum.inr cN : Ot) → c = cN := fun c e => Sum.inr.inj e
      refine sd_cons (s_if (k := decide (w = 0)) (TD.cast (b := ?zb1) ?zt1 ?zq1) (fun hk => ?zA1) fun hk => sd_nil ?zB1)
      case zt1 => wtm_at "m.td"
      case zq1 => simp only [Rs.d, deq_int]
      case zA1 =>
        refine sd_cons (s_retX (O := fun o => o = if (bx m rows a && bx m rows b) then .inl (.sh (encR (overR rows a b))) else .inr cN) (xd_call (A := A_over cN) (ds := [.tab m rows, encR a, encR b]) hOv ?zk rfl (ad_cons' (ed_var rfl rfl) (.sh _) (ad_cons' (ed_var rfl rfl) (.sh _) (ad_cons' (ed_var rfl rfl) (.sh _) ad_nil))) ⟨m, rows, a, b, rfl, ⟨h0, h8, hr⟩, rfl⟩ rfl) (fun r1 hr1 => ?_) fun c hc => ?_)
        case zk => dsimp only; decide
        · rw [hb, if_neg Bool.false_ne_true] at hr1
          cases hr1
        · rw [hb, if_neg Bool.false_ne_true] at hc
          cases hc
          exact hso_yes er.nn (hd_ret (v := .non) (d := .non) (fun X => pe_non) (fun _ => .non) rfl)
      case zB1 =>
        refine sd_cons (s_retX (O := fun o => o = if (bx m rows a && bx m rows b) then .inl (.sh (encR (underR m rows a b))) else .inr cN) (xd_call (A := A_under cN) (ds := [.tab m rows, encR a, encR b]) hUn ?zk2 rfl (ad_cons' (ed_var rfl rfl) (.sh _) (ad_cons' (ed_var rfl rfl) (.sh _) (ad_cons' (ed_var rfl rfl) (.sh _) ad_nil))) ⟨m, rows, a, b, rfl, ⟨h0, h8, hr⟩, rfl⟩ rfl) (fun r1 hr1 => ?_) fun c hc => ?_)
        case zk2 => dsimp only; decide
        · rw [hb, if_neg Bool.false_ne_true] at hr1
          cases hr1
        · rw [hb, if_neg Bool.false_ne_true] at hc
          cases hc
          exact hso_yes er.nn (hd_ret (v := .non) (d := .non) (fun X => pe_non) (fun _ => .non) rfl)
theorem ok_refE (hOv : FnT U "over" 5 (A_over cN)) (hUn : FnT U "under" 5 (A_under cN)) (xE : ExT U "MarkError" cE) (xM : ExT U "BadMark" cM) (xT : ExT U "BadThing" cT) (xS : ExT U "BadSize" cS) (er : ErrsN U cN cE cM cT cS) (mV : U.mg "ValueError" = none) (F : Fun U.K x q s_law_refused_by_any f fd) : FnOk U.P U.w U.K U.mg U.base (L2.CX U.P U.w) 6 f fd ["_law_table", "_law_way", "_law_one", "_law_other"] (spX U A_badE) := by
  have hN := sc_law_refused_by_any.nd
  refine fn_ok F sc_law_refused_by_any (fun ds o h => ?_) fun ds o h => ?_
  · obtain ⟨m, rows, w, a, b, rfl, _⟩ := h
    rfl
  · obtain ⟨m, rows, w, a, b, rfl, ⟨h0, h8, hr, hb⟩, rfl⟩ := h
    have ce : ∀ a : Addr, (fun (a : Addr) (j : Nat) => if j = List.idxOf ("e" : Str) N_law_refused_by_any then some (V.ref a) else none) a (List.idxOf ("e" : Str) N_law_refused_by_any) = some (.ref a) := fun a => if_pos rfl
    have hVE : ClN ⟨U, N_law_refused_by_any, defScope s_law_refused_by_any, fun _ => true, 5⟩ "ValueError" (.ty "ValueError") (.type "ValueError") := ⟨rfl, rfl, .inr ⟨mV, by decide +kernel, by decide⟩, .ty _, rfl⟩
    refine sd_at (ρ' := [.sh (.tab m rows), .sh (.int w), .sh (encR a), .sh (encR b), .no]) rfl ?_
    refine sd_cons (s_tryA (cv := .ref cE) (.own xE rfl) ?zb hN ?zi rfl)
    case zi => wtm_at "m.dec"
    case zb =>
      refine sd_cons (s_if (k := decide (w = 0)) (TD.cast (b := ?zb1) ?zt1 ?zq1) (fun hk => ?zA1) fun hk => ?zB1)
      case zt1 => wtm_at "m.td"
      case zq1 => simp only [Rs.d, deq_int]
      case zA1 =>
        refine sd_cons (s_exprX (O := fun o => o = if (bx m rows a && bx m rows b) then .inl (.sh (encR (overR rows a b))) else .inr cN) (xd_call (A := A_over cN) (ds := [.tab m rows, encR a, encR b]) hOv ?zk rfl (ad_cons' (ed_var rfl rfl) (.sh _) (ad_cons' (ed_var rfl rfl) (.sh _) (ad_cons' (ed_var rfl rfl) (.sh _) ad_nil))) ⟨m, rows, a, b, rfl, ⟨h0, h8, hr⟩, rfl⟩ rfl) (fun r1 hr1 => ?_) fun c hc => ?_)
        case zk => dsimp only; decide
        · rw [hb, if_neg Bool.false_ne_true] at hr1
          cases hr1
        · rw [hb, if_neg Bool.false_ne_true] at hc
          cases hc
          refine ⟨true, er.ne, fun _ => ha_eret (v := .bl true) (d := .bl true) (eh_and (b := true) (b' := true) (eh_isi er.x ce ?zi1 rfl hVE er.v rfl T.isinstance) (eh_one (eh_not (b := false) (eh_isi3 er.x ce ?zi2 rfl (.own xM rfl) (.own xT rfl) (.own xS rfl) er.o rfl T.isinstance)))) ?zl (fun _ => .bl true) rfl, fun q => nomatch q⟩
          case zi1 => wtm_at "m.dec"
          case zi2 => wtm_at "m.dec"
          case zl => show List.idxOf ("e" : Str) N_law_refused_by_any < 5; decide +kernel
      case zB1 =>
        refine sd_cons (s_exprX (O := fun o => o = if (bx m rows a && bx m rows b) then .inl (.sh (encR (underR m rows a b))) else .inr cN) (xd_call (A := A_under cN) (ds := [.tab m rows, encR a, encR b]) hUn ?zk2 rfl (ad_cons' (ed_var rfl rfl) (.sh _) (ad_cons' (ed_var rfl rfl) (.sh _) (ad_cons' (ed_var rfl rfl) (.sh _) ad_nil))) ⟨m, rows, a, b, rfl, ⟨h0, h8, hr⟩, rfl⟩ rfl) (fun r1 hr1 => ?_) fun c hc => ?_)
        case zk2 => dsimp only; decide
        · rw [hb, if_neg Bool.false_ne_true] at hr1
          cases hr1
        · rw [hb, if_neg Bool.false_ne_true] at hc
          cases hc
          refine ⟨true, er.ne, fun _ => ha_eret (v := .bl true) (d := .bl true) (eh_and (b := true) (b' := true) (eh_isi er.x ce ?yi1 rfl hVE er.v rfl T.isinstance) (eh_one (eh_not (b := false) (eh_isi3 er.x ce ?yi2 rfl (.own xM rfl) (.own xT rfl) (.own xS rfl) er.o rfl T.isinstance)))) ?yl (fun _ => .bl true) rfl, fun q => nomatch q⟩
          case yi1 => wtm_at "m.dec"
          case yi2 => wtm_at "m.dec"
          case yl => show List.idxOf ("e" : Str) N_law_refused_by_any < 5; decide +kernel
omit C
theorem ok_refs (hTr : FnT U "_law_tried" 6 A_badB) (hRe : FnT U "_law_refused_by_any" 6 A_badE) (F : Fun U.K x q s_law_refuses f fd) : FnOk U.P U.w U.K U.mg U.base (L2.CX U.P U.w) 7 f fd ["_law_table", "_law_bad", "_law_good"] (spX U A_refs) := by
  have hN := sc_law_refuses.nd
  refine fn_ok F sc_law_refuses (fun ds o h => ?_) fun ds o h => ?_
  · obtain ⟨m, rows, a, b, rfl, _⟩ := h
    rfl
  · obtain ⟨m, rows, a, b, rfl, ⟨h0, h8, hr, hb⟩, rfl⟩ := h
    have c1 : 0 ≤ m ∧ m ≤ 8 ∧ rows.length ≤ 12 ∧ (bx m rows a && bx m rows b) = false := ⟨h0, h8, hr, by rw [hb]; rfl⟩
    have c2 : 0 ≤ m ∧ m ≤ 8 ∧ rows.length ≤ 12 ∧ (bx m rows b && bx m rows a) = false := ⟨h0, h8, hr, by rw [hb, Bool.and_false]⟩
    refine sd_at (ρ' := [.sh (.tab m rows), .sh (encR a), .sh (encR b), .no]) rfl ?_
    refine' sd_cons (s_forR (m := 2) ?zi (fun i ρ => ∃ s, ρ = [.sh (.tab m rows), .sh (encR a), .sh (encR b), s]) ⟨.no, rfl⟩ ?zs ?zd hN ?zi3 ?zi4)
    case zi3 => wtm_at "m.dec"
    case zi4 => wtm_at "m.dec"
    case zi =>
      refine' if_range (i := 2) T ?zia (by decide) (by decide) rfl
      case zia => wtm_at "m.ed"
    case zs =>
      intro i ρ' hi hs
      obtain ⟨s, rfl⟩ := hs
      refine sd_at (ρ' := [.sh (.tab m rows), .sh (encR a), .sh (encR b), .sh (.int (i : Int))]) rfl ?_
      refine sd_cons (s_if (k := false) (TD.cast (td_bool (tw_or (And.right (cp_notN (x := .sh .non) ?zt1)) (fun _ => tw_or1 (And.right (cp_notN (x := .sh .non) ?zt2))))) rfl) (fun hk => nomatch hk) fun hk => sd_nil (sd_nil ⟨_, rfl⟩))
      case zt1 =>
        refine' ed_call (A := A_badB) (ds := [.tab m rows, .int (i : Int), encR a, encR b]) hTr ?zk1 rfl ?za1 ⟨m, rows, _, a, b, rfl, c1, rfl⟩
        case zk1 => dsimp only; decide
        case za1 => wtm_at "m.ad"
      case zt2 =>
        refine' ed_call (A := A_badB) (ds := [.tab m rows, .int (i : Int), encR b, encR a]) hTr ?zk2 rfl ?za2 ⟨m, rows, _, b, a, rfl, c2, rfl⟩
        case zk2 => dsimp only; decide
        case za2 => wtm_at "m.ad"
    case zd =>
      intro ρ' hs
      obtain ⟨s, rfl⟩ := hs
      refine sd_cons (s_ret (r := .sh (.bl true)) (ED.cast (r := .sh (.bl (true && true))) (ed_and ?zt3 (fun _ => ed_one ?zt4)) rfl) rfl)
      case zt3 =>
        refine' ed_call (A := A_badE) (ds := [.tab m rows, .int 0, encR a, encR b]) hRe ?zk3 rfl ?za3 ⟨m, rows, 0, a, b, rfl, c1, rfl⟩
        case zk3 => dsimp only; decide
        case za3 => wtm_at "m.ad"
      case zt4 =>
        refine' ed_call (A := A_badE) (ds := [.tab m rows, .int 1, encR b, encR a]) hRe ?zk4 rfl ?za4 ⟨m, rows, 1, b, a, rfl, c2, rfl⟩
        case zk4 => dsimp only; decide
        case za4 => wtm_at "m.ad"
end
end Mb
set_option Elab.async false
set_option linter.all false
set_option maxRecDepth 100000
set_option maxHeartbeats 4000000
namespace Mb
open PySem PySem.Spec PyProof.Rows L2
local macro_rules | `(tactic| wtm_at "m.dec") => `(tactic| (dsimp only [Gx.blk]; decide +kernel))
local macro_rules | `(tactic| wtm_at "m.hint") => `(tactic| fail)
local macro_rules | `(tactic| wtm_at "m.side") => `(tactic| first | with_reducible assumption | assumption | decide | omega | exact Or.inr (And.intro (by omega) (by omega)) | exact Or.inl (And.intro (by omega) (by omega)) | exact And.intro (by omega) (by omega) | (simp only [List.length_cons, List.length_nil, List.length_map, List.length_range, List.length_append, sizeLine_eq]; omega) | wtm_at "m.hint" | solve_by_elim)
local macro_rules | `(tactic| wtm_at "m.dn") => `(tactic| first
  | exact Dn.int _ _ | exact Dn.bl _ _ | exact Dn.non _
  | (refine dn_lst (n := _) ?_; wtm_at "m.dm") | (refine dn_nls (n := _) ?_; wtm_at "m.dm") | (refine dn_tup (n := _) ?_; wtm_at "m.dm"))
local macro_rules | `(tactic| wtm_at "m.dm") => `(tactic| first
  | exact dm_nil | (refine dm_map ?_; intro _; wtm_at "m.dn") | (refine dm_cons ?a ?b; (case a => wtm_at "m.dn"); (case b => wtm_at "m.dm")) | (refine dm_app ?a ?b; (case a => wtm_at "m.dm"); (case b => wtm_at "m.dm")))
local macro_rules | `(tactic| wtm_at "m.tosh") => `(tactic| first | exact ToSh.sh _ | exact ToSh.fr _)
local macro_rules | `(tactic| wtm_at "m.eds") => `(tactic| (refine' ED.toSh ?h ?t ?q; (case h => wtm_at "m.ed"); (case t => wtm_at "m.tosh"); (case q => exact rfl)))
local macro_rules | `(tactic| wtm_at "m.tosha") => `(tactic| first | exact ToSh.un _ | exact ToSh.sh _ | exact ToSh.fr _)
local macro_rules | `(tactic| wtm_at "m.ad") => `(tactic| first
  | exact ad_nil
  | (refine' ad_cons' ?h ?t ?r; (case h => wtm_at "m.ed"); (case t => wtm_at "m.tosha"); (case r => wtm_at "m.ad")))
local macro_rules | `(tactic| wtm_at "m.adk") => `(tactic| first
  | exact ad_nil
  | (refine' ad_cons' ?h ?t ?r; (case h => wtm_at "m.ed"); (case t => wtm_at "m.tosh"); (case r => wtm_at "m.adk")))
local macro_rules | `(tactic| wtm_at "m.ic") => `(tactic| first
  | (refine' ic_range (by assumption) ?a ?b ?c ?g; (case a => wtm_at "m.ed"); (case g => rfl); (case b => wtm_at "m.side"); (case c => wtm_at "m.side"))
  | (refine' ic_list ?h ?q; (case h => wtm_at "m.ed"); (case q => exact rfl)))
local macro_rules | `(tactic| wtm_at "m.if") => `(tactic| first
  | (refine' if_range (by assumption) ?a ?b ?c ?g; (case a => wtm_at "m.ed"); (case g => rfl); (case b => wtm_at "m.side"); (case c => wtm_at "m.side"))
  | (refine' if_range2 (by assumption) ?a ?a2 ?b ?g; (case a => wtm_at "m.ed"); (case a2 => wtm_at "m.ed"); (case g => rfl); (case b => wtm_at "m.side"))
  | (refine' if_list ?h; (case h => wtm_at "m.ed"))
  | (refine' if_nls ?h; (case h => wtm_at "m.ed"))
  | (refine' if_fr ?h; (case h => wtm_at "m.ed"))
  | (refine' if_tup ?h; (case h => wtm_at "m.ed")))
local macro_rules | `(tactic| wtm_at "m.ld") => `(tactic| first
  | (refine' ld_lc0 ?n ?i ?j ?o ?l ?e; (case n => assumption); (case i => wtm_at "m.ic"); (case j => wtm_at "m.dec"); (case o => wtm_at "m.dec"); (case l => wtm_at "m.dec"); (case e => intro _ hx; (try have hx := List.mem_range.mp hx); wtm_at "m.eds"))
  | (refine' ld_lc1 ?n ?i ?j ?o ?l ?t ?e; (case n => assumption); (case i => wtm_at "m.ic"); (case j => wtm_at "m.dec"); (case o => wtm_at "m.dec"); (case l => wtm_at "m.dec"); (case t => (intro _ hx; (try have hx := List.mem_range.mp hx); refine' TD.cast ?h ?q; (case h => wtm_at "m.td"); (case q => exact rfl))); (case e => intro _ hx _; (try have hx := List.mem_range.mp hx); wtm_at "m.eds"))
  | (refine' ld_lcp0 ?n ?i ?j ?j2 ?o ?l ?l2 ?e; (case n => assumption); (case i => wtm_at "m.ic"); (case j => wtm_at "m.dec"); (case j2 => wtm_at "m.dec"); (case o => wtm_at "m.dec"); (case l => wtm_at "m.dec"); (case l2 => wtm_at "m.dec"); (case e => intro _ _; wtm_at "m.eds"))
  | (refine' ld_lcp1 ?n ?i ?j ?j2 ?o ?l ?l2 ?t ?e; (case n => assumption); (case i => wtm_at "m.ic"); (case j => wtm_at "m.dec"); (case j2 => wtm_at "m.dec"); (case o => wtm_at "m.dec"); (case l => wtm_at "m.dec"); (case l2 => wtm_at "m.dec"); (case t => (intro _ hx; (try have hx := List.mem_range.mp hx); refine' TD.cast ?h ?q; (case h => wtm_at "m.td"); (case q => exact rfl))); (case e => intro _ hx _; (try have hx := List.mem_range.mp hx); wtm_at "m.eds")))
local macro_rules | `(tactic| wtm_at "m.addr") => `(tactic| first | exact AddR.int _ _ | (refine' AddR.cat ?x ?y ?z; (case x => exact rfl); (case y => exact rfl); (case z => wtm_at "m.side")))
local macro_rules | `(tactic| wtm_at "m.at") => `(tactic| first
  | exact rfl
  | assumption
  | (refine atI_get (d := (0 : Int)) ?a ?b; (case a => wtm_at "m.side"); (case b => wtm_at "m.side"))
  | (refine atI_ints (d := default) ?a ?b; (case a => wtm_at "m.side"); (case b => wtm_at "m.side"))
  | (refine atI_lit ?a ?b ?c; (case a => wtm_at "m.side"); (case b => wtm_at "m.side"); (case c => rfl))
  | solve_by_elim)
local macro_rules | `(tactic| wtm_at "m.ixd") => `(tactic| first
  | (refine' IxD.tup ?h; (case h => wtm_at "m.at"))
  | (refine' IxD.scr ?h; (case h => wtm_at "m.at"))
  | (refine' IxD.list ?x ?h; (case x => exact rfl); (case h => wtm_at "m.at")))
local macro_rules | `(tactic| wtm_at "m.cp") => `(tactic| first
  | (refine' cp_lt ?a ?b; (case a => wtm_at "m.ed"); (case b => wtm_at "m.ed"))
  | (refine' cp_le ?a ?b; (case a => wtm_at "m.ed"); (case b => wtm_at "m.ed"))
  | (refine' cp_gt ?a ?b; (case a => wtm_at "m.ed"); (case b => wtm_at "m.ed"))
  | (refine' cp_ge ?a ?b; (case a => wtm_at "m.ed"); (case b => wtm_at "m.ed"))
  | (refine' cp_eq ?a ?b ?c ?d; (case a => wtm_at "m.ed"); (case b => wtm_at "m.ed"); (case c => wtm_at "m.dn"); (case d => wtm_at "m.dn"))
  | (refine' cp_ne ?a ?b ?c ?d; (case a => wtm_at "m.ed"); (case b => wtm_at "m.ed"); (case c => wtm_at "m.dn"); (case d => wtm_at "m.dn"))
  | (refine' cp_in ?a ?b ?e ?c ?d ?m; (case a => wtm_at "m.ed"); (case b => wtm_at "m.ed"); (case e => exact rfl); (case c => wtm_at "m.dn"); (case d => wtm_at "m.dm"); (case m => rfl))
  | (refine' cp_nin ?a ?b ?e ?c ?d ?m; (case a => wtm_at "m.ed"); (case b => wtm_at "m.ed"); (case e => exact rfl); (case c => wtm_at "m.dn"); (case d => wtm_at "m.dm"); (case m => rfl))
  | (refine' cp_isN ?a; (case a => wtm_at "m.ed"))
  | (refine' cp_notN ?a; (case a => wtm_at "m.ed"))
  | (refine' ch_le_lt ?a ?b ?c; (case a => wtm_at "m.ed"); (case b => wtm_at "m.ed"); (case c => wtm_at "m.ed"))
  | (refine' ch_le_le ?a ?b ?c; (case a => wtm_at "m.ed"); (case b => wtm_at "m.ed"); (case c => wtm_at "m.ed")))
local macro_rules | `(tactic| wtm_at "m.tw") => `(tactic| first
  | (refine' tw_and ?a ?b; (case a => wtm_at "m.td"); (case b => intro _; wtm_at "m.tw"))
  | (refine' tw_or ?a ?b; (case a => wtm_at "m.td"); (case b => intro _; wtm_at "m.tw"))
  | (refine' tw_and1 ?a; (case a => wtm_at "m.td"))
  | (refine' tw_or1 ?a; (case a => wtm_at "m.td")))
local macro_rules | `(tactic| wtm_at "m.td") => `(tactic| first
  | (refine' And.right (a := ?p) ?h; (case h => wtm_at "m.cp"))
  | (refine' td_not ?h; (case h => wtm_at "m.td"))
  | (refine' td_bool ?h; (case h => wtm_at "m.tw"))
  | (refine' td_val ?h; (case h => wtm_at "m.ed")))
local macro_rules | `(tactic| wtm_at "m.bo") => `(tactic| first
  | (refine' ed_and ?a ?b; (case a => wtm_at "m.ed"); (case b => intro _; wtm_at "m.bo"))
  | (refine' ed_or ?a ?b; (case a => wtm_at "m.ed"); (case b => intro _; wtm_at "m.bo"))
  | (refine' ed_one ?a; (case a => wtm_at "m.ed")))
local macro_rules | `(tactic| wtm_at "m.pre") => `(tactic| first
  | exact ⟨_, rfl, rfl⟩ | exact ⟨_, _, rfl, rfl⟩ | exact ⟨_, _, _, rfl, rfl⟩ | exact ⟨_, _, _, _, rfl, rfl⟩ | exact ⟨_, _, _, _, _, rfl, rfl⟩
  | (refine ⟨_, rfl, ?_, rfl⟩; wtm_at "m.side") | (refine ⟨_, _, rfl, ?_, rfl⟩; wtm_at "m.side") | (refine ⟨_, _, _, rfl, ?_, rfl⟩; wtm_at "m.side") | (refine ⟨_, _, _, _, rfl, ?_, rfl⟩; wtm_at "m.side") | (refine ⟨_, _, _, _, _, rfl, ?_, rfl⟩; wtm_at "m.side"))
local macro_rules | `(tactic| wtm_at "m.call") => `(tactic| first
  | wtm_at "m.direct"
  | (refine' ed_thaw ?h ?d; (case h => wtm_at "m.direct"); (case d => rfl)))
local macro_rules | `(tactic| wtm_at "m.od") => `(tactic| first | exact od_none | (refine' od_some ?h; (case h => wtm_at "m.ed")))
local macro_rules | `(tactic| wtm_at "m.direct") => `(tactic| first
  | (refine' ed_call ?T ?k ?g ?a ?A; (case T => assumption); (case k => (dsimp only [Gx.blk]; decide)); (case g => rfl); (case a => wtm_at "m.ad"); (case A => wtm_at "m.pre"))
  | (refine' ed_many (by assumption) ?a ?b; (case a => wtm_at "m.ed"); (case b => exact rfl))
  | (refine' ed_rows (by assumption) ?a; (case a => wtm_at "m.ed"))
  | (refine' ed_meth (by assumption) ?T ?k ?o ?d ?a ?A; (case T => assumption); (case k => (dsimp only [Gx.blk]; decide)); (case o => wtm_at "m.ed"); (case d => exact rfl); (case a => wtm_at "m.ad"); (case A => wtm_at "m.pre")))
local macro_rules | `(tactic| wtm_at "m.ed") => `(tactic| first
  | (refine' ed_varA ?h ?v; (case h => exact rfl); (case v => rfl))
  | (refine' ed_var ?h ?v; (case h => exact rfl); (case v => rfl))
  | exact ed_int
  | (refine' ed_ixR ?a ?b ?c; (case a => wtm_at "m.ed"); (case b => wtm_at "m.ed"); (case c => wtm_at "m.ixd"))
  | (refine' And.left (b := ?p) ?h; (case h => wtm_at "m.cp"))
  | (refine' ed_addR ?a ?b ?c; (case a => wtm_at "m.ed"); (case b => wtm_at "m.ed"); (case c => wtm_at "m.addr"))
  | (refine' ed_sub ?a ?b; (case a => wtm_at "m.ed"); (case b => wtm_at "m.ed"))
  | (refine' ed_mul ?a ?b ?c; (case a => wtm_at "m.ed"); (case b => wtm_at "m.ed"); (case c => wtm_at "m.side"))
  | (refine' ed_fdiv ?a ?b ?c; (case a => wtm_at "m.ed"); (case b => wtm_at "m.ed"); (case c => wtm_at "m.side"))
  | (refine' ed_mod ?a ?b ?c; (case a => wtm_at "m.ed"); (case b => wtm_at "m.ed"); (case c => wtm_at "m.side"))
  | (refine' ed_pow ?a ?b ?c; (case a => wtm_at "m.ed"); (case b => wtm_at "m.ed"); (case c => wtm_at "m.side"))
  | (refine' ed_neg ?a; (case a => wtm_at "m.ed"))
  | (refine' LD.ed ?a; (case a => wtm_at "m.ld"))
  | (refine' ed_len (by assumption) ?a ?b ?g; (case a => wtm_at "m.ed"); (case b => exact rfl); (case g => rfl))
  | (refine' ed_listRange (by assumption) ?a ?b ?c ?g ?g2; (case a => wtm_at "m.ed"); (case b => wtm_at "m.side"); (case c => wtm_at "m.side"); (case g => rfl); (case g2 => rfl))
  | (refine' ed_list (by assumption) ?a ?b ?g; (case a => wtm_at "m.ed"); (case b => exact rfl); (case g => rfl))
  | (refine' ed_all (by assumption) ?a ?b ?g; (case a => wtm_at "m.ed"); (case b => exact rfl); (case g => rfl))
  | (refine' ed_any (by assumption) ?a ?b ?g; (case a => wtm_at "m.ed"); (case b => exact rfl); (case g => rfl))
  | (refine' ed_sum (by assumption) ?a ?b ?g; (case a => wtm_at "m.ed"); (case b => exact rfl); (case g => rfl))
  | (refine' ed_sorted (by assumption) ?a ?b ?g; (case a => wtm_at "m.ed"); (case b => exact rfl); (case g => rfl))
  | (refine' ed_intB (by assumption) ?a ?g; (case a => wtm_at "m.ed"); (case g => rfl))
  | (refine' ed_max (by assumption) ?a ?b ?g; (case a => wtm_at "m.ed"); (case b => wtm_at "m.ed"); (case g => rfl))
  | (refine' ed_min (by assumption) ?a ?b ?g; (case a => wtm_at "m.ed"); (case b => wtm_at "m.ed"); (case g => rfl))
  | (refine' ed_isi (k := true) (by assumption) ?a ?b ?t ?k ?g; (case a => wtm_at "m.ed"); (case b => wtm_at "m.ed"); (case t => exact rfl); (case k => decide +kernel); (case g => rfl))
  | (refine' ed_isi (k := false) (by assumption) ?a ?b ?t ?k ?g; (case a => wtm_at "m.ed"); (case b => wtm_at "m.ed"); (case t => exact rfl); (case k => decide +kernel); (case g => rfl))
  | (refine' ed_tup ?a ?b; (case a => wtm_at "m.adk"); (case b => wtm_at "m.side"))
  | (refine' ed_lst ?a ?b; (case a => wtm_at "m.adk"); (case b => wtm_at "m.side"))
  | (refine' ed_sl ?a ?x ?l ?u; (case a => wtm_at "m.ed"); (case x => exact rfl); (case l => wtm_at "m.od"); (case u => wtm_at "m.od"))
  | (refine' ed_not ?a; (case a => wtm_at "m.ed"))
  | wtm_at "m.bo"
  | wtm_at "m.call"
  | (refine' ed_own ?h ?v; (case h => exact rfl); (case v => rfl))
  | exact ed_bl
  | exact ed_non
  | (refine' ed_globI ?h ?m; (case h => rfl); (case m => assumption))
  | (refine' ed_tyInt (by assumption) ?g; (case g => rfl))
  | (refine' ed_tyList (by assumption) ?g; (case g => rfl))
  | (refine' ed_tyTuple (by assumption) ?g; (case g => rfl))
  | (refine' ed_tyBool (by assumption) ?g; (case g => rfl)))
local macro_rules | `(tactic| wtm_at "s.set") => `(tactic| (refine' sd_cons (s_set ?e ?q ?n ?i ?o); (case n => assumption); (case i => wtm_at "m.dec"); (case o => wtm_at "m.dec"); (case e => wtm_at "m.eds")))
local macro_rules | `(tactic| wtm_at "s.own") => `(tactic| (refine' sd_cons (s_own ?e ?q ?n ?i ?o); (case n => assumption); (case i => wtm_at "m.dec"); (case o => wtm_at "m.dec"); (case e => wtm_at "m.ed")))
local macro_rules | `(tactic| wtm_at "s.lc") => `(tactic| (refine' sd_cons (s_lc ?e ?q ?i ?k ?y ?l ?a); (case i => wtm_at "m.dec"); (case k => rfl); (case y => rfl); (case l => rfl); (case a => decide +kernel); (case e => wtm_at "m.ld")))
local macro_rules | `(tactic| wtm_at "s.lco") => `(tactic| (refine' sd_cons (s_lcO ?e ?q ?i ?k ?y ?l ?a); (case i => wtm_at "m.dec"); (case k => rfl); (case y => rfl); (case l => rfl); (case a => decide +kernel); (case e => wtm_at "m.ld")))
local macro_rules | `(tactic| wtm_at "s.lcc") => `(tactic| (refine' sd_cons (s_set ?e ?q ?n ?i ?o (swapF ?s)); (case n => assumption); (case i => wtm_at "m.dec"); (case o => wtm_at "m.dec"); (case s => rfl); (case e => (refine' ED.shr (LD.ed ?f); (case f => wtm_at "m.ld")))))
local macro_rules | `(tactic| wtm_at "s.ret") => `(tactic| (refine' sd_cons (s_ret ?e ?q); (case e => wtm_at "m.ed")))
local macro_rules | `(tactic| wtm_at "s.if") => `(tactic| (refine' sd_cons (s_if ?zzt ?zzy ?zzm); (case zzt => wtm_at "m.td")))
local macro_rules | `(tactic| wtm_at "s.ift") => `(tactic| (refine' sd_cons (s_if (td_thaw ?zzt) ?zzy ?zzm); (case zzt => wtm_at "m.td")))
local macro_rules | `(tactic| wtm_at "s.app") => `(tactic| (refine' sd_cons (s_app ?e ?h ?v ?z ?q); (case h => exact rfl); (case v => rfl); (case e => wtm_at "m.eds"); (case z => wtm_at "m.side")))
local macro_rules | `(tactic| wtm_at "s.ifset") => `(tactic| (refine' sd_cons (s_ifset ?c ?e ?h1 ?h2 ?h0 ?q ?n ?i ?o); (case n => assumption); (case i => wtm_at "m.dec"); (case o => wtm_at "m.dec"); (case h0 => exact rfl); (case c => wtm_at "m.td"); (case e => intro _; wtm_at "m.eds")))
local macro_rules | `(tactic| wtm_at "s.raise") => `(tactic| (refine' sd_cons (s_raise ?T ?g ?r); (case T => assumption); (case g => rfl)))
local macro_rules | `(tactic| wtm_at "m.make") => `(tactic| (refine' ed_make ?T ?k ?g ?a ?b ?A; (case T => assumption); (case k => (dsimp only [Gx.blk]; decide)); (case g => rfl); (case a => wtm_at "m.ed"); (case b => wtm_at "m.eds"); (case A => assumption)))
local macro_rules | `(tactic| wtm_at "sl.flat") => `(tactic| first | exact flat_sets | exact flat_tab | exact flat_scr | exact flat_int | exact flat_pair flat_int flat_sets)
local macro_rules | `(tactic| wtm_at "sl.one") => `(tactic| first
  | exact Or.inl rfl
  | exact SpM.no
  | exact SpR.no
  | exact SpM.told rfl
  | exact SpR.told rfl
  | (refine SpM.keep (by decide) rfl ?_ rfl; wtm_at "sl.flat")
  | exact SpM.conv (by decide) rfl conv_int.1
  | exact SpR.keep (by decide) (by decide) rfl rfl rfl
  | exact SpR.conv (by decide) rfl conv_int.2
  | exact SpR.conv (by decide) rfl back_rules
  | exact SpR.conv (by decide) rfl back_sets
  | (refine Or.inr ⟨_, rfl, rfl, ?_⟩; wtm_at "sl.flat"))
local macro_rules | `(tactic| wtm_at "sl.all") => `(tactic| ((repeat' first | exact slAll_nil | refine slAll_cons ?_ ?_) <;> wtm_at "sl.one"))
local macro_rules | `(tactic| wtm_at "op.mem") => `(tactic| first | exact .head _ | exact .tail _ (.head _) | exact .tail _ (.tail _ (.head _)) | exact .tail _ (.tail _ (.tail _ (.head _))) | exact .tail _ (.tail _ (.tail _ (.tail _ (.head _)))) | exact .tail _ (.tail _ (.tail _ (.tail _ (.tail _ (.head _))))) | exact .tail _ (.tail _ (.tail _ (.tail _ (.tail _ (.tail _ (.head _)))))))
local macro_rules | `(tactic| wtm_at "op.d") => `(tactic| first
  | exact opn_refl
  | (refine opn_ints ?_; wtm_at "op.mem")
  | (refine opn_tup ?_; wtm_at "op.l")
  | (refine opn_lst ?_; wtm_at "op.l")
  | (refine opn_cell ?zopm ?zopl; (case zopm => wtm_at "op.mem"); (case zopl => first | exact opnL_refl | wtm_at "op.l")))
local macro_rules | `(tactic| wtm_at "op.l") => `(tactic| first
  | exact opnL_nil
  | (refine opnL_cons ?zopa ?zopb; (case zopa => wtm_at "op.d"); (case zopb => wtm_at "op.l")))
local macro_rules | `(tactic| wtm_at "op.one") => `(tactic| first
  | exact OpS.no
  | exact OpS.own rfl
  | (refine OpS.sh rfl ?_; wtm_at "op.d"))
local macro_rules | `(tactic| wtm_at "op.all") => `(tactic| ((repeat' first | exact slAll_nil | refine slAll_cons ?_ ?_) <;> wtm_at "op.one"))
local macro_rules | `(tactic| wtm_at "op.one2") => `(tactic| first
  | exact OpS.no
  | exact OpS.own rfl
  | exact OpS.sh rfl (by assumption)
  | exact OpS.sh rfl opn_refl)
local macro_rules | `(tactic| wtm_at "op.all2") => `(tactic| ((repeat' first | exact slAll_nil | refine slAll_cons ?_ ?_) <;> wtm_at "op.one2"))
section
variable {m : Int} {rows : List (List Int)} {a b c : Rule}
theorem both_self (X : List Int) : bothL X X = X := by
  unfold bothL
  exact List.filter_eq_self.mpr fun x hx => decide_eq_true hx
theorem over_self (h : a ∈ boxL m rows) : overR rows a a = a := by
  obtain ⟨h1, h2, h3⟩ := box_iff.mp h
  unfold overR
  rw [both_self, ← h3]
theorem under_self (h : a ∈ boxL m rows) : underR m rows a a = a := by
  obtain ⟨h1, h2, h3⟩ := box_iff.mp h
  unfold underR
  rw [both_self]
  refine Prod.ext rfl ?_
  show mkL m rows a.1 = a.2
  rw [h3]
  exact h2
theorem mem_thJ {X : List Int} {t : Int} : t ∈ thI rows X ↔ (0 ≤ t ∧ t < rows.length) ∧ Sub X (rows.getD t.toNat []) := by
  rw [mem_thI]
  constructor
  · rintro ⟨i, h1, rfl, h2⟩
    exact ⟨by omega, by rw [Int.toNat_natCast]; exact h2⟩
  · rintro ⟨⟨h0, h1⟩, h2⟩
    exact ⟨t.toNat, by omega, by omega, h2⟩
theorem th_anti {X Y : List Int} (h : Sub X Y) : Sub (thI rows Y) (thI rows X) := fun t ht => by
  obtain ⟨h1, h2⟩ := mem_thJ.mp ht
  exact mem_thJ.mpr ⟨h1, h.trans h2⟩
theorem box_back (ha : a ∈ boxL m rows) (hb : b ∈ boxL m rows) (h : Sub a.1 b.1) : Sub b.2 a.2 := by
  obtain ⟨a1, a2, a3⟩ := box_iff.mp ha
  obtain ⟨b1, b2, b3⟩ := box_iff.mp hb
  rw [← a2]
  intro x hx
  refine mem_clL.mpr ⟨b1.inr x hx, fun i hi hs => ?_⟩
  have : (i : Int) ∈ a.1 := by
    rw [a3]
    exact mem_thJ.mpr ⟨by omega, by rw [Int.toNat_natCast]; exact hs⟩
  have := h _ this
  rw [b3] at this
  have := (mem_thJ.mp this).2 x hx
  rw [Int.toNat_natCast] at this
  exact this
theorem box_l12 (h : a ∈ boxL m rows) (hr : rows.length ≤ 12) : a.1.length ≤ 12 := by
  rw [(box_iff.mp h).2.2]
  have := in_len (th_in rows a.2) (by omega)
  omega
theorem third_has (ha : a ∈ boxL m rows) (hb : b ∈ boxL m rows) (hc : c ∈ boxL m rows) : Sub (a.1 ++ b.1) c.1 ↔ Sub (overR rows a b).1 c.1 := by
  obtain ⟨a1, a2, a3⟩ := box_iff.mp ha
  obtain ⟨b1, b2, b3⟩ := box_iff.mp hb
  obtain ⟨c1, c2, c3⟩ := box_iff.mp hc
  have s1 : Sub (bothL a.2 b.2) a.2 := fun x hx => (List.mem_filter.mp hx).1
  have s2 : Sub (bothL a.2 b.2) b.2 := fun x hx => by simpa using (List.mem_filter.mp hx).2
  constructor
  · intro h
    have ca := box_back ha hc fun x hx => h x (List.mem_append_left _ hx)
    have cb := box_back hb hc fun x hx => h x (List.mem_append_right _ hx)
    show Sub (thI rows (bothL a.2 b.2)) c.1
    rw [c3]
    exact th_anti fun x hx => List.mem_filter.mpr ⟨ca x hx, decide_eq_true (cb x hx)⟩
  · intro h t ht
    refine h t ?_
    show t ∈ thI rows (bothL a.2 b.2)
    rcases List.mem_append.mp ht with e | e
    · rw [a3] at e
      exact th_anti s1 t e
    · rw [b3] at e
      exact th_anti s2 t e
theorem filt_nil {xs ys : List Int} : decide (xs.filter (fun x => !decide (x ∈ ys)) = []) = withinB xs ys := by
  rw [Bool.eq_iff_iff, decide_eq_true_iff, List.filter_eq_nil_iff, withinB_iff]
  exact ⟨fun h x hx => by simpa using h x hx, fun h x hx => by simpa using h x hx⟩
end
theorem cut_two {α : Type} (xs : List α) : cutD xs none (some 2) = xs.take 2 := by
  unfold cutD
  have e1 : HT.sIx xs.length 0 none = 0 := rfl
  have e2 : HT.sIx xs.length xs.length (some 2) = min 2 xs.length := by
    have := HT.sIx_nat xs.length xs.length 2
    rw [show ((2 : Nat) : Int) = 2 from rfl] at this
    rw [this]
    try omega
  rw [e1, e2, List.drop_zero, Nat.sub_zero]
  rcases Nat.le_total 2 xs.length with h | h
  · rw [Nat.min_eq_left h]
  · rw [Nat.min_eq_right h, List.take_length, List.take_of_length_le h]
def drawnX (c m : Int) : List Int := (rangeL m).filter fun mk => decide ((c.fdiv (worthL.getD mk.toNat 0)).fmod 2 = 1)
def drawnM (c m : Int) : List Int := if (c.fdiv 256).fmod 3 = 1 then (drawnX c m).take 2 else drawnX c m
theorem drawnM_in (c m : Int) : inR m (drawnM c m) = true := by
  have h : ∀ x ∈ drawnX c m, 0 ≤ x ∧ x < m := fun x hx => (range_in m).inr x (List.mem_filter.mp hx).1
  unfold drawnM
  split
  · exact inR_iff.mpr fun x hx => h x (List.mem_of_mem_take hx)
  · exact inR_iff.mpr h
def drawnR (m : Int) (rows : List (List Int)) (c : Int) : Rule := (thI rows (drawnM c m), clL m rows (drawnM c m))
abbrev A_drawn : List D → Ot → Prop := fun ds o => ∃ (ns : List Int) (k m : Int) (rows : List (List Int)), ds = [.scr ns, .int k, .int m, D.sets rows] ∧ (0 ≤ k ∧ 0 ≤ m ∧ m ≤ 8 ∧ rows.length ≤ 12) ∧ o = .inl (.sh (encR (drawnR m rows (cellI ns k))))
abbrev A_third : List D → Ot → Prop := fun ds o => ∃ (m : Int) (rows : List (List Int)) (a b c : Rule), ds = [.ints c.1, D.rules [a, b, c], encR (overR rows a b), encR (underR m rows a b)] ∧ (rows.length ≤ 12 ∧ a ∈ boxL m rows ∧ b ∈ boxL m rows ∧ c ∈ boxL m rows) ∧ o = .inl (.sh (.bl true))
abbrev A_beside : List D → Ot → Prop := fun ds o => ∃ (m : Int) (rows : List (List Int)) (ms : List Int), ds = [.int m, D.sets rows, .ints ms] ∧ (0 ≤ m ∧ m ≤ 8 ∧ rows.length ≤ 12 ∧ inR m ms = true ∧ ∀ r ∈ rows, InM m r) ∧ o = .inl (.sh (.bl true))
section
variable {U : Wd} (T : Bl U.mg) (C : TabOk U) {f : Addr} {fd : FuncData} {x q : Str} {cM cT cE cS cN : Addr}
include T
theorem ok_third (F : Fun U.K x q s_law_third_fits f fd) : FnOk U.P U.w U.K U.mg U.base (L2.CX U.P U.w) 1 f fd ["_law_third", "_law_some", "_law_high", "_law_low"] (spX U A_third) := by
  have hN := sc_law_third_fits.nd
  refine fn_ok F sc_law_third_fits (fun ds o h => ?_) fun ds o h => ?_
  · obtain ⟨m, rows, a, b, c, rfl, _⟩ := h
    rfl
  · obtain ⟨m, rows, a, b, c, rfl, ⟨hr, ha, hb, hc⟩, rfl⟩ := h
    have la : a.1.length ≤ 12 ∧ b.1.length ≤ 12 := ⟨box_l12 ha hr, box_l12 hb hr⟩
    have hzz : (a.1.map D.int).length + (b.1.map D.int).length ≤ sizeLine := by
      rw [List.length_map, List.length_map, sizeLine_eq]
      omega
    refine sd_at (ρ' := [.sh (.ints c.1), .sh (D.rules [a, b, c]), .sh (encR (overR rows a b)), .sh (encR (underR m rows a b)), .no, .no, .no]) rfl ?_
    have hz2 : ((a.1 ++ b.1).map D.int).length ≤ sizeLine := by
      rw [List.map_append, List.length_append]
      exact hzz
    refine sd_cons (s_set (d := .bl (withinB (a.1 ++ b.1) c.1)) (ED.cast (r := .sh (.bl _)) (And.left (cp_eq (x := .fr (((a.1 ++ b.1).filter fun x => !decide (x ∈ c.1)).map D.int)) (y := .fr []) (LD.ed ?ze1) ?ze1b ?zd1 ?zd2)) ?zq1) ?zR1 hN ?zi1 ?zj1)
    case zi1 => wtm_at "m.dec"
    case zj1 => wtm_at "m.dec"
    case ze1 =>
      refine' LD.cast (ld_lc1 (xs := a.1 ++ b.1) (enc := D.int) (f := D.int) (pr := fun x => !((c.1.map D.int).any fun z => deq z (.int x))) hN ?yi ?yj ?yo ?yl ?yt ?ye) (by simp only [any_int])
      case yi =>
        refine' ic_list (x := .fr ((a.1 ++ b.1).map D.int)) (ED.cast (r := .fr (a.1.map D.int ++ b.1.map D.int)) (ed_cat (x := .sh (.ints a.1)) (y := .sh (.ints b.1)) ?yc1 ?yc2 rfl rfl hzz) (by rw [List.map_append])) rfl
        case yc1 => wtm_at "m.ed"
        case yc2 => wtm_at "m.ed"
      case yj => wtm_at "m.dec"
      case yo => wtm_at "m.dec"
      case yl => wtm_at "m.dec"
      case yt =>
        intro x hx
        refine' TD.cast (b := ?yb2) ?yt2 ?yq2
        case yt2 => wtm_at "m.td"
        case yq2 => rfl
      case ye =>
        intro x hx _
        wtm_at "m.eds"
    case ze1b => wtm_at "m.ed"
    case zd1 => wtm_at "m.dn"
    case zd2 => wtm_at "m.dn"
    case zq1 =>
      simp only [Rs.d, deq_lnil, List.map_eq_nil_iff]
      rw [filt_nil]
    case zR1 =>
    have e3 : withinB (a.1 ++ b.1) c.1 = withinB (overR rows a b).1 c.1 := by
      rw [Bool.eq_iff_iff, sub_iff, sub_iff]
      exact third_has ha hb hc
    refine sd_at (ρ' := [.sh (.ints c.1), .sh (D.rules [a, b, c]), .sh (encR (overR rows a b)), .sh (encR (underR m rows a b)), .sh (.bl (withinB (a.1 ++ b.1) c.1)), .no, .no]) rfl ?_
    refine sd_cons (s_set (d := .bl (withinB c.1 (underR m rows a b).1)) (ED.cast (r := ?zr2) ?ze2 ?zq2) ?zR2 hN ?zi2 ?zj2)
    case zi2 => wtm_at "m.dec"
    case zj2 => wtm_at "m.dec"
    case ze2 => wtm_at "m.ed"
    case zq2 =>
      simp only [Rs.d, any_int, deq_lnil, List.map_eq_nil_iff]
      congr 2
      rw [Bool.eq_iff_iff, decide_eq_true_iff, List.filter_eq_nil_iff, withinB_iff]
      refine forall_congr' fun x => forall_congr' fun hx => ?_
      show _ ↔ x ∈ bothL a.1 b.1
      unfold bothL
      rw [List.mem_filter]
      simp
    case zR2 =>
    refine sd_at (ρ' := [.sh (.ints c.1), .sh (D.rules [a, b, c]), .sh (encR (overR rows a b)), .sh (encR (underR m rows a b)), .sh (.bl (withinB (a.1 ++ b.1) c.1)), .no, .sh (.bl (withinB c.1 (underR m rows a b).1))]) rfl ?_
    refine sd_cons (s_if (k := false) (TD.cast (b := ?zb4) ?zt4 ?zq4) (fun hk => nomatch hk) fun hk => sd_nil ?zB4)
    case zt4 => wtm_at "m.td"
    case zq4 =>
      simp only [Rs.d, any_int, deq_lnil, List.map_eq_nil_iff, deq_bl]
      rw [filt_nil, ← e3]
      simp
    case zB4 =>
    refine sd_cons (s_ret (r := .sh (.bl true)) (ED.cast (r := ?zr5) ?ze5 ?zq5) rfl)
    case ze5 => wtm_at "m.ed"
    case zq5 =>
      simp only [Rs.d, any_int, deq_lnil, List.map_eq_nil_iff, deq_bl]
      rw [filt_nil]
      simp
theorem ok_drawn (hC : FnT U "_law_cell_at" 1 A_cell) (hBx : FnT U "_law_box" 1 A_box) (F : Fun U.K x q s_law_drawn f fd) : FnOk U.P U.w U.K U.mg U.base (L2.CX U.P U.w) 2 f fd ["_law_script", "_law_at", "_law_many", "_law_rows"] (spX U A_drawn) := by
  have hN := sc_law_drawn.nd
  refine fn_ok F sc_law_drawn (fun ds o h => ?_) fun ds o h => ?_
  · obtain ⟨ns, k, m, rows, rfl, _⟩ := h
    rfl
  · obtain ⟨ns, k, m, rows, rfl, ⟨hk, h0, h8, hr⟩, rfl⟩ := h
    have hmz : m ≤ 16777216 := by omega
    have ca : 0 ≤ m ∧ m ≤ 8 ∧ rows.length ≤ 12 := ⟨h0, h8, hr⟩
    refine sd_at (ρ' := [.sh (.scr ns), .sh (.int k), .sh (.int m), .sh (D.sets rows), .no, .no, .no]) rfl ?_
    wtm_at "s.set"
    generalize cellI ns k = c
    refine sd_at (ρ' := [.sh (.scr ns), .sh (.int k), .sh (.int m), .sh (D.sets rows), .sh (.int c), .no, .no]) rfl ?_
    refine sd_cons (s_lc (ds := (drawnX c m).map D.int) (LD.cast (ds := ?xd0) ?xe2 ?xq0) ?xq2 ?xi ?xk ?xy ?xl ?xa)
    case xi => wtm_at "m.dec"
    case xk => rfl
    case xy => rfl
    case xl => rfl
    case xa => decide +kernel
    case xe2 =>
      refine' ld_lc1 (xs := List.range m.toNat) (enc := fun (j : Nat) => D.int (j : Int)) (f := fun (j : Nat) => D.int (j : Int)) (pr := fun (j : Nat) => decide ((c.fdiv (worthL.getD j 0)).fmod 2 = 1)) hN ?yi ?yj ?yo ?yl ?yt ?ye
      case yi => wtm_at "m.ic"
      case yj => wtm_at "m.dec"
      case yo => wtm_at "m.dec"
      case yl => wtm_at "m.dec"
      case yt =>
        intro j hj
        have hj := List.mem_range.mp hj
        have hwj : CDivN c (worthL.getD j 0) := by
          have := worth_pos (z := (j : Int)) (by omega) (by omega)
          rw [Int.toNat_natCast] at this
          exact this
        have hat : atI (worthL.map D.int) (j : Int) = some (.int (worthL.getD j 0)) := by
          have := atI_ints (f := D.int) (xs := worthL) (d := 0) (z := (j : Int)) (by omega) (by show (j : Int) < 8; omega)
          rw [Int.toNat_natCast] at this
          exact this
        refine' TD.cast (b := ?zb) ?zt ?zq
        case zt => wtm_at "m.td"
        case zq => simp only [Rs.d, deq_int]
      case ye =>
        intro j hj _
        wtm_at "m.eds"
    case xq0 =>
      unfold drawnX
      rw [filter_range]
      simp only [Int.toNat_natCast]
    case xq2 =>
    show SD _ _ _ _
    refine sd_at (ρ' := [.sh (.scr ns), .sh (.int k), .sh (.int m), .sh (D.sets rows), .sh (.int c), .sh (.ints (drawnX c m)), .no]) rfl ?_
    refine' sd_cons (s_ifset (d' := .ints (drawnM c m)) ?zca ?zea ?zh1a ?zh2a ?zh0a ?zqa hN ?zj1a ?zj2a)
    case zj1a => wtm_at "m.dec"
    case zj2a => wtm_at "m.dec"
    case zh0a => exact rfl
    case zca => wtm_at "m.td"
    case zea => intro _; wtm_at "m.eds"
    case zh1a =>
      intro hk
      simp only [Rs.d, deq_int] at hk
      unfold drawnM
      rw [if_pos (of_decide_eq_true hk)]
      show D.lst (cutD ((drawnX c m).map D.int) none (some 2)) = _
      rw [cutD_map, cut_two]
    case zh2a =>
      intro hk
      simp only [Rs.d, deq_int] at hk
      unfold drawnM
      rw [if_neg (of_decide_eq_false hk)]
    case zqa =>
    refine sd_at (ρ' := [.sh (.scr ns), .sh (.int k), .sh (.int m), .sh (D.sets rows), .sh (.int c), .sh (.ints (drawnM c m)), .no]) rfl ?_
    refine sd_cons (s_ret (r := .sh (encR (drawnR m rows c))) ?ze9 rfl)
    case ze9 => wtm_at "m.ed"
include C
theorem ok_beside (hMk : MkT U cS cM 2) (hBx : FnT U "_law_box" 1 A_box) (hSm : FnT U "_law_same" 2 A_same) (hOv : FnT U "over" 5 (A_over cN)) (hUn : FnT U "under" 5 (A_under cN)) (F : Fun U.K x q s_law_beside f fd) : FnOk U.P U.w U.K U.mg U.base (L2.CX U.P U.w) 6 f fd ["_law_many", "_law_rows", "_law_marks"] (spX U A_beside) := by
  have hN := sc_law_beside.nd
  refine fn_ok F sc_law_beside (fun ds o h => ?_) fun ds o h => ?_
  · obtain ⟨m, rows, ms, rfl, _⟩ := h
    rfl
  · obtain ⟨m, rows, ms, rfl, ⟨hm0, hm8, hrl, hms, hri⟩, rfl⟩ := h
    refine sd_at (ρ' := [.sh (.int m), .sh (D.sets rows), .sh (.ints ms), .no, .no, .no]) rfl ?_
    have hr1 : ∀ r ∈ rows.drop 1, InM m r := fun r hr => hri r (List.mem_of_mem_drop hr)
    have hr2 : (rows.drop 1).length ≤ 12 := by rw [List.length_drop]; omega
    have cb : 0 ≤ m ∧ m ≤ 8 ∧ (rows.drop 1).length ≤ 12 := ⟨hm0, hm8, hr2⟩
    obtain ⟨b1, b2, b3⟩ := tab_ok hm0 hm8 hr2 hr1
    have hcut : cutD (rows.map encS) (some 1) none = (rows.drop 1).map encS := by rw [cutD_map, cut_back]
    refine sd_cons (s_set (d := .tab m (rows.drop 1)) ?ze5 ?zq5 hN ?zi5 ?zj5)
    case zi5 => wtm_at "m.dec"
    case zj5 => wtm_at "m.dec"
    case ze5 =>
      refine' ed_make (rows := rows.drop 1) hMk ?zk6 rfl ?za6 ?zb6 (by rw [mkT_ok cS cM b1 b2, b3])
      case zk6 => dsimp only; decide
      case za6 => wtm_at "m.ed"
      case zb6 =>
        refine' ED.toSh (LD.ed (ds := (rows.drop 1).map encS) ?zl6) (.fr _) rfl
        case zl6 =>
        refine' ld_lc0 (xs := rows.drop 1) (enc := encS) (f := encS) ?zn7 ?zi7 ?zj7 ?zo7 ?zl7 ?ze7
        case zn7 => exact hN
        case zi7 =>
          refine' ic_list (x := .fr ((rows.drop 1).map encS)) (ED.cast (r := .fr (cutD (rows.map encS) (some 1) none)) ?zc7 (by rw [hcut])) rfl
          case zc7 => wtm_at "m.ed"
        case zj7 => wtm_at "m.dec"
        case zo7 => wtm_at "m.dec"
        case zl7 => wtm_at "m.dec"
        case ze7 => intro r hr; wtm_at "m.eds"
    case zq5 =>
    refine sd_at (ρ' := [.sh (.int m), .sh (D.sets rows), .sh (.ints ms), .sh (.tab m (rows.drop 1)), .no, .no]) rfl ?_
    obtain ⟨b, hb⟩ : ∃ b : Rule, b = (thI (rows.drop 1) ms, clL m (rows.drop 1) ms) := ⟨_, rfl⟩
    have hbb : b ∈ boxL m (rows.drop 1) := hb ▸ box_of hms
    refine sd_cons (s_set (d := encR b) ?ze8 ?zq8 hN ?zi8 ?zj8)
    case zi8 => wtm_at "m.dec"
    case zj8 => wtm_at "m.dec"
    case ze8 =>
      rw [hb]
      refine' ed_call (A := A_box) (ds := [.int m, D.sets (rows.drop 1), .ints ms]) hBx ?zk9 rfl (ad_cons' ?za9 (.sh _) (ad_cons' (r := .fr ((rows.drop 1).map encS)) (ED.cast (r := .fr (cutD (rows.map encS) (some 1) none)) ?zb9 (by rw [hcut])) (.fr _) (ad_cons' ?zc9 (.sh _) ad_nil))) ⟨m, rows.drop 1, ms, rfl, cb, rfl⟩
      case zk9 => dsimp only; decide
      case za9 => wtm_at "m.ed"
      case zb9 => wtm_at "m.ed"
      case zc9 => wtm_at "m.ed"
    case zq8 =>
    refine sd_at (ρ' := [.sh (.int m), .sh (D.sets rows), .sh (.ints ms), .sh (.tab m (rows.drop 1)), .no, .sh (encR b)]) rfl ?_
    have hbx : (bx m (rows.drop 1) b && bx m (rows.drop 1) b) = true := by
      rw [show bx m (rows.drop 1) b = true from decide_eq_true hbb]
      rfl
    have a1 : A_over cN [.tab m (rows.drop 1), encR b, encR b] (.inl (.sh (encR b))) := ⟨m, rows.drop 1, b, b, rfl, cb, by rw [hbx, if_pos rfl, over_self hbb]⟩
    have a2 : A_under cN [.tab m (rows.drop 1), encR b, encR b] (.inl (.sh (encR b))) := ⟨m, rows.drop 1, b, b, rfl, cb, by rw [hbx, if_pos rfl, under_self hbb]⟩
    refine sd_cons (s_ret (r := .sh (.bl true)) (ED.cast (r := .sh (.bl (true && true))) (ed_and ?zt3 (fun _ => ed_one ?zt4)) rfl) rfl)
    case zt3 =>
      refine' ed_call (A := A_same) (ds := [encR b, encR b]) hSm ?zk10 rfl (ad_cons' (r := .sh (encR b)) (ed_call (A := A_over cN) hOv ?zk11 rfl ?za11 a1) (.sh _) (ad_cons' ?za10 (.sh _) ad_nil)) ⟨b, rfl, rfl⟩
      case zk10 => dsimp only; decide
      case zk11 => dsimp only; decide
      case za10 => wtm_at "m.ed"
      case za11 => wtm_at "m.ad"
    case zt4 =>
      refine' ed_call (A := A_same) (ds := [encR b, encR b]) hSm ?zk12 rfl (ad_cons' (r := .sh (encR b)) (ed_call (A := A_under cN) hUn ?zk13 rfl ?za13 a2) (.sh _) (ad_cons' ?za12 (.sh _) ad_nil)) ⟨b, rfl, rfl⟩
      case zk12 => dsimp only; decide
      case zk13 => dsimp only; decide
      case za12 => wtm_at "m.ed"
      case za13 => wtm_at "m.ad"
end
end Mb
set_option Elab.async false
set_option linter.all false
set_option maxRecDepth 100000
set_option maxHeartbeats 4000000
namespace Mb
open PySem PySem.Spec PyProof.Rows L2
local macro_rules | `(tactic| wtm_at "m.dec") => `(tactic| (dsimp only [Gx.blk]; decide +kernel))
local macro_rules | `(tactic| wtm_at "m.hint") => `(tactic| fail)
local macro_rules | `(tactic| wtm_at "m.side") => `(tactic| first | with_reducible assumption | assumption | decide | omega | exact Or.inr (And.intro (by omega) (by omega)) | exact Or.inl (And.intro (by omega) (by omega)) | exact And.intro (by omega) (by omega) | (simp only [List.length_cons, List.length_nil, List.length_map, List.length_range, List.length_append, sizeLine_eq]; omega) | wtm_at "m.hint" | solve_by_elim)
local macro_rules | `(tactic| wtm_at "m.dn") => `(tactic| first
  | exact Dn.int _ _ | exact Dn.bl _ _ | exact Dn.non _
  | (refine dn_lst (n := _) ?_; wtm_at "m.dm") | (refine dn_nls (n := _) ?_; wtm_at "m.dm") | (refine dn_tup (n := _) ?_; wtm_at "m.dm"))
local macro_rules | `(tactic| wtm_at "m.dm") => `(tactic| first
  | exact dm_nil | (refine dm_map ?_; intro _; wtm_at "m.dn") | (refine dm_cons ?a ?b; (case a => wtm_at "m.dn"); (case b => wtm_at "m.dm")) | (refine dm_app ?a ?b; (case a => wtm_at "m.dm"); (case b => wtm_at "m.dm")))
local macro_rules | `(tactic| wtm_at "m.tosh") => `(tactic| first | exact ToSh.sh _ | exact ToSh.fr _)
local macro_rules | `(tactic| wtm_at "m.eds") => `(tactic| (refine' ED.toSh ?h ?t ?q; (case h => wtm_at "m.ed"); (case t => wtm_at "m.tosh"); (case q => exact rfl)))
local macro_rules | `(tactic| wtm_at "m.tosha") => `(tactic| first | exact ToSh.un _ | exact ToSh.sh _ | exact ToSh.fr _)
local macro_rules | `(tactic| wtm_at "m.ad") => `(tactic| first
  | exact ad_nil
  | (refine' ad_cons' ?h ?t ?r; (case h => wtm_at "m.ed"); (case t => wtm_at "m.tosha"); (case r => wtm_at "m.ad")))
local macro_rules | `(tactic| wtm_at "m.adk") => `(tactic| first
  | exact ad_nil
  | (refine' ad_cons' ?h ?t ?r; (case h => wtm_at "m.ed"); (case t => wtm_at "m.tosh"); (case r => wtm_at "m.adk")))
local macro_rules | `(tactic| wtm_at "m.ic") => `(tactic| first
  | (refine' ic_range (by assumption) ?a ?b ?c ?g; (case a => wtm_at "m.ed"); (case g => rfl); (case b => wtm_at "m.side"); (case c => wtm_at "m.side"))
  | (refine' ic_list ?h ?q; (case h => wtm_at "m.ed"); (case q => exact rfl)))
local macro_rules | `(tactic| wtm_at "m.if") => `(tactic| first
  | (refine' if_range (by assumption) ?a ?b ?c ?g; (case a => wtm_at "m.ed"); (case g => rfl); (case b => wtm_at "m.side"); (case c => wtm_at "m.side"))
  | (refine' if_range2 (by assumption) ?a ?a2 ?b ?g; (case a => wtm_at "m.ed"); (case a2 => wtm_at "m.ed"); (case g => rfl); (case b => wtm_at "m.side"))
  | (refine' if_list ?h; (case h => wtm_at "m.ed"))
  | (refine' if_nls ?h; (case h => wtm_at "m.ed"))
  | (refine' if_fr ?h; (case h => wtm_at "m.ed"))
  | (refine' if_tup ?h; (case h => wtm_at "m.ed")))
local macro_rules | `(tactic| wtm_at "m.ld") => `(tactic| first
  | (refine' ld_lc0 ?n ?i ?j ?o ?l ?e; (case n => assumption); (case i => wtm_at "m.ic"); (case j => wtm_at "m.dec"); (case o => wtm_at "m.dec"); (case l => wtm_at "m.dec"); (case e => intro _ hx; (try have hx := List.mem_range.mp hx); wtm_at "m.eds"))
  | (refine' ld_lc1 ?n ?i ?j ?o ?l ?t ?e; (case n => assumption); (case i => wtm_at "m.ic"); (case j => wtm_at "m.dec"); (case o => wtm_at "m.dec"); (case l => wtm_at "m.dec"); (case t => (intro _ hx; (try have hx := List.mem_range.mp hx); refine' TD.cast ?h ?q; (case h => wtm_at "m.td"); (case q => exact rfl))); (case e => intro _ hx _; (try have hx := List.mem_range.mp hx); wtm_at "m.eds"))
  | (refine' ld_lcp0 ?n ?i ?j ?j2 ?o ?l ?l2 ?e; (case n => assumption); (case i => wtm_at "m.ic"); (case j => wtm_at "m.dec"); (case j2 => wtm_at "m.dec"); (case o => wtm_at "m.dec"); (case l => wtm_at "m.dec"); (case l2 => wtm_at "m.dec"); (case e => intro _ _; wtm_at "m.eds"))
  | (refine' ld_lcp1 ?n ?i ?j ?j2 ?o ?l ?l2 ?t ?e; (case n => assumption); (case i => wtm_at "m.ic"); (case j => wtm_at "m.dec"); (case j2 => wtm_at "m.dec"); (case o => wtm_at "m.dec"); (case l => wtm_at "m.dec"); (case l2 => wtm_at "m.dec"); (case t => (intro _ hx; (try have hx := List.mem_range.mp hx); refine' TD.cast ?h ?q; (case h => wtm_at "m.td"); (case q => exact rfl))); (case e => intro _ hx _; (try have hx := List.mem_range.mp hx); wtm_at "m.eds")))
local macro_rules | `(tactic| wtm_at "m.addr") => `(tactic| first | exact AddR.int _ _ | (refine' AddR.cat ?x ?y ?z; (case x => exact rfl); (case y => exact rfl); (case z => wtm_at "m.side")))
local macro_rules | `(tactic| wtm_at "m.at") => `(tactic| first
  | exact rfl
  | assumption
  | (refine atI_get (d := (0 : Int)) ?a ?b; (case a => wtm_at "m.side"); (case b => wtm_at "m.side"))
  | (refine atI_ints (d := default) ?a ?b; (case a => wtm_at "m.side"); (case b => wtm_at "m.side"))
  | (refine atI_lit ?a ?b ?c; (case a => wtm_at "m.side"); (case b => wtm_at "m.side"); (case c => rfl))
  | solve_by_elim)
local macro_rules | `(tactic| wtm_at "m.ixd") => `(tactic| first
  | (refine' IxD.tup ?h; (case h => wtm_at "m.at"))
  | (refine' IxD.scr ?h; (case h => wtm_at "m.at"))
  | (refine' IxD.list ?x ?h; (case x => exact rfl); (case h => wtm_at "m.at")))
local macro_rules | `(tactic| wtm_at "m.cp") => `(tactic| first
  | (refine' cp_lt ?a ?b; (case a => wtm_at "m.ed"); (case b => wtm_at "m.ed"))
  | (refine' cp_le ?a ?b; (case a => wtm_at "m.ed"); (case b => wtm_at "m.ed"))
  | (refine' cp_gt ?a ?b; (case a => wtm_at "m.ed"); (case b => wtm_at "m.ed"))
  | (refine' cp_ge ?a ?b; (case a => wtm_at "m.ed"); (case b => wtm_at "m.ed"))
  | (refine' cp_eq ?a ?b ?c ?d; (case a => wtm_at "m.ed"); (case b => wtm_at "m.ed"); (case c => wtm_at "m.dn"); (case d => wtm_at "m.dn"))
  | (refine' cp_ne ?a ?b ?c ?d; (case a => wtm_at "m.ed"); (case b => wtm_at "m.ed"); (case c => wtm_at "m.dn"); (case d => wtm_at "m.dn"))
  | (refine' cp_in ?a ?b ?e ?c ?d ?m; (case a => wtm_at "m.ed"); (case b => wtm_at "m.ed"); (case e => exact rfl); (case c => wtm_at "m.dn"); (case d => wtm_at "m.dm"); (case m => rfl))
  | (refine' cp_nin ?a ?b ?e ?c ?d ?m; (case a => wtm_at "m.ed"); (case b => wtm_at "m.ed"); (case e => exact rfl); (case c => wtm_at "m.dn"); (case d => wtm_at "m.dm"); (case m => rfl))
  | (refine' cp_isN ?a; (case a => wtm_at "m.ed"))
  | (refine' cp_notN ?a; (case a => wtm_at "m.ed"))
  | (refine' ch_le_lt ?a ?b ?c; (case a => wtm_at "m.ed"); (case b => wtm_at "m.ed"); (case c => wtm_at "m.ed"))
  | (refine' ch_le_le ?a ?b ?c; (case a => wtm_at "m.ed"); (case b => wtm_at "m.ed"); (case c => wtm_at "m.ed")))
local macro_rules | `(tactic| wtm_at "m.tw") => `(tactic| first
  | (refine' tw_and ?a ?b; (case a => wtm_at "m.td"); (case b => intro _; wtm_at "m.tw"))
  | (refine' tw_or ?a ?b; (case a => wtm_at "m.td"); (case b => intro _; wtm_at "m.tw"))
  | (refine' tw_and1 ?a; (case a => wtm_at "m.td"))
  | (refine' tw_or1 ?a; (case a => wtm_at "m.td")))
local macro_rules | `(tactic| wtm_at "m.td") => `(tactic| first
  | (refine' And.right (a := ?p) ?h; (case h => wtm_at "m.cp"))
  | (refine' td_not ?h; (case h => wtm_at "m.td"))
  | (refine' td_bool ?h; (case h => wtm_at "m.tw"))
  | (refine' td_val ?h; (case h => wtm_at "m.ed")))
local macro_rules | `(tactic| wtm_at "m.bo") => `(tactic| first
  | (refine' ed_and ?a ?b; (case a => wtm_at "m.ed"); (case b => intro _; wtm_at "m.bo"))
  | (refine' ed_or ?a ?b; (case a => wtm_at "m.ed"); (case b => intro _; wtm_at "m.bo"))
  | (refine' ed_one ?a; (case a => wtm_at "m.ed")))
local macro_rules | `(tactic| wtm_at "m.pre") => `(tactic| first
  | exact ⟨_, rfl, rfl⟩ | exact ⟨_, _, rfl, rfl⟩ | exact ⟨_, _, _, rfl, rfl⟩ | exact ⟨_, _, _, _, rfl, rfl⟩ | exact ⟨_, _, _, _, _, rfl, rfl⟩
  | (refine ⟨_, rfl, ?_, rfl⟩; wtm_at "m.side") | (refine ⟨_, _, rfl, ?_, rfl⟩; wtm_at "m.side") | (refine ⟨_, _, _, rfl, ?_, rfl⟩; wtm_at "m.side") | (refine ⟨_, _, _, _, rfl, ?_, rfl⟩; wtm_at "m.side") | (refine ⟨_, _, _, _, _, rfl, ?_, rfl⟩; wtm_at "m.side"))
local macro_rules | `(tactic| wtm_at "m.call") => `(tactic| first
  | wtm_at "m.direct"
  | (refine' ed_thaw ?h ?d; (case h => wtm_at "m.direct"); (case d => rfl)))
local macro_rules | `(tactic| wtm_at "m.od") => `(tactic| first | exact od_none | (refine' od_some ?h; (case h => wtm_at "m.ed")))
local macro_rules | `(tactic| wtm_at "m.direct") => `(tactic| first
  | (refine' ed_call ?T ?k ?g ?a ?A; (case T => assumption); (case k => (dsimp only [Gx.blk]; decide)); (case g => rfl); (case a => wtm_at "m.ad"); (case A => wtm_at "m.pre"))
  | (refine' ed_many (by assumption) ?a ?b; (case a => wtm_at "m.ed"); (case b => exact rfl))
  | (refine' ed_rows (by assumption) ?a; (case a => wtm_at "m.ed"))
  | (refine' ed_meth (by assumption) ?T ?k ?o ?d ?a ?A; (case T => assumption); (case k => (dsimp only [Gx.blk]; decide)); (case o => wtm_at "m.ed"); (case d => exact rfl); (case a => wtm_at "m.ad"); (case A => wtm_at "m.pre")))
local macro_rules | `(tactic| wtm_at "m.ed") => `(tactic| first
  | (refine' ed_varA ?h ?v; (case h => exact rfl); (case v => rfl))
  | (refine' ed_var ?h ?v; (case h => exact rfl); (case v => rfl))
  | exact ed_int
  | (refine' ed_ixR ?a ?b ?c; (case a => wtm_at "m.ed"); (case b => wtm_at "m.ed"); (case c => wtm_at "m.ixd"))
  | (refine' And.left (b := ?p) ?h; (case h => wtm_at "m.cp"))
  | (refine' ed_addR ?a ?b ?c; (case a => wtm_at "m.ed"); (case b => wtm_at "m.ed"); (case c => wtm_at "m.addr"))
  | (refine' ed_sub ?a ?b; (case a => wtm_at "m.ed"); (case b => wtm_at "m.ed"))
  | (refine' ed_mul ?a ?b ?c; (case a => wtm_at "m.ed"); (case b => wtm_at "m.ed"); (case c => wtm_at "m.side"))
  | (refine' ed_fdiv ?a ?b ?c; (case a => wtm_at "m.ed"); (case b => wtm_at "m.ed"); (case c => wtm_at "m.side"))
  | (refine' ed_mod ?a ?b ?c; (case a => wtm_at "m.ed"); (case b => wtm_at "m.ed"); (case c => wtm_at "m.side"))
  | (refine' ed_pow ?a ?b ?c; (case a => wtm_at "m.ed"); (case b => wtm_at "m.ed"); (case c => wtm_at "m.side"))
  | (refine' ed_neg ?a; (case a => wtm_at "m.ed"))
  | (refine' LD.ed ?a; (case a => wtm_at "m.ld"))
  | (refine' ed_len (by assumption) ?a ?b ?g; (case a => wtm_at "m.ed"); (case b => exact rfl); (case g => rfl))
  | (refine' ed_listRange (by assumption) ?a ?b ?c ?g ?g2; (case a => wtm_at "m.ed"); (case b => wtm_at "m.side"); (case c => wtm_at "m.side"); (case g => rfl); (case g2 => rfl))
  | (refine' ed_list (by assumption) ?a ?b ?g; (case a => wtm_at "m.ed"); (case b => exact rfl); (case g => rfl))
  | (refine' ed_all (by assumption) ?a ?b ?g; (case a => wtm_at "m.ed"); (case b => exact rfl); (case g => rfl))
  | (refine' ed_any (by assumption) ?a ?b ?g; (case a => wtm_at "m.ed"); (case b => exact rfl); (case g => rfl))
  | (refine' ed_sum (by assumption) ?a ?b ?g; (case a => wtm_at "m.ed"); (case b => exact rfl); (case g => rfl))
  | (refine' ed_sorted (by assumption) ?a ?b ?g; (case a => wtm_at "m.ed"); (case b => exact rfl); (case g => rfl))
  | (refine' ed_intB (by assumption) ?a ?g; (case a => wtm_at "m.ed"); (case g => rfl))
  | (refine' ed_max (by assumption) ?a ?b ?g; (case a => wtm_at "m.ed"); (case b => wtm_at "m.ed"); (case g => rfl))
  | (refine' ed_min (by assumption) ?a ?b ?g; (case a => wtm_at "m.ed"); (case b => wtm_at "m.ed"); (case g => rfl))
  | (refine' ed_isi (k := true) (by assumption) ?a ?b ?t ?k ?g; (case a => wtm_at "m.ed"); (case b => wtm_at "m.ed"); (case t => exact rfl); (case k => decide +kernel); (case g => rfl))
  | (refine' ed_isi (k := false) (by assumption) ?a ?b ?t ?k ?g; (case a => wtm_at "m.ed"); (case b => wtm_at "m.ed"); (case t => exact rfl); (case k => decide +kernel); (case g => rfl))
  | (refine' ed_tup ?a ?b; (case a => wtm_at "m.adk"); (case b => wtm_at "m.side"))
  | (refine' ed_lst ?a ?b; (case a => wtm_at "m.adk"); (case b => wtm_at "m.side"))
  | (refine' ed_sl ?a ?x ?l ?u; (case a => wtm_at "m.ed"); (case x => exact rfl); (case l => wtm_at "m.od"); (case u => wtm_at "m.od"))
  | (refine' ed_not ?a; (case a => wtm_at "m.ed"))
  | wtm_at "m.bo"
  | wtm_at "m.call"
  | (refine' ed_own ?h ?v; (case h => exact rfl); (case v => rfl))
  | exact ed_bl
  | exact ed_non
  | (refine' ed_globI ?h ?m; (case h => rfl); (case m => assumption))
  | (refine' ed_tyInt (by assumption) ?g; (case g => rfl))
  | (refine' ed_tyList (by assumption) ?g; (case g => rfl))
  | (refine' ed_tyTuple (by assumption) ?g; (case g => rfl))
  | (refine' ed_tyBool (by assumption) ?g; (case g => rfl)))
local macro_rules | `(tactic| wtm_at "s.set") => `(tactic| (refine' sd_cons (s_set ?e ?q ?n ?i ?o); (case n => assumption); (case i => wtm_at "m.dec"); (case o => wtm_at "m.dec"); (case e => wtm_at "m.eds")))
local macro_rules | `(tactic| wtm_at "s.own") => `(tactic| (refine' sd_cons (s_own ?e ?q ?n ?i ?o); (case n => assumption); (case i => wtm_at "m.dec"); (case o => wtm_at "m.dec"); (case e => wtm_at "m.ed")))
local macro_rules | `(tactic| wtm_at "s.lc") => `(tactic| (refine' sd_cons (s_lc ?e ?q ?i ?k ?y ?l ?a); (case i => wtm_at "m.dec"); (case k => rfl); (case y => rfl); (case l => rfl); (case a => decide +kernel); (case e => wtm_at "m.ld")))
local macro_rules | `(tactic| wtm_at "s.lco") => `(tactic| (refine' sd_cons (s_lcO ?e ?q ?i ?k ?y ?l ?a); (case i => wtm_at "m.dec"); (case k => rfl); (case y => rfl); (case l => rfl); (case a => decide +kernel); (case e => wtm_at "m.ld")))
local macro_rules | `(tactic| wtm_at "s.lcc") => `(tactic| (refine' sd_cons (s_set ?e ?q ?n ?i ?o (swapF ?s)); (case n => assumption); (case i => wtm_at "m.dec"); (case o => wtm_at "m.dec"); (case s => rfl); (case e => (refine' ED.shr (LD.ed ?f); (case f => wtm_at "m.ld")))))
local macro_rules | `(tactic| wtm_at "s.ret") => `(tactic| (refine' sd_cons (s_ret ?e ?q); (case e => wtm_at "m.ed")))
local macro_rules | `(tactic| wtm_at "s.if") => `(tactic| (refine' sd_cons (s_if ?zzt ?zzy ?zzm); (case zzt => wtm_at "m.td")))
local macro_rules | `(tactic| wtm_at "s.ift") => `(tactic| (refine' sd_cons (s_if (td_thaw ?zzt) ?zzy ?zzm); (case zzt => wtm_at "m.td")))
local macro_rules | `(tactic| wtm_at "s.app") => `(tactic| (refine' sd_cons (s_app ?e ?h ?v ?z ?q); (case h => exact rfl); (case v => rfl); (case e => wtm_at "m.eds"); (case z => wtm_at "m.side")))
local macro_rules | `(tactic| wtm_at "s.ifset") => `(tactic| (refine' sd_cons (s_ifset ?c ?e ?h1 ?h2 ?h0 ?q ?n ?i ?o); (case n => assumption); (case i => wtm_at "m.dec"); (case o => wtm_at "m.dec"); (case h0 => exact rfl); (case c => wtm_at "m.td"); (case e => intro _; wtm_at "m.eds")))
local macro_rules | `(tactic| wtm_at "s.raise") => `(tactic| (refine' sd_cons (s_raise ?T ?g ?r); (case T => assumption); (case g => rfl)))
local macro_rules | `(tactic| wtm_at "m.make") => `(tactic| (refine' ed_make ?T ?k ?g ?a ?b ?A; (case T => assumption); (case k => (dsimp only [Gx.blk]; decide)); (case g => rfl); (case a => wtm_at "m.ed"); (case b => wtm_at "m.eds"); (case A => assumption)))
local macro_rules | `(tactic| wtm_at "sl.flat") => `(tactic| first | exact flat_sets | exact flat_tab | exact flat_scr | exact flat_int | exact flat_pair flat_int flat_sets)
local macro_rules | `(tactic| wtm_at "sl.one") => `(tactic| first
  | exact Or.inl rfl
  | exact SpM.no
  | exact SpR.no
  | exact SpM.told rfl
  | exact SpR.told rfl
  | (refine SpM.keep (by decide) rfl ?_ rfl; wtm_at "sl.flat")
  | exact SpM.conv (by decide) rfl conv_int.1
  | exact SpR.keep (by decide) (by decide) rfl rfl rfl
  | exact SpR.conv (by decide) rfl conv_int.2
  | exact SpR.conv (by decide) rfl back_rules
  | exact SpR.conv (by decide) rfl back_sets
  | (refine Or.inr ⟨_, rfl, rfl, ?_⟩; wtm_at "sl.flat"))
local macro_rules | `(tactic| wtm_at "sl.all") => `(tactic| ((repeat' first | exact slAll_nil | refine slAll_cons ?_ ?_) <;> wtm_at "sl.one"))
local macro_rules | `(tactic| wtm_at "op.mem") => `(tactic| first | exact .head _ | exact .tail _ (.head _) | exact .tail _ (.tail _ (.head _)) | exact .tail _ (.tail _ (.tail _ (.head _))) | exact .tail _ (.tail _ (.tail _ (.tail _ (.head _)))) | exact .tail _ (.tail _ (.tail _ (.tail _ (.tail _ (.head _))))) | exact .tail _ (.tail _ (.tail _ (.tail _ (.tail _ (.tail _ (.head _)))))))
local macro_rules | `(tactic| wtm_at "op.d") => `(tactic| first
  | exact opn_refl
  | (refine opn_ints ?_; wtm_at "op.mem")
  | (refine opn_tup ?_; wtm_at "op.l")
  | (refine opn_lst ?_; wtm_at "op.l")
  | (refine opn_cell ?zopm ?zopl; (case zopm => wtm_at "op.mem"); (case zopl => first | exact opnL_refl | wtm_at "op.l")))
local macro_rules | `(tactic| wtm_at "op.l") => `(tactic| first
  | exact opnL_nil
  | (refine opnL_cons ?zopa ?zopb; (case zopa => wtm_at "op.d"); (case zopb => wtm_at "op.l")))
local macro_rules | `(tactic| wtm_at "op.one") => `(tactic| first
  | exact OpS.no
  | exact OpS.own rfl
  | (refine OpS.sh rfl ?_; wtm_at "op.d"))
local macro_rules | `(tactic| wtm_at "op.all") => `(tactic| ((repeat' first | exact slAll_nil | refine slAll_cons ?_ ?_) <;> wtm_at "op.one"))
local macro_rules | `(tactic| wtm_at "op.one2") => `(tactic| first
  | exact OpS.no
  | exact OpS.own rfl
  | exact OpS.sh rfl (by assumption)
  | exact OpS.sh rfl opn_refl)
local macro_rules | `(tactic| wtm_at "op.all2") => `(tactic| ((repeat' first | exact slAll_nil | refine slAll_cons ?_ ?_) <;> wtm_at "op.one2"))
def ovR (m : Int) (rows : List (List Int)) (u : Bool) (a b : Rule) : Rule := if u then underR m rows a b else overR rows a b
abbrev A_ovC (U : Wd) (u : Bool) : AK := fun ds κ O => ∃ (m : Int) (rows : List (List Int)) (a b : Rule) (d1 d2 : D), ds = [.tab m rows, d1, d2] ∧ Opn U κ d1 (encR a) ∧ Opn U κ d2 (encR b) ∧ (0 ≤ m ∧ m ≤ 8 ∧ rows.length ≤ 12) ∧ (a ∈ boxL m rows ∧ b ∈ boxL m rows) ∧ O = fun r κ' => ∃ q1 q2 : Addr, r = .sh (.tup [.cls q1, .cls q2]) ∧ κ'.Perm (κ ++ [(q1, (ovR m rows u a b).1.map D.int), (q2, (ovR m rows u a b).2.map D.int)])
theorem OpS.opn {U : Wd} {κ : List Cl} {ρ : List Sl} {i : Nat} {d d' : D} (o : Opn U κ d d') (h : ρ[i]? = some (.sh d)) : OpS U κ ρ i (.sh d') := OpS.sh h o
section
variable {U : Wd} (T : Bl U.mg) (C : TabOk U) {f : Addr} {fd : FuncData} {x q : Str} {cM cT cE cS cN : Addr}
include T C
theorem ok_overC (hNb : FnT U "need_boxes" 4 (A_needB cN)) (hBo : FnT U "both" 1 A_both) (hTh : MtT U "things_with" 2 (A_things cM)) (F : Fun U.K x q s_over f fd) : FnOk U.P U.w U.K U.mg U.base (L2.CX U.P U.w) 5 f fd ["table", "one", "other"] (spK U (A_ovC U false)) := by
  have hN := sc_over.nd
  refine fn_okM F sc_over (fun ds κ O h => ?_) (fun ds κ O r κ' h hO => ?_) fun ds κ O h => ?_
  · obtain ⟨m, rows, a, b, d1, d2, rfl, _⟩ := h
    rfl
  · obtain ⟨m, rows, a, b, d1, d2, rfl, _, _, _, _, rfl⟩ := h
    obtain ⟨q1, q2, _, hp⟩ := hO
    exact fun z hz => (hp.map _).mem_iff.mpr (by rw [List.map_append]; exact List.mem_append_left _ hz)
  · obtain ⟨m, rows, a, b, d1, d2, rfl, o1, o2, hc, ⟨ha, hb⟩, rfl⟩ := h
    refine sk_at (ρ' := [.sh (.tab m rows), .sh d1, .sh d2, .no]) rfl ?_
    have hbs : ([a, b] : List Rule).all (bx m rows) = true := by
      simp only [List.all_cons, List.all_nil, Bool.and_true, Bool.and_eq_true]
      exact ⟨decide_eq_true ha, decide_eq_true hb⟩
    refine' sk_cons (sk_expr (em_open (r := .sh .non) (ρ' := [.sh (.tab m rows), .sh (encR a), .sh (encR b), .no]) ?zo1 (ed_call (A := A_needB cN) (ds := [.tab m rows, D.rules [a, b]]) hNb ?zk1 rfl (ad_cons' (ed_var rfl rfl) (.sh _) (ad_cons' (r := .fr (([a, b] : List Rule).map encR)) ?za1 (.fr _) ad_nil)) ⟨m, rows, [a, b], rfl, hc, by rw [hbs, if_pos rfl]⟩) (shut_free rfl)) ?zR1)
    case zk1 => dsimp only; decide
    case zo1 => exact slAll_cons (OpS.opn opn_refl rfl) (slAll_cons (OpS.opn o1 rfl) (slAll_cons (OpS.opn o2 rfl) (slAll_cons OpS.no slAll_nil)))
    case za1 => wtm_at "m.ed"
    case zR1 =>
    show SK _ _ _ _ _
    refine' sk_cons (sk_cell (ds := (bothL a.2 b.2).map D.int) (em_open (r := .fr _) (ρ' := [.sh (.tab m rows), .sh (encR a), .sh (encR b), .no]) ?zo2 ?ze2 shut_ints) (fun q1 => ?zR2) hN ?zi2 ?zj2)
    case zi2 => wtm_at "m.dec"
    case zj2 => wtm_at "m.dec"
    case zo2 => exact slAll_cons (OpS.opn opn_refl rfl) (slAll_cons (OpS.opn o1 rfl) (slAll_cons (OpS.opn o2 rfl) (slAll_cons OpS.no slAll_nil)))
    case ze2 => wtm_at "m.ed"
    case zR2 =>
    refine sk_at (ρ' := [.sh (.tab m rows), .sh d1, .sh d2, .sh (.cls q1)]) rfl ?_
    have hO : Opn U (κ ++ [(q1, (bothL a.2 b.2).map D.int)]) (.cls q1) (.ints (bothL a.2 b.2)) := opn_ints (List.mem_append_right _ (.head _))
    have hin : inR m (bothL a.2 b.2) = true := inR_iff.mpr (both_in (box_iff.mp ha).1 b.2).inr
    refine' sk_cons (sk_retT1 (ds := (thI rows (bothL a.2 b.2)).map D.int) (d := .cls q1) (em_open (r := .fr _) (ρ' := [.sh (.tab m rows), .no, .no, .sh (.ints (bothL a.2 b.2))]) ?zo3 (ed_meth (A := A_things cM) (ds := [.ints (bothL a.2 b.2)]) C hTh ?zk3 ?zp3 rfl ?za3 ⟨m, rows, bothL a.2 b.2, rfl, hc.2.2, by rw [hin, if_pos rfl]⟩) shut_ints) (em_of (ed_var rfl ?zv3)) (fun q2 => ⟨q2, q1, rfl, ?zP⟩))
    case zk3 => dsimp only; decide
    case zo3 => exact slAll_cons (OpS.opn opn_refl rfl) (slAll_cons OpS.no (slAll_cons OpS.no (slAll_cons (OpS.opn hO rfl) slAll_nil)))
    case zp3 => wtm_at "m.ed"
    case za3 => wtm_at "m.ad"
    case zv3 => wtm_at "m.dec"
    case zP =>
      rw [List.append_assoc]
      exact List.Perm.append_left κ (.swap _ _ _)
theorem ok_underC (hNb : FnT U "need_boxes" 4 (A_needB cN)) (hBo : FnT U "both" 1 A_both) (hMk : MtT U "marks_of" 1 (A_marks cT)) (F : Fun U.K x q s_under f fd) : FnOk U.P U.w U.K U.mg U.base (L2.CX U.P U.w) 5 f fd ["table", "one", "other"] (spK U (A_ovC U true)) := by
  have hN := sc_under.nd
  refine fn_okM F sc_under (fun ds κ O h => ?_) (fun ds κ O r κ' h hO => ?_) fun ds κ O h => ?_
  · obtain ⟨m, rows, a, b, d1, d2, rfl, _⟩ := h
    rfl
  · obtain ⟨m, rows, a, b, d1, d2, rfl, _, _, _, _, rfl⟩ := h
    obtain ⟨q1, q2, _, hp⟩ := hO
    exact fun z hz => (hp.map _).mem_iff.mpr (by rw [List.map_append]; exact List.mem_append_left _ hz)
  · obtain ⟨m, rows, a, b, d1, d2, rfl, o1, o2, hc, ⟨ha, hb⟩, rfl⟩ := h
    refine sk_at (ρ' := [.sh (.tab m rows), .sh d1, .sh d2, .no]) rfl ?_
    have hbs : ([a, b] : List Rule).all (bx m rows) = true := by
      simp only [List.all_cons, List.all_nil, Bool.and_true, Bool.and_eq_true]
      exact ⟨decide_eq_true ha, decide_eq_true hb⟩
    refine' sk_cons (sk_expr (em_open (r := .sh .non) (ρ' := [.sh (.tab m rows), .sh (encR a), .sh (encR b), .no]) ?zo1 (ed_call (A := A_needB cN) (ds := [.tab m rows, D.rules [a, b]]) hNb ?zk1 rfl (ad_cons' (ed_var rfl rfl) (.sh _) (ad_cons' (r := .fr (([a, b] : List Rule).map encR)) ?za1 (.fr _) ad_nil)) ⟨m, rows, [a, b], rfl, hc, by rw [hbs, if_pos rfl]⟩) (shut_free rfl)) ?zR1)
    case zk1 => dsimp only; decide
    case zo1 => exact slAll_cons (OpS.opn opn_refl rfl) (slAll_cons (OpS.opn o1 rfl) (slAll_cons (OpS.opn o2 rfl) (slAll_cons OpS.no slAll_nil)))
    case za1 => wtm_at "m.ed"
    case zR1 =>
    show SK _ _ _ _ _
    refine' sk_cons (sk_cell (ds := (bothL a.1 b.1).map D.int) (em_open (r := .fr _) (ρ' := [.sh (.tab m rows), .sh (encR a), .sh (encR b), .no]) ?zo2 ?ze2 shut_ints) (fun q1 => ?zR2) hN ?zi2 ?zj2)
    case zi2 => wtm_at "m.dec"
    case zj2 => wtm_at "m.dec"
    case zo2 => exact slAll_cons (OpS.opn opn_refl rfl) (slAll_cons (OpS.opn o1 rfl) (slAll_cons (OpS.opn o2 rfl) (slAll_cons OpS.no slAll_nil)))
    case ze2 => wtm_at "m.ed"
    case zR2 =>
    refine sk_at (ρ' := [.sh (.tab m rows), .sh d1, .sh d2, .sh (.cls q1)]) rfl ?_
    have hO : Opn U (κ ++ [(q1, (bothL a.1 b.1).map D.int)]) (.cls q1) (.ints (bothL a.1 b.1)) := opn_ints (List.mem_append_right _ (.head _))
    have hin : inR (rows.length : Int) (bothL a.1 b.1) = true := inR_iff.mpr fun y hy => by
      rw [(box_iff.mp ha).2.2] at hy
      exact inR_iff.mp (thI_in rows a.2) y (List.mem_filter.mp hy).1
    refine' sk_cons (sk_retT2 (ds := (mkL m rows (bothL a.1 b.1)).map D.int) (d := .cls q1) (em_of (ed_var rfl ?zv3)) (em_open (r := .fr _) (ρ' := [.sh (.tab m rows), .no, .no, .sh (.ints (bothL a.1 b.1))]) ?zo3 (ed_meth (A := A_marks cT) (ds := [.ints (bothL a.1 b.1)]) C hMk ?zk3 ?zp3 rfl ?za3 ⟨m, rows, bothL a.1 b.1, rfl, ⟨hc.1, hc.2.1⟩, by rw [hin, if_pos rfl]⟩) shut_ints) (fun q2 => ⟨q1, q2, rfl, ?zP⟩))
    case zk3 => dsimp only; decide
    case zo3 => exact slAll_cons (OpS.opn opn_refl rfl) (slAll_cons OpS.no (slAll_cons OpS.no (slAll_cons (OpS.opn hO rfl) slAll_nil)))
    case zp3 => wtm_at "m.ed"
    case za3 => wtm_at "m.ad"
    case zv3 => wtm_at "m.dec"
    case zP =>
      rw [List.append_assoc]
      exact List.Perm.refl _
abbrev six (p0 p1 p2 p3 p4 p5 : Addr) (x0 x1 : List Int) (s1 s2 : Rule) : List Cl := [(p0, x0.map D.int), (p1, x1.map D.int), (p2, s1.1.map D.int), (p3, s1.2.map D.int), (p4, s2.1.map D.int), (p5, s2.2.map D.int)]
abbrev hnd (p0 p1 p2 p3 p4 p5 : Addr) : D := .lst [.tup [.cls p0, .cls p1], .tup [.cls p2, .cls p3], .tup [.cls p4, .cls p5]]
abbrev A_exch : AK := fun ds κ O => ∃ (m : Int) (rows : List (List Int)) (s0 s1 s2 : Rule) (p0 p1 p2 p3 p4 p5 : Addr), ds = [.tab m rows, hnd p0 p1 p2 p3 p4 p5, D.rules [s0, s1, s2], .tup [encR (overR rows s2 s1), encR (underR m rows s2 s1)]] ∧ κ = six p0 p1 p2 p3 p4 p5 s0.1 s0.2 s1 s2 ∧ (0 ≤ m ∧ m ≤ 8 ∧ rows.length ≤ 12) ∧ (s0 ∈ boxL m rows ∧ s1 ∈ boxL m rows ∧ s2 ∈ boxL m rows) ∧ O = fun r κ' => r = .sh (.bl true) ∧ κ' = κ
theorem box_l8 {m : Int} {rows : List (List Int)} {a : Rule} (h : a ∈ boxL m rows) (h0 : 0 ≤ m) (h8 : m ≤ 8) : a.2.length ≤ 8 := by
  have := in_len (box_iff.mp h).1 h0
  omega
theorem ok_exch (hSm : FnT U "_law_same" 2 A_same) (hOv : FnT U "over" 5 (A_over cN)) (hUn : FnT U "under" 5 (A_under cN)) (F : Fun U.K x q s_law_exchanged f fd) : FnOk U.P U.w U.K U.mg U.base (L2.CX U.P U.w) 6 f fd ["_law_table", "_law_handed", "_law_some", "_law_due_here"] (spK U A_exch) := by
  have hN := sc_law_exchanged.nd
  refine fn_okM F sc_law_exchanged (fun ds κ O h => ?_) (fun ds κ O r κ' h hO => ?_) fun ds κ O h => ?_
  · obtain ⟨m, rows, s0, s1, s2, p0, p1, p2, p3, p4, p5, rfl, _⟩ := h
    rfl
  · obtain ⟨m, rows, s0, s1, s2, p0, p1, p2, p3, p4, p5, rfl, rfl, _, _, rfl⟩ := h
    obtain ⟨_, rfl⟩ := hO
    exact fun z hz => hz
  · obtain ⟨m, rows, s0, s1, s2, p0, p1, p2, p3, p4, p5, rfl, rfl, hc, ⟨hs0, hs1, hs2⟩, rfl⟩ := h
    have l0 := box_l12 hs0 hc.2.2
    have l2 := box_l12 hs2 hc.2.2
    have k0 := box_l8 T C hs0 hc.1 hc.2.1
    have k2 := box_l8 T C hs2 hc.1 hc.2.1
    refine sk_at (ρ' := [.sh (.tab m rows), .sh (hnd p0 p1 p2 p3 p4 p5), .sh (D.rules [s0, s1, s2]), .sh (.tup [encR (overR rows s2 s1), encR (underR m rows s2 s1)]), .no]) rfl ?_
    refine' sk_cons (sk_for (ds := ([0, 1] : List Int).map D.int) ?azi (fun i ρ κ => ∃ s : Sl, ρ = [.sh (.tab m rows), .sh (hnd p0 p1 p2 p3 p4 p5), .sh (D.rules [s0, s1, s2]), .sh (.tup [encR (overR rows s2 s1), encR (underR m rows s2 s1)]), s] ∧ κ = six p0 p1 p2 p3 p4 p5 (if i = 0 then s0.1 else s2.1) (if i = 2 then s2.2 else s0.2) s1 s2) ⟨.no, rfl, rfl⟩ ?azs ?azd hN ?azi3 ?azi4)
    case azi3 => wtm_at "m.dec"
    case azi4 => wtm_at "m.dec"
    case azi => wtm_at "m.if"
    case azs =>
      rintro i d ρ' κ' hd ⟨s, rfl, rfl⟩
      have hi2 : i = 0 ∧ d = .int 0 ∨ i = 1 ∧ d = .int 1 := by
        match i, hd with
        | 0, hd => exact .inl ⟨rfl, (Option.some.inj hd).symm⟩
        | 1, hd => exact .inr ⟨rfl, (Option.some.inj hd).symm⟩
        | n + 2, hd => cases hd
      rcases hi2 with ⟨rfl, rfl⟩ | ⟨rfl, rfl⟩
      · refine sk_at (ρ' := [.sh (.tab m rows), .sh (hnd p0 p1 p2 p3 p4 p5), .sh (D.rules [s0, s1, s2]), .sh (.tup [encR (overR rows s2 s1), encR (underR m rows s2 s1)]), .sh (.int 0)]) rfl ?_
        refine sk_kt (κ' := six p0 p1 p2 p3 p4 p5 s0.1 s0.2 s1 s2) rfl ?_
        refine sk_cons (sk_expr (em_meth0 (j := 0) (q := p0) (ds := s0.1.map D.int) (ds' := []) (d := .non) PySem.F.slot_list_clear PySem.F.type_list_clear (fun X => mt_clear) ?a0v1 rfl mut_clear rfl) ?a0R1)
        case a0v1 => wtm_at "m.ed"
        case a0R1 =>
        have hz : ([] : List D).length + (s2.1.map D.int).length ≤ sizeLine := by
          rw [List.length_map, sizeLine_eq]
          show 0 + _ ≤ _
          omega
        refine sk_cons (sk_expr (em_meth (j := 0) (q := p0) (ds := []) (ds' := [] ++ s2.1.map D.int) (as := [.lst (s2.1.map D.int)]) PySem.F.slot_list_extend PySem.F.type_list_extend (fun X => mt_extend) ?a0v2 rfl (am_cons (em_of (r := .sh (.ints s2.1)) ?a0e2) (.sh _) am_nil) (mut_extend hz) rfl) ?a0R2)
        case a0v2 => wtm_at "m.ed"
        case a0e2 => wtm_at "m.ed"
        case a0R2 => exact sk_nil ⟨_, rfl, rfl⟩
      · refine sk_at (ρ' := [.sh (.tab m rows), .sh (hnd p0 p1 p2 p3 p4 p5), .sh (D.rules [s0, s1, s2]), .sh (.tup [encR (overR rows s2 s1), encR (underR m rows s2 s1)]), .sh (.int 1)]) rfl ?_
        refine sk_kt (κ' := six p0 p1 p2 p3 p4 p5 s2.1 s0.2 s1 s2) rfl ?_
        refine sk_cons (sk_expr (em_meth0 (j := 1) (q := p1) (ds := s0.2.map D.int) (ds' := []) (d := .non) PySem.F.slot_list_clear PySem.F.type_list_clear (fun X => mt_clear) ?a1v1 rfl mut_clear rfl) ?a1R1)
        case a1v1 => wtm_at "m.ed"
        case a1R1 =>
        have hz : ([] : List D).length + (s2.2.map D.int).length ≤ sizeLine := by
          rw [List.length_map, sizeLine_eq]
          show 0 + _ ≤ _
          omega
        refine sk_cons (sk_expr (em_meth (j := 1) (q := p1) (ds := []) (ds' := [] ++ s2.2.map D.int) (as := [.lst (s2.2.map D.int)]) PySem.F.slot_list_extend PySem.F.type_list_extend (fun X => mt_extend) ?a1v2 rfl (am_cons (em_of (r := .sh (.ints s2.2)) ?a1e2) (.sh _) am_nil) (mut_extend hz) rfl) ?a1R2)
        case a1v2 => wtm_at "m.ed"
        case a1e2 => wtm_at "m.ed"
        case a1R2 => exact sk_nil ⟨_, rfl, rfl⟩
    case azd =>
    rintro ρ' κ' ⟨s, rfl, rfl⟩
    show SK _ _ _ _ _
    refine sk_kt (κ' := six p0 p1 p2 p3 p4 p5 s2.1 s2.2 s1 s2) rfl ?_
    have b21 : (bx m rows s2 && bx m rows s1) = true := by
      simp only [Bool.and_eq_true]
      exact ⟨decide_eq_true hs2, decide_eq_true hs1⟩
    have a1 : A_over cN [.tab m rows, encR s2, encR s1] (.inl (.sh (encR (overR rows s2 s1)))) := ⟨m, rows, s2, s1, rfl, hc, by rw [b21, if_pos rfl]⟩
    have a2 : A_under cN [.tab m rows, encR s2, encR s1] (.inl (.sh (encR (underR m rows s2 s1)))) := ⟨m, rows, s2, s1, rfl, hc, by rw [b21, if_pos rfl]⟩
    refine' sk_cons (sk_if (k := false) (tm_open (ρ' := [.sh (.tab m rows), .sh (.lst [encR s2, encR s1, encR s2]), .no, .sh (.tup [encR (overR rows s2 s1), encR (underR m rows s2 s1)]), .no]) ?o0zo (TD.cast (td_not (td_val (k := true) (ed_call (A := A_same) (ds := [encR (overR rows s2 s1), encR (overR rows s2 s1)]) hSm ?o0k1 rfl (ad_cons' (r := .sh (encR (overR rows s2 s1))) (ed_call (A := A_over cN) hOv ?o0k2 rfl ?o0a2 a1) (.sh _) (ad_cons' ?o0a1 (.sh _) ad_nil)) ⟨_, rfl, rfl⟩))) rfl)) (fun hk => nomatch hk) fun _ => sk_nil ?o0R)
    case o0zo => wtm_at "op.all"
    case o0k1 => dsimp only; decide
    case o0k2 => dsimp only; decide
    case o0a1 => wtm_at "m.ed"
    case o0a2 => wtm_at "m.ad"
    case o0R =>
    show SK _ _ _ _ _
    refine' sk_cons (sk_if (k := false) (tm_open (ρ' := [.sh (.tab m rows), .sh (.lst [encR s2, encR s1, encR s2]), .no, .sh (.tup [encR (overR rows s2 s1), encR (underR m rows s2 s1)]), .no]) ?o1zo (TD.cast (td_not (td_val (k := true) (ed_call (A := A_same) (ds := [encR (underR m rows s2 s1), encR (underR m rows s2 s1)]) hSm ?o1k1 rfl (ad_cons' (r := .sh (encR (underR m rows s2 s1))) (ed_call (A := A_under cN) hUn ?o1k2 rfl ?o1a2 a2) (.sh _) (ad_cons' ?o1a1 (.sh _) ad_nil)) ⟨_, rfl, rfl⟩))) rfl)) (fun hk => nomatch hk) fun _ => sk_nil ?o1R)
    case o1zo => wtm_at "op.all"
    case o1k1 => dsimp only; decide
    case o1k2 => dsimp only; decide
    case o1a1 => wtm_at "m.ed"
    case o1a2 => wtm_at "m.ad"
    case o1R =>
    show SK _ _ _ _ _
    refine' sk_cons (sk_for (ds := ([0, 1] : List Int).map D.int) ?bzi (fun i ρ κ => ∃ s : Sl, ρ = [.sh (.tab m rows), .sh (hnd p0 p1 p2 p3 p4 p5), .sh (D.rules [s0, s1, s2]), .sh (.tup [encR (overR rows s2 s1), encR (underR m rows s2 s1)]), s] ∧ κ = six p0 p1 p2 p3 p4 p5 (if i = 0 then s2.1 else s0.1) (if i = 2 then s0.2 else s2.2) s1 s2) ⟨_, rfl, rfl⟩ ?bzs ?bzd hN ?bzi3 ?bzi4)
    case bzi3 => wtm_at "m.dec"
    case bzi4 => wtm_at "m.dec"
    case bzi => wtm_at "m.if"
    case bzs =>
      rintro i d ρ' κ' hd ⟨s, rfl, rfl⟩
      have hi2 : i = 0 ∧ d = .int 0 ∨ i = 1 ∧ d = .int 1 := by
        match i, hd with
        | 0, hd => exact .inl ⟨rfl, (Option.some.inj hd).symm⟩
        | 1, hd => exact .inr ⟨rfl, (Option.some.inj hd).symm⟩
        | n + 2, hd => cases hd
      rcases hi2 with ⟨rfl, rfl⟩ | ⟨rfl, rfl⟩
      · refine sk_at (ρ' := [.sh (.tab m rows), .sh (hnd p0 p1 p2 p3 p4 p5), .sh (D.rules [s0, s1, s2]), .sh (.tup [encR (overR rows s2 s1), encR (underR m rows s2 s1)]), .sh (.int 0)]) rfl ?_
        refine sk_kt (κ' := six p0 p1 p2 p3 p4 p5 s2.1 s2.2 s1 s2) rfl ?_
        refine sk_cons (sk_expr (em_meth0 (j := 0) (q := p0) (ds := s2.1.map D.int) (ds' := []) (d := .non) PySem.F.slot_list_clear PySem.F.type_list_clear (fun X => mt_clear) ?b0v1 rfl mut_clear rfl) ?b0R1)
        case b0v1 => wtm_at "m.ed"
        case b0R1 =>
        have hz : ([] : List D).length + (s0.1.map D.int).length ≤ sizeLine := by
          rw [List.length_map, sizeLine_eq]
          show 0 + _ ≤ _
          omega
        refine sk_cons (sk_expr (em_meth (j := 0) (q := p0) (ds := []) (ds' := [] ++ s0.1.map D.int) (as := [.lst (s0.1.map D.int)]) PySem.F.slot_list_extend PySem.F.type_list_extend (fun X => mt_extend) ?b0v2 rfl (am_cons (em_of (r := .sh (.ints s0.1)) ?b0e2) (.sh _) am_nil) (mut_extend hz) rfl) ?b0R2)
        case b0v2 => wtm_at "m.ed"
        case b0e2 => wtm_at "m.ed"
        case b0R2 => exact sk_nil ⟨_, rfl, rfl⟩
      · refine sk_at (ρ' := [.sh (.tab m rows), .sh (hnd p0 p1 p2 p3 p4 p5), .sh (D.rules [s0, s1, s2]), .sh (.tup [encR (overR rows s2 s1), encR (underR m rows s2 s1)]), .sh (.int 1)]) rfl ?_
        refine sk_kt (κ' := six p0 p1 p2 p3 p4 p5 s0.1 s2.2 s1 s2) rfl ?_
        refine sk_cons (sk_expr (em_meth0 (j := 1) (q := p1) (ds := s2.2.map D.int) (ds' := []) (d := .non) PySem.F.slot_list_clear PySem.F.type_list_clear (fun X => mt_clear) ?b1v1 rfl mut_clear rfl) ?b1R1)
        case b1v1 => wtm_at "m.ed"
        case b1R1 =>
        have hz : ([] : List D).length + (s0.2.map D.int).length ≤ sizeLine := by
          rw [List.length_map, sizeLine_eq]
          show 0 + _ ≤ _
          omega
        refine sk_cons (sk_expr (em_meth (j := 1) (q := p1) (ds := []) (ds' := [] ++ s0.2.map D.int) (as := [.lst (s0.2.map D.int)]) PySem.F.slot_list_extend PySem.F.type_list_extend (fun X => mt_extend) ?b1v2 rfl (am_cons (em_of (r := .sh (.ints s0.2)) ?b1e2) (.sh _) am_nil) (mut_extend hz) rfl) ?b1R2)
        case b1v2 => wtm_at "m.ed"
        case b1e2 => wtm_at "m.ed"
        case b1R2 => exact sk_nil ⟨_, rfl, rfl⟩
    case bzd =>
    rintro ρ' κ' ⟨s, rfl, rfl⟩
    show SK _ _ _ _ _
    refine sk_kt (κ' := six p0 p1 p2 p3 p4 p5 s0.1 s0.2 s1 s2) rfl ?_
    exact sk_cons (sk_ret (r := .sh (.bl true)) (em_of ed_bl) ⟨rfl, rfl⟩)
end
end Mb
set_option Elab.async false
set_option linter.all false
set_option maxRecDepth 100000
set_option maxHeartbeats 4000000
namespace Mb
open PySem PySem.Spec PyProof.Rows L2
local macro_rules | `(tactic| wtm_at "m.dec") => `(tactic| (dsimp only [Gx.blk]; decide +kernel))
local macro_rules | `(tactic| wtm_at "m.hint") => `(tactic| fail)
local macro_rules | `(tactic| wtm_at "m.side") => `(tactic| first | with_reducible assumption | assumption | decide | omega | exact Or.inr (And.intro (by omega) (by omega)) | exact Or.inl (And.intro (by omega) (by omega)) | exact And.intro (by omega) (by omega) | (simp only [List.length_cons, List.length_nil, List.length_map, List.length_range, List.length_append, sizeLine_eq]; omega) | wtm_at "m.hint" | solve_by_elim)
local macro_rules | `(tactic| wtm_at "m.dn") => `(tactic| first
  | exact Dn.int _ _ | exact Dn.bl _ _ | exact Dn.non _
  | (refine dn_lst (n := _) ?_; wtm_at "m.dm") | (refine dn_nls (n := _) ?_; wtm_at "m.dm") | (refine dn_tup (n := _) ?_; wtm_at "m.dm"))
local macro_rules | `(tactic| wtm_at "m.dm") => `(tactic| first
  | exact dm_nil | (refine dm_map ?_; intro _; wtm_at "m.dn") | (refine dm_cons ?a ?b; (case a => wtm_at "m.dn"); (case b => wtm_at "m.dm")) | (refine dm_app ?a ?b; (case a => wtm_at "m.dm"); (case b => wtm_at "m.dm")))
local macro_rules | `(tactic| wtm_at "m.tosh") => `(tactic| first | exact ToSh.sh _ | exact ToSh.fr _)
local macro_rules | `(tactic| wtm_at "m.eds") => `(tactic| (refine' ED.toSh ?h ?t ?q; (case h => wtm_at "m.ed"); (case t => wtm_at "m.tosh"); (case q => exact rfl)))
local macro_rules | `(tactic| wtm_at "m.tosha") => `(tactic| first | exact ToSh.un _ | exact ToSh.sh _ | exact ToSh.fr _)
local macro_rules | `(tactic| wtm_at "m.ad") => `(tactic| first
  | exact ad_nil
  | (refine' ad_cons' ?h ?t ?r; (case h => wtm_at "m.ed"); (case t => wtm_at "m.tosha"); (case r => wtm_at "m.ad")))
local macro_rules | `(tactic| wtm_at "m.adk") => `(tactic| first
  | exact ad_nil
  | (refine' ad_cons' ?h ?t ?r; (case h => wtm_at "m.ed"); (case t => wtm_at "m.tosh"); (case r => wtm_at "m.adk")))
local macro_rules | `(tactic| wtm_at "m.ic") => `(tactic| first
  | (refine' ic_range (by assumption) ?a ?b ?c ?g; (case a => wtm_at "m.ed"); (case g => rfl); (case b => wtm_at "m.side"); (case c => wtm_at "m.side"))
  | (refine' ic_list ?h ?q; (case h => wtm_at "m.ed"); (case q => exact rfl)))
local macro_rules | `(tactic| wtm_at "m.if") => `(tactic| first
  | (refine' if_range (by assumption) ?a ?b ?c ?g; (case a => wtm_at "m.ed"); (case g => rfl); (case b => wtm_at "m.side"); (case c => wtm_at "m.side"))
  | (refine' if_range2 (by assumption) ?a ?a2 ?b ?g; (case a => wtm_at "m.ed"); (case a2 => wtm_at "m.ed"); (case g => rfl); (case b => wtm_at "m.side"))
  | (refine' if_list ?h; (case h => wtm_at "m.ed"))
  | (refine' if_nls ?h; (case h => wtm_at "m.ed"))
  | (refine' if_fr ?h; (case h => wtm_at "m.ed"))
  | (refine' if_tup ?h; (case h => wtm_at "m.ed")))
local macro_rules | `(tactic| wtm_at "m.ld") => `(tactic| first
  | (refine' ld_lc0 ?n ?i ?j ?o ?l ?e; (case n => assumption); (case i => wtm_at "m.ic"); (case j => wtm_at "m.dec"); (case o => wtm_at "m.dec"); (case l => wtm_at "m.dec"); (case e => intro _ hx; (try have hx := List.mem_range.mp hx); wtm_at "m.eds"))
  | (refine' ld_lc1 ?n ?i ?j ?o ?l ?t ?e; (case n => assumption); (case i => wtm_at "m.ic"); (case j => wtm_at "m.dec"); (case o => wtm_at "m.dec"); (case l => wtm_at "m.dec"); (case t => (intro _ hx; (try have hx := List.mem_range.mp hx); refine' TD.cast ?h ?q; (case h => wtm_at "m.td"); (case q => exact rfl))); (case e => intro _ hx _; (try have hx := List.mem_range.mp hx); wtm_at "m.eds"))
  | (refine' ld_lcp0 ?n ?i ?j ?j2 ?o ?l ?l2 ?e; (case n => assumption); (case i => wtm_at "m.ic"); (case j => wtm_at "m.dec"); (case j2 => wtm_at "m.dec"); (case o => wtm_at "m.dec"); (case l => wtm_at "m.dec"); (case l2 => wtm_at "m.dec"); (case e => intro _ _; wtm_at "m.eds"))
  | (refine' ld_lcp1 ?n ?i ?j ?j2 ?o ?l ?l2 ?t ?e; (case n => assumption); (case i => wtm_at "m.ic"); (case j => wtm_at "m.dec"); (case j2 => wtm_at "m.dec"); (case o => wtm_at "m.dec"); (case l => wtm_at "m.dec"); (case l2 => wtm_at "m.dec"); (case t => (intro _ hx; (try have hx := List.mem_range.mp hx); refine' TD.cast ?h ?q; (case h => wtm_at "m.td"); (case q => exact rfl))); (case e => intro _ hx _; (try have hx := List.mem_range.mp hx); wtm_at "m.eds")))
local macro_rules | `(tactic| wtm_at "m.addr") => `(tactic| first | exact AddR.int _ _ | (refine' AddR.cat ?x ?y ?z; (case x => exact rfl); (case y => exact rfl); (case z => wtm_at "m.side")))
local macro_rules | `(tactic| wtm_at "m.at") => `(tactic| first
  | exact rfl
  | assumption
  | (refine atI_get (d := (0 : Int)) ?a ?b; (case a => wtm_at "m.side"); (case b => wtm_at "m.side"))
  | (refine atI_ints (d := default) ?a ?b; (case a => wtm_at "m.side"); (case b => wtm_at "m.side"))
  | (refine atI_lit ?a ?b ?c; (case a => wtm_at "m.side"); (case b => wtm_at "m.side"); (case c => rfl))
  | solve_by_elim)
local macro_rules | `(tactic| wtm_at "m.ixd") => `(tactic| first
  | (refine' IxD.tup ?h; (case h => wtm_at "m.at"))
  | (refine' IxD.scr ?h; (case h => wtm_at "m.at"))
  | (refine' IxD.list ?x ?h; (case x => exact rfl); (case h => wtm_at "m.at")))
local macro_rules | `(tactic| wtm_at "m.cp") => `(tactic| first
  | (refine' cp_lt ?a ?b; (case a => wtm_at "m.ed"); (case b => wtm_at "m.ed"))
  | (refine' cp_le ?a ?b; (case a => wtm_at "m.ed"); (case b => wtm_at "m.ed"))
  | (refine' cp_gt ?a ?b; (case a => wtm_at "m.ed"); (case b => wtm_at "m.ed"))
  | (refine' cp_ge ?a ?b; (case a => wtm_at "m.ed"); (case b => wtm_at "m.ed"))
  | (refine' cp_eq ?a ?b ?c ?d; (case a => wtm_at "m.ed"); (case b => wtm_at "m.ed"); (case c => wtm_at "m.dn"); (case d => wtm_at "m.dn"))
  | (refine' cp_ne ?a ?b ?c ?d; (case a => wtm_at "m.ed"); (case b => wtm_at "m.ed"); (case c => wtm_at "m.dn"); (case d => wtm_at "m.dn"))
  | (refine' cp_in ?a ?b ?e ?c ?d ?m; (case a => wtm_at "m.ed"); (case b => wtm_at "m.ed"); (case e => exact rfl); (case c => wtm_at "m.dn"); (case d => wtm_at "m.dm"); (case m => rfl))
  | (refine' cp_nin ?a ?b ?e ?c ?d ?m; (case a => wtm_at "m.ed"); (case b => wtm_at "m.ed"); (case e => exact rfl); (case c => wtm_at "m.dn"); (case d => wtm_at "m.dm"); (case m => rfl))
  | (refine' cp_isN ?a; (case a => wtm_at "m.ed"))
  | (refine' cp_notN ?a; (case a => wtm_at "m.ed"))
  | (refine' ch_le_lt ?a ?b ?c; (case a => wtm_at "m.ed"); (case b => wtm_at "m.ed"); (case c => wtm_at "m.ed"))
  | (refine' ch_le_le ?a ?b ?c; (case a => wtm_at "m.ed"); (case b => wtm_at "m.ed"); (case c => wtm_at "m.ed")))
local macro_rules | `(tactic| wtm_at "m.tw") => `(tactic| first
  | (refine' tw_and ?a ?b; (case a => wtm_at "m.td"); (case b => intro _; wtm_at "m.tw"))
  | (refine' tw_or ?a ?b; (case a => wtm_at "m.td"); (case b => intro _; wtm_at "m.tw"))
  | (refine' tw_and1 ?a; (case a => wtm_at "m.td"))
  | (refine' tw_or1 ?a; (case a => wtm_at "m.td")))
local macro_rules | `(tactic| wtm_at "m.td") => `(tactic| first
  | (refine' And.right (a := ?p) ?h; (case h => wtm_at "m.cp"))
  | (refine' td_not ?h; (case h => wtm_at "m.td"))
  | (refine' td_bool ?h; (case h => wtm_at "m.tw"))
  | (refine' td_val ?h; (case h => wtm_at "m.ed")))
local macro_rules | `(tactic| wtm_at "m.bo") => `(tactic| first
  | (refine' ed_and ?a ?b; (case a => wtm_at "m.ed"); (case b => intro _; wtm_at "m.bo"))
  | (refine' ed_or ?a ?b; (case a => wtm_at "m.ed"); (case b => intro _; wtm_at "m.bo"))
  | (refine' ed_one ?a; (case a => wtm_at "m.ed")))
local macro_rules | `(tactic| wtm_at "m.pre") => `(tactic| first
  | exact ⟨_, rfl, rfl⟩ | exact ⟨_, _, rfl, rfl⟩ | exact ⟨_, _, _, rfl, rfl⟩ | exact ⟨_, _, _, _, rfl, rfl⟩ | exact ⟨_, _, _, _, _, rfl, rfl⟩
  | (refine ⟨_, rfl, ?_, rfl⟩; wtm_at "m.side") | (refine ⟨_, _, rfl, ?_, rfl⟩; wtm_at "m.side") | (refine ⟨_, _, _, rfl, ?_, rfl⟩; wtm_at "m.side") | (refine ⟨_, _, _, _, rfl, ?_, rfl⟩; wtm_at "m.side") | (refine ⟨_, _, _, _, _, rfl, ?_, rfl⟩; wtm_at "m.side"))
local macro_rules | `(tactic| wtm_at "m.call") => `(tactic| first
  | wtm_at "m.direct"
  | (refine' ed_thaw ?h ?d; (case h => wtm_at "m.direct"); (case d => rfl)))
local macro_rules | `(tactic| wtm_at "m.od") => `(tactic| first | exact od_none | (refine' od_some ?h; (case h => wtm_at "m.ed")))
local macro_rules | `(tactic| wtm_at "m.direct") => `(tactic| first
  | (refine' ed_call ?T ?k ?g ?a ?A; (case T => assumption); (case k => (dsimp only [Gx.blk]; decide)); (case g => rfl); (case a => wtm_at "m.ad"); (case A => wtm_at "m.pre"))
  | (refine' ed_many (by assumption) ?a ?b; (case a => wtm_at "m.ed"); (case b => exact rfl))
  | (refine' ed_rows (by assumption) ?a; (case a => wtm_at "m.ed"))
  | (refine' ed_meth (by assumption) ?T ?k ?o ?d ?a ?A; (case T => assumption); (case k => (dsimp only [Gx.blk]; decide)); (case o => wtm_at "m.ed"); (case d => exact rfl); (case a => wtm_at "m.ad"); (case A => wtm_at "m.pre")))
local macro_rules | `(tactic| wtm_at "m.ed") => `(tactic| first
  | (refine' ed_varA ?h ?v; (case h => exact rfl); (case v => rfl))
  | (refine' ed_var ?h ?v; (case h => exact rfl); (case v => rfl))
  | exact ed_int
  | (refine' ed_ixR ?a ?b ?c; (case a => wtm_at "m.ed"); (case b => wtm_at "m.ed"); (case c => wtm_at "m.ixd"))
  | (refine' And.left (b := ?p) ?h; (case h => wtm_at "m.cp"))
  | (refine' ed_addR ?a ?b ?c; (case a => wtm_at "m.ed"); (case b => wtm_at "m.ed"); (case c => wtm_at "m.addr"))
  | (refine' ed_sub ?a ?b; (case a => wtm_at "m.ed"); (case b => wtm_at "m.ed"))
  | (refine' ed_mul ?a ?b ?c; (case a => wtm_at "m.ed"); (case b => wtm_at "m.ed"); (case c => wtm_at "m.side"))
  | (refine' ed_fdiv ?a ?b ?c; (case a => wtm_at "m.ed"); (case b => wtm_at "m.ed"); (case c => wtm_at "m.side"))
  | (refine' ed_mod ?a ?b ?c; (case a => wtm_at "m.ed"); (case b => wtm_at "m.ed"); (case c => wtm_at "m.side"))
  | (refine' ed_pow ?a ?b ?c; (case a => wtm_at "m.ed"); (case b => wtm_at "m.ed"); (case c => wtm_at "m.side"))
  | (refine' ed_neg ?a; (case a => wtm_at "m.ed"))
  | (refine' LD.ed ?a; (case a => wtm_at "m.ld"))
  | (refine' ed_len (by assumption) ?a ?b ?g; (case a => wtm_at "m.ed"); (case b => exact rfl); (case g => rfl))
  | (refine' ed_listRange (by assumption) ?a ?b ?c ?g ?g2; (case a => wtm_at "m.ed"); (case b => wtm_at "m.side"); (case c => wtm_at "m.side"); (case g => rfl); (case g2 => rfl))
  | (refine' ed_list (by assumption) ?a ?b ?g; (case a => wtm_at "m.ed"); (case b => exact rfl); (case g => rfl))
  | (refine' ed_all (by assumption) ?a ?b ?g; (case a => wtm_at "m.ed"); (case b => exact rfl); (case g => rfl))
  | (refine' ed_any (by assumption) ?a ?b ?g; (case a => wtm_at "m.ed"); (case b => exact rfl); (case g => rfl))
  | (refine' ed_sum (by assumption) ?a ?b ?g; (case a => wtm_at "m.ed"); (case b => exact rfl); (case g => rfl))
  | (refine' ed_sorted (by assumption) ?a ?b ?g; (case a => wtm_at "m.ed"); (case b => exact rfl); (case g => rfl))
  | (refine' ed_intB (by assumption) ?a ?g; (case a => wtm_at "m.ed"); (case g => rfl))
  | (refine' ed_max (by assumption) ?a ?b ?g; (case a => wtm_at "m.ed"); (case b => wtm_at "m.ed"); (case g => rfl))
  | (refine' ed_min (by assumption) ?a ?b ?g; (case a => wtm_at "m.ed"); (case b => wtm_at "m.ed"); (case g => rfl))
  | (refine' ed_isi (k := true) (by assumption) ?a ?b ?t ?k ?g; (case a => wtm_at "m.ed"); (case b => wtm_at "m.ed"); (case t => exact rfl); (case k => decide +kernel); (case g => rfl))
  | (refine' ed_isi (k := false) (by assumption) ?a ?b ?t ?k ?g; (case a => wtm_at "m.ed"); (case b => wtm_at "m.ed"); (case t => exact rfl); (case k => decide +kernel); (case g => rfl))
  | (refine' ed_tup ?a ?b; (case a => wtm_at "m.adk"); (case b => wtm_at "m.side"))
  | (refine' ed_lst ?a ?b; (case a => wtm_at "m.adk"); (case b => wtm_at "m.side"))
  | (refine' ed_sl ?a ?x ?l ?u; (case a => wtm_at "m.ed"); (case x => exact rfl); (case l => wtm_at "m.od"); (case u => wtm_at "m.od"))
  | (refine' ed_not ?a; (case a => wtm_at "m.ed"))
  | wtm_at "m.bo"
  | wtm_at "m.call"
  | (refine' ed_own ?h ?v; (case h => exact rfl); (case v => rfl))
  | exact ed_bl
  | exact ed_non
  | (refine' ed_globI ?h ?m; (case h => rfl); (case m => assumption))
  | (refine' ed_tyInt (by assumption) ?g; (case g => rfl))
  | (refine' ed_tyList (by assumption) ?g; (case g => rfl))
  | (refine' ed_tyTuple (by assumption) ?g; (case g => rfl))
  | (refine' ed_tyBool (by assumption) ?g; (case g => rfl)))
local macro_rules | `(tactic| wtm_at "s.set") => `(tactic| (refine' sd_cons (s_set ?e ?q ?n ?i ?o); (case n => assumption); (case i => wtm_at "m.dec"); (case o => wtm_at "m.dec"); (case e => wtm_at "m.eds")))
local macro_rules | `(tactic| wtm_at "s.own") => `(tactic| (refine' sd_cons (s_own ?e ?q ?n ?i ?o); (case n => assumption); (case i => wtm_at "m.dec"); (case o => wtm_at "m.dec"); (case e => wtm_at "m.ed")))
local macro_rules | `(tactic| wtm_at "s.lc") => `(tactic| (refine' sd_cons (s_lc ?e ?q ?i ?k ?y ?l ?a); (case i => wtm_at "m.dec"); (case k => rfl); (case y => rfl); (case l => rfl); (case a => decide +kernel); (case e => wtm_at "m.ld")))
local macro_rules | `(tactic| wtm_at "s.lco") => `(tactic| (refine' sd_cons (s_lcO ?e ?q ?i ?k ?y ?l ?a); (case i => wtm_at "m.dec"); (case k => rfl); (case y => rfl); (case l => rfl); (case a => decide +kernel); (case e => wtm_at "m.ld")))
local macro_rules | `(tactic| wtm_at "s.lcc") => `(tactic| (refine' sd_cons (s_set ?e ?q ?n ?i ?o (swapF ?s)); (case n => assumption); (case i => wtm_at "m.dec"); (case o => wtm_at "m.dec"); (case s => rfl); (case e => (refine' ED.shr (LD.ed ?f); (case f => wtm_at "m.ld")))))
local macro_rules | `(tactic| wtm_at "s.ret") => `(tactic| (refine' sd_cons (s_ret ?e ?q); (case e => wtm_at "m.ed")))
local macro_rules | `(tactic| wtm_at "s.if") => `(tactic| (refine' sd_cons (s_if ?zzt ?zzy ?zzm); (case zzt => wtm_at "m.td")))
local macro_rules | `(tactic| wtm_at "s.ift") => `(tactic| (refine' sd_cons (s_if (td_thaw ?zzt) ?zzy ?zzm); (case zzt => wtm_at "m.td")))
local macro_rules | `(tactic| wtm_at "s.app") => `(tactic| (refine' sd_cons (s_app ?e ?h ?v ?z ?q); (case h => exact rfl); (case v => rfl); (case e => wtm_at "m.eds"); (case z => wtm_at "m.side")))
local macro_rules | `(tactic| wtm_at "s.ifset") => `(tactic| (refine' sd_cons (s_ifset ?c ?e ?h1 ?h2 ?h0 ?q ?n ?i ?o); (case n => assumption); (case i => wtm_at "m.dec"); (case o => wtm_at "m.dec"); (case h0 => exact rfl); (case c => wtm_at "m.td"); (case e => intro _; wtm_at "m.eds")))
local macro_rules | `(tactic| wtm_at "s.raise") => `(tactic| (refine' sd_cons (s_raise ?T ?g ?r); (case T => assumption); (case g => rfl)))
local macro_rules | `(tactic| wtm_at "m.make") => `(tactic| (refine' ed_make ?T ?k ?g ?a ?b ?A; (case T => assumption); (case k => (dsimp only [Gx.blk]; decide)); (case g => rfl); (case a => wtm_at "m.ed"); (case b => wtm_at "m.eds"); (case A => assumption)))
local macro_rules | `(tactic| wtm_at "sl.flat") => `(tactic| first | exact flat_sets | exact flat_tab | exact flat_scr | exact flat_int | exact flat_pair flat_int flat_sets)
local macro_rules | `(tactic| wtm_at "sl.one") => `(tactic| first
  | exact Or.inl rfl
  | exact SpM.no
  | exact SpR.no
  | exact SpM.told rfl
  | exact SpR.told rfl
  | (refine SpM.keep (by decide) rfl ?_ rfl; wtm_at "sl.flat")
  | exact SpM.conv (by decide) rfl conv_int.1
  | exact SpR.keep (by decide) (by decide) rfl rfl rfl
  | exact SpR.conv (by decide) rfl conv_int.2
  | exact SpR.conv (by decide) rfl back_rules
  | exact SpR.conv (by decide) rfl back_sets
  | (refine Or.inr ⟨_, rfl, rfl, ?_⟩; wtm_at "sl.flat"))
local macro_rules | `(tactic| wtm_at "sl.all") => `(tactic| ((repeat' first | exact slAll_nil | refine slAll_cons ?_ ?_) <;> wtm_at "sl.one"))
local macro_rules | `(tactic| wtm_at "op.mem") => `(tactic| first | exact .head _ | exact .tail _ (.head _) | exact .tail _ (.tail _ (.head _)) | exact .tail _ (.tail _ (.tail _ (.head _))) | exact .tail _ (.tail _ (.tail _ (.tail _ (.head _)))) | exact .tail _ (.tail _ (.tail _ (.tail _ (.tail _ (.head _))))) | exact .tail _ (.tail _ (.tail _ (.tail _ (.tail _ (.tail _ (.head _)))))))
local macro_rules | `(tactic| wtm_at "op.d") => `(tactic| first
  | exact opn_refl
  | (refine opn_ints ?_; wtm_at "op.mem")
  | (refine opn_tup ?_; wtm_at "op.l")
  | (refine opn_lst ?_; wtm_at "op.l")
  | (refine opn_cell ?zopm ?zopl; (case zopm => wtm_at "op.mem"); (case zopl => first | exact opnL_refl | wtm_at "op.l")))
local macro_rules | `(tactic| wtm_at "op.l") => `(tactic| first
  | exact opnL_nil
  | (refine opnL_cons ?zopa ?zopb; (case zopa => wtm_at "op.d"); (case zopb => wtm_at "op.l")))
local macro_rules | `(tactic| wtm_at "op.one") => `(tactic| first
  | exact OpS.no
  | exact OpS.own rfl
  | (refine OpS.sh rfl ?_; wtm_at "op.d"))
local macro_rules | `(tactic| wtm_at "op.all") => `(tactic| ((repeat' first | exact slAll_nil | refine slAll_cons ?_ ?_) <;> wtm_at "op.one"))
local macro_rules | `(tactic| wtm_at "op.one2") => `(tactic| first
  | exact OpS.no
  | exact OpS.own rfl
  | exact OpS.sh rfl (by assumption)
  | exact OpS.sh rfl opn_refl)
local macro_rules | `(tactic| wtm_at "op.all2") => `(tactic| ((repeat' first | exact slAll_nil | refine slAll_cons ?_ ?_) <;> wtm_at "op.one2"))
def spB (c : Int) (s0 : Rule) (part : List Int) : Rule := if c.fmod 2 = 0 then (part, s0.2) else (s0.1, part)
abbrev A_spoilB : AK := fun ds κ O => ∃ (m : Int) (rows : List (List Int)) (s0 : Rule) (c : Int), ds = [encR s0, .int c, .int m, D.sets rows] ∧ κ = [] ∧ (0 ≤ m ∧ m ≤ 8 ∧ rows.length ≤ 12 ∧ s0 ∈ boxL m rows) ∧ O = fun r κ' => ∃ (q : Addr) (part : List Int), r = .sh (if c.fmod 2 = 0 then .tup [.cls q, .ints s0.2] else .tup [.ints s0.1, .cls q]) ∧ κ' = [(q, part.map D.int)] ∧ part.length ≤ 100 ∧ bx m rows (spB c s0 part) = false
abbrev A_ratB : List D → Ot → Prop := fun ds o => ∃ (m : Int) (rows : List (List Int)) (s0 s1 s2 : Rule) (c : Int), ds = [.tab m rows, D.rules [s0, s1, s2], .int m, D.sets rows, .int c] ∧ (0 ≤ m ∧ m ≤ 8 ∧ rows.length ≤ 12) ∧ (s0 ∈ boxL m rows ∧ s1 ∈ boxL m rows) ∧ o = .inl (.sh (.bl true))
section
variable {U : Wd} (T : Bl U.mg) (C : TabOk U) {f : Addr} {fd : FuncData} {x q : Str} {cM cT cE cS cN : Addr}
include T C
theorem ok_ratB (hSp : FnK U "_law_spoilt" 2 A_spoilB) (hRf : FnT U "_law_refuses" 7 A_refs) (hDu : FnT U "_law_due" 1 A_dueB) (hSm : FnT U "_law_same" 2 A_same) (hOv : FnT U "over" 5 (A_over cN)) (hUn : FnT U "under" 5 (A_under cN)) (F : Fun U.K x q s_law_refused_and_told f fd) : FnOk U.P U.w U.K U.mg U.base (L2.CX U.P U.w) 8 f fd ["_law_table", "_law_some", "_law_many", "_law_rows", "_law_cell"] (spX U A_ratB) := by
  have hN := sc_law_refused_and_told.nd
  refine fn_okL F sc_law_refused_and_told (fun ds o h => ?_) fun ds o h => ?_
  · obtain ⟨m, rows, s0, s1, s2, c, rfl, _⟩ := h
    rfl
  · obtain ⟨m, rows, s0, s1, s2, c, rfl, hc, ⟨hs0, hs1⟩, rfl⟩ := h
    obtain ⟨h0, h8, hr⟩ := hc
    have l12 := box_l12 hs0 hr
    have l8 := box_l8 T C hs0 h0 h8
    have hia : inR (rows.length : Int) s0.1 = true := by
      rw [(box_iff.mp hs0).2.2]
      exact thI_in rows s0.2
    have b01 : (bx m rows s0 && bx m rows s1) = true := by
      simp only [Bool.and_eq_true]
      exact ⟨decide_eq_true hs0, decide_eq_true hs1⟩
    have a1 : A_over cN [.tab m rows, encR s0, encR s1] (.inl (.sh (encR (overR rows s0 s1)))) := ⟨m, rows, s0, s1, rfl, ⟨h0, h8, hr⟩, by rw [b01, if_pos rfl]⟩
    have a2 : A_under cN [.tab m rows, encR s0, encR s1] (.inl (.sh (encR (underR m rows s0 s1)))) := ⟨m, rows, s0, s1, rfl, ⟨h0, h8, hr⟩, by rw [b01, if_pos rfl]⟩
    refine sk_at (ρ' := [.sh (.tab m rows), .sh (D.rules [s0, s1, s2]), .sh (.int m), .sh (D.sets rows), .sh (.int c), .no, .no, .no, .no]) rfl ?_
    refine' sk_cons (sk_callN hSp ?zk1 rfl (am_of ?za1) ⟨m, rows, s0, c, rfl, rfl, ⟨h0, h8, hr, hs0⟩, rfl⟩ ?zR1 hN ?zi1 ?zj1)
    case zk1 => dsimp only; decide
    case zi1 => wtm_at "m.dec"
    case zj1 => wtm_at "m.dec"
    case za1 => wtm_at "m.ad"
    case zR1 =>
    rintro r κn ⟨q, part, rfl, rfl, hpl, hbx⟩
    refine ⟨_, rfl, ?_⟩
    have hcr : 0 ≤ m ∧ m ≤ 8 ∧ rows.length ≤ 12 ∧ bx m rows (spB c s0 part) = false := ⟨h0, h8, hr, hbx⟩
    have m0 := fmod_lo (a := c) (b := 2) (by decide)
    have m1 := fmod_hi (a := c) (b := 2) (by decide)
    have hc2 : c.fmod 2 = 0 ∨ c.fmod 2 = 1 := by omega
    clear m0 m1
    rcases hc2 with hc2 | hc2
    · have hat : ∀ x y : D, atI [x, y] (c.fmod 2) = some x := fun x y => by
        rw [hc2]
        rfl
      have hsp : spB c s0 part = (part, s0.2) := by
        unfold spB
        rw [if_pos hc2]
      rw [hsp] at hcr
      refine sk_at (ρ' := [.sh (.tab m rows), .sh (D.rules [s0, s1, s2]), .sh (.int m), .sh (D.sets rows), .sh (.int c), .sh (.tup [.cls q, .ints s0.2]), .no, .no, .no]) (by rw [if_pos hc2]; rfl) ?_
      refine sk_kt (κ' := [(q, part.map D.int)]) rfl ?_
      have hO : Opn U [(q, part.map D.int)] (.tup [.cls q, .ints s0.2]) (encR (part, s0.2)) := opn_tup (opnL_cons (opn_ints (.head _)) opnL_refl)
      refine' sk_cons (sk_cell (ds := part.map D.int) (em_open (r := .fr _) (ρ' := [.no, .no, .no, .no, .sh (.int c), .sh (encR (part, s0.2)), .no, .no, .no]) ?p0zo2 ?p0ze2 shut_ints) (fun q1 => ?p0zR2) hN ?p0zi2 ?p0zj2)
      case p0zi2 => wtm_at "m.dec"
      case p0zj2 => wtm_at "m.dec"
      case p0zo2 => wtm_at "op.all2"
      case p0ze2 => wtm_at "m.ed"
      case p0zR2 =>
      clear hO
      have hO1 : Opn U [(q1, part.map D.int)] (.cls q1) (.ints part) := opn_ints (.head _)
      refine sk_kt (κ' := [(q, part.map D.int), (q1, part.map D.int)]) rfl ?_
      refine sk_at (ρ' := [.sh (.tab m rows), .sh (D.rules [s0, s1, s2]), .sh (.int m), .sh (D.sets rows), .sh (.int c), .sh (.tup [.cls q, .ints s0.2]), .sh (.cls q1), .no, .no]) rfl ?_
      refine sk_freeze (j := 1) (q := q1) (ds := part.map D.int) (ρ' := [.sh (.tab m rows), .sh (D.rules [s0, s1, s2]), .sh (.int m), .sh (D.sets rows), .sh (.int c), .sh (.tup [.cls q, .ints s0.2]), .sh (.ints part), .no, .no]) rfl ?p0zo3 ?p0zR3
      case p0zo3 => wtm_at "op.all2"
      case p0zR3 =>
      clear hO1
      refine sk_kt (κ' := [(q, part.map D.int)]) rfl ?_
      have hO : Opn U [(q, part.map D.int)] (.tup [.cls q, .ints s0.2]) (encR (part, s0.2)) := opn_tup (opnL_cons (opn_ints (.head _)) opnL_refl)
      refine' sk_cons (sk_if (k := false) (tm_open (ρ' := [.sh (.tab m rows), .sh (D.rules [s0, s1, s2]), .no, .no, .no, .sh (encR (part, s0.2)), .no, .no, .no]) ?p0zo4 (TD.cast (td_not (td_val (k := true) (ed_call (A := A_refs) (ds := [.tab m rows, encR (part, s0.2), encR s1]) hRf ?p0zk4 rfl ?p0za4 ⟨m, rows, _, s1, rfl, hcr, rfl⟩))) rfl)) (fun hk => nomatch hk) fun _ => sk_nil ?p0zR4)
      case p0zo4 => wtm_at "op.all2"
      case p0zk4 => dsimp only; decide
      case p0za4 => wtm_at "m.ad"
      case p0zR4 =>
      show SK _ _ _ _ _
      clear hO
      refine sk_cons (sk_expr (em_meth0 (j := 0) (q := q) (ds := part.map D.int) (ds' := []) (d := .non) PySem.F.slot_list_clear PySem.F.type_list_clear (fun X => mt_clear) ?p0zv5 rfl mut_clear rfl) ?p0zR5)
      case p0zv5 => wtm_at "m.ed"
      case p0zR5 =>
      refine sk_kt (κ' := [(q, [])]) rfl ?_
      have hz6 : ([] : List D).length + (s0.1.map D.int).length ≤ sizeLine := by
        rw [List.length_map, sizeLine_eq]
        show 0 + _ ≤ _
        omega
      refine sk_cons (sk_expr (em_meth (j := 0) (q := q) (ds := []) (ds' := [] ++ s0.1.map D.int) (as := [.lst (s0.1.map D.int)]) PySem.F.slot_list_extend PySem.F.type_list_extend (fun X => mt_extend) ?p0zv6 rfl (am_cons (em_of (r := .sh (.ints s0.1)) ?p0ze6) (.sh _) am_nil) (mut_extend hz6) rfl) ?p0zR6)
      case p0zv6 => wtm_at "m.ed"
      case p0ze6 => wtm_at "m.ed"
      case p0zR6 =>
      refine sk_kt (κ' := [(q, s0.1.map D.int)]) rfl ?_
      refine' sk_cons (sk1 (s_set2 (d1 := encR (overR rows s0 s1)) (d2 := encR (underR m rows s0 s1)) (ed_call (A := A_dueB) (ds := [.int m, D.sets rows, encR s0, encR s1]) hDu ?p0zk7 rfl ?p0za7 ⟨m, rows, s0, s1, rfl, ⟨h0, h8, hr, hia⟩, rfl⟩) ?p0zR7 hN ?p0zi7 ?p0zj7 ?p0zm7 ?p0zn7))
      case p0zk7 => dsimp only; decide
      case p0za7 => wtm_at "m.ad"
      case p0zi7 => wtm_at "m.dec"
      case p0zj7 => wtm_at "m.dec"
      case p0zm7 => wtm_at "m.dec"
      case p0zn7 => wtm_at "m.dec"
      case p0zR7 =>
      show SK _ _ _ _ _
      refine sk_at (ρ' := [.sh (.tab m rows), .sh (D.rules [s0, s1, s2]), .sh (.int m), .sh (D.sets rows), .sh (.int c), .sh (.tup [.cls q, .ints s0.2]), .sh (.ints part), .sh (encR (overR rows s0 s1)), .sh (encR (underR m rows s0 s1))]) rfl ?_
      have hO : Opn U [(q, s0.1.map D.int)] (.tup [.cls q, .ints s0.2]) (encR s0) := opn_tup (opnL_cons (opn_ints (.head _)) opnL_refl)
      refine' sk_cons (sk_if (k := false) (tm_open (ρ' := [.sh (.tab m rows), .sh (D.rules [s0, s1, s2]), .no, .no, .no, .sh (encR s0), .no, .sh (encR (overR rows s0 s1)), .sh (encR (underR m rows s0 s1))]) ?p0zo8 (TD.cast (td_bool (tw_or (td_not (td_val (k := true) (ed_call (A := A_same) (ds := [encR (overR rows s0 s1), encR (overR rows s0 s1)]) hSm ?p0k1 rfl (ad_cons' (r := .sh (encR (overR rows s0 s1))) (ed_call (A := A_over cN) hOv ?p0k2 rfl ?p0a2 a1) (.sh _) (ad_cons' ?p0a1 (.sh _) ad_nil)) ⟨_, rfl, rfl⟩))) (fun _ => tw_or1 (td_not (td_val (k := true) (ed_call (A := A_same) (ds := [encR (underR m rows s0 s1), encR (underR m rows s0 s1)]) hSm ?p0k3 rfl (ad_cons' (r := .sh (encR (underR m rows s0 s1))) (ed_call (A := A_under cN) hUn ?p0k4 rfl ?p0a4 a2) (.sh _) (ad_cons' ?p0a3 (.sh _) ad_nil)) ⟨_, rfl, rfl⟩)))))) rfl)) (fun hk => nomatch hk) fun _ => sk_nil ?p0zR8)
      case p0zo8 => wtm_at "op.all2"
      case p0k1 => dsimp only; decide
      case p0k2 => dsimp only; decide
      case p0k3 => dsimp only; decide
      case p0k4 => dsimp only; decide
      case p0a1 => wtm_at "m.ed"
      case p0a2 => wtm_at "m.ad"
      case p0a3 => wtm_at "m.ed"
      case p0a4 => wtm_at "m.ad"
      case p0zR8 =>
      show SK _ _ _ _ _
      clear hO
      refine sk_cons (sk_expr (em_meth0 (j := 0) (q := q) (ds := s0.1.map D.int) (ds' := []) (d := .non) PySem.F.slot_list_clear PySem.F.type_list_clear (fun X => mt_clear) ?p0zv9 rfl mut_clear rfl) ?p0zR9)
      case p0zv9 => wtm_at "m.ed"
      case p0zR9 =>
      refine sk_kt (κ' := [(q, [])]) rfl ?_
      have hz10 : ([] : List D).length + (part.map D.int).length ≤ sizeLine := by
        rw [List.length_map, sizeLine_eq]
        show 0 + _ ≤ _
        omega
      refine sk_cons (sk_expr (em_meth (j := 0) (q := q) (ds := []) (ds' := [] ++ part.map D.int) (as := [.lst (part.map D.int)]) PySem.F.slot_list_extend PySem.F.type_list_extend (fun X => mt_extend) ?p0zv10 rfl (am_cons (em_of (r := .sh (.ints part)) ?p0ze10) (.sh _) am_nil) (mut_extend hz10) rfl) ?p0zR10)
      case p0zv10 => wtm_at "m.ed"
      case p0ze10 => wtm_at "m.ed"
      case p0zR10 =>
      refine sk_kt (κ' := [(q, part.map D.int)]) rfl ?_
      have hO : Opn U [(q, part.map D.int)] (.tup [.cls q, .ints s0.2]) (encR (part, s0.2)) := opn_tup (opnL_cons (opn_ints (.head _)) opnL_refl)
      refine' sk_cons (sk_ret (r := .sh (.bl true)) (em_open (ρ' := [.sh (.tab m rows), .sh (D.rules [s0, s1, s2]), .no, .no, .no, .sh (encR (part, s0.2)), .no, .no, .no]) ?p0zo11 (ed_call (A := A_refs) (ds := [.tab m rows, encR (part, s0.2), encR s1]) hRf ?p0zk11 rfl ?p0za11 ⟨m, rows, _, s1, rfl, hcr, rfl⟩) (shut_free rfl)) rfl)
      case p0zo11 => wtm_at "op.all2"
      case p0zk11 => dsimp only; decide
      case p0za11 => wtm_at "m.ad"
    · have hat : ∀ x y : D, atI [x, y] (c.fmod 2) = some y := fun x y => by
        rw [hc2]
        rfl
      have hsp : spB c s0 part = (s0.1, part) := by
        unfold spB
        rw [if_neg (by omega)]
      rw [hsp] at hcr
      refine sk_at (ρ' := [.sh (.tab m rows), .sh (D.rules [s0, s1, s2]), .sh (.int m), .sh (D.sets rows), .sh (.int c), .sh (.tup [.ints s0.1, .cls q]), .no, .no, .no]) (by rw [if_neg (by omega)]; rfl) ?_
      refine sk_kt (κ' := [(q, part.map D.int)]) rfl ?_
      have hO : Opn U [(q, part.map D.int)] (.tup [.ints s0.1, .cls q]) (encR (s0.1, part)) := opn_tup (opnL_cons opn_refl (opnL_cons (opn_ints (.head _)) opnL_nil))
      refine' sk_cons (sk_cell (ds := part.map D.int) (em_open (r := .fr _) (ρ' := [.no, .no, .no, .no, .sh (.int c), .sh (encR (s0.1, part)), .no, .no, .no]) ?p1zo2 ?p1ze2 shut_ints) (fun q1 => ?p1zR2) hN ?p1zi2 ?p1zj2)
      case p1zi2 => wtm_at "m.dec"
      case p1zj2 => wtm_at "m.dec"
      case p1zo2 => wtm_at "op.all2"
      case p1ze2 => wtm_at "m.ed"
      case p1zR2 =>
      clear hO
      have hO1 : Opn U [(q1, part.map D.int)] (.cls q1) (.ints part) := opn_ints (.head _)
      refine sk_kt (κ' := [(q, part.map D.int), (q1, part.map D.int)]) rfl ?_
      refine sk_at (ρ' := [.sh (.tab m rows), .sh (D.rules [s0, s1, s2]), .sh (.int m), .sh (D.sets rows), .sh (.int c), .sh (.tup [.ints s0.1, .cls q]), .sh (.cls q1), .no, .no]) rfl ?_
      refine sk_freeze (j := 1) (q := q1) (ds := part.map D.int) (ρ' := [.sh (.tab m rows), .sh (D.rules [s0, s1, s2]), .sh (.int m), .sh (D.sets rows), .sh (.int c), .sh (.tup [.ints s0.1, .cls q]), .sh (.ints part), .no, .no]) rfl ?p1zo3 ?p1zR3
      case p1zo3 => wtm_at "op.all2"
      case p1zR3 =>
      clear hO1
      refine sk_kt (κ' := [(q, part.map D.int)]) rfl ?_
      have hO : Opn U [(q, part.map D.int)] (.tup [.ints s0.1, .cls q]) (encR (s0.1, part)) := opn_tup (opnL_cons opn_refl (opnL_cons (opn_ints (.head _)) opnL_nil))
      refine' sk_cons (sk_if (k := false) (tm_open (ρ' := [.sh (.tab m rows), .sh (D.rules [s0, s1, s2]), .no, .no, .no, .sh (encR (s0.1, part)), .no, .no, .no]) ?p1zo4 (TD.cast (td_not (td_val (k := true) (ed_call (A := A_refs) (ds := [.tab m rows, encR (s0.1, part), encR s1]) hRf ?p1zk4 rfl ?p1za4 ⟨m, rows, _, s1, rfl, hcr, rfl⟩))) rfl)) (fun hk => nomatch hk) fun _ => sk_nil ?p1zR4)
      case p1zo4 => wtm_at "op.all2"
      case p1zk4 => dsimp only; decide
      case p1za4 => wtm_at "m.ad"
      case p1zR4 =>
      show SK _ _ _ _ _
      clear hO
      refine sk_cons (sk_expr (em_meth0 (j := 0) (q := q) (ds := part.map D.int) (ds' := []) (d := .non) PySem.F.slot_list_clear PySem.F.type_list_clear (fun X => mt_clear) ?p1zv5 rfl mut_clear rfl) ?p1zR5)
      case p1zv5 => wtm_at "m.ed"
      case p1zR5 =>
      refine sk_kt (κ' := [(q, [])]) rfl ?_
      have hz6 : ([] : List D).length + (s0.2.map D.int).length ≤ sizeLine := by
        rw [List.length_map, sizeLine_eq]
        show 0 + _ ≤ _
        omega
      refine sk_cons (sk_expr (em_meth (j := 0) (q := q) (ds := []) (ds' := [] ++ s0.2.map D.int) (as := [.lst (s0.2.map D.int)]) PySem.F.slot_list_extend PySem.F.type_list_extend (fun X => mt_extend) ?p1zv6 rfl (am_cons (em_of (r := .sh (.ints s0.2)) ?p1ze6) (.sh _) am_nil) (mut_extend hz6) rfl) ?p1zR6)
      case p1zv6 => wtm_at "m.ed"
      case p1ze6 => wtm_at "m.ed"
      case p1zR6 =>
      refine sk_kt (κ' := [(q, s0.2.map D.int)]) rfl ?_
      refine' sk_cons (sk1 (s_set2 (d1 := encR (overR rows s0 s1)) (d2 := encR (underR m rows s0 s1)) (ed_call (A := A_dueB) (ds := [.int m, D.sets rows, encR s0, encR s1]) hDu ?p1zk7 rfl ?p1za7 ⟨m, rows, s0, s1, rfl, ⟨h0, h8, hr, hia⟩, rfl⟩) ?p1zR7 hN ?p1zi7 ?p1zj7 ?p1zm7 ?p1zn7))
      case p1zk7 => dsimp only; decide
      case p1za7 => wtm_at "m.ad"
      case p1zi7 => wtm_at "m.dec"
      case p1zj7 => wtm_at "m.dec"
      case p1zm7 => wtm_at "m.dec"
      case p1zn7 => wtm_at "m.dec"
      case p1zR7 =>
      show SK _ _ _ _ _
      refine sk_at (ρ' := [.sh (.tab m rows), .sh (D.rules [s0, s1, s2]), .sh (.int m), .sh (D.sets rows), .sh (.int c), .sh (.tup [.ints s0.1, .cls q]), .sh (.ints part), .sh (encR (overR rows s0 s1)), .sh (encR (underR m rows s0 s1))]) rfl ?_
      have hO : Opn U [(q, s0.2.map D.int)] (.tup [.ints s0.1, .cls q]) (encR s0) := opn_tup (opnL_cons opn_refl (opnL_cons (opn_ints (.head _)) opnL_nil))
      refine' sk_cons (sk_if (k := false) (tm_open (ρ' := [.sh (.tab m rows), .sh (D.rules [s0, s1, s2]), .no, .no, .no, .sh (encR s0), .no, .sh (encR (overR rows s0 s1)), .sh (encR (underR m rows s0 s1))]) ?p1zo8 (TD.cast (td_bool (tw_or (td_not (td_val (k := true) (ed_call (A := A_same) (ds := [encR (overR rows s0 s1), encR (overR rows s0 s1)]) hSm ?p1k1 rfl (ad_cons' (r := .sh (encR (overR rows s0 s1))) (ed_call (A := A_over cN) hOv ?p1k2 rfl ?p1a2 a1) (.sh _) (ad_cons' ?p1a1 (.sh _) ad_nil)) ⟨_, rfl, rfl⟩))) (fun _ => tw_or1 (td_not (td_val (k := true) (ed_call (A := A_same) (ds := [encR (underR m rows s0 s1), encR (underR m rows s0 s1)]) hSm ?p1k3 rfl (ad_cons' (r := .sh (encR (underR m rows s0 s1))) (ed_call (A := A_under cN) hUn ?p1k4 rfl ?p1a4 a2) (.sh _) (ad_cons' ?p1a3 (.sh _) ad_nil)) ⟨_, rfl, rfl⟩)))))) rfl)) (fun hk => nomatch hk) fun _ => sk_nil ?p1zR8)
      case p1zo8 => wtm_at "op.all2"
      case p1k1 => dsimp only; decide
      case p1k2 => dsimp only; decide
      case p1k3 => dsimp only; decide
      case p1k4 => dsimp only; decide
      case p1a1 => wtm_at "m.ed"
      case p1a2 => wtm_at "m.ad"
      case p1a3 => wtm_at "m.ed"
      case p1a4 => wtm_at "m.ad"
      case p1zR8 =>
      show SK _ _ _ _ _
      clear hO
      refine sk_cons (sk_expr (em_meth0 (j := 0) (q := q) (ds := s0.2.map D.int) (ds' := []) (d := .non) PySem.F.slot_list_clear PySem.F.type_list_clear (fun X => mt_clear) ?p1zv9 rfl mut_clear rfl) ?p1zR9)
      case p1zv9 => wtm_at "m.ed"
      case p1zR9 =>
      refine sk_kt (κ' := [(q, [])]) rfl ?_
      have hz10 : ([] : List D).length + (part.map D.int).length ≤ sizeLine := by
        rw [List.length_map, sizeLine_eq]
        show 0 + _ ≤ _
        omega
      refine sk_cons (sk_expr (em_meth (j := 0) (q := q) (ds := []) (ds' := [] ++ part.map D.int) (as := [.lst (part.map D.int)]) PySem.F.slot_list_extend PySem.F.type_list_extend (fun X => mt_extend) ?p1zv10 rfl (am_cons (em_of (r := .sh (.ints part)) ?p1ze10) (.sh _) am_nil) (mut_extend hz10) rfl) ?p1zR10)
      case p1zv10 => wtm_at "m.ed"
      case p1ze10 => wtm_at "m.ed"
      case p1zR10 =>
      refine sk_kt (κ' := [(q, part.map D.int)]) rfl ?_
      have hO : Opn U [(q, part.map D.int)] (.tup [.ints s0.1, .cls q]) (encR (s0.1, part)) := opn_tup (opnL_cons opn_refl (opnL_cons (opn_ints (.head _)) opnL_nil))
      refine' sk_cons (sk_ret (r := .sh (.bl true)) (em_open (ρ' := [.sh (.tab m rows), .sh (D.rules [s0, s1, s2]), .no, .no, .no, .sh (encR (s0.1, part)), .no, .no, .no]) ?p1zo11 (ed_call (A := A_refs) (ds := [.tab m rows, encR (s0.1, part), encR s1]) hRf ?p1zk11 rfl ?p1za11 ⟨m, rows, _, s1, rfl, hcr, rfl⟩) (shut_free rfl)) rfl)
      case p1zo11 => wtm_at "op.all2"
      case p1zk11 => dsimp only; decide
      case p1za11 => wtm_at "m.ad"
end
end Mb
set_option Elab.async false
set_option linter.all false
set_option maxRecDepth 100000
set_option maxHeartbeats 4000000
namespace Mb
open PySem PySem.Spec PyProof.Rows L2
local macro_rules | `(tactic| wtm_at "m.dec") => `(tactic| (dsimp only [Gx.blk]; decide +kernel))
local macro_rules | `(tactic| wtm_at "m.hint") => `(tactic| fail)
local macro_rules | `(tactic| wtm_at "m.side") => `(tactic| first | with_reducible assumption | assumption | decide | omega | exact Or.inr (And.intro (by omega) (by omega)) | exact Or.inl (And.intro (by omega) (by omega)) | exact And.intro (by omega) (by omega) | (simp only [List.length_cons, List.length_nil, List.length_map, List.length_range, List.length_append, sizeLine_eq]; omega) | wtm_at "m.hint" | solve_by_elim)
local macro_rules | `(tactic| wtm_at "m.dn") => `(tactic| first
  | exact Dn.int _ _ | exact Dn.bl _ _ | exact Dn.non _
  | (refine dn_lst (n := _) ?_; wtm_at "m.dm") | (refine dn_nls (n := _) ?_; wtm_at "m.dm") | (refine dn_tup (n := _) ?_; wtm_at "m.dm"))
local macro_rules | `(tactic| wtm_at "m.dm") => `(tactic| first
  | exact dm_nil | (refine dm_map ?_; intro _; wtm_at "m.dn") | (refine dm_cons ?a ?b; (case a => wtm_at "m.dn"); (case b => wtm_at "m.dm")) | (refine dm_app ?a ?b; (case a => wtm_at "m.dm"); (case b => wtm_at "m.dm")))
local macro_rules | `(tactic| wtm_at "m.tosh") => `(tactic| first | exact ToSh.sh _ | exact ToSh.fr _)
local macro_rules | `(tactic| wtm_at "m.eds") => `(tactic| (refine' ED.toSh ?h ?t ?q; (case h => wtm_at "m.ed"); (case t => wtm_at "m.tosh"); (case q => exact rfl)))
local macro_rules | `(tactic| wtm_at "m.tosha") => `(tactic| first | exact ToSh.un _ | exact ToSh.sh _ | exact ToSh.fr _)
local macro_rules | `(tactic| wtm_at "m.ad") => `(tactic| first
  | exact ad_nil
  | (refine' ad_cons' ?h ?t ?r; (case h => wtm_at "m.ed"); (case t => wtm_at "m.tosha"); (case r => wtm_at "m.ad")))
local macro_rules | `(tactic| wtm_at "m.adk") => `(tactic| first
  | exact ad_nil
  | (refine' ad_cons' ?h ?t ?r; (case h => wtm_at "m.ed"); (case t => wtm_at "m.tosh"); (case r => wtm_at "m.adk")))
local macro_rules | `(tactic| wtm_at "m.ic") => `(tactic| first
  | (refine' ic_range (by assumption) ?a ?b ?c ?g; (case a => wtm_at "m.ed"); (case g => rfl); (case b => wtm_at "m.side"); (case c => wtm_at "m.side"))
  | (refine' ic_list ?h ?q; (case h => wtm_at "m.ed"); (case q => exact rfl)))
local macro_rules | `(tactic| wtm_at "m.if") => `(tactic| first
  | (refine' if_range (by assumption) ?a ?b ?c ?g; (case a => wtm_at "m.ed"); (case g => rfl); (case b => wtm_at "m.side"); (case c => wtm_at "m.side"))
  | (refine' if_range2 (by assumption) ?a ?a2 ?b ?g; (case a => wtm_at "m.ed"); (case a2 => wtm_at "m.ed"); (case g => rfl); (case b => wtm_at "m.side"))
  | (refine' if_list ?h; (case h => wtm_at "m.ed"))
  | (refine' if_nls ?h; (case h => wtm_at "m.ed"))
  | (refine' if_fr ?h; (case h => wtm_at "m.ed"))
  | (refine' if_tup ?h; (case h => wtm_at "m.ed")))
local macro_rules | `(tactic| wtm_at "m.ld") => `(tactic| first
  | (refine' ld_lc0 ?n ?i ?j ?o ?l ?e; (case n => assumption); (case i => wtm_at "m.ic"); (case j => wtm_at "m.dec"); (case o => wtm_at "m.dec"); (case l => wtm_at "m.dec"); (case e => intro _ hx; (try have hx := List.mem_range.mp hx); wtm_at "m.eds"))
  | (refine' ld_lc1 ?n ?i ?j ?o ?l ?t ?e; (case n => assumption); (case i => wtm_at "m.ic"); (case j => wtm_at "m.dec"); (case o => wtm_at "m.dec"); (case l => wtm_at "m.dec"); (case t => (intro _ hx; (try have hx := List.mem_range.mp hx); refine' TD.cast ?h ?q; (case h => wtm_at "m.td"); (case q => exact rfl))); (case e => intro _ hx _; (try have hx := List.mem_range.mp hx); wtm_at "m.eds"))
  | (refine' ld_lcp0 ?n ?i ?j ?j2 ?o ?l ?l2 ?e; (case n => assumption); (case i => wtm_at "m.ic"); (case j => wtm_at "m.dec"); (case j2 => wtm_at "m.dec"); (case o => wtm_at "m.dec"); (case l => wtm_at "m.dec"); (case l2 => wtm_at "m.dec"); (case e => intro _ _; wtm_at "m.eds"))
  | (refine' ld_lcp1 ?n ?i ?j ?j2 ?o ?l ?l2 ?t ?e; (case n => assumption); (case i => wtm_at "m.ic"); (case j => wtm_at "m.dec"); (case j2 => wtm_at "m.dec"); (case o => wtm_at "m.dec"); (case l => wtm_at "m.dec"); (case l2 => wtm_at "m.dec"); (case t => (intro _ hx; (try have hx := List.mem_range.mp hx); refine' TD.cast ?h ?q; (case h => wtm_at "m.td"); (case q => exact rfl))); (case e => intro _ hx _; (try have hx := List.mem_range.mp hx); wtm_at "m.eds")))
local macro_rules | `(tactic| wtm_at "m.addr") => `(tactic| first | exact AddR.int _ _ | (refine' AddR.cat ?x ?y ?z; (case x => exact rfl); (case y => exact rfl); (case z => wtm_at "m.side")))
local macro_rules | `(tactic| wtm_at "m.at") => `(tactic| first
  | exact rfl
  | assumption
  | (refine atI_get (d := (0 : Int)) ?a ?b; (case a => wtm_at "m.side"); (case b => wtm_at "m.side"))
  | (refine atI_ints (d := default) ?a ?b; (case a => wtm_at "m.side"); (case b => wtm_at "m.side"))
  | (refine atI_lit ?a ?b ?c; (case a => wtm_at "m.side"); (case b => wtm_at "m.side"); (case c => rfl))
  | solve_by_elim)
local macro_rules | `(tactic| wtm_at "m.ixd") => `(tactic| first
  | (refine' IxD.tup ?h; (case h => wtm_at "m.at"))
  | (refine' IxD.scr ?h; (case h => wtm_at "m.at"))
  | (refine' IxD.list ?x ?h; (case x => exact rfl); (case h => wtm_at "m.at")))
local macro_rules | `(tactic| wtm_at "m.cp") => `(tactic| first
  | (refine' cp_lt ?a ?b; (case a => wtm_at "m.ed"); (case b => wtm_at "m.ed"))
  | (refine' cp_le ?a ?b; (case a => wtm_at "m.ed"); (case b => wtm_at "m.ed"))
  | (refine' cp_gt ?a ?b; (case a => wtm_at "m.ed"); (case b => wtm_at "m.ed"))
  | (refine' cp_ge ?a ?b; (case a => wtm_at "m.ed"); (case b => wtm_at "m.ed"))
  | (refine' cp_eq ?a ?b ?c ?d; (case a => wtm_at "m.ed"); (case b => wtm_at "m.ed"); (case c => wtm_at "m.dn"); (case d => wtm_at "m.dn"))
  | (refine' cp_ne ?a ?b ?c ?d; (case a => wtm_at "m.ed"); (case b => wtm_at "m.ed"); (case c => wtm_at "m.dn"); (case d => wtm_at "m.dn"))
  | (refine' cp_in ?a ?b ?e ?c ?d ?m; (case a => wtm_at "m.ed"); (case b => wtm_at "m.ed"); (case e => exact rfl); (case c => wtm_at "m.dn"); (case d => wtm_at "m.dm"); (case m => rfl))
  | (refine' cp_nin ?a ?b ?e ?c ?d ?m; (case a => wtm_at "m.ed"); (case b => wtm_at "m.ed"); (case e => exact rfl); (case c => wtm_at "m.dn"); (case d => wtm_at "m.dm"); (case m => rfl))
  | (refine' cp_isN ?a; (case a => wtm_at "m.ed"))
  | (refine' cp_notN ?a; (case a => wtm_at "m.ed"))
  | (refine' ch_le_lt ?a ?b ?c; (case a => wtm_at "m.ed"); (case b => wtm_at "m.ed"); (case c => wtm_at "m.ed"))
  | (refine' ch_le_le ?a ?b ?c; (case a => wtm_at "m.ed"); (case b => wtm_at "m.ed"); (case c => wtm_at "m.ed")))
local macro_rules | `(tactic| wtm_at "m.tw") => `(tactic| first
  | (refine' tw_and ?a ?b; (case a => wtm_at "m.td"); (case b => intro _; wtm_at "m.tw"))
  | (refine' tw_or ?a ?b; (case a => wtm_at "m.td"); (case b => intro _; wtm_at "m.tw"))
  | (refine' tw_and1 ?a; (case a => wtm_at "m.td"))
  | (refine' tw_or1 ?a; (case a => wtm_at "m.td")))
local macro_rules | `(tactic| wtm_at "m.td") => `(tactic| first
  | (refine' And.right (a := ?p) ?h; (case h => wtm_at "m.cp"))
  | (refine' td_not ?h; (case h => wtm_at "m.td"))
  | (refine' td_bool ?h; (case h => wtm_at "m.tw"))
  | (refine' td_val ?h; (case h => wtm_at "m.ed")))
local macro_rules | `(tactic| wtm_at "m.bo") => `(tactic| first
  | (refine' ed_and ?a ?b; (case a => wtm_at "m.ed"); (case b => intro _; wtm_at "m.bo"))
  | (refine' ed_or ?a ?b; (case a => wtm_at "m.ed"); (case b => intro _; wtm_at "m.bo"))
  | (refine' ed_one ?a; (case a => wtm_at "m.ed")))
local macro_rules | `(tactic| wtm_at "m.pre") => `(tactic| first
  | exact ⟨_, rfl, rfl⟩ | exact ⟨_, _, rfl, rfl⟩ | exact ⟨_, _, _, rfl, rfl⟩ | exact ⟨_, _, _, _, rfl, rfl⟩ | exact ⟨_, _, _, _, _, rfl, rfl⟩
  | (refine ⟨_, rfl, ?_, rfl⟩; wtm_at "m.side") | (refine ⟨_, _, rfl, ?_, rfl⟩; wtm_at "m.side") | (refine ⟨_, _, _, rfl, ?_, rfl⟩; wtm_at "m.side") | (refine ⟨_, _, _, _, rfl, ?_, rfl⟩; wtm_at "m.side") | (refine ⟨_, _, _, _, _, rfl, ?_, rfl⟩; wtm_at "m.side"))
local macro_rules | `(tactic| wtm_at "m.call") => `(tactic| first
  | wtm_at "m.direct"
  | (refine' ed_thaw ?h ?d; (case h => wtm_at "m.direct"); (case d => rfl)))
local macro_rules | `(tactic| wtm_at "m.od") => `(tactic| first | exact od_none | (refine' od_some ?h; (case h => wtm_at "m.ed")))
local macro_rules | `(tactic| wtm_at "m.direct") => `(tactic| first
  | (refine' ed_call ?T ?k ?g ?a ?A; (case T => assumption); (case k => (dsimp only [Gx.blk]; decide)); (case g => rfl); (case a => wtm_at "m.ad"); (case A => wtm_at "m.pre"))
  | (refine' ed_many (by assumption) ?a ?b; (case a => wtm_at "m.ed"); (case b => exact rfl))
  | (refine' ed_rows (by assumption) ?a; (case a => wtm_at "m.ed"))
  | (refine' ed_meth (by assumption) ?T ?k ?o ?d ?a ?A; (case T => assumption); (case k => (dsimp only [Gx.blk]; decide)); (case o => wtm_at "m.ed"); (case d => exact rfl); (case a => wtm_at "m.ad"); (case A => wtm_at "m.pre")))
local macro_rules | `(tactic| wtm_at "m.ed") => `(tactic| first
  | (refine' ed_varA ?h ?v; (case h => exact rfl); (case v => rfl))
  | (refine' ed_var ?h ?v; (case h => exact rfl); (case v => rfl))
  | exact ed_int
  | (refine' ed_ixR ?a ?b ?c; (case a => wtm_at "m.ed"); (case b => wtm_at "m.ed"); (case c => wtm_at "m.ixd"))
  | (refine' And.left (b := ?p) ?h; (case h => wtm_at "m.cp"))
  | (refine' ed_addR ?a ?b ?c; (case a => wtm_at "m.ed"); (case b => wtm_at "m.ed"); (case c => wtm_at "m.addr"))
  | (refine' ed_sub ?a ?b; (case a => wtm_at "m.ed"); (case b => wtm_at "m.ed"))
  | (refine' ed_mul ?a ?b ?c; (case a => wtm_at "m.ed"); (case b => wtm_at "m.ed"); (case c => wtm_at "m.side"))
  | (refine' ed_fdiv ?a ?b ?c; (case a => wtm_at "m.ed"); (case b => wtm_at "m.ed"); (case c => wtm_at "m.side"))
  | (refine' ed_mod ?a ?b ?c; (case a => wtm_at "m.ed"); (case b => wtm_at "m.ed"); (case c => wtm_at "m.side"))
  | (refine' ed_pow ?a ?b ?c; (case a => wtm_at "m.ed"); (case b => wtm_at "m.ed"); (case c => wtm_at "m.side"))
  | (refine' ed_neg ?a; (case a => wtm_at "m.ed"))
  | (refine' LD.ed ?a; (case a => wtm_at "m.ld"))
  | (refine' ed_len (by assumption) ?a ?b ?g; (case a => wtm_at "m.ed"); (case b => exact rfl); (case g => rfl))
  | (refine' ed_listRange (by assumption) ?a ?b ?c ?g ?g2; (case a => wtm_at "m.ed"); (case b => wtm_at "m.side"); (case c => wtm_at "m.side"); (case g => rfl); (case g2 => rfl))
  | (refine' ed_list (by assumption) ?a ?b ?g; (case a => wtm_at "m.ed"); (case b => exact rfl); (case g => rfl))
  | (refine' ed_all (by assumption) ?a ?b ?g; (case a => wtm_at "m.ed"); (case b => exact rfl); (case g => rfl))
  | (refine' ed_any (by assumption) ?a ?b ?g; (case a => wtm_at "m.ed"); (case b => exact rfl); (case g => rfl))
  | (refine' ed_sum (by assumption) ?a ?b ?g; (case a => wtm_at "m.ed"); (case b => exact rfl); (case g => rfl))
  | (refine' ed_sorted (by assumption) ?a ?b ?g; (case a => wtm_at "m.ed"); (case b => exact rfl); (case g => rfl))
  | (refine' ed_intB (by assumption) ?a ?g; (case a => wtm_at "m.ed"); (case g => rfl))
  | (refine' ed_max (by assumption) ?a ?b ?g; (case a => wtm_at "m.ed"); (case b => wtm_at "m.ed"); (case g => rfl))
  | (refine' ed_min (by assumption) ?a ?b ?g; (case a => wtm_at "m.ed"); (case b => wtm_at "m.ed"); (case g => rfl))
  | (refine' ed_isi (k := true) (by assumption) ?a ?b ?t ?k ?g; (case a => wtm_at "m.ed"); (case b => wtm_at "m.ed"); (case t => exact rfl); (case k => decide +kernel); (case g => rfl))
  | (refine' ed_isi (k := false) (by assumption) ?a ?b ?t ?k ?g; (case a => wtm_at "m.ed"); (case b => wtm_at "m.ed"); (case t => exact rfl); (case k => decide +kernel); (case g => rfl))
  | (refine' ed_tup ?a ?b; (case a => wtm_at "m.adk"); (case b => wtm_at "m.side"))
  | (refine' ed_lst ?a ?b; (case a => wtm_at "m.adk"); (case b => wtm_at "m.side"))
  | (refine' ed_sl ?a ?x ?l ?u; (case a => wtm_at "m.ed"); (case x => exact rfl); (case l => wtm_at "m.od"); (case u => wtm_at "m.od"))
  | (refine' ed_not ?a; (case a => wtm_at "m.ed"))
  | wtm_at "m.bo"
  | wtm_at "m.call"
  | (refine' ed_own ?h ?v; (case h => exact rfl); (case v => rfl))
  | exact ed_bl
  | exact ed_non
  | (refine' ed_globI ?h ?m; (case h => rfl); (case m => assumption))
  | (refine' ed_tyInt (by assumption) ?g; (case g => rfl))
  | (refine' ed_tyList (by assumption) ?g; (case g => rfl))
  | (refine' ed_tyTuple (by assumption) ?g; (case g => rfl))
  | (refine' ed_tyBool (by assumption) ?g; (case g => rfl)))
local macro_rules | `(tactic| wtm_at "s.set") => `(tactic| (refine' sd_cons (s_set ?e ?q ?n ?i ?o); (case n => assumption); (case i => wtm_at "m.dec"); (case o => wtm_at "m.dec"); (case e => wtm_at "m.eds")))
local macro_rules | `(tactic| wtm_at "s.own") => `(tactic| (refine' sd_cons (s_own ?e ?q ?n ?i ?o); (case n => assumption); (case i => wtm_at "m.dec"); (case o => wtm_at "m.dec"); (case e => wtm_at "m.ed")))
local macro_rules | `(tactic| wtm_at "s.lc") => `(tactic| (refine' sd_cons (s_lc ?e ?q ?i ?k ?y ?l ?a); (case i => wtm_at "m.dec"); (case k => rfl); (case y => rfl); (case l => rfl); (case a => decide +kernel); (case e => wtm_at "m.ld")))
local macro_rules | `(tactic| wtm_at "s.lco") => `(tactic| (refine' sd_cons (s_lcO ?e ?q ?i ?k ?y ?l ?a); (case i => wtm_at "m.dec"); (case k => rfl); (case y => rfl); (case l => rfl); (case a => decide +kernel); (case e => wtm_at "m.ld")))
local macro_rules | `(tactic| wtm_at "s.lcc") => `(tactic| (refine' sd_cons (s_set ?e ?q ?n ?i ?o (swapF ?s)); (case n => assumption); (case i => wtm_at "m.dec"); (case o => wtm_at "m.dec"); (case s => rfl); (case e => (refine' ED.shr (LD.ed ?f); (case f => wtm_at "m.ld")))))
local macro_rules | `(tactic| wtm_at "s.ret") => `(tactic| (refine' sd_cons (s_ret ?e ?q); (case e => wtm_at "m.ed")))
local macro_rules | `(tactic| wtm_at "s.if") => `(tactic| (refine' sd_cons (s_if ?zzt ?zzy ?zzm); (case zzt => wtm_at "m.td")))
local macro_rules | `(tactic| wtm_at "s.ift") => `(tactic| (refine' sd_cons (s_if (td_thaw ?zzt) ?zzy ?zzm); (case zzt => wtm_at "m.td")))
local macro_rules | `(tactic| wtm_at "s.app") => `(tactic| (refine' sd_cons (s_app ?e ?h ?v ?z ?q); (case h => exact rfl); (case v => rfl); (case e => wtm_at "m.eds"); (case z => wtm_at "m.side")))
local macro_rules | `(tactic| wtm_at "s.ifset") => `(tactic| (refine' sd_cons (s_ifset ?c ?e ?h1 ?h2 ?h0 ?q ?n ?i ?o); (case n => assumption); (case i => wtm_at "m.dec"); (case o => wtm_at "m.dec"); (case h0 => exact rfl); (case c => wtm_at "m.td"); (case e => intro _; wtm_at "m.eds")))
local macro_rules | `(tactic| wtm_at "s.raise") => `(tactic| (refine' sd_cons (s_raise ?T ?g ?r); (case T => assumption); (case g => rfl)))
local macro_rules | `(tactic| wtm_at "m.make") => `(tactic| (refine' ed_make ?T ?k ?g ?a ?b ?A; (case T => assumption); (case k => (dsimp only [Gx.blk]; decide)); (case g => rfl); (case a => wtm_at "m.ed"); (case b => wtm_at "m.eds"); (case A => assumption)))
local macro_rules | `(tactic| wtm_at "sl.flat") => `(tactic| first | exact flat_sets | exact flat_tab | exact flat_scr | exact flat_int | exact flat_pair flat_int flat_sets)
local macro_rules | `(tactic| wtm_at "sl.one") => `(tactic| first
  | exact Or.inl rfl
  | exact SpM.no
  | exact SpR.no
  | exact SpM.told rfl
  | exact SpR.told rfl
  | (refine SpM.keep (by decide) rfl ?_ rfl; wtm_at "sl.flat")
  | exact SpM.conv (by decide) rfl conv_int.1
  | exact SpR.keep (by decide) (by decide) rfl rfl rfl
  | exact SpR.conv (by decide) rfl conv_int.2
  | exact SpR.conv (by decide) rfl back_rules
  | exact SpR.conv (by decide) rfl back_sets
  | (refine Or.inr ⟨_, rfl, rfl, ?_⟩; wtm_at "sl.flat"))
local macro_rules | `(tactic| wtm_at "sl.all") => `(tactic| ((repeat' first | exact slAll_nil | refine slAll_cons ?_ ?_) <;> wtm_at "sl.one"))
local macro_rules | `(tactic| wtm_at "op.mem") => `(tactic| first | exact .head _ | exact .tail _ (.head _) | exact .tail _ (.tail _ (.head _)) | exact .tail _ (.tail _ (.tail _ (.head _))) | exact .tail _ (.tail _ (.tail _ (.tail _ (.head _)))) | exact .tail _ (.tail _ (.tail _ (.tail _ (.tail _ (.head _))))) | exact .tail _ (.tail _ (.tail _ (.tail _ (.tail _ (.tail _ (.head _)))))))
local macro_rules | `(tactic| wtm_at "op.d") => `(tactic| first
  | exact opn_refl
  | (refine opn_ints ?_; wtm_at "op.mem")
  | (refine opn_tup ?_; wtm_at "op.l")
  | (refine opn_lst ?_; wtm_at "op.l")
  | (refine opn_cell ?zopm ?zopl; (case zopm => wtm_at "op.mem"); (case zopl => first | exact opnL_refl | wtm_at "op.l")))
local macro_rules | `(tactic| wtm_at "op.l") => `(tactic| first
  | exact opnL_nil
  | (refine opnL_cons ?zopa ?zopb; (case zopa => wtm_at "op.d"); (case zopb => wtm_at "op.l")))
local macro_rules | `(tactic| wtm_at "op.one") => `(tactic| first
  | exact OpS.no
  | exact OpS.own rfl
  | (refine OpS.sh rfl ?_; wtm_at "op.d"))
local macro_rules | `(tactic| wtm_at "op.all") => `(tactic| ((repeat' first | exact slAll_nil | refine slAll_cons ?_ ?_) <;> wtm_at "op.one"))
local macro_rules | `(tactic| wtm_at "op.one2") => `(tactic| first
  | exact OpS.no
  | exact OpS.own rfl
  | exact OpS.sh rfl (by assumption)
  | exact OpS.sh rfl opn_refl)
local macro_rules | `(tactic| wtm_at "op.all2") => `(tactic| ((repeat' first | exact slAll_nil | refine slAll_cons ?_ ?_) <;> wtm_at "op.one2"))
abbrev encP (f : List Int) : D := .tup [.ints f, .ints f]
abbrev prs : D := .lst [.tup [.int 0, .int 1], .tup [.int 0, .int 2], .tup [.int 2, .int 1], .tup [.int 0, .int 1]]
theorem ols_snoc {α : Type} {O : α → D → List Cl → Prop} {l : List α} {ds : List D} {κ : List Cl} (h : OLs O l ds κ) : ∀ xs x, l = xs ++ [x] → ∃ ds' d κ' κn, OLs O xs ds' κ' ∧ O x d κn ∧ ds = ds' ++ [d] ∧ κ = κ' ++ κn := by
  cases h with
  | nil => intro xs x e; simp at e
  | snoc h k =>
    intro xs x e
    obtain ⟨e1, e2⟩ := List.append_inj' e rfl
    cases e2
    subst e1
    exact ⟨_, _, _, _, h, k, rfl, rfl⟩
theorem ols_nil {α : Type} {O : α → D → List Cl → Prop} {ds : List D} {κ : List Cl} (h : OLs O [] ds κ) : ds = [] ∧ κ = [] := by
  generalize hl : ([] : List α) = l at h
  cases h with
  | nil => exact ⟨rfl, rfl⟩
  | snoc h k => simp at hl
theorem ols3 {s0 s1 s2 : Rule} {ds : List D} {κ : List Cl} (h : OLs (fun (r : Rule) d κn => ∃ q q2 : Addr, d = .tup [.cls q, .cls q2] ∧ κn = [(q, r.1.map D.int), (q2, r.2.map D.int)]) [s0, s1, s2] ds κ) : ∃ p0 p1 p2 p3 p4 p5 : Addr, D.lst ds = hnd p0 p1 p2 p3 p4 p5 ∧ κ = six p0 p1 p2 p3 p4 p5 s0.1 s0.2 s1 s2 := by
  obtain ⟨da, d2, ka, k2, ha, ⟨p4, p5, rfl, rfl⟩, rfl, rfl⟩ := ols_snoc h [s0, s1] s2 rfl
  obtain ⟨db, d1, kb, k1, hb, ⟨p2, p3, rfl, rfl⟩, rfl, rfl⟩ := ols_snoc ha [s0] s1 rfl
  obtain ⟨dc, d0, kc, k0, hc, ⟨p0, p1, rfl, rfl⟩, rfl, rfl⟩ := ols_snoc hb [] s0 rfl
  obtain ⟨rfl, rfl⟩ := ols_nil hc
  exact ⟨p0, p1, p2, p3, p4, p5, rfl, rfl⟩
theorem prs_at (i : Int) : ∃ one other : Int, atI [D.tup [.int 0, .int 1], .tup [.int 0, .int 2], .tup [.int 2, .int 1], .tup [.int 0, .int 1]] (i.fmod 4) = some (.tup [.int one, .int other]) ∧ (one = 0 ∨ one = 1 ∨ one = 2) ∧ (other = 0 ∨ other = 1 ∨ other = 2) := by
  have h0 := fmod_lo (a := i) (b := 4) (by decide)
  have h1 := fmod_hi (a := i) (b := 4) (by decide)
  have h : i.fmod 4 = 0 ∨ i.fmod 4 = 1 ∨ i.fmod 4 = 2 ∨ i.fmod 4 = 3 := by omega
  rcases h with e | e | e | e <;> rw [e]
  · exact ⟨0, 1, rfl, by decide, by decide⟩
  · exact ⟨0, 2, rfl, by decide, by decide⟩
  · exact ⟨2, 1, rfl, by decide, by decide⟩
  · exact ⟨0, 1, rfl, by decide, by decide⟩
theorem ways_at (i : Int) : ∃ w : List Int, atI [D.tup (([0, 1] : List Int).map D.int), .tup (([1, 0] : List Int).map D.int)] (i.fmod 2) = some (.tup (w.map D.int)) ∧ w.length = 2 ∧ ∀ y ∈ w, y = 0 ∨ y = 1 := by
  have h0 := fmod_lo (a := i) (b := 2) (by decide)
  have h1 := fmod_hi (a := i) (b := 2) (by decide)
  have h : i.fmod 2 = 0 ∨ i.fmod 2 = 1 := by omega
  rcases h with e | e <;> rw [e]
  · exact ⟨[0, 1], rfl, rfl, by decide⟩
  · exact ⟨[1, 0], rfl, rfl, by decide⟩
theorem one_at {U : Wd} {m : Int} {rows : List (List Int)} {s0 s1 s2 : Rule} (p0 p1 p2 p3 p4 p5 : Addr) (h0 : s0 ∈ boxL m rows) (h1 : s1 ∈ boxL m rows) (h2 : s2 ∈ boxL m rows) {i : Int} (h : i = 0 ∨ i = 1 ∨ i = 2) :
    ∃ (d : D) (r : Rule), atI [D.tup [.cls p0, .cls p1], .tup [.cls p2, .cls p3], .tup [.cls p4, .cls p5]] i = some d ∧ atI ([s0, s1, s2].map encR) i = some (encR r) ∧ Opn U (six p0 p1 p2 p3 p4 p5 s0.1 s0.2 s1 s2) d (encR r) ∧ r ∈ boxL m rows := by
  rcases h with rfl | rfl | rfl
  · exact ⟨_, s0, rfl, rfl, opn_tup (opnL_cons (opn_ints (.head _)) (opnL_cons (opn_ints (.tail _ (.head _))) opnL_nil)), h0⟩
  · exact ⟨_, s1, rfl, rfl, opn_tup (opnL_cons (opn_ints (.tail _ (.tail _ (.head _)))) (opnL_cons (opn_ints (.tail _ (.tail _ (.tail _ (.head _))))) opnL_nil)), h1⟩
  · exact ⟨_, s2, rfl, rfl, opn_tup (opnL_cons (opn_ints (.tail _ (.tail _ (.tail _ (.tail _ (.head _)))))) (opnL_cons (opn_ints (.tail _ (.tail _ (.tail _ (.tail _ (.tail _ (.head _))))))) opnL_nil)), h2⟩
section
variable {U : Wd} (T : Bl U.mg) (C : TabOk U) {f : Addr} {fd : FuncData} {x q : Str} {cS cM : Addr}
include T C
theorem ok_law (hMk : MkT U cS cM 2) (hC : FnT U "_law_cell_at" 1 A_cell) (hTb : FnT U "_law_table_by" 3 A_table) (hDr : FnT U "_law_drawn" 2 A_drawn) (hRt : FnT U "_law_refused_and_told" 8 A_ratB) (hDu : FnT U "_law_due" 1 A_dueB) (hOv : FnK U "over" 5 (A_ovC U false)) (hUn : FnK U "under" 5 (A_ovC U true)) (hSm : FnT U "_law_same" 2 A_same) (hBe : FnT U "_law_beside" 6 A_beside) (hEx : FnK U "_law_exchanged" 6 A_exch) (hTf : FnT U "_law_third_fits" 1 A_third) (hAh : FnT U "_law_ahead" 5 A_ahead) (F : Fun U.K x q s_law f fd) : FnOk U.P U.w U.K U.mg U.base (L2.CX U.P U.w) 9 f fd ["_law_script"] (spX U A_law) := by
  have hN := sc_law.nd
  refine fn_ok F sc_law (fun ds o h => ?_) fun ds o h => ?_
  · obtain ⟨ns, rfl, _⟩ := h
    rfl
  · obtain ⟨ns, rfl, hn, rfl⟩ := h
    refine sd_at (ρ' := [.sh (.scr ns), .no, .no, .no, .no, .no, .no, .no, .no, .no, .no, .no, .no, .no, .no, .no, .no, .no, .no, .no, .no, .no]) rfl ?_
    refine sd_cons (s_set2 (d1 := .int (tabM ns)) (d2 := D.sets (tabRows ns)) ?ze0 ?zq0 hN ?zi0 ?zj0 ?zk0 ?zl0)
    case zi0 => wtm_at "m.dec"
    case zj0 => wtm_at "m.dec"
    case zk0 => wtm_at "m.dec"
    case zl0 => wtm_at "m.dec"
    case ze0 => wtm_at "m.ed"
    case zq0 =>
    obtain ⟨hm0, hm8⟩ := tabM_in ns
    have hrl := tabRows_len ns
    have hri : ∀ r ∈ tabRows ns, InM (tabM ns) r := fun r hr => tabRows_in hr
    refine sd_at (ρ' := [.sh (.scr ns), .sh (.int (tabM ns)), .sh (D.sets (tabRows ns)), .no, .no, .no, .no, .no, .no, .no, .no, .no, .no, .no, .no, .no, .no, .no, .no, .no, .no, .no]) rfl ?_
    generalize tabM ns = m at *
    generalize tabRows ns = rows at *
    obtain ⟨a1, a2, a3⟩ := tab_ok hm0 hm8 hrl hri
    refine sd_given (rows := rows) (ρe := [.no, .no, .sh (D.sets rows), .no, .no, .no, .no, .no, .no, .no, .no, .no, .no, .no, .no, .no, .no, .no, .no, .no, .no, .no]) (d2 := .tab m rows) (fun n => ?zL) rfl ?zfl ?zE ?zrest hN ?z1 ?z2 ?z3 ?z4 ?z5 ?z6 ?z7 ?z8 ?z9 ?z10 ?z11 rfl rfl rfl ?z12
    case z1 => wtm_at "m.dec"
    case z2 => wtm_at "m.dec"
    case z3 => wtm_at "m.dec"
    case z4 => show List.idxOf _ N_law < 22; decide +kernel
    case z5 => show List.idxOf _ N_law < 22; decide +kernel
    case z6 => show List.idxOf _ N_law ≠ List.idxOf _ N_law; decide +kernel
    case z7 => show List.idxOf _ N_law ≠ List.idxOf _ N_law; decide +kernel
    case z8 => wtm_at "m.dec"
    case z9 => wtm_at "m.dec"
    case z10 => wtm_at "m.dec"
    case z11 => wtm_at "m.dec"
    case z12 => decide +kernel
    case zfl => exact flat_all (by wtm_at "sl.all")
    case zL =>
      have T' : Bl (U.at n).mg := T
      refine' ld_lc0 (xs := rows) (enc := encS) (f := encN) ?zn ?zi ?zj ?zo ?zl ?ze
      case zn => exact hN
      case zi => wtm_at "m.ic"
      case zj => wtm_at "m.dec"
      case zo => wtm_at "m.dec"
      case zl => wtm_at "m.dec"
      case ze =>
        intro r hr
        refine' ED.toSh (r := .fr (r.map D.int)) ?zh (.nw _) rfl
        case zh => wtm_at "m.ed"
    case zE =>
      refine' EvNw.cast (d := .tab m (rows.map plainL)) ?zA1 (by rw [a3])
      case zA1 =>
      refine' en_make hMk ?zk rfl ?za1 ?za2 a1 a2
      case zk => dsimp only; decide
      case za1 => wtm_at "m.ed"
      case za2 => wtm_at "m.ed"
    case zrest =>
    refine sd_at (ρ' := [.sh (.scr ns), .sh (.int m), .sh (D.sets rows), .no, .no, .sh (.tab m rows), .no, .no, .no, .no, .no, .no, .no, .no, .no, .no, .no, .no, .no, .no, .no, .no]) rfl ?_
    have ca : 0 ≤ m ∧ m ≤ 8 ∧ rows.length ≤ 12 := ⟨hm0, hm8, hrl⟩
    clear a1 a2 a3
    refine sd_sk ?_
    obtain ⟨s0, es0⟩ : ∃ s0, s0 = drawnR m rows (cellI ns 3) := ⟨_, rfl⟩
    obtain ⟨s1, es1⟩ : ∃ s1, s1 = drawnR m rows (cellI ns 4) := ⟨_, rfl⟩
    obtain ⟨s2, es2⟩ : ∃ s2, s2 = drawnR m rows (cellI ns 5) := ⟨_, rfl⟩
    have hs0 : s0 ∈ boxL m rows := es0 ▸ box_of (drawnM_in _ _)
    have hs1 : s1 ∈ boxL m rows := es1 ▸ box_of (drawnM_in _ _)
    have hs2 : s2 ∈ boxL m rows := es2 ▸ box_of (drawnM_in _ _)
    refine sk_cons (sk1 (s_lc (ds := [s0, s1, s2].map encR) (LD.cast (ds := (List.range 3).map fun (k : Nat) => encR (drawnR m rows (cellI ns (3 + (k : Int))))) ?xe1 (by rw [es0, es1, es2]; rfl)) ?xq1 ?xi1 ?xk1 ?xy1 ?xl1 ?xa1))
    case xi1 => wtm_at "m.dec"
    case xk1 => rfl
    case xy1 => rfl
    case xl1 => rfl
    case xa1 => decide +kernel
    case xe1 =>
      refine' ld_lc0 (xs := List.range 3) (enc := fun (k : Nat) => D.int (k : Int)) (f := fun (k : Nat) => encR (drawnR m rows (cellI ns (3 + (k : Int))))) hN ?yi ?yj ?yo ?yl ?ye
      case yi =>
        refine' ic_range (i := 3) T ?yia (by decide) (by decide) rfl
        case yia => wtm_at "m.ed"
      case yj => wtm_at "m.dec"
      case yo => wtm_at "m.dec"
      case yl => wtm_at "m.dec"
      case ye =>
        intro k hk
        have hcd : 0 ≤ 3 + (k : Int) ∧ 0 ≤ m ∧ m ≤ 8 ∧ rows.length ≤ 12 := ⟨by omega, hm0, hm8, hrl⟩
        wtm_at "m.eds"
    case xq1 =>
    show SK _ _ _ _ _
    refine sk_at (ρ' := [.sh (.scr ns), .sh (.int m), .sh (D.sets rows), .no, .no, .sh (.tab m rows), .sh (D.rules [s0, s1, s2]), .no, .no, .no, .no, .no, .no, .no, .no, .no, .no, .no, .no, .no, .no, .no]) rfl ?_
    refine sk_cons (sk_set (d := .int (cellI ns 6)) (em_of ?ze2) ?zR2 hN ?zi2 ?zj2)
    case zi2 => wtm_at "m.dec"
    case zj2 => wtm_at "m.dec"
    case ze2 => wtm_at "m.ed"
    case zR2 =>
    generalize cellI ns 6 = c
    refine sk_at (ρ' := [.sh (.scr ns), .sh (.int m), .sh (D.sets rows), .no, .no, .sh (.tab m rows), .sh (D.rules [s0, s1, s2]), .no, .sh (.int c), .no, .no, .no, .no, .no, .no, .no, .no, .no, .no, .no, .no, .no]) rfl ?_
    refine' sk_cons (sk_if (k := decide (c.fmod 5 = 1)) (tm_of (TD.cast (b := ?zb3) ?zt3 ?zq3)) (fun _ => ?zA3) fun _ => sk_nil ?zB3)
    case zt3 => wtm_at "m.td"
    case zq3 => simp only [Rs.d, deq_int]
    case zA3 =>
      refine' sk_cons (sk_ret (r := .sh (.bl true)) (em_of (ed_call (A := A_ratB) (ds := [.tab m rows, D.rules [s0, s1, s2], .int m, D.sets rows, .int (c.fdiv 5)]) hRt ?zk4 rfl ?za4 ⟨m, rows, s0, s1, s2, _, rfl, ca, ⟨hs0, hs1⟩, rfl⟩)) rfl)
      case zk4 => dsimp only; decide
      case za4 => wtm_at "m.ad"
    case zB3 =>
    show SK _ _ _ _ _
    refine' sk_cons (sk_setLS (lc_new (xs := [s0, s1, s2]) (enc := encR) (O := fun (r : Rule) d κn => ∃ q q2 : Addr, d = .tup [.cls q, .cls q2] ∧ κn = [(q, r.1.map D.int), (q2, r.2.map D.int)]) hN ?zi5 ?zj5 ?zo5 ?zl5 ?ze5) ?zR5 ?za5 rfl rfl rfl ?zb5)
    case zi5 => wtm_at "m.ic"
    case zj5 => wtm_at "m.dec"
    case zo5 => wtm_at "m.dec"
    case zl5 => wtm_at "m.dec"
    case za5 => wtm_at "m.dec"
    case zb5 => decide +kernel
    case ze5 =>
      intro r hr
      refine' ee_pair (ds := r.1.map D.int) (ds2 := r.2.map D.int) ?zc5 ?zd5
      case zc5 => wtm_at "m.ed"
      case zd5 => wtm_at "m.ed"
    case zR5 =>
    intro ds κn ho
    obtain ⟨p0, p1, p2, p3, p4, p5, hds, rfl⟩ := ols3 ho
    clear ho
    show SK _ _ _ _ _
    refine sk_at (ρ' := [.sh (.scr ns), .sh (.int m), .sh (D.sets rows), .no, .no, .sh (.tab m rows), .sh (D.rules [s0, s1, s2]), .no, .sh (.int c), .sh (hnd p0 p1 p2 p3 p4 p5), .no, .no, .no, .no, .no, .no, .no, .no, .no, .no, .no, .no]) (by rw [hds]; rfl) ?_
    clear hds
    refine sk_cons (sk_cell (ds := ([] : List (List Int)).map encP) (em_of ?ze6) (fun qs => ?zR6) hN ?zi6 ?zj6)
    case zi6 => wtm_at "m.dec"
    case zj6 => wtm_at "m.dec"
    case ze6 => wtm_at "m.ed"
    case zR6 =>
    show SK _ _ _ _ _
    refine sk_perm (κ' := (qs, ([] : List (List Int)).map encP) :: six p0 p1 p2 p3 p4 p5 s0.1 s0.2 s1 s2) (List.perm_append_singleton _ _) ?_
    refine sk_cons (sk1 (s_expr (r := .sh .non) ?ze7 ?zR7))
    case ze7 => wtm_at "m.ed"
    case zR7 =>
    show SK _ _ _ _ _
    refine sk_cons (sk_set (d := prs) (em_of (ED.shr ?ze8)) ?zR8 hN ?zi8 ?zj8)
    case zi8 => wtm_at "m.dec"
    case zj8 => wtm_at "m.dec"
    case ze8 => wtm_at "m.ed"
    case zR8 =>
    refine' sk_cons (sk_for (ds := (List.range 4).map fun (j : Nat) => D.int (j : Int)) ?zi9 (fun i ρ κ => ∃ (fs : List (List Int)) (s7 s13 s14 s15 s16 s17 s18 : Sl), fs.length ≤ 4 * i ∧ ρ = [.sh (.scr ns), .sh (.int m), .sh (D.sets rows), .no, .no, .sh (.tab m rows), .sh (D.rules [s0, s1, s2]), s7, .sh (.int c), .sh (hnd p0 p1 p2 p3 p4 p5), .no, .sh (.cls qs), .sh prs, s13, s14, s15, s16, s17, s18, .no, .no, .no] ∧ κ = (qs, fs.map encP) :: six p0 p1 p2 p3 p4 p5 s0.1 s0.2 s1 s2) ⟨[], .no, .no, .no, .no, .no, .no, .no, Nat.zero_le _, rfl, rfl⟩ ?zs9 ?zd9 hN ?zj9 ?zk9)
    case zj9 => wtm_at "m.dec"
    case zk9 => wtm_at "m.dec"
    case zi9 =>
      refine' if_range (i := 4) T ?zia9 (by decide) (by decide) rfl
      case zia9 => wtm_at "m.ed"
    case zs9 =>
      rintro i d ρ' κ' hd ⟨fs, s7, s13, s14, s15, s16, s17, s18, hfl, rfl, rfl⟩
      obtain ⟨rfl, hi4⟩ : d = .int (i : Int) ∧ i < 4 := by
        match i, hd with
        | 0, hd => exact ⟨(Option.some.inj hd).symm, by decide⟩
        | 1, hd => exact ⟨(Option.some.inj hd).symm, by decide⟩
        | 2, hd => exact ⟨(Option.some.inj hd).symm, by decide⟩
        | 3, hd => exact ⟨(Option.some.inj hd).symm, by decide⟩
        | n + 4, hd => cases hd
      refine sk_at (ρ' := [.sh (.scr ns), .sh (.int m), .sh (D.sets rows), .no, .no, .sh (.tab m rows), .sh (D.rules [s0, s1, s2]), .sh (.int (i : Int)), .sh (.int c), .sh (hnd p0 p1 p2 p3 p4 p5), .no, .sh (.cls qs), .sh prs, s13, s14, s15, s16, s17, s18, .no, .no, .no]) rfl ?_
      have hdv : CDivN c (20 + 20 * (i : Int)) := ⟨by omega, by omega⟩
      obtain ⟨w, hatw, hw2, hw⟩ := ways_at (c.fdiv (20 + 20 * (i : Int)))
      refine' sk_cons (sk_for (ds := w.map D.int) ?zi10 (fun j ρ κ => ∃ (fs' : List (List Int)) (s13 s14 s15 s16 s17 s18 : Sl), fs'.length ≤ 4 * i + 2 * j ∧ ρ = [.sh (.scr ns), .sh (.int m), .sh (D.sets rows), .no, .no, .sh (.tab m rows), .sh (D.rules [s0, s1, s2]), .sh (.int (i : Int)), .sh (.int c), .sh (hnd p0 p1 p2 p3 p4 p5), .no, .sh (.cls qs), .sh prs, s13, s14, s15, s16, s17, s18, .no, .no, .no] ∧ κ = (qs, fs'.map encP) :: six p0 p1 p2 p3 p4 p5 s0.1 s0.2 s1 s2) ⟨fs, s13, s14, s15, s16, s17, s18, by omega, rfl, rfl⟩ ?zs10 ?zd10 hN ?zj10 ?zk10)
      case zj10 => wtm_at "m.dec"
      case zk10 => wtm_at "m.dec"
      case zi10 => wtm_at "m.if"
      case zs10 =>
        clear hatw hfl
        rintro j d ρ' κ' hd ⟨fs', s13, s14, s15, s16, s17, s18, hfl, rfl, rfl⟩
        rw [List.getElem?_map] at hd
        cases hwj : w[j]? with
        | none =>
          rw [hwj] at hd
          cases hd
        | some y =>
        rw [hwj] at hd
        obtain rfl := Option.some.inj (show some (D.int y) = some d from hd)
        have hy := hw y (List.mem_of_getElem? hwj)
        have hj2 : j < 2 := hw2 ▸ (List.getElem?_eq_some_iff.mp hwj).1
        clear hwj hd
        refine sk_at (ρ' := [.sh (.scr ns), .sh (.int m), .sh (D.sets rows), .no, .no, .sh (.tab m rows), .sh (D.rules [s0, s1, s2]), .sh (.int (i : Int)), .sh (.int c), .sh (hnd p0 p1 p2 p3 p4 p5), .no, .sh (.cls qs), .sh prs, .sh (.int y), s14, s15, s16, s17, s18, .no, .no, .no]) rfl ?_
        obtain ⟨one, other, hat4, ho1, ho2⟩ := prs_at ((i : Int) + y * c.fdiv 5)
        have hmul : CMul y (c.fdiv 5) := by
          rcases hy with rfl | rfl <;> exact .inl ⟨by decide, by decide⟩
        refine' sk_cons (sk1 (s_set2 (d1 := .int one) (d2 := .int other) ?ze11 ?zR11 hN ?zi11 ?zj11 ?zk11 ?zl11))
        case zi11 => wtm_at "m.dec"
        case zj11 => wtm_at "m.dec"
        case zk11 => wtm_at "m.dec"
        case zl11 => wtm_at "m.dec"
        case ze11 => wtm_at "m.ed"
        case zR11 =>
        show SK _ _ _ _ _
        clear hat4
        obtain ⟨d1, r1, hd1, hr1, hO1, hb1⟩ := one_at (U := U) p0 p1 p2 p3 p4 p5 hs0 hs1 hs2 ho1
        obtain ⟨d2, r2, hd2, hr2, hO2, hb2⟩ := one_at (U := U) p0 p1 p2 p3 p4 p5 hs0 hs1 hs2 ho2
        have hin1 : inR (rows.length : Int) r1.1 = true := by
          rw [(box_iff.mp hb1).2.2]
          exact thI_in rows r1.2
        refine sk_at (ρ' := [.sh (.scr ns), .sh (.int m), .sh (D.sets rows), .no, .no, .sh (.tab m rows), .sh (D.rules [s0, s1, s2]), .sh (.int (i : Int)), .sh (.int c), .sh (hnd p0 p1 p2 p3 p4 p5), .no, .sh (.cls qs), .sh prs, .sh (.int y), .sh (.int one), .sh (.int other), s16, s17, s18, .no, .no, .no]) rfl ?_
        have hoi : inR (rows.length : Int) r1.1 = true := hin1
        have hatd : atI [encR (overR rows r1 r2), encR (underR m rows r1 r2)] y = some (encR (ovR m rows (decide (y = 1)) r1 r2)) := by
          rcases hy with rfl | rfl <;> rfl
        refine sk_cons (sk_set (d := encR (ovR m rows (decide (y = 1)) r1 r2)) (em_of (ed_ixR (ed_call (A := A_dueB) (ds := [.int m, D.sets rows, encR r1, encR r2]) hDu ?zk12 rfl ?za12 ⟨m, rows, r1, r2, rfl, ⟨hm0, hm8, hrl, hoi⟩, rfl⟩) ?ze12 (IxD.tup hatd))) ?zR12 hN ?zi12 ?zj12)
        case zk12 => dsimp only; decide
        case zi12 => wtm_at "m.dec"
        case zj12 => wtm_at "m.dec"
        case za12 => wtm_at "m.ad"
        case ze12 => wtm_at "m.ed"
        case zR12 =>
        clear hatd
        refine sk_at (ρ' := [.sh (.scr ns), .sh (.int m), .sh (D.sets rows), .no, .no, .sh (.tab m rows), .sh (D.rules [s0, s1, s2]), .sh (.int (i : Int)), .sh (.int c), .sh (hnd p0 p1 p2 p3 p4 p5), .no, .sh (.cls qs), .sh prs, .sh (.int y), .sh (.int one), .sh (.int other), .sh (encR (ovR m rows (decide (y = 1)) r1 r2)), s17, s18, .no, .no, .no]) rfl ?_
        obtain ⟨u, hu⟩ : ∃ u, u = ovR m rows (decide (y = 1)) r1 r2 := ⟨_, rfl⟩
        have hul : u.1.length ≤ 12 ∧ u.2.length ≤ 12 := by
          have e1 := box_l12 hb1 hrl
          have e2 := box_l8 T C hb1 hm0 hm8
          have e3 : (bothL r1.2 r2.2).length ≤ r1.2.length := List.length_filter_le _ _
          have e4 : (bothL r1.1 r2.1).length ≤ r1.1.length := List.length_filter_le _ _
          have e5 := in_len (th_in rows (bothL r1.2 r2.2)) (by omega)
          have e6 := in_len (mk_in (m := m) (rows := rows) (bothL r1.1 r2.1)) hm0
          rw [hu]
          unfold ovR overR underR
          split
          · show (bothL r1.1 r2.1).length ≤ 12 ∧ (mkL m rows (bothL r1.1 r2.1)).length ≤ 12
            omega
          · show (thI rows (bothL r1.2 r2.2)).length ≤ 12 ∧ (bothL r1.2 r2.2).length ≤ 12
            omega
        refine' sk_cons (SK1.imp (R' := fun o => ∃ (q1 q2 : Addr) (κ' : List Cl), o = .nx [.sh (.scr ns), .sh (.int m), .sh (D.sets rows), .no, .no, .sh (.tab m rows), .sh (D.rules [s0, s1, s2]), .sh (.int (i : Int)), .sh (.int c), .sh (hnd p0 p1 p2 p3 p4 p5), .no, .sh (.cls qs), .sh prs, .sh (.int y), .sh (.int one), .sh (.int other), .sh (encR u), .sh (.tup [.cls q1, .cls q2]), s18, .no, .no, .no] κ' ∧ κ'.Perm ((qs, fs'.map encP) :: (q1, u.1.map D.int) :: (q2, u.2.map D.int) :: six p0 p1 p2 p3 p4 p5 s0.1 s0.2 s1 s2)) (sk_if (k := decide (y = 0)) (tm_of (TD.cast (b := ?zb13) ?zt13 ?zq13)) (fun hk => ?zA13) fun hk => ?zB13) ?zr13)
        case zt13 => wtm_at "m.td"
        case zq13 => simp only [Rs.d, deq_int]
        case zA13 =>
          have hk := of_decide_eq_true hk
          have hud : u = ovR m rows false r1 r2 := by
            rw [hu, hk]
            rfl
          refine' sk_cons (sk_callC (κ1 := six p0 p1 p2 p3 p4 p5 s0.1 s0.2 s1 s2) (κ2 := [(qs, fs'.map encP)]) hOv ?zk14 rfl (am_of ?za14) (List.perm_append_singleton _ _).symm ⟨m, rows, r1, r2, d1, d2, rfl, hO1, hO2, ca, ⟨hb1, hb2⟩, rfl⟩ ?zR14 hN ?zi14 ?zj14)
          case zk14 => dsimp only; decide
          case zi14 => wtm_at "m.dec"
          case zj14 => wtm_at "m.dec"
          case za14 => wtm_at "m.ad"
          case zR14 =>
          rintro r κ' ⟨q1, q2, rfl, hp⟩
          refine ⟨_, rfl, fun a ha => (hp.map _).mem_iff.mpr (by rw [List.map_append]; exact List.mem_append_left _ ha), sk_nil ⟨q1, q2, _, by rw [← hu]; rfl, ?_⟩⟩
          rw [hud]
          refine ((hp.append_right _).trans ?_)
          exact (List.perm_append_singleton _ _).trans (.cons _ (List.perm_append_comm (l₁ := six p0 p1 p2 p3 p4 p5 s0.1 s0.2 s1 s2)))
        case zB13 =>
          have hk := of_decide_eq_false hk
          have hud : u = ovR m rows true r1 r2 := by
            rw [hu, show y = 1 from hy.resolve_left hk]
            rfl
          refine' sk_cons (sk_callC (κ1 := six p0 p1 p2 p3 p4 p5 s0.1 s0.2 s1 s2) (κ2 := [(qs, fs'.map encP)]) hUn ?zk15 rfl (am_of ?za15) (List.perm_append_singleton _ _).symm ⟨m, rows, r1, r2, d1, d2, rfl, hO1, hO2, ca, ⟨hb1, hb2⟩, rfl⟩ ?zR15 hN ?zi15 ?zj15)
          case zk15 => dsimp only; decide
          case zi15 => wtm_at "m.dec"
          case zj15 => wtm_at "m.dec"
          case za15 => wtm_at "m.ad"
          case zR15 =>
          rintro r κ' ⟨q1, q2, rfl, hp⟩
          refine ⟨_, rfl, fun a ha => (hp.map _).mem_iff.mpr (by rw [List.map_append]; exact List.mem_append_left _ ha), sk_nil ⟨q1, q2, _, by rw [← hu]; rfl, ?_⟩⟩
          rw [hud]
          refine ((hp.append_right _).trans ?_)
          exact (List.perm_append_singleton _ _).trans (.cons _ (List.perm_append_comm (l₁ := six p0 p1 p2 p3 p4 p5 s0.1 s0.2 s1 s2)))
        case zr13 =>
        rintro _ ⟨q1, q2, κ', rfl, hp⟩
        show SK _ _ _ _ _
        refine sk_perm hp ?_
        clear hp hu hO1 hO2 hd1 hd2 hr1 hr2
        have hOf : Opn U ((qs, fs'.map encP) :: (q1, u.1.map D.int) :: (q2, u.2.map D.int) :: six p0 p1 p2 p3 p4 p5 s0.1 s0.2 s1 s2) (.tup [.cls q1, .cls q2]) (encR u) := opn_tup (opnL_cons (opn_ints (.tail _ (.head _))) (opnL_cons (opn_ints (.tail _ (.tail _ (.head _)))) opnL_nil))
        refine' sk_cons (sk_if (k := false) (tm_open (ρ' := [.no, .no, .no, .no, .no, .no, .no, .no, .no, .no, .no, .no, .no, .no, .no, .no, .sh (encR u), .sh (encR u), .no, .no, .no, .no]) ?zo16 (TD.cast (td_not (td_val (k := true) (ed_call (A := A_same) (ds := [encR u, encR u]) hSm ?zk16 rfl ?za16 ⟨u, rfl, rfl⟩))) rfl)) (fun hk => nomatch hk) fun _ => sk_nil ?zR16)
        case zo16 => wtm_at "op.all2"
        case zk16 => dsimp only; decide
        case za16 => wtm_at "m.ad"
        case zR16 =>
        show SK _ _ _ _ _
        clear hOf
        refine' sk_cons (sk_for (ds := [.cls q1, .cls q2]) ?zi17 (fun t ρ κ => ∃ s18 : Sl, ρ = [.sh (.scr ns), .sh (.int m), .sh (D.sets rows), .no, .no, .sh (.tab m rows), .sh (D.rules [s0, s1, s2]), .sh (.int (i : Int)), .sh (.int c), .sh (hnd p0 p1 p2 p3 p4 p5), .no, .sh (.cls qs), .sh prs, .sh (.int y), .sh (.int one), .sh (.int other), .sh (encR u), .sh (.tup [.cls q1, .cls q2]), s18, .no, .no, .no] ∧ ∃ f2 : List (List Int), f2.length ≤ fs'.length + t ∧ κ = (qs, f2.map encP) :: ([(q1, u.1.map D.int), (q2, u.2.map D.int)].drop t ++ six p0 p1 p2 p3 p4 p5 s0.1 s0.2 s1 s2)) ⟨s18, rfl, fs', by omega, rfl⟩ ?zs17 ?zd17 hN ?zj17 ?zk17)
        case zj17 => wtm_at "m.dec"
        case zk17 => wtm_at "m.dec"
        case zi17 => wtm_at "m.if"
        case zs17 =>
          rintro t d ρ' κ' hd ⟨s18, rfl, f2, hf2, rfl⟩
          have key : ∃ (q0 : Addr) (ys : List Int) (rest : List Cl), d = .cls q0 ∧ ys.length ≤ 12 ∧ [(q1, u.1.map D.int), (q2, u.2.map D.int)].drop t = (q0, ys.map D.int) :: rest ∧ [(q1, u.1.map D.int), (q2, u.2.map D.int)].drop (t + 1) = rest ∧ t < 2 := by
            match t, hd with
            | 0, hd => exact ⟨q1, u.1, _, (Option.some.inj hd).symm, hul.1, rfl, rfl, by decide⟩
            | 1, hd => exact ⟨q2, u.2, _, (Option.some.inj hd).symm, hul.2, rfl, rfl, by decide⟩
            | n + 2, hd => cases hd
          obtain ⟨q0, ys, rest, rfl, hyl, hd1, hd2, ht2⟩ := key
          clear hd
          rw [hd1]
          refine sk_at (ρ' := [.sh (.scr ns), .sh (.int m), .sh (D.sets rows), .no, .no, .sh (.tab m rows), .sh (D.rules [s0, s1, s2]), .sh (.int (i : Int)), .sh (.int c), .sh (hnd p0 p1 p2 p3 p4 p5), .no, .sh (.cls qs), .sh prs, .sh (.int y), .sh (.int one), .sh (.int other), .sh (encR u), .sh (.tup [.cls q1, .cls q2]), .sh (.cls q0), .no, .no, .no]) rfl ?_
          have hz : (ys.map D.int).length < sizeLine := by
            rw [List.length_map, sizeLine_eq]
            omega
          refine sk_cons (sk_expr (em_meth (j := 1) (q := q0) (ds := ys.map D.int) (ds' := ys.map D.int ++ [.int 99]) (as := [.int 99]) PySem.F.slot_list_append PySem.F.type_list_append (fun X => mt_append) (ed_var rfl ?zv18) rfl (am_cons (em_of (r := .sh (.int 99)) ed_int) (.sh _) am_nil) (mut_append hz) rfl) ?zR18)
          case zv18 => wtm_at "m.dec"
          case zR18 =>
          obtain ⟨g, hg⟩ : ∃ g, g = ys ++ [99] := ⟨_, rfl⟩
          refine sk_kt (κ' := (qs, f2.map encP) :: (q0, g.map D.int) :: (rest ++ six p0 p1 p2 p3 p4 p5 s0.1 s0.2 s1 s2)) (by rw [hg, List.map_append]; rfl) ?_
          have hO2 : Opn U [(q0, g.map D.int)] (.cls q0) (.ints g) := opn_ints (.head _)
          refine sk_freeze (j := 1) (q := q0) (ds := g.map D.int) (ρ' := [.sh (.scr ns), .sh (.int m), .sh (D.sets rows), .no, .no, .sh (.tab m rows), .sh (D.rules [s0, s1, s2]), .sh (.int (i : Int)), .sh (.int c), .sh (hnd p0 p1 p2 p3 p4 p5), .no, .sh (.cls qs), .sh prs, .sh (.int y), .sh (.int one), .sh (.int other), .sh (encR u), .sh (.tup [.cls q1, .cls q2]), .sh (.ints g), .no, .no, .no]) rfl ?zo19 ?zR19
          case zo19 => wtm_at "op.all2"
          case zR19 =>
          clear hO2
          refine sk_kt (κ' := (qs, f2.map encP) :: (rest ++ six p0 p1 p2 p3 p4 p5 s0.1 s0.2 s1 s2)) rfl ?_
          have hz2 : (f2.map encP).length < sizeLine := by
            rw [List.length_map, sizeLine_eq]
            omega
          refine sk_cons (sk_expr (em_meth (j := 0) (q := qs) (ds := f2.map encP) (ds' := f2.map encP ++ [encP g]) (as := [encP g]) PySem.F.slot_list_append PySem.F.type_list_append (fun X => mt_append) (ed_var rfl ?zv20) rfl (am_cons (em_of (r := .sh (encP g)) ?ze20) (.sh _) am_nil) (mut_append hz2) rfl) ?zR20)
          case zv20 => wtm_at "m.dec"
          case ze20 => wtm_at "m.ed"
          case zR20 =>
          refine sk_nil ⟨.sh (.ints g), rfl, f2 ++ [g], by rw [List.length_append, List.length_singleton]; omega, ?_⟩
          rw [hd2, List.map_append]
          rfl
        case zd17 =>
          rintro ρ' κ' ⟨s18, rfl, f2, hf2, rfl⟩
          exact sk_nil ⟨f2, _, _, _, _, _, _, by have : f2.length ≤ fs'.length + 2 := hf2; omega, rfl, rfl⟩
      case zd10 =>
        rintro ρ' κ' ⟨fs', s13, s14, s15, s16, s17, s18, hfl', rfl, rfl⟩
        rw [List.length_map, hw2] at hfl'
        show SK _ _ _ _ _
        have hms : inR m s0.2 = true := inR_iff.mpr (box_iff.mp hs0).1.inr
        have hbe : 0 ≤ m ∧ m ≤ 8 ∧ rows.length ≤ 12 ∧ inR m s0.2 = true ∧ ∀ r ∈ rows, InM m r := ⟨hm0, hm8, hrl, hms, hri⟩
        refine' sk_cons (sk_if (k := false) (tm_of (TD.cast (b := decide ((i : Int) = 2) && !true) (td_bool (tw_and (TD.cast (b := ?zb21) ?zt21 ?zq21) (fun _ => tw_and1 (td_not (td_val (k := true) (ed_call (A := A_beside) (ds := [.int m, D.sets rows, .ints s0.2]) hBe ?zk21 rfl ?za21 ⟨m, rows, s0.2, rfl, hbe, rfl⟩)))))) (by simp))) (fun hk => nomatch hk) fun _ => sk_nil ?zR21)
        case zt21 => wtm_at "m.td"
        case zq21 => simp only [Rs.d, deq_int]
        case zk21 => dsimp only; decide
        case za21 => wtm_at "m.ad"
        case zR21 => exact sk_nil ⟨fs', _, _, _, _, _, _, _, by omega, rfl, rfl⟩
    case zd9 =>
      rintro ρ' κ' ⟨fs, s7, s13, s14, s15, s16, s17, s18, hfl, rfl, rfl⟩
      have hi2 : inR (rows.length : Int) s2.1 = true := by
        rw [(box_iff.mp hs2).2.2]
        exact thI_in rows s2.2
      have hi0 : inR (rows.length : Int) s0.1 = true := by
        rw [(box_iff.mp hs0).2.2]
        exact thI_in rows s0.2
      show SK _ _ _ _ _
      refine' sk_cons (sk_ifCallE (κ1 := six p0 p1 p2 p3 p4 p5 s0.1 s0.2 s1 s2) (κ2 := [(qs, fs.map encP)]) hEx ?zk22 rfl (am_of (ad_cons' ?za22 (.sh _) (ad_cons' ?zb22 (.sh _) (ad_cons' ?zc22 (.sh _) (ad_cons' (ed_call (A := A_dueB) (ds := [.int m, D.sets rows, encR s2, encR s1]) hDu ?zl22 rfl ?zd22 ⟨m, rows, s2, s1, rfl, ⟨hm0, hm8, hrl, hi2⟩, rfl⟩) (.sh _) ad_nil))))) (List.perm_append_singleton _ _).symm ⟨m, rows, s0, s1, s2, p0, p1, p2, p3, p4, p5, rfl, rfl, ca, ⟨hs0, hs1, hs2⟩, rfl⟩ ?zO22)
      case zk22 => dsimp only; decide
      case zl22 => dsimp only; decide
      case za22 => wtm_at "m.ed"
      case zb22 => wtm_at "m.ed"
      case zc22 => wtm_at "m.ed"
      case zd22 => wtm_at "m.ad"
      case zO22 =>
      rintro r κ' ⟨rfl, rfl⟩
      refine ⟨rfl, rfl, sk_nil ?_⟩
      show SK _ _ _ _ _
      refine sk_perm (κ' := (qs, fs.map encP) :: six p0 p1 p2 p3 p4 p5 s0.1 s0.2 s1 s2) (List.perm_append_singleton _ _) ?_
      refine' sk_cons (sk1 (s_set2 (d1 := encR (overR rows s0 s1)) (d2 := encR (underR m rows s0 s1)) (ed_call (A := A_dueB) (ds := [.int m, D.sets rows, encR s0, encR s1]) hDu ?zk23 rfl ?za23 ⟨m, rows, s0, s1, rfl, ⟨hm0, hm8, hrl, hi0⟩, rfl⟩) ?zR23 hN ?zi23 ?zj23 ?zm23 ?zn23))
      case zk23 => dsimp only; decide
      case za23 => wtm_at "m.ad"
      case zi23 => wtm_at "m.dec"
      case zj23 => wtm_at "m.dec"
      case zm23 => wtm_at "m.dec"
      case zn23 => wtm_at "m.dec"
      case zR23 =>
      show SK _ _ _ _ _
      have hOs : Opn U ((qs, fs.map encP) :: six p0 p1 p2 p3 p4 p5 s0.1 s0.2 s1 s2) (.cls qs) (.lst (fs.map encP)) := opn_cell (.head _) opnL_refl
      refine' sk_cons (sk_if (k := false) (tm_open (ρ' := [.no, .no, .no, .no, .no, .no, .sh (D.rules [s0, s1, s2]), .no, .no, .no, .no, .sh (.lst (fs.map encP)), .no, .no, .no, .no, .no, .no, .no, .sh (encR (overR rows s0 s1)), .sh (encR (underR m rows s0 s1)), .no]) ?zo24 (TD.cast (td_bool (tw_or (td_not (td_val (k := true) (ed_call (A := A_third) (ds := [.ints s2.1, D.rules [s0, s1, s2], encR (overR rows s0 s1), encR (underR m rows s0 s1)]) hTf ?zk24 rfl ?za24 ⟨m, rows, s0, s1, s2, rfl, ⟨hrl, hs0, hs1, hs2⟩, rfl⟩))) (fun _ => tw_or1 (TD.cast (b := ?zb24) ?zt24 ?zq24)))) (show (!true || false) = false from rfl))) (fun hk => nomatch hk) fun _ => sk_nil ?zR24)
      case zo24 => wtm_at "op.all2"
      case zk24 => dsimp only; decide
      case za24 => wtm_at "m.ad"
      case zt24 => wtm_at "m.td"
      case zq24 =>
        simp only [Rs.d, deq_ints, deq_lnil]
        simp
      case zR24 =>
      show SK _ _ _ _ _
      clear hOs
      have hOh : Opn U ((qs, fs.map encP) :: six p0 p1 p2 p3 p4 p5 s0.1 s0.2 s1 s2) (hnd p0 p1 p2 p3 p4 p5) (D.rules [s0, s1, s2]) := opn_lst (opnL_cons (opn_tup (opnL_cons (opn_ints (.tail _ (.head _))) (opnL_cons (opn_ints (.tail _ (.tail _ (.head _)))) opnL_nil))) (opnL_cons (opn_tup (opnL_cons (opn_ints (.tail _ (.tail _ (.tail _ (.head _))))) (opnL_cons (opn_ints (.tail _ (.tail _ (.tail _ (.tail _ (.head _)))))) opnL_nil))) (opnL_cons (opn_tup (opnL_cons (opn_ints (.tail _ (.tail _ (.tail _ (.tail _ (.tail _ (.head _))))))) (opnL_cons (opn_ints (.tail _ (.tail _ (.tail _ (.tail _ (.tail _ (.tail _ (.head _)))))))) opnL_nil))) opnL_nil)))
      refine' sk_cons (sk_ret (r := .sh (.bl true)) (em_open (ρ' := [.no, .sh (.int m), .sh (D.sets rows), .no, .no, .sh (.tab m rows), .sh (D.rules [s0, s1, s2]), .no, .no, .sh (D.rules [s0, s1, s2]), .no, .no, .no, .no, .no, .no, .no, .no, .no, .no, .no, .no]) ?zo25 (ED.cast (r := ?zr25) ?ze25 ?zq25) (shut_free rfl)) rfl)
      case zo25 => wtm_at "op.all2"
      case ze25 => wtm_at "m.ed"
      case zq25 =>
        have e1 : deq (D.rules [s0, s1, s2]) (D.rules [s0, s1, s2]) = true := (Enc.rules _ _).trans (decide_eq_true rfl)
        have e2 : deq (D.sets rows) (D.sets rows) = true := (Enc.lst Enc.ints rows rows).trans (decide_eq_true rfl)
        show Rs.sh (.bl (deq (D.rules [s0, s1, s2]) (D.rules [s0, s1, s2]) && (deq (D.sets rows) (D.sets rows) && deq (.int m) (.int m)))) = _
        rw [e1, e2, deq_int]
        simp
end
end Mb
set_option Elab.async false
set_option linter.all false
set_option maxRecDepth 100000
set_option maxHeartbeats 4000000
namespace Mb
open PySem PySem.Spec PyProof.Rows L2
local macro_rules | `(tactic| wtm_at "m.dec") => `(tactic| (dsimp only [Gx.blk]; decide +kernel))
local macro_rules | `(tactic| wtm_at "m.hint") => `(tactic| fail)
local macro_rules | `(tactic| wtm_at "m.side") => `(tactic| first | with_reducible assumption | assumption | decide | omega | exact Or.inr (And.intro (by omega) (by omega)) | exact Or.inl (And.intro (by omega) (by omega)) | exact And.intro (by omega) (by omega) | (simp only [List.length_cons, List.length_nil, List.length_map, List.length_range, List.length_append, sizeLine_eq]; omega) | wtm_at "m.hint" | solve_by_elim)
local macro_rules | `(tactic| wtm_at "m.dn") => `(tactic| first
  | exact Dn.int _ _ | exact Dn.bl _ _ | exact Dn.non _
  | (refine dn_lst (n := _) ?_; wtm_at "m.dm") | (refine dn_nls (n := _) ?_; wtm_at "m.dm") | (refine dn_tup (n := _) ?_; wtm_at "m.dm"))
local macro_rules | `(tactic| wtm_at "m.dm") => `(tactic| first
  | exact dm_nil | (refine dm_map ?_; intro _; wtm_at "m.dn") | (refine dm_cons ?a ?b; (case a => wtm_at "m.dn"); (case b => wtm_at "m.dm")) | (refine dm_app ?a ?b; (case a => wtm_at "m.dm"); (case b => wtm_at "m.dm")))
local macro_rules | `(tactic| wtm_at "m.tosh") => `(tactic| first | exact ToSh.sh _ | exact ToSh.fr _)
local macro_rules | `(tactic| wtm_at "m.eds") => `(tactic| (refine' ED.toSh ?h ?t ?q; (case h => wtm_at "m.ed"); (case t => wtm_at "m.tosh"); (case q => exact rfl)))
local macro_rules | `(tactic| wtm_at "m.tosha") => `(tactic| first | exact ToSh.un _ | exact ToSh.sh _ | exact ToSh.fr _)
local macro_rules | `(tactic| wtm_at "m.ad") => `(tactic| first
  | exact ad_nil
  | (refine' ad_cons' ?h ?t ?r; (case h => wtm_at "m.ed"); (case t => wtm_at "m.tosha"); (case r => wtm_at "m.ad")))
local macro_rules | `(tactic| wtm_at "m.adk") => `(tactic| first
  | exact ad_nil
  | (refine' ad_cons' ?h ?t ?r; (case h => wtm_at "m.ed"); (case t => wtm_at "m.tosh"); (case r => wtm_at "m.adk")))
local macro_rules | `(tactic| wtm_at "m.ic") => `(tactic| first
  | (refine' ic_range (by assumption) ?a ?b ?c ?g; (case a => wtm_at "m.ed"); (case g => rfl); (case b => wtm_at "m.side"); (case c => wtm_at "m.side"))
  | (refine' ic_list ?h ?q; (case h => wtm_at "m.ed"); (case q => exact rfl)))
local macro_rules | `(tactic| wtm_at "m.if") => `(tactic| first
  | (refine' if_range (by assumption) ?a ?b ?c ?g; (case a => wtm_at "m.ed"); (case g => rfl); (case b => wtm_at "m.side"); (case c => wtm_at "m.side"))
  | (refine' if_range2 (by assumption) ?a ?a2 ?b ?g; (case a => wtm_at "m.ed"); (case a2 => wtm_at "m.ed"); (case g => rfl); (case b => wtm_at "m.side"))
  | (refine' if_list ?h; (case h => wtm_at "m.ed"))
  | (refine' if_nls ?h; (case h => wtm_at "m.ed"))
  | (refine' if_fr ?h; (case h => wtm_at "m.ed"))
  | (refine' if_tup ?h; (case h => wtm_at "m.ed")))
local macro_rules | `(tactic| wtm_at "m.ld") => `(tactic| first
  | (refine' ld_lc0 ?n ?i ?j ?o ?l ?e; (case n => assumption); (case i => wtm_at "m.ic"); (case j => wtm_at "m.dec"); (case o => wtm_at "m.dec"); (case l => wtm_at "m.dec"); (case e => intro _ hx; (try have hx := List.mem_range.mp hx); wtm_at "m.eds"))
  | (refine' ld_lc1 ?n ?i ?j ?o ?l ?t ?e; (case n => assumption); (case i => wtm_at "m.ic"); (case j => wtm_at "m.dec"); (case o => wtm_at "m.dec"); (case l => wtm_at "m.dec"); (case t => (intro _ hx; (try have hx := List.mem_range.mp hx); refine' TD.cast ?h ?q; (case h => wtm_at "m.td"); (case q => exact rfl))); (case e => intro _ hx _; (try have hx := List.mem_range.mp hx); wtm_at "m.eds"))
  | (refine' ld_lcp0 ?n ?i ?j ?j2 ?o ?l ?l2 ?e; (case n => assumption); (case i => wtm_at "m.ic"); (case j => wtm_at "m.dec"); (case j2 => wtm_at "m.dec"); (case o => wtm_at "m.dec"); (case l => wtm_at "m.dec"); (case l2 => wtm_at "m.dec"); (case e => intro _ _; wtm_at "m.eds"))
  | (refine' ld_lcp1 ?n ?i ?j ?j2 ?o ?l ?l2 ?t ?e; (case n => assumption); (case i => wtm_at "m.ic"); (case j => wtm_at "m.dec"); (case j2 => wtm_at "m.dec"); (case o => wtm_at "m.dec"); (case l => wtm_at "m.dec"); (case l2 => wtm_at "m.dec"); (case t => (intro _ hx; (try have hx := List.mem_range.mp hx); refine' TD.cast ?h ?q; (case h => wtm_at "m.td"); (case q => exact rfl))); (case e => intro _ hx _; (try have hx := List.mem_range.mp hx); wtm_at "m.eds")))
local macro_rules | `(tactic| wtm_at "m.addr") => `(tactic| first | exact AddR.int _ _ | (refine' AddR.cat ?x ?y ?z; (case x => exact rfl); (case y => exact rfl); (case z => wtm_at "m.side")))
local macro_rules | `(tactic| wtm_at "m.at") => `(tactic| first
  | exact rfl
  | assumption
  | (refine atI_get (d := (0 : Int)) ?a ?b; (case a => wtm_at "m.side"); (case b => wtm_at "m.side"))
  | (refine atI_ints (d := default) ?a ?b; (case a => wtm_at "m.side"); (case b => wtm_at "m.side"))
  | (refine atI_lit ?a ?b ?c; (case a => wtm_at "m.side"); (case b => wtm_at "m.side"); (case c => rfl))
  | solve_by_elim)
local macro_rules | `(tactic| wtm_at "m.ixd") => `(tactic| first
  | (refine' IxD.tup ?h; (case h => wtm_at "m.at"))
  | (refine' IxD.scr ?h; (case h => wtm_at "m.at"))
  | (refine' IxD.list ?x ?h; (case x => exact rfl); (case h => wtm_at "m.at")))
local macro_rules | `(tactic| wtm_at "m.cp") => `(tactic| first
  | (refine' cp_lt ?a ?b; (case a => wtm_at "m.ed"); (case b => wtm_at "m.ed"))
  | (refine' cp_le ?a ?b; (case a => wtm_at "m.ed"); (case b => wtm_at "m.ed"))
  | (refine' cp_gt ?a ?b; (case a => wtm_at "m.ed"); (case b => wtm_at "m.ed"))
  | (refine' cp_ge ?a ?b; (case a => wtm_at "m.ed"); (case b => wtm_at "m.ed"))
  | (refine' cp_eq ?a ?b ?c ?d; (case a => wtm_at "m.ed"); (case b => wtm_at "m.ed"); (case c => wtm_at "m.dn"); (case d => wtm_at "m.dn"))
  | (refine' cp_ne ?a ?b ?c ?d; (case a => wtm_at "m.ed"); (case b => wtm_at "m.ed"); (case c => wtm_at "m.dn"); (case d => wtm_at "m.dn"))
  | (refine' cp_in ?a ?b ?e ?c ?d ?m; (case a => wtm_at "m.ed"); (case b => wtm_at "m.ed"); (case e => exact rfl); (case c => wtm_at "m.dn"); (case d => wtm_at "m.dm"); (case m => rfl))
  | (refine' cp_nin ?a ?b ?e ?c ?d ?m; (case a => wtm_at "m.ed"); (case b => wtm_at "m.ed"); (case e => exact rfl); (case c => wtm_at "m.dn"); (case d => wtm_at "m.dm"); (case m => rfl))
  | (refine' cp_isN ?a; (case a => wtm_at "m.ed"))
  | (refine' cp_notN ?a; (case a => wtm_at "m.ed"))
  | (refine' ch_le_lt ?a ?b ?c; (case a => wtm_at "m.ed"); (case b => wtm_at "m.ed"); (case c => wtm_at "m.ed"))
  | (refine' ch_le_le ?a ?b ?c; (case a => wtm_at "m.ed"); (case b => wtm_at "m.ed"); (case c => wtm_at "m.ed")))
local macro_rules | `(tactic| wtm_at "m.tw") => `(tactic| first
  | (refine' tw_and ?a ?b; (case a => wtm_at "m.td"); (case b => intro _; wtm_at "m.tw"))
  | (refine' tw_or ?a ?b; (case a => wtm_at "m.td"); (case b => intro _; wtm_at "m.tw"))
  | (refine' tw_and1 ?a; (case a => wtm_at "m.td"))
  | (refine' tw_or1 ?a; (case a => wtm_at "m.td")))
local macro_rules | `(tactic| wtm_at "m.td") => `(tactic| first
  | (refine' And.right (a := ?p) ?h; (case h => wtm_at "m.cp"))
  | (refine' td_not ?h; (case h => wtm_at "m.td"))
  | (refine' td_bool ?h; (case h => wtm_at "m.tw"))
  | (refine' td_val ?h; (case h => wtm_at "m.ed")))
local macro_rules | `(tactic| wtm_at "m.bo") => `(tactic| first
  | (refine' ed_and ?a ?b; (case a => wtm_at "m.ed"); (case b => intro _; wtm_at "m.bo"))
  | (refine' ed_or ?a ?b; (case a => wtm_at "m.ed"); (case b => intro _; wtm_at "m.bo"))
  | (refine' ed_one ?a; (case a => wtm_at "m.ed")))
local macro_rules | `(tactic| wtm_at "m.pre") => `(tactic| first
  | exact ⟨_, rfl, rfl⟩ | exact ⟨_, _, rfl, rfl⟩ | exact ⟨_, _, _, rfl, rfl⟩ | exact ⟨_, _, _, _, rfl, rfl⟩ | exact ⟨_, _, _, _, _, rfl, rfl⟩
  | (refine ⟨_, rfl, ?_, rfl⟩; wtm_at "m.side") | (refine ⟨_, _, rfl, ?_, rfl⟩; wtm_at "m.side") | (refine ⟨_, _, _, rfl, ?_, rfl⟩; wtm_at "m.side") | (refine ⟨_, _, _, _, rfl, ?_, rfl⟩; wtm_at "m.side") | (refine ⟨_, _, _, _, _, rfl, ?_, rfl⟩; wtm_at "m.side"))
local macro_rules | `(tactic| wtm_at "m.call") => `(tactic| first
  | wtm_at "m.direct"
  | (refine' ed_thaw ?h ?d; (case h => wtm_at "m.direct"); (case d => rfl)))
local macro_rules | `(tactic| wtm_at "m.od") => `(tactic| first | exact od_none | (refine' od_some ?h; (case h => wtm_at "m.ed")))
local macro_rules | `(tactic| wtm_at "m.direct") => `(tactic| first
  | (refine' ed_call ?T ?k ?g ?a ?A; (case T => assumption); (case k => (dsimp only [Gx.blk]; decide)); (case g => rfl); (case a => wtm_at "m.ad"); (case A => wtm_at "m.pre"))
  | (refine' ed_many (by assumption) ?a ?b; (case a => wtm_at "m.ed"); (case b => exact rfl))
  | (refine' ed_rows (by assumption) ?a; (case a => wtm_at "m.ed"))
  | (refine' ed_meth (by assumption) ?T ?k ?o ?d ?a ?A; (case T => assumption); (case k => (dsimp only [Gx.blk]; decide)); (case o => wtm_at "m.ed"); (case d => exact rfl); (case a => wtm_at "m.ad"); (case A => wtm_at "m.pre")))
local macro_rules | `(tactic| wtm_at "m.ed") => `(tactic| first
  | (refine' ed_varA ?h ?v; (case h => exact rfl); (case v => rfl))
  | (refine' ed_var ?h ?v; (case h => exact rfl); (case v => rfl))
  | exact ed_int
  | (refine' ed_ixR ?a ?b ?c; (case a => wtm_at "m.ed"); (case b => wtm_at "m.ed"); (case c => wtm_at "m.ixd"))
  | (refine' And.left (b := ?p) ?h; (case h => wtm_at "m.cp"))
  | (refine' ed_addR ?a ?b ?c; (case a => wtm_at "m.ed"); (case b => wtm_at "m.ed"); (case c => wtm_at "m.addr"))
  | (refine' ed_sub ?a ?b; (case a => wtm_at "m.ed"); (case b => wtm_at "m.ed"))
  | (refine' ed_mul ?a ?b ?c; (case a => wtm_at "m.ed"); (case b => wtm_at "m.ed"); (case c => wtm_at "m.side"))
  | (refine' ed_fdiv ?a ?b ?c; (case a => wtm_at "m.ed"); (case b => wtm_at "m.ed"); (case c => wtm_at "m.side"))
  | (refine' ed_mod ?a ?b ?c; (case a => wtm_at "m.ed"); (case b => wtm_at "m.ed"); (case c => wtm_at "m.side"))
  | (refine' ed_pow ?a ?b ?c; (case a => wtm_at "m.ed"); (case b => wtm_at "m.ed"); (case c => wtm_at "m.side"))
  | (refine' ed_neg ?a; (case a => wtm_at "m.ed"))
  | (refine' LD.ed ?a; (case a => wtm_at "m.ld"))
  | (refine' ed_len (by assumption) ?a ?b ?g; (case a => wtm_at "m.ed"); (case b => exact rfl); (case g => rfl))
  | (refine' ed_listRange (by assumption) ?a ?b ?c ?g ?g2; (case a => wtm_at "m.ed"); (case b => wtm_at "m.side"); (case c => wtm_at "m.side"); (case g => rfl); (case g2 => rfl))
  | (refine' ed_list (by assumption) ?a ?b ?g; (case a => wtm_at "m.ed"); (case b => exact rfl); (case g => rfl))
  | (refine' ed_all (by assumption) ?a ?b ?g; (case a => wtm_at "m.ed"); (case b => exact rfl); (case g => rfl))
  | (refine' ed_any (by assumption) ?a ?b ?g; (case a => wtm_at "m.ed"); (case b => exact rfl); (case g => rfl))
  | (refine' ed_sum (by assumption) ?a ?b ?g; (case a => wtm_at "m.ed"); (case b => exact rfl); (case g => rfl))
  | (refine' ed_sorted (by assumption) ?a ?b ?g; (case a => wtm_at "m.ed"); (case b => exact rfl); (case g => rfl))
  | (refine' ed_intB (by assumption) ?a ?g; (case a => wtm_at "m.ed"); (case g => rfl))
  | (refine' ed_max (by assumption) ?a ?b ?g; (case a => wtm_at "m.ed"); (case b => wtm_at "m.ed"); (case g => rfl))
  | (refine' ed_min (by assumption) ?a ?b ?g; (case a => wtm_at "m.ed"); (case b => wtm_at "m.ed"); (case g => rfl))
  | (refine' ed_isi (k := true) (by assumption) ?a ?b ?t ?k ?g; (case a => wtm_at "m.ed"); (case b => wtm_at "m.ed"); (case t => exact rfl); (case k => decide +kernel); (case g => rfl))
  | (refine' ed_isi (k := false) (by assumption) ?a ?b ?t ?k ?g; (case a => wtm_at "m.ed"); (case b => wtm_at "m.ed"); (case t => exact rfl); (case k => decide +kernel); (case g => rfl))
  | (refine' ed_tup ?a ?b; (case a => wtm_at "m.adk"); (case b => wtm_at "m.side"))
  | (refine' ed_lst ?a ?b; (case a => wtm_at "m.adk"); (case b => wtm_at "m.side"))
  | (refine' ed_sl ?a ?x ?l ?u; (case a => wtm_at "m.ed"); (case x => exact rfl); (case l => wtm_at "m.od"); (case u => wtm_at "m.od"))
  | (refine' ed_not ?a; (case a => wtm_at "m.ed"))
  | wtm_at "m.bo"
  | wtm_at "m.call"
  | (refine' ed_own ?h ?v; (case h => exact rfl); (case v => rfl))
  | exact ed_bl
  | exact ed_non
  | (refine' ed_globI ?h ?m; (case h => rfl); (case m => assumption))
  | (refine' ed_tyInt (by assumption) ?g; (case g => rfl))
  | (refine' ed_tyList (by assumption) ?g; (case g => rfl))
  | (refine' ed_tyTuple (by assumption) ?g; (case g => rfl))
  | (refine' ed_tyBool (by assumption) ?g; (case g => rfl)))
local macro_rules | `(tactic| wtm_at "s.set") => `(tactic| (refine' sd_cons (s_set ?e ?q ?n ?i ?o); (case n => assumption); (case i => wtm_at "m.dec"); (case o => wtm_at "m.dec"); (case e => wtm_at "m.eds")))
local macro_rules | `(tactic| wtm_at "s.own") => `(tactic| (refine' sd_cons (s_own ?e ?q ?n ?i ?o); (case n => assumption); (case i => wtm_at "m.dec"); (case o => wtm_at "m.dec"); (case e => wtm_at "m.ed")))
local macro_rules | `(tactic| wtm_at "s.lc") => `(tactic| (refine' sd_cons (s_lc ?e ?q ?i ?k ?y ?l ?a); (case i => wtm_at "m.dec"); (case k => rfl); (case y => rfl); (case l => rfl); (case a => decide +kernel); (case e => wtm_at "m.ld")))
local macro_rules | `(tactic| wtm_at "s.lco") => `(tactic| (refine' sd_cons (s_lcO ?e ?q ?i ?k ?y ?l ?a); (case i => wtm_at "m.dec"); (case k => rfl); (case y => rfl); (case l => rfl); (case a => decide +kernel); (case e => wtm_at "m.ld")))
local macro_rules | `(tactic| wtm_at "s.lcc") => `(tactic| (refine' sd_cons (s_set ?e ?q ?n ?i ?o (swapF ?s)); (case n => assumption); (case i => wtm_at "m.dec"); (case o => wtm_at "m.dec"); (case s => rfl); (case e => (refine' ED.shr (LD.ed ?f); (case f => wtm_at "m.ld")))))
local macro_rules | `(tactic| wtm_at "s.ret") => `(tactic| (refine' sd_cons (s_ret ?e ?q); (case e => wtm_at "m.ed")))
local macro_rules | `(tactic| wtm_at "s.if") => `(tactic| (refine' sd_cons (s_if ?zzt ?zzy ?zzm); (case zzt => wtm_at "m.td")))
local macro_rules | `(tactic| wtm_at "s.ift") => `(tactic| (refine' sd_cons (s_if (td_thaw ?zzt) ?zzy ?zzm); (case zzt => wtm_at "m.td")))
local macro_rules | `(tactic| wtm_at "s.app") => `(tactic| (refine' sd_cons (s_app ?e ?h ?v ?z ?q); (case h => exact rfl); (case v => rfl); (case e => wtm_at "m.eds"); (case z => wtm_at "m.side")))
local macro_rules | `(tactic| wtm_at "s.ifset") => `(tactic| (refine' sd_cons (s_ifset ?c ?e ?h1 ?h2 ?h0 ?q ?n ?i ?o); (case n => assumption); (case i => wtm_at "m.dec"); (case o => wtm_at "m.dec"); (case h0 => exact rfl); (case c => wtm_at "m.td"); (case e => intro _; wtm_at "m.eds")))
local macro_rules | `(tactic| wtm_at "s.raise") => `(tactic| (refine' sd_cons (s_raise ?T ?g ?r); (case T => assumption); (case g => rfl)))
local macro_rules | `(tactic| wtm_at "m.make") => `(tactic| (refine' ed_make ?T ?k ?g ?a ?b ?A; (case T => assumption); (case k => (dsimp only [Gx.blk]; decide)); (case g => rfl); (case a => wtm_at "m.ed"); (case b => wtm_at "m.eds"); (case A => assumption)))
local macro_rules | `(tactic| wtm_at "sl.flat") => `(tactic| first | exact flat_sets | exact flat_tab | exact flat_scr | exact flat_int | exact flat_pair flat_int flat_sets)
local macro_rules | `(tactic| wtm_at "sl.one") => `(tactic| first
  | exact Or.inl rfl
  | exact SpM.no
  | exact SpR.no
  | exact SpM.told rfl
  | exact SpR.told rfl
  | (refine SpM.keep (by decide) rfl ?_ rfl; wtm_at "sl.flat")
  | exact SpM.conv (by decide) rfl conv_int.1
  | exact SpR.keep (by decide) (by decide) rfl rfl rfl
  | exact SpR.conv (by decide) rfl conv_int.2
  | exact SpR.conv (by decide) rfl back_rules
  | exact SpR.conv (by decide) rfl back_sets
  | (refine Or.inr ⟨_, rfl, rfl, ?_⟩; wtm_at "sl.flat"))
local macro_rules | `(tactic| wtm_at "sl.all") => `(tactic| ((repeat' first | exact slAll_nil | refine slAll_cons ?_ ?_) <;> wtm_at "sl.one"))
local macro_rules | `(tactic| wtm_at "op.mem") => `(tactic| first | exact .head _ | exact .tail _ (.head _) | exact .tail _ (.tail _ (.head _)) | exact .tail _ (.tail _ (.tail _ (.head _))) | exact .tail _ (.tail _ (.tail _ (.tail _ (.head _)))) | exact .tail _ (.tail _ (.tail _ (.tail _ (.tail _ (.head _))))) | exact .tail _ (.tail _ (.tail _ (.tail _ (.tail _ (.tail _ (.head _)))))))
local macro_rules | `(tactic| wtm_at "op.d") => `(tactic| first
  | exact opn_refl
  | (refine opn_ints ?_; wtm_at "op.mem")
  | (refine opn_tup ?_; wtm_at "op.l")
  | (refine opn_lst ?_; wtm_at "op.l")
  | (refine opn_cell ?zopm ?zopl; (case zopm => wtm_at "op.mem"); (case zopl => first | exact opnL_refl | wtm_at "op.l")))
local macro_rules | `(tactic| wtm_at "op.l") => `(tactic| first
  | exact opnL_nil
  | (refine opnL_cons ?zopa ?zopb; (case zopa => wtm_at "op.d"); (case zopb => wtm_at "op.l")))
local macro_rules | `(tactic| wtm_at "op.one") => `(tactic| first
  | exact OpS.no
  | exact OpS.own rfl
  | (refine OpS.sh rfl ?_; wtm_at "op.d"))
local macro_rules | `(tactic| wtm_at "op.all") => `(tactic| ((repeat' first | exact slAll_nil | refine slAll_cons ?_ ?_) <;> wtm_at "op.one"))
local macro_rules | `(tactic| wtm_at "op.one2") => `(tactic| first
  | exact OpS.no
  | exact OpS.own rfl
  | exact OpS.sh rfl (by assumption)
  | exact OpS.sh rfl opn_refl)
local macro_rules | `(tactic| wtm_at "op.all2") => `(tactic| ((repeat' first | exact slAll_nil | refine slAll_cons ?_ ?_) <;> wtm_at "op.one2"))
theorem box_only {m : Int} {rows : List (List Int)} {s0 : Rule} {c : Int} {ys : List Int} (h : s0 ∈ boxL m rows) (ne : ys ≠ (if c.fmod 2 = 0 then s0.1 else s0.2)) : bx m rows (spB c s0 ys) = false := by
  obtain ⟨h1, h2, h3⟩ := box_iff.mp h
  refine decide_eq_false fun hb => ne ?_
  unfold spB at hb
  split at hb
  · rename_i e
    rw [if_pos e, h3]
    exact (box_iff.mp hb).2.2
  · rename_i e
    obtain ⟨k1, k2, k3⟩ := box_iff.mp hb
    rw [if_neg e, ← h2]
    show ys = clL m rows s0.2
    rw [← show clL m rows ys = ys from k2]
    unfold clL
    rw [← h3, show s0.1 = thI rows ys from k3]
theorem rev_ne {xs : List Int} (h : xs.Pairwise (· < ·)) (hl : 1 < xs.length) : xs.reverse ≠ xs := fun e => by
  have h2 : xs.reverse.Pairwise (fun a b => b < a) := List.pairwise_reverse.mpr h
  rw [e] at h2
  match xs, hl, h, h2 with
  | a :: b :: l, _, h, h2 =>
    have := (List.pairwise_cons.mp h).1 b (.head _)
    have := (List.pairwise_cons.mp h2).1 b (.head _)
    omega
def litN (c z : Int) : Int := ([-1, z, z + (c.fdiv 6).fmod ((10 : Int) ^ (20 : Int).toNat), -1 - (c.fdiv 6).fmod ((10 : Int) ^ (20 : Int).toNat)] : List Int).getD ((c.fdiv 6).fmod 4).toNat 0
section
variable {U : Wd} (T : Bl U.mg) (C : TabOk U) {f : Addr} {fd : FuncData} {x q : Str}
include T
theorem ok_spoiltB (F : Fun U.K x q s_law_spoilt f fd) : FnOk U.P U.w U.K U.mg U.base (L2.CX U.P U.w) 2 f fd ["_law_box_here", "_law_cell", "_law_many", "_law_rows"] (spK U A_spoilB) := by
  have hN := sc_law_spoilt.nd
  refine fn_okM F sc_law_spoilt (fun ds κ O h => ?_) (fun ds κ O r κ' h hO => ?_) fun ds κ O h => ?_
  · obtain ⟨m, rows, s0, c, rfl, _⟩ := h
    rfl
  · obtain ⟨m, rows, s0, c, rfl, rfl, _⟩ := h
    exact fun a ha => nomatch ha
  · obtain ⟨m, rows, s0, c, rfl, rfl, ⟨h0, h8, hr, hs0⟩, rfl⟩ := h
    obtain ⟨xs, hxs⟩ : ∃ xs, xs = (if c.fmod 2 = 0 then s0.1 else s0.2) := ⟨_, rfl⟩
    obtain ⟨z, hz⟩ : ∃ z : Int, z = (if c.fmod 2 = 0 then (rows.length : Int) else m) := ⟨_, rfl⟩
    have m0 := fmod_lo (a := c) (b := 2) (by decide)
    have m1 := fmod_hi (a := c) (b := 2) (by decide)
    have hc2 : c.fmod 2 = 0 ∨ c.fmod 2 = 1 := by omega
    have hbi := box_iff.mp hs0
    have hxl : xs.length ≤ 12 ∧ xs.Pairwise (· < ·) := by
      rw [hxs]
      split
      · exact ⟨box_l12 hs0 hr, by rw [hbi.2.2]; exact (th_in rows s0.2).rise⟩
      · have := in_len hbi.1 h0
        exact ⟨by omega, hbi.1.rise⟩
    have hat1 : atI [D.ints s0.1, D.ints s0.2] (c.fmod 2) = some (.ints xs) := by
      rw [hxs]
      rcases hc2 with e | e <;> rw [e] <;> rfl
    have hat2 : atI [D.int ((rows.map encS).length : Int), D.int m] (c.fmod 2) = some (.int z) := by
      rw [hz, List.length_map]
      rcases hc2 with e | e <;> rw [e] <;> rfl
    have hat3 : ∀ q : Addr, atI [D.tup [.cls q, .ints s0.2], .tup [.ints s0.1, .cls q]] (c.fmod 2) = some (if c.fmod 2 = 0 then .tup [.cls q, .ints s0.2] else .tup [.ints s0.1, .cls q]) := fun q => by
      rcases hc2 with e | e <;> rw [e] <;> rfl
    clear m0 m1
    refine sk_at (ρ' := [.sh (encR s0), .sh (.int c), .sh (.int m), .sh (D.sets rows), .no, .no, .no, .no]) rfl ?_
    refine sk_cons (sk_set (d := .int (c.fmod 2)) (em_of ?ze1) ?zR1 hN ?zi1 ?zj1)
    case zi1 => wtm_at "m.dec"
    case zj1 => wtm_at "m.dec"
    case ze1 => wtm_at "m.ed"
    case zR1 =>
    refine sk_at (ρ' := [.sh (encR s0), .sh (.int c), .sh (.int m), .sh (D.sets rows), .sh (.int (c.fmod 2)), .no, .no, .no]) rfl ?_
    refine sk_cons (sk_cell (ds := xs.map D.int) (em_of ?ze2) (fun q1 => ?zR2) hN ?zi2 ?zj2)
    case zi2 => wtm_at "m.dec"
    case zj2 => wtm_at "m.dec"
    case ze2 => wtm_at "m.ed"
    case zR2 =>
    clear hat1
    refine sk_kt (κ' := [(q1, xs.map D.int)]) rfl ?_
    refine sk_at (ρ' := [.sh (encR s0), .sh (.int c), .sh (.int m), .sh (D.sets rows), .sh (.int (c.fmod 2)), .sh (.cls q1), .no, .no]) rfl ?_
    refine sk_cons (sk_set (d := .int z) (em_of ?ze3) ?zR3 hN ?zi3 ?zj3)
    case zi3 => wtm_at "m.dec"
    case zj3 => wtm_at "m.dec"
    case ze3 => wtm_at "m.ed"
    case zR3 =>
    clear hat2
    refine sk_at (ρ' := [.sh (encR s0), .sh (.int c), .sh (.int m), .sh (D.sets rows), .sh (.int (c.fmod 2)), .sh (.cls q1), .sh (.int z), .no]) rfl ?_
    have hmx : (if z > 1 then z else 1) ≠ 0 := by split <;> omega
    refine sk_cons (sk_set (d := .int ((c.fdiv 6).fmod (if z > 1 then z else 1))) (em_of ?ze4) ?zR4 hN ?zi4 ?zj4)
    case zi4 => wtm_at "m.dec"
    case zj4 => wtm_at "m.dec"
    case ze4 => wtm_at "m.ed"
    case zR4 =>
    clear hmx
    generalize (c.fdiv 6).fmod (if z > 1 then z else 1) = n0
    refine sk_at (ρ' := [.sh (encR s0), .sh (.int c), .sh (.int m), .sh (D.sets rows), .sh (.int (c.fmod 2)), .sh (.cls q1), .sh (.int z), .sh (.int n0)]) rfl ?_
    have hp20 : (10 : Int) ^ (20 : Int).toNat ≠ 0 := by decide
    have u0 := fmod_lo (a := c.fdiv 6) (b := 4) (by decide)
    have u1 := fmod_hi (a := c.fdiv 6) (b := 4) (by decide)
    obtain ⟨n, hn⟩ : ∃ n : Int, n = (if (decide (z = 0) || decide ((c.fdiv 2).fmod 3 = 1)) = true then litN c z else n0) := ⟨_, rfl⟩
    refine' sk_cons (sk1 (s_ifset (k := decide (z = 0) || decide ((c.fdiv 2).fmod 3 = 1)) (d' := .int n) (TD.cast ?zca ?zcq) ?zea ?zh1a ?zh2a ?zh0a ?zqa hN ?zj1a ?zj2a))
    case zj1a => wtm_at "m.dec"
    case zj2a => wtm_at "m.dec"
    case zh0a => exact rfl
    case zca => wtm_at "m.td"
    case zcq => simp only [Rs.d, deq_int]
    case zea => intro _; wtm_at "m.eds"
    case zh1a =>
      intro hk
      rw [hn, if_pos hk]
      rfl
    case zh2a =>
      intro hk
      rw [hn, hk, if_neg Bool.false_ne_true]
    case zqa =>
    show SK _ _ _ _ _
    clear u0 u1 hp20 hn
    refine sk_at (ρ' := [.sh (encR s0), .sh (.int c), .sh (.int m), .sh (D.sets rows), .sh (.int (c.fmod 2)), .sh (.cls q1), .sh (.int z), .sh (.int n)]) rfl ?_
    have hO : Opn U [(q1, xs.map D.int)] (.cls q1) (.ints xs) := opn_ints (.head _)
    refine' sk_cons (SK1.imp (R' := fun o => ∃ (q : Addr) (ys : List Int) (κ' : List Cl), o = .nx [.sh (encR s0), .sh (.int c), .sh (.int m), .sh (D.sets rows), .sh (.int (c.fmod 2)), .sh (.cls q), .sh (.int z), .sh (.int n)] κ' ∧ [(q, ys.map D.int)].Sublist κ' ∧ ys.length ≤ 100 ∧ ys ≠ xs) (sk_if (k := decide (1 < xs.length) && decide ((c.fdiv 2).fmod 3 = 2)) (tm_open (ρ' := [.no, .sh (.int c), .no, .no, .no, .sh (.ints xs), .no, .no]) ?zo5 (TD.cast (b := ?zb5) ?zt5 ?zq5)) (fun hk => ?zA5) fun hk => ?zB5) ?zrest5)
    case zo5 => wtm_at "op.all2"
    case zt5 => wtm_at "m.td"
    case zq5 =>
      simp only [Rs.d, deq_int, List.length_map]
      rw [Bool.eq_iff_iff, Bool.and_eq_true, Bool.and_eq_true]
      simp only [decide_eq_true_iff]
      refine and_congr ?_ Iff.rfl
      omega
    case zA5 =>
      have hk1 : 1 < xs.length := by
        rw [Bool.and_eq_true] at hk
        exact of_decide_eq_true hk.1
      have u0 := fmod_lo (a := c.fdiv 6) (b := 3) (by decide)
      have u1 := fmod_hi (a := c.fdiv 6) (b := 3) (by decide)
      have hi3 : (c.fdiv 6).fmod 3 = 0 ∨ (c.fdiv 6).fmod 3 = 1 ∨ (c.fdiv 6).fmod 3 = 2 := by omega
      have hc1 : cutD (xs.map D.int) none (some 1) = (xs.take 1).map D.int := by
        have := cut_front (xs.map D.int) 1 (by rw [List.length_map]; omega)
        rw [show ((1 : Nat) : Int) = 1 from rfl] at this
        rw [this, List.map_take]
      have z1 : (xs.map D.int).length + ((xs.take 1).map D.int).length ≤ sizeLine := by
        rw [List.length_map, List.length_map, List.length_take, sizeLine_eq]
        omega
      have z2 : ((xs.take 1).map D.int).length + (xs.map D.int).length ≤ sizeLine := by
        rw [List.length_map, List.length_map, List.length_take, sizeLine_eq]
        omega
      obtain ⟨ys, hy1, hy2, hy3⟩ : ∃ ys : List Int, ((((c.fdiv 6).fmod 3) = 0 ∧ ys.map D.int = (xs.map D.int).reverse) ∨ (((c.fdiv 6).fmod 3) = 1 ∧ ys.map D.int = xs.map D.int ++ (xs.take 1).map D.int) ∨ (((c.fdiv 6).fmod 3) = 2 ∧ ys.map D.int = (xs.take 1).map D.int ++ xs.map D.int)) ∧ ys.length ≤ 100 ∧ ys ≠ xs := by
        rcases hi3 with e | e | e
        · exact ⟨xs.reverse, .inl ⟨e, List.map_reverse⟩, by rw [List.length_reverse]; omega, rev_ne hxl.2 hk1⟩
        · refine ⟨xs ++ xs.take 1, .inr (.inl ⟨e, List.map_append⟩), by rw [List.length_append, List.length_take]; omega, fun e => ?_⟩
          have := congrArg List.length e
          rw [List.length_append, List.length_take] at this
          omega
        · refine ⟨xs.take 1 ++ xs, .inr (.inr ⟨e, List.map_append⟩), by rw [List.length_append, List.length_take]; omega, fun e => ?_⟩
          have := congrArg List.length e
          rw [List.length_append, List.length_take] at this
          omega
      refine' sk_cons (sk_cell (ds := ys.map D.int) (em_open (r := .fr _) (ρ' := [.no, .sh (.int c), .no, .no, .no, .sh (.ints xs), .no, .no]) ?zo6 (ed_pick3 (d0 := (xs.map D.int).reverse) (d1 := xs.map D.int ++ (xs.take 1).map D.int) (d2 := (xs.take 1).map D.int ++ xs.map D.int) (i := (c.fdiv 6).fmod 3) (ed_listRev T (x := .sh (.ints xs)) ?ze6 rfl rfl rfl) (ed_cat (x := .sh (.ints xs)) (y := .fr _) ?zf6 (ED.cast (r := .fr (cutD (xs.map D.int) none (some 1))) ?zg6 (by rw [hc1])) rfl rfl z1) (ed_cat (x := .fr _) (y := .sh (.ints xs)) (ED.cast (r := .fr (cutD (xs.map D.int) none (some 1))) ?zh6 (by rw [hc1])) ?zk6 rfl rfl z2) ?zl6 hy1) shut_ints) (fun q2 => sk_nil ⟨q2, ys, _, rfl, .cons _ (.refl _), hy2, hy3⟩) hN ?zi6 ?zj6)
      case zi6 => wtm_at "m.dec"
      case zj6 => wtm_at "m.dec"
      case zo6 => wtm_at "op.all2"
      case ze6 => wtm_at "m.ed"
      case zf6 => wtm_at "m.ed"
      case zk6 => wtm_at "m.ed"
      case zg6 =>
        refine' ed_sl (x := .sh (.ints xs)) ?zga rfl ?zgb ?zgc
        case zga => wtm_at "m.ed"
        case zgb => wtm_at "m.od"
        case zgc => wtm_at "m.od"
      case zh6 =>
        refine' ed_sl (x := .sh (.ints xs)) ?zha rfl ?zhb ?zhc
        case zha => wtm_at "m.ed"
        case zhb => wtm_at "m.od"
        case zhc => wtm_at "m.od"
      case zl6 => clear u0 u1; wtm_at "m.ed"
    case zB5 =>
      refine' sk_cons (sk_if (k := decide (n ∈ xs)) (tm_open (ρ' := [.no, .no, .no, .no, .no, .sh (.ints xs), .no, .sh (.int n)]) ?zo7 (TD.cast (b := ?zb7) ?zt7 ?zq7)) (fun hk2 => ?zA7) fun hk2 => ?zB7)
      case zo7 => wtm_at "op.all2"
      case zt7 => wtm_at "m.td"
      case zq7 =>
        show ((xs.map D.int).any fun z => deq z (.int n)) = _
        rw [Enc.any Enc.int]
      case zA7 =>
        have hk2 := of_decide_eq_true hk2
        refine sk_cons (sk_rem (j := 0) (q := q1) (ns := xs) (k := n) (ed_var rfl ?zv8) rfl (em_of ?ze8) hk2 ?zR8)
        case zv8 => wtm_at "m.dec"
        case ze8 => wtm_at "m.ed"
        case zR8 =>
        refine sk_nil (sk_nil ⟨q1, xs.erase n, _, rfl, .refl _, ?_, fun e => ?_⟩)
        · have := List.length_erase_le (a := n) (l := xs)
          omega
        · have := congrArg List.length e
          rw [List.length_erase_of_mem hk2] at this
          have := List.length_pos_of_mem hk2
          omega
      case zB7 =>
        have z3 : (xs.map D.int).length + ([D.int n] : List D).length ≤ sizeLine := by
          rw [List.length_map, sizeLine_eq]
          show _ + 1 ≤ _
          omega
        have hil : (isort (xs ++ [n])).length = xs.length + 1 := by
          rw [(isort_perm _).length_eq, List.length_append]
          rfl
        refine' sk_cons (sk_cell (ds := (isort (xs ++ [n])).map D.int) (em_open (r := .fr _) (ρ' := [.no, .no, .no, .no, .no, .sh (.ints xs), .no, .sh (.int n)]) ?zo9 (ed_sorted T (x := .fr ((xs ++ [n]).map D.int)) (ED.cast (r := .fr (xs.map D.int ++ [D.int n])) (ed_cat (x := .sh (.ints xs)) (y := .fr _) ?ze9 ?zf9 rfl rfl z3) (by rw [List.map_append]; rfl)) rfl rfl) shut_ints) (fun q2 => sk_nil (sk_nil ⟨q2, isort (xs ++ [n]), _, rfl, .cons _ (.refl _), by omega, fun e => by rw [e] at hil; omega⟩)) hN ?zi9 ?zj9)
        case zi9 => wtm_at "m.dec"
        case zj9 => wtm_at "m.dec"
        case zo9 => wtm_at "op.all2"
        case ze9 => wtm_at "m.ed"
        case zf9 => wtm_at "m.ed"
    case zrest5 =>
    rintro _ ⟨q, ys, κ', rfl, hs, hyl, hyn⟩
    show SK _ _ _ _ _
    refine sk_sub hs ?_
    have hat := hat3 q
    refine sk_cons (sk_ret (r := .sh (if c.fmod 2 = 0 then .tup [.cls q, .ints s0.2] else .tup [.ints s0.1, .cls q])) (em_of ?ze10) ⟨q, ys, rfl, rfl, hyl, box_only hs0 (by rw [← hxs]; exact hyn)⟩)
    case ze10 => wtm_at "m.ed"
end
end Mb
set_option Elab.async false
set_option linter.all false
set_option maxRecDepth 100000
set_option maxHeartbeats 4000000
namespace Mb
open PySem PySem.Spec PyProof.Rows L2
theorem exm_mk {K : PySem.W.Frag} {c C : Addr} {b : Bool} (h1 : PySem.W.subIn K (.ref C) (.type "BaseException") = some true) (hd : PySem.W.hasDictIn K C = true) (ht : PySem.W.typeIn K (.ref C) = some (.type "type")) (h4 : PySem.W.subIn K (.ref c) (.ref C) = some b) : PySem.W.exmOne K (.ref c) (.ref C) = some b := PySem.W.exm_ref h1 hd ht h4
theorem kit_ref {K : PySem.W.Frag} {c C : Addr} {b : Bool} (h1 : PySem.W.subIn K (.ref c) (.ref c) = some true) (hd : PySem.W.hasDictIn K C = true) (ht : PySem.W.typeIn K (.ref C) = some (.type "type")) (h4 : PySem.W.subIn K (.ref c) (.ref C) = some b) : PySem.W.kitOne K (.ref c) (.ref C) = some b := by
  obtain ⟨cd, hc, _⟩ := PySem.W.any_some hd
  unfold PySem.W.kitOne
  by_cases e : c = C
  · subst e
    rw [h1] at h4
    cases h4
    rw [if_pos (beq_self_eq_true _)]
  · rw [if_neg (fun q => e (Value.ref.inj (beq_iff_eq.mp q)))]
    have e2 : ((PySem.W.clsIn K C).isSome && PySem.W.typeIn K (.ref C) == some (.type "type")) = true := by rw [hc, ht] <;> rfl
    show (if ((PySem.W.clsIn K C).isSome && PySem.W.typeIn K (.ref C) == some (.type "type")) = true then PySem.W.subIn K (.ref c) (.ref C) else none) = some b
    rw [if_pos e2]
    exact h4
theorem kit_typ {K : PySem.W.Frag} {c : Addr} {T : String} {b : Bool} (hm : PySem.W.kitMeta T = true) (h : PySem.W.subIn K (.ref c) (.type T) = some b) : PySem.W.kitOne K (.ref c) (.type T) = some b := by
  unfold PySem.W.kitOne
  have e : ¬ ((Value.ref c == Value.type T) = true) := fun q => by
    have := beq_iff_eq.mp q
    cases this
  rw [if_neg e]
  show (if PySem.W.kitMeta T = true then PySem.W.subIn K (.ref c) (.type T) else none) = some b
  rw [if_pos hm]
  exact h
def spL (K : PySem.W.Frag) : Sp := fun vs H Q _ => ∃ (a : Addr) (ns : List Int), vs = [.ref a] ∧ SqL K H a (ns.map V.int) ∧ ns.length ≤ 63 ∧ ∀ H', Q (.bl true) H'
theorem law_sp {U : Wd} (nw : ∀ a, U.nw a) {vs : List V} {H : Hp} {Q : VK} {E : XK} (h : spL U.K vs H Q E) : spX U A_law vs H Q E := by
  obtain ⟨a, ns, rfl, hS, hl, q⟩ := h
  refine ⟨[.scr ns], .inl (.sh (.bl true)), H, ⟨ns, rfl, hl, rfl⟩, Ex.refl H, fun a _ => nw a, .cons (.scr hS) .nil, fun r e v S' H' g rep => ?_, fun c e => nomatch e⟩
  cases e
  cases rep
  exact q _
theorem noCX {P : Program} {w : World} {outer : List Env} {H : Hp} {s : Shared} {e : Value} {s' : Shared} (h : L2.CX P w outer H s (fun _ _ _ => False) e s') : False := by
  obtain ⟨_, _, _, _, _, _, _, _, _, _, _, _, hE⟩ := h
  exact hE
open PySem PySem.Spec PyProof.Rows L2
theorem all_mk {l : PySem.W.OpenLaw} {w : World} {K : PySem.W.Frag} {h : Heap} {mg : Str → Option Value} {fa C f1 f2 f3 f4 f5 f6 f7 f8 f9 f10 f11 f12 f13 f14 f15 f16 f17 f18 f19 f20 f21 f22 f23 f24 f25 f26 f27 f28 f29 f30 f31 f32 f33 f34 f35 f36 f37 f38 cBadSize cBadMark cBadThing cNoBox cMarkError : Addr} (X : K.In h) (G : h.Ns mainGlobals mg) (hfa : mg "law" = some (.ref fa))
    {od1 an1 od2 an2 od3 an3 od4 an4 od5 an5 od6 an6 od7 an7 od8 an8 od9 an9 od10 an10 od11 an11 od12 an12 od13 an13 od14 an14 od15 an15 od16 an16 od17 an17 od18 an18 od19 an19 od20 an20 od21 an21 od22 an22 od23 an23 od24 an24 od25 an25 od26 an26 od27 an27 od28 an28 od29 an29 od30 an30 od31 an31 od32 an32 od33 an33 od34 an34 od35 an35 od36 an36 od37 an37 od38 an38 : Option Addr} {sl1 sl2 sl3 sl4 sl5 sl6 sl7 sl8 sl9 sl10 sl11 sl12 sl13 sl14 sl15 sl16 sl17 sl18 sl19 sl20 sl21 sl22 sl23 sl24 sl25 sl26 sl27 sl28 sl29 sl30 sl31 sl32 sl33 sl34 sl35 sl36 sl37 sl38 : Array (Option Value)} {oc1 kV1 dc1 pm1 cd1 ct1 oc2 kV2 dc2 pm2 cd2 ct2 oc3 kV3 dc3 pm3 cd3 ct3 oc4 kV4 dc4 pm4 cd4 ct4 oc5 kV5 dc5 pm5 cd5 ct5 oc6 kV6 dc6 pm6 cd6 ct6 oc7 kV7 dc7 pm7 cd7 ct7 oc8 kV8 dc8 pm8 cd8 ct8 oc9 kV9 dc9 pm9 cd9 ct9 oc10 kV10 dc10 pm10 cd10 ct10 oc11 kV11 dc11 pm11 cd11 ct11 oc12 kV12 dc12 pm12 cd12 ct12 oc13 kV13 dc13 pm13 cd13 ct13 oc14 kV14 dc14 pm14 cd14 ct14 oc15 kV15 dc15 pm15 cd15 ct15 oc16 kV16 dc16 pm16 cd16 ct16 oc17 kV17 dc17 pm17 cd17 ct17 oc18 kV18 dc18 pm18 cd18 ct18 oc19 kV19 dc19 pm19 cd19 ct19 oc20 kV20 dc20 pm20 cd20 ct20 oc21 kV21 dc21 pm21 cd21 ct21 oc22 kV22 dc22 pm22 cd22 ct22 oc23 kV23 dc23 pm23 cd23 ct23 oc24 kV24 dc24 pm24 cd24 ct24 oc25 kV25 dc25 pm25 cd25 ct25 oc26 kV26 dc26 pm26 cd26 ct26 oc27 kV27 dc27 pm27 cd27 ct27 oc28 kV28 dc28 pm28 cd28 ct28 oc29 kV29 dc29 pm29 cd29 ct29 oc30 kV30 dc30 pm30 cd30 ct30 oc31 kV31 dc31 pm31 cd31 ct31 oc32 kV32 dc32 pm32 cd32 ct32 oc33 kV33 dc33 pm33 cd33 ct33 oc34 kV34 dc34 pm34 cd34 ct34 oc35 kV35 dc35 pm35 cd35 ct35 oc36 kV36 dc36 pm36 cd36 ct36 oc37 kV37 dc37 pm37 cd37 ct37 oc38 kV38 dc38 pm38 cd38 ct38 : Value} {tk0 tk1 : Tok}
    (aC : PySem.W.nsIn K mainGlobals "Table" = some (some (.ref C)))
    (pg : PySem.W.plainGet K C Str.empty = true)
    (hd : PySem.W.hasDictIn K C = true)
    (po : PySem.W.plainOver K C = true)
    (sa : PySem.W.findIn K (.ref C) "__setattr__" = some (some (.builtin "object.__setattr__")))
    (mk : PySem.W.makesIn K C = true)
    (kc : PySem.W.keepIn K (.ref C) = true)
    (nM : PySem.W.findIn K (.ref C) "many" = some none)
    (nR : PySem.W.findIn K (.ref C) "rows" = some none)
    (a1 : PySem.W.nsIn K mainGlobals "within" = some (some (.ref f1)))
    (l1 : K.lookup f1 = some ⟨oc1, od1, .func (PySem.W.fnOf "within" "within" (defArgs s_within) (defBody s_within) (defScope s_within) .none kV1 dc1 pm1 an1 cd1 ct1), sl1⟩)
    (c1 : PySem.W.codeIn K cd1 "within" = true)
    (k1 : PySem.W.keepIn K (.ref f1) = true)
    (a2 : PySem.W.nsIn K mainGlobals "plain" = some (some (.ref f2)))
    (l2 : K.lookup f2 = some ⟨oc2, od2, .func (PySem.W.fnOf "plain" "plain" (defArgs s_plain) (defBody s_plain) (defScope s_plain) .none kV2 dc2 pm2 an2 cd2 ct2), sl2⟩)
    (c2 : PySem.W.codeIn K cd2 "plain" = true)
    (k2 : PySem.W.keepIn K (.ref f2) = true)
    (a3 : PySem.W.findIn K (.ref C) "need_marks" = some (some (.ref f3)))
    (i3 : PySem.W.isFn K (.ref f3) = true)
    (l3 : K.lookup f3 = some ⟨oc3, od3, .func (PySem.W.fnOf "need_marks" "Table.need_marks" (defArgs s_Table_need_marks) (defBody s_Table_need_marks) (defScope s_Table_need_marks) .none kV3 dc3 pm3 an3 cd3 ct3), sl3⟩)
    (c3 : PySem.W.codeIn K cd3 "Table.need_marks" = true)
    (k3 : PySem.W.keepIn K (.ref f3) = true)
    (a4 : PySem.W.findIn K (.ref C) "__init__" = some (some (.ref f4)))
    (i4 : PySem.W.isFn K (.ref f4) = true)
    (l4 : K.lookup f4 = some ⟨oc4, od4, .func (PySem.W.fnOf "__init__" "Table.__init__" (defArgs s_Table_init) (defBody s_Table_init) (defScope s_Table_init) .none kV4 dc4 pm4 an4 cd4 ct4), sl4⟩)
    (c4 : PySem.W.codeIn K cd4 "Table.__init__" = true)
    (k4 : PySem.W.keepIn K (.ref f4) = true)
    (a5 : PySem.W.findIn K (.ref C) "things_with" = some (some (.ref f5)))
    (i5 : PySem.W.isFn K (.ref f5) = true)
    (l5 : K.lookup f5 = some ⟨oc5, od5, .func (PySem.W.fnOf "things_with" "Table.things_with" (defArgs s_Table_things_with) (defBody s_Table_things_with) (defScope s_Table_things_with) .none kV5 dc5 pm5 an5 cd5 ct5), sl5⟩)
    (c5 : PySem.W.codeIn K cd5 "Table.things_with" = true)
    (k5 : PySem.W.keepIn K (.ref f5) = true)
    (a6 : PySem.W.findIn K (.ref C) "marks_of" = some (some (.ref f6)))
    (i6 : PySem.W.isFn K (.ref f6) = true)
    (l6 : K.lookup f6 = some ⟨oc6, od6, .func (PySem.W.fnOf "marks_of" "Table.marks_of" (defArgs s_Table_marks_of) (defBody s_Table_marks_of) (defScope s_Table_marks_of) .none kV6 dc6 pm6 an6 cd6 ct6), sl6⟩)
    (c6 : PySem.W.codeIn K cd6 "Table.marks_of" = true)
    (k6 : PySem.W.keepIn K (.ref f6) = true)
    (a7 : PySem.W.findIn K (.ref C) "closed" = some (some (.ref f7)))
    (i7 : PySem.W.isFn K (.ref f7) = true)
    (l7 : K.lookup f7 = some ⟨oc7, od7, .func (PySem.W.fnOf "closed" "Table.closed" (defArgs s_Table_closed) (defBody s_Table_closed) (defScope s_Table_closed) .none kV7 dc7 pm7 an7 cd7 ct7), sl7⟩)
    (c7 : PySem.W.codeIn K cd7 "Table.closed" = true)
    (k7 : PySem.W.keepIn K (.ref f7) = true)
    (a8 : PySem.W.nsIn K mainGlobals "both" = some (some (.ref f8)))
    (l8 : K.lookup f8 = some ⟨oc8, od8, .func (PySem.W.fnOf "both" "both" (defArgs s_both) (defBody s_both) (defScope s_both) .none kV8 dc8 pm8 an8 cd8 ct8), sl8⟩)
    (c8 : PySem.W.codeIn K cd8 "both" = true)
    (k8 : PySem.W.keepIn K (.ref f8) = true)
    (a9 : PySem.W.nsIn K mainGlobals "ordered" = some (some (.ref f9)))
    (l9 : K.lookup f9 = some ⟨oc9, od9, .func (PySem.W.fnOf "ordered" "ordered" (defArgs s_ordered) (defBody s_ordered) (defScope s_ordered) .none kV9 dc9 pm9 an9 cd9 ct9), sl9⟩)
    (c9 : PySem.W.codeIn K cd9 "ordered" = true)
    (k9 : PySem.W.keepIn K (.ref f9) = true)
    (a10 : PySem.W.nsIn K mainGlobals "all_sets" = some (some (.ref f10)))
    (l10 : K.lookup f10 = some ⟨oc10, od10, .func (PySem.W.fnOf "all_sets" "all_sets" (defArgs s_all_sets) (defBody s_all_sets) (defScope s_all_sets) .none kV10 dc10 pm10 an10 cd10 ct10), sl10⟩)
    (c10 : PySem.W.codeIn K cd10 "all_sets" = true)
    (k10 : PySem.W.keepIn K (.ref f10) = true)
    (a11 : PySem.W.nsIn K mainGlobals "is_knot" = some (some (.ref f11)))
    (l11 : K.lookup f11 = some ⟨oc11, od11, .func (PySem.W.fnOf "is_knot" "is_knot" (defArgs s_is_knot) (defBody s_is_knot) (defScope s_is_knot) .none kV11 dc11 pm11 an11 cd11 ct11), sl11⟩)
    (c11 : PySem.W.codeIn K cd11 "is_knot" = true)
    (k11 : PySem.W.keepIn K (.ref f11) = true)
    (a12 : PySem.W.nsIn K mainGlobals "fewest" = some (some (.ref f12)))
    (l12 : K.lookup f12 = some ⟨oc12, od12, .func (PySem.W.fnOf "fewest" "fewest" (defArgs s_fewest) (defBody s_fewest) (defScope s_fewest) .none kV12 dc12 pm12 an12 cd12 ct12), sl12⟩)
    (c12 : PySem.W.codeIn K cd12 "fewest" = true)
    (k12 : PySem.W.keepIn K (.ref f12) = true)
    (a13 : PySem.W.nsIn K mainGlobals "boxes" = some (some (.ref f13)))
    (l13 : K.lookup f13 = some ⟨oc13, od13, .func (PySem.W.fnOf "boxes" "boxes" (defArgs s_boxes) (defBody s_boxes) (defScope s_boxes) .none kV13 dc13 pm13 an13 cd13 ct13), sl13⟩)
    (c13 : PySem.W.codeIn K cd13 "boxes" = true)
    (k13 : PySem.W.keepIn K (.ref f13) = true)
    (a14 : PySem.W.nsIn K mainGlobals "lies_under" = some (some (.ref f14)))
    (l14 : K.lookup f14 = some ⟨oc14, od14, .func (PySem.W.fnOf "lies_under" "lies_under" (defArgs s_lies_under) (defBody s_lies_under) (defScope s_lies_under) .none kV14 dc14 pm14 an14 cd14 ct14), sl14⟩)
    (c14 : PySem.W.codeIn K cd14 "lies_under" = true)
    (k14 : PySem.W.keepIn K (.ref f14) = true)
    (a15 : PySem.W.nsIn K mainGlobals "right_over" = some (some (.ref f15)))
    (l15 : K.lookup f15 = some ⟨oc15, od15, .func (PySem.W.fnOf "right_over" "right_over" (defArgs s_right_over) (defBody s_right_over) (defScope s_right_over) .none kV15 dc15 pm15 an15 cd15 ct15), sl15⟩)
    (c15 : PySem.W.codeIn K cd15 "right_over" = true)
    (k15 : PySem.W.keepIn K (.ref f15) = true)
    (a16 : PySem.W.nsIn K mainGlobals "steps" = some (some (.ref f16)))
    (l16 : K.lookup f16 = some ⟨oc16, od16, .func (PySem.W.fnOf "steps" "steps" (defArgs s_steps) (defBody s_steps) (defScope s_steps) .none kV16 dc16 pm16 an16 cd16 ct16), sl16⟩)
    (c16 : PySem.W.codeIn K cd16 "steps" = true)
    (k16 : PySem.W.keepIn K (.ref f16) = true)
    (a17 : PySem.W.nsIn K mainGlobals "need_boxes" = some (some (.ref f17)))
    (l17 : K.lookup f17 = some ⟨oc17, od17, .func (PySem.W.fnOf "need_boxes" "need_boxes" (defArgs s_need_boxes) (defBody s_need_boxes) (defScope s_need_boxes) .none kV17 dc17 pm17 an17 cd17 ct17), sl17⟩)
    (c17 : PySem.W.codeIn K cd17 "need_boxes" = true)
    (k17 : PySem.W.keepIn K (.ref f17) = true)
    (a18 : PySem.W.nsIn K mainGlobals "over" = some (some (.ref f18)))
    (l18 : K.lookup f18 = some ⟨oc18, od18, .func (PySem.W.fnOf "over" "over" (defArgs s_over) (defBody s_over) (defScope s_over) .none kV18 dc18 pm18 an18 cd18 ct18), sl18⟩)
    (c18 : PySem.W.codeIn K cd18 "over" = true)
    (k18 : PySem.W.keepIn K (.ref f18) = true)
    (a19 : PySem.W.nsIn K mainGlobals "under" = some (some (.ref f19)))
    (l19 : K.lookup f19 = some ⟨oc19, od19, .func (PySem.W.fnOf "under" "under" (defArgs s_under) (defBody s_under) (defScope s_under) .none kV19 dc19 pm19 an19 cd19 ct19), sl19⟩)
    (c19 : PySem.W.codeIn K cd19 "under" = true)
    (k19 : PySem.W.keepIn K (.ref f19) = true)
    (a20 : PySem.W.nsIn K mainGlobals "_law_whole" = some (some (.ref f20)))
    (l20 : K.lookup f20 = some ⟨oc20, od20, .func (PySem.W.fnOf "_law_whole" "_law_whole" (defArgs s_law_whole) (defBody s_law_whole) (defScope s_law_whole) .none kV20 dc20 pm20 an20 cd20 ct20), sl20⟩)
    (c20 : PySem.W.codeIn K cd20 "_law_whole" = true)
    (k20 : PySem.W.keepIn K (.ref f20) = true)
    (a21 : PySem.W.nsIn K mainGlobals "_law_cell_at" = some (some (.ref f21)))
    (l21 : K.lookup f21 = some ⟨oc21, od21, .func (PySem.W.fnOf "_law_cell_at" "_law_cell_at" (defArgs s_law_cell_at) (defBody s_law_cell_at) (defScope s_law_cell_at) .none kV21 dc21 pm21 an21 cd21 ct21), sl21⟩)
    (c21 : PySem.W.codeIn K cd21 "_law_cell_at" = true)
    (k21 : PySem.W.keepIn K (.ref f21) = true)
    (a22 : PySem.W.nsIn K mainGlobals "_law_mix" = some (some (.ref f22)))
    (l22 : K.lookup f22 = some ⟨oc22, od22, .func (PySem.W.fnOf "_law_mix" "_law_mix" (defArgs s_law_mix) (defBody s_law_mix) (defScope s_law_mix) .none kV22 dc22 pm22 an22 cd22 ct22), sl22⟩)
    (c22 : PySem.W.codeIn K cd22 "_law_mix" = true)
    (k22 : PySem.W.keepIn K (.ref f22) = true)
    (a23 : PySem.W.nsIn K mainGlobals "_law_on" = some (some (.ref f23)))
    (l23 : K.lookup f23 = some ⟨oc23, od23, .func (PySem.W.fnOf "_law_on" "_law_on" (defArgs s_law_on) (defBody s_law_on) (defScope s_law_on) .none kV23 dc23 pm23 an23 cd23 ct23), sl23⟩)
    (c23 : PySem.W.codeIn K cd23 "_law_on" = true)
    (k23 : PySem.W.keepIn K (.ref f23) = true)
    (a24 : PySem.W.nsIn K mainGlobals "_law_table_by" = some (some (.ref f24)))
    (l24 : K.lookup f24 = some ⟨oc24, od24, .func (PySem.W.fnOf "_law_table_by" "_law_table_by" (defArgs s_law_table_by) (defBody s_law_table_by) (defScope s_law_table_by) .none kV24 dc24 pm24 an24 cd24 ct24), sl24⟩)
    (c24 : PySem.W.codeIn K cd24 "_law_table_by" = true)
    (k24 : PySem.W.keepIn K (.ref f24) = true)
    (a25 : PySem.W.nsIn K mainGlobals "_law_box" = some (some (.ref f25)))
    (l25 : K.lookup f25 = some ⟨oc25, od25, .func (PySem.W.fnOf "_law_box" "_law_box" (defArgs s_law_box) (defBody s_law_box) (defScope s_law_box) .none kV25 dc25 pm25 an25 cd25 ct25), sl25⟩)
    (c25 : PySem.W.codeIn K cd25 "_law_box" = true)
    (k25 : PySem.W.keepIn K (.ref f25) = true)
    (a26 : PySem.W.nsIn K mainGlobals "_law_drawn" = some (some (.ref f26)))
    (l26 : K.lookup f26 = some ⟨oc26, od26, .func (PySem.W.fnOf "_law_drawn" "_law_drawn" (defArgs s_law_drawn) (defBody s_law_drawn) (defScope s_law_drawn) .none kV26 dc26 pm26 an26 cd26 ct26), sl26⟩)
    (c26 : PySem.W.codeIn K cd26 "_law_drawn" = true)
    (k26 : PySem.W.keepIn K (.ref f26) = true)
    (a27 : PySem.W.nsIn K mainGlobals "_law_same" = some (some (.ref f27)))
    (l27 : K.lookup f27 = some ⟨oc27, od27, .func (PySem.W.fnOf "_law_same" "_law_same" (defArgs s_law_same) (defBody s_law_same) (defScope s_law_same) .none kV27 dc27 pm27 an27 cd27 ct27), sl27⟩)
    (c27 : PySem.W.codeIn K cd27 "_law_same" = true)
    (k27 : PySem.W.keepIn K (.ref f27) = true)
    (a28 : PySem.W.nsIn K mainGlobals "_law_spoilt" = some (some (.ref f28)))
    (l28 : K.lookup f28 = some ⟨oc28, od28, .func (PySem.W.fnOf "_law_spoilt" "_law_spoilt" (defArgs s_law_spoilt) (defBody s_law_spoilt) (defScope s_law_spoilt) .none kV28 dc28 pm28 an28 cd28 ct28), sl28⟩)
    (c28 : PySem.W.codeIn K cd28 "_law_spoilt" = true)
    (k28 : PySem.W.keepIn K (.ref f28) = true)
    (a29 : PySem.W.nsIn K mainGlobals "_law_tried" = some (some (.ref f29)))
    (l29 : K.lookup f29 = some ⟨oc29, od29, .func (PySem.W.fnOf "_law_tried" "_law_tried" (defArgs s_law_tried) (defBody s_law_tried) (defScope s_law_tried) .none kV29 dc29 pm29 an29 cd29 ct29), sl29⟩)
    (c29 : PySem.W.codeIn K cd29 "_law_tried" = true)
    (k29 : PySem.W.keepIn K (.ref f29) = true)
    (a30 : PySem.W.nsIn K mainGlobals "_law_refused_by_any" = some (some (.ref f30)))
    (l30 : K.lookup f30 = some ⟨oc30, od30, .func (PySem.W.fnOf "_law_refused_by_any" "_law_refused_by_any" (defArgs s_law_refused_by_any) (defBody s_law_refused_by_any) (defScope s_law_refused_by_any) .none kV30 dc30 pm30 an30 cd30 ct30), sl30⟩)
    (c30 : PySem.W.codeIn K cd30 "_law_refused_by_any" = true)
    (k30 : PySem.W.keepIn K (.ref f30) = true)
    (a31 : PySem.W.nsIn K mainGlobals "_law_refuses" = some (some (.ref f31)))
    (l31 : K.lookup f31 = some ⟨oc31, od31, .func (PySem.W.fnOf "_law_refuses" "_law_refuses" (defArgs s_law_refuses) (defBody s_law_refuses) (defScope s_law_refuses) .none kV31 dc31 pm31 an31 cd31 ct31), sl31⟩)
    (c31 : PySem.W.codeIn K cd31 "_law_refuses" = true)
    (k31 : PySem.W.keepIn K (.ref f31) = true)
    (a32 : PySem.W.nsIn K mainGlobals "_law_due" = some (some (.ref f32)))
    (l32 : K.lookup f32 = some ⟨oc32, od32, .func (PySem.W.fnOf "_law_due" "_law_due" (defArgs s_law_due) (defBody s_law_due) (defScope s_law_due) .none kV32 dc32 pm32 an32 cd32 ct32), sl32⟩)
    (c32 : PySem.W.codeIn K cd32 "_law_due" = true)
    (k32 : PySem.W.keepIn K (.ref f32) = true)
    (a33 : PySem.W.nsIn K mainGlobals "_law_refused_and_told" = some (some (.ref f33)))
    (l33 : K.lookup f33 = some ⟨oc33, od33, .func (PySem.W.fnOf "_law_refused_and_told" "_law_refused_and_told" (defArgs s_law_refused_and_told) (defBody s_law_refused_and_told) (defScope s_law_refused_and_told) .none kV33 dc33 pm33 an33 cd33 ct33), sl33⟩)
    (c33 : PySem.W.codeIn K cd33 "_law_refused_and_told" = true)
    (k33 : PySem.W.keepIn K (.ref f33) = true)
    (a34 : PySem.W.nsIn K mainGlobals "_law_third_fits" = some (some (.ref f34)))
    (l34 : K.lookup f34 = some ⟨oc34, od34, .func (PySem.W.fnOf "_law_third_fits" "_law_third_fits" (defArgs s_law_third_fits) (defBody s_law_third_fits) (defScope s_law_third_fits) .none kV34 dc34 pm34 an34 cd34 ct34), sl34⟩)
    (c34 : PySem.W.codeIn K cd34 "_law_third_fits" = true)
    (k34 : PySem.W.keepIn K (.ref f34) = true)
    (a35 : PySem.W.nsIn K mainGlobals "_law_beside" = some (some (.ref f35)))
    (l35 : K.lookup f35 = some ⟨oc35, od35, .func (PySem.W.fnOf "_law_beside" "_law_beside" (defArgs s_law_beside) (defBody s_law_beside) (defScope s_law_beside) .none kV35 dc35 pm35 an35 cd35 ct35), sl35⟩)
    (c35 : PySem.W.codeIn K cd35 "_law_beside" = true)
    (k35 : PySem.W.keepIn K (.ref f35) = true)
    (a36 : PySem.W.nsIn K mainGlobals "_law_exchanged" = some (some (.ref f36)))
    (l36 : K.lookup f36 = some ⟨oc36, od36, .func (PySem.W.fnOf "_law_exchanged" "_law_exchanged" (defArgs s_law_exchanged) (defBody s_law_exchanged) (defScope s_law_exchanged) .none kV36 dc36 pm36 an36 cd36 ct36), sl36⟩)
    (c36 : PySem.W.codeIn K cd36 "_law_exchanged" = true)
    (k36 : PySem.W.keepIn K (.ref f36) = true)
    (a37 : PySem.W.nsIn K mainGlobals "_law_ahead" = some (some (.ref f37)))
    (l37 : K.lookup f37 = some ⟨oc37, od37, .func (PySem.W.fnOf "_law_ahead" "_law_ahead" (defArgs s_law_ahead) (defBody s_law_ahead) (defScope s_law_ahead) .none kV37 dc37 pm37 an37 cd37 ct37), sl37⟩)
    (c37 : PySem.W.codeIn K cd37 "_law_ahead" = true)
    (k37 : PySem.W.keepIn K (.ref f37) = true)
    (a38 : PySem.W.nsIn K mainGlobals "law" = some (some (.ref f38)))
    (l38 : K.lookup f38 = some ⟨oc38, od38, .func (PySem.W.fnOf "law" "law" (defArgs s_law) (defBody s_law) (defScope s_law) .none kV38 dc38 pm38 an38 cd38 ct38), sl38⟩)
    (c38 : PySem.W.codeIn K cd38 "law" = true)
    (k38 : PySem.W.keepIn K (.ref f38) = true)
    (gBadSize : PySem.W.nsIn K mainGlobals "BadSize" = some (some (.ref cBadSize)))
    (kBadSize : PySem.W.keepIn K (.ref cBadSize) = true)
    (qBadSize : PySem.W.excIn K cBadSize [.type "ValueError", .type "Exception", .type "BaseException", .type "object"] "ValueError.__new__" = true)
    (sBadSize : PySem.W.subIn K (.ref cBadSize) (.type "BaseException") = some true)
    (tBadSize : PySem.W.typeIn K (.ref cBadSize) = some (.type "type"))
    (gBadMark : PySem.W.nsIn K mainGlobals "BadMark" = some (some (.ref cBadMark)))
    (kBadMark : PySem.W.keepIn K (.ref cBadMark) = true)
    (qBadMark : PySem.W.excIn K cBadMark [.type "ValueError", .type "Exception", .type "BaseException", .type "object"] "ValueError.__new__" = true)
    (sBadMark : PySem.W.subIn K (.ref cBadMark) (.type "BaseException") = some true)
    (tBadMark : PySem.W.typeIn K (.ref cBadMark) = some (.type "type"))
    (gBadThing : PySem.W.nsIn K mainGlobals "BadThing" = some (some (.ref cBadThing)))
    (kBadThing : PySem.W.keepIn K (.ref cBadThing) = true)
    (qBadThing : PySem.W.excIn K cBadThing [.type "ValueError", .type "Exception", .type "BaseException", .type "object"] "ValueError.__new__" = true)
    (sBadThing : PySem.W.subIn K (.ref cBadThing) (.type "BaseException") = some true)
    (tBadThing : PySem.W.typeIn K (.ref cBadThing) = some (.type "type"))
    (gNoBox : PySem.W.nsIn K mainGlobals "NoBox" = some (some (.ref cNoBox)))
    (kNoBox : PySem.W.keepIn K (.ref cNoBox) = true)
    (qNoBox : PySem.W.excIn K cNoBox [.type "ValueError", .type "Exception", .type "BaseException", .type "object"] "ValueError.__new__" = true)
    (sNoBox : PySem.W.subIn K (.ref cNoBox) (.type "BaseException") = some true)
    (tNoBox : PySem.W.typeIn K (.ref cNoBox) = some (.type "type"))
    (gMarkError : PySem.W.nsIn K mainGlobals "MarkError" = some (some (.ref cMarkError)))
    (kMarkError : PySem.W.keepIn K (.ref cMarkError) = true)
    (qMarkError : PySem.W.excIn K cMarkError [.type "ValueError", .type "Exception", .type "BaseException", .type "object"] "ValueError.__new__" = true)
    (sMarkError : PySem.W.subIn K (.ref cMarkError) (.type "BaseException") = some true)
    (tMarkError : PySem.W.typeIn K (.ref cMarkError) = some (.type "type"))
    (n0 : PySem.W.nsIn K mainGlobals "MOST_MARKS" = some (some (.int 8 tk0)))
    (n1 : PySem.W.nsIn K mainGlobals "MOST_THINGS" = some (some (.int 12 tk1)))
    (z1 : PySem.W.nsIn K mainGlobals "len" = some none)
    (z2 : PySem.W.nsIn K mainGlobals "list" = some none)
    (z3 : PySem.W.nsIn K mainGlobals "all" = some none)
    (z4 : PySem.W.nsIn K mainGlobals "any" = some none)
    (z5 : PySem.W.nsIn K mainGlobals "sorted" = some none)
    (z6 : PySem.W.nsIn K mainGlobals "sum" = some none)
    (z7 : PySem.W.nsIn K mainGlobals "max" = some none)
    (z8 : PySem.W.nsIn K mainGlobals "min" = some none)
    (z9 : PySem.W.nsIn K mainGlobals "int" = some none)
    (z10 : PySem.W.nsIn K mainGlobals "bool" = some none)
    (z11 : PySem.W.nsIn K mainGlobals "tuple" = some none)
    (z12 : PySem.W.nsIn K mainGlobals "isinstance" = some none)
    (z13 : PySem.W.nsIn K mainGlobals "range" = some none)
    (z14 : PySem.W.nsIn K mainGlobals "reversed" = some none)
    (nbValueError : PySem.W.nsIn K mainGlobals "ValueError" = some none)
    (xgNoBox : PySem.W.findIn K (.ref cNoBox) "__getattribute__" = some (some (.builtin "BaseException.__getattribute__")))
    (xkNoBox : PySem.W.findIn K (.ref cNoBox) "__getattr__" = some none)
    (xsNoBox : PySem.W.subIn K (.ref cNoBox) (.type "BaseException") = some true)
    (xdNoBox : PySem.W.hasDictIn K cNoBox = true)
    (xaNoBox : PySem.W.findIn K (.ref cNoBox) "__class__" = some (some (.builtin "object.__class__")))
    (xnNoBox : PySem.W.specialIn K (.builtin "object.__class__") "__get__" = some (some (.builtin "getset_descriptor.__get__")))
    (xtNoBox : PySem.W.takesIn K (.builtin "object.__class__") = some true)
    (xmNoBox : PySem.W.mroIn K cNoBox (.type "object") = some true)
    (ddNoBox : PySem.W.hasDictIn K cNoBox = true)
    (ddMarkError : PySem.W.hasDictIn K cMarkError = true)
    (ddBadMark : PySem.W.hasDictIn K cBadMark = true)
    (ddBadThing : PySem.W.hasDictIn K cBadThing = true)
    (ddBadSize : PySem.W.hasDictIn K cBadSize = true)
    (ssNoBoxNoBox : PySem.W.subIn K (.ref cNoBox) (.ref cNoBox) = some true)
    (ssNoBoxMarkError : PySem.W.subIn K (.ref cNoBox) (.ref cMarkError) = some true)
    (ssNoBoxValueError : PySem.W.subIn K (.ref cNoBox) (.type "ValueError") = some true)
    (ssNoBoxBadMark : PySem.W.subIn K (.ref cNoBox) (.ref cBadMark) = some false)
    (ssNoBoxBadThing : PySem.W.subIn K (.ref cNoBox) (.ref cBadThing) = some false)
    (ssNoBoxBadSize : PySem.W.subIn K (.ref cNoBox) (.ref cBadSize) = some false)
    : ∃ fd : FuncData, (∀ (s : Shared) (v : Value), BindsTo s fd ⟨[v], []⟩ [("_law_script", v)]) ∧ ∀ base : Heap, K.In base → base.Ns mainGlobals mg → FnOk l.prog w K mg base (L2.CX l.prog w) 9 fa fd ["_law_script"] (spL K) := by
  have e := hfa.symm.trans (PySem.W.mg_of X G a38)
  cases e
  have F1 := fun_mk (st := s_within) l1 c1 k1
  have b1 := F1.binds (ps := ["one", "other"]) fun _ _ _ _ _ _ us hl => match us, hl with | [_, _], _ => rfl
  have F2 := fun_mk (st := s_plain) l2 c2 k2
  have b2 := F2.binds (ps := ["numbers"]) fun _ _ _ _ _ _ us hl => match us, hl with | [_], _ => rfl
  have F3 := fun_mk (st := s_Table_need_marks) l3 c3 k3
  have b3 := F3.binds (ps := ["self", "marks"]) fun _ _ _ _ _ _ us hl => match us, hl with | [_, _], _ => rfl
  have F4 := fun_mk (st := s_Table_init) l4 c4 k4
  have b4 := F4.binds (ps := ["self", "many", "rows"]) fun _ _ _ _ _ _ us hl => match us, hl with | [_, _, _], _ => rfl
  have F5 := fun_mk (st := s_Table_things_with) l5 c5 k5
  have b5 := F5.binds (ps := ["self", "marks"]) fun _ _ _ _ _ _ us hl => match us, hl with | [_, _], _ => rfl
  have F6 := fun_mk (st := s_Table_marks_of) l6 c6 k6
  have b6 := F6.binds (ps := ["self", "things"]) fun _ _ _ _ _ _ us hl => match us, hl with | [_, _], _ => rfl
  have F7 := fun_mk (st := s_Table_closed) l7 c7 k7
  have b7 := F7.binds (ps := ["self", "marks"]) fun _ _ _ _ _ _ us hl => match us, hl with | [_, _], _ => rfl
  have F8 := fun_mk (st := s_both) l8 c8 k8
  have b8 := F8.binds (ps := ["one", "other"]) fun _ _ _ _ _ _ us hl => match us, hl with | [_, _], _ => rfl
  have F9 := fun_mk (st := s_ordered) l9 c9 k9
  have b9 := F9.binds (ps := ["sets"]) fun _ _ _ _ _ _ us hl => match us, hl with | [_], _ => rfl
  have F10 := fun_mk (st := s_all_sets) l10 c10 k10
  have b10 := F10.binds (ps := ["many"]) fun _ _ _ _ _ _ us hl => match us, hl with | [_], _ => rfl
  have F11 := fun_mk (st := s_is_knot) l11 c11 k11
  have b11 := F11.binds (ps := ["marks", "pairs"]) fun _ _ _ _ _ _ us hl => match us, hl with | [_, _], _ => rfl
  have F12 := fun_mk (st := s_fewest) l12 c12 k12
  have b12 := F12.binds (ps := ["table"]) fun _ _ _ _ _ _ us hl => match us, hl with | [_], _ => rfl
  have F13 := fun_mk (st := s_boxes) l13 c13 k13
  have b13 := F13.binds (ps := ["table"]) fun _ _ _ _ _ _ us hl => match us, hl with | [_], _ => rfl
  have F14 := fun_mk (st := s_lies_under) l14 c14 k14
  have b14 := F14.binds (ps := ["one", "other"]) fun _ _ _ _ _ _ us hl => match us, hl with | [_, _], _ => rfl
  have F15 := fun_mk (st := s_right_over) l15 c15 k15
  have b15 := F15.binds (ps := ["found", "k"]) fun _ _ _ _ _ _ us hl => match us, hl with | [_, _], _ => rfl
  have F16 := fun_mk (st := s_steps) l16 c16 k16
  have b16 := F16.binds (ps := ["table"]) fun _ _ _ _ _ _ us hl => match us, hl with | [_], _ => rfl
  have F17 := fun_mk (st := s_need_boxes) l17 c17 k17
  have b17 := F17.binds (ps := ["table", "some"]) fun _ _ _ _ _ _ us hl => match us, hl with | [_, _], _ => rfl
  have F18 := fun_mk (st := s_over) l18 c18 k18
  have b18 := F18.binds (ps := ["table", "one", "other"]) fun _ _ _ _ _ _ us hl => match us, hl with | [_, _, _], _ => rfl
  have F19 := fun_mk (st := s_under) l19 c19 k19
  have b19 := F19.binds (ps := ["table", "one", "other"]) fun _ _ _ _ _ _ us hl => match us, hl with | [_, _, _], _ => rfl
  have F20 := fun_mk (st := s_law_whole) l20 c20 k20
  have b20 := F20.binds (ps := ["_law_found"]) fun _ _ _ _ _ _ us hl => match us, hl with | [_], _ => rfl
  have F21 := fun_mk (st := s_law_cell_at) l21 c21 k21
  have b21 := F21.binds (ps := ["_law_script", "_law_k"]) fun _ _ _ _ _ _ us hl => match us, hl with | [_, _], _ => rfl
  have F22 := fun_mk (st := s_law_mix) l22 c22 k22
  have b22 := F22.binds (ps := ["_law_script", "_law_first", "_law_k"]) fun _ _ _ _ _ _ us hl => match us, hl with | [_, _, _], _ => rfl
  have F23 := fun_mk (st := s_law_on) l23 c23 k23
  have b23 := F23.binds (ps := ["_law_number", "_law_mark", "_law_way", "_law_many"]) fun _ _ _ _ _ _ us hl => match us, hl with | [_, _, _, _], _ => rfl
  have F24 := fun_mk (st := s_law_table_by) l24 c24 k24
  have b24 := F24.binds (ps := ["_law_script"]) fun _ _ _ _ _ _ us hl => match us, hl with | [_], _ => rfl
  have F25 := fun_mk (st := s_law_box) l25 c25 k25
  have b25 := F25.binds (ps := ["_law_many", "_law_rows", "_law_marks"]) fun _ _ _ _ _ _ us hl => match us, hl with | [_, _, _], _ => rfl
  have F26 := fun_mk (st := s_law_drawn) l26 c26 k26
  have b26 := F26.binds (ps := ["_law_script", "_law_at", "_law_many", "_law_rows"]) fun _ _ _ _ _ _ us hl => match us, hl with | [_, _, _, _], _ => rfl
  have F27 := fun_mk (st := s_law_same) l27 c27 k27
  have b27 := F27.binds (ps := ["_law_found", "_law_due_here"]) fun _ _ _ _ _ _ us hl => match us, hl with | [_, _], _ => rfl
  have F28 := fun_mk (st := s_law_spoilt) l28 c28 k28
  have b28 := F28.binds (ps := ["_law_box_here", "_law_cell", "_law_many", "_law_rows"]) fun _ _ _ _ _ _ us hl => match us, hl with | [_, _, _, _], _ => rfl
  have F29 := fun_mk (st := s_law_tried) l29 c29 k29
  have b29 := F29.binds (ps := ["_law_table", "_law_way", "_law_one", "_law_other"]) fun _ _ _ _ _ _ us hl => match us, hl with | [_, _, _, _], _ => rfl
  have F30 := fun_mk (st := s_law_refused_by_any) l30 c30 k30
  have b30 := F30.binds (ps := ["_law_table", "_law_way", "_law_one", "_law_other"]) fun _ _ _ _ _ _ us hl => match us, hl with | [_, _, _, _], _ => rfl
  have F31 := fun_mk (st := s_law_refuses) l31 c31 k31
  have b31 := F31.binds (ps := ["_law_table", "_law_bad", "_law_good"]) fun _ _ _ _ _ _ us hl => match us, hl with | [_, _, _], _ => rfl
  have F32 := fun_mk (st := s_law_due) l32 c32 k32
  have b32 := F32.binds (ps := ["_law_many", "_law_rows", "_law_one", "_law_other"]) fun _ _ _ _ _ _ us hl => match us, hl with | [_, _, _, _], _ => rfl
  have F33 := fun_mk (st := s_law_refused_and_told) l33 c33 k33
  have b33 := F33.binds (ps := ["_law_table", "_law_some", "_law_many", "_law_rows", "_law_cell"]) fun _ _ _ _ _ _ us hl => match us, hl with | [_, _, _, _, _], _ => rfl
  have F34 := fun_mk (st := s_law_third_fits) l34 c34 k34
  have b34 := F34.binds (ps := ["_law_third", "_law_some", "_law_high", "_law_low"]) fun _ _ _ _ _ _ us hl => match us, hl with | [_, _, _, _], _ => rfl
  have F35 := fun_mk (st := s_law_beside) l35 c35 k35
  have b35 := F35.binds (ps := ["_law_many", "_law_rows", "_law_marks"]) fun _ _ _ _ _ _ us hl => match us, hl with | [_, _, _], _ => rfl
  have F36 := fun_mk (st := s_law_exchanged) l36 c36 k36
  have b36 := F36.binds (ps := ["_law_table", "_law_handed", "_law_some", "_law_due_here"]) fun _ _ _ _ _ _ us hl => match us, hl with | [_, _, _, _], _ => rfl
  have F37 := fun_mk (st := s_law_ahead) l37 c37 k37
  have b37 := F37.binds (ps := ["_law_table", "_law_cell"]) fun _ _ _ _ _ _ us hl => match us, hl with | [_, _], _ => rfl
  have F38 := fun_mk (st := s_law) l38 c38 k38
  have T : Bl mg := ⟨PySem.W.mg_none_of X G z1, PySem.W.mg_none_of X G z2, PySem.W.mg_none_of X G z3, PySem.W.mg_none_of X G z4, PySem.W.mg_none_of X G z5, PySem.W.mg_none_of X G z6, PySem.W.mg_none_of X G z7, PySem.W.mg_none_of X G z8, PySem.W.mg_none_of X G z9, PySem.W.mg_none_of X G z10, PySem.W.mg_none_of X G z11, PySem.W.mg_none_of X G z12, PySem.W.mg_none_of X G z13, PySem.W.mg_none_of X G z14⟩
  refine ⟨PySem.W.fnOf "law" "law" (defArgs s_law) (defBody s_law) (defScope s_law) .none kV38 dc38 pm38 an38 cd38 ct38, fun s v => .of_eq rfl, fun base _ _ => ?_⟩
  have TC : ∀ N, TabOk ⟨l.prog, w, K, mg, base, C, N⟩ := fun N => ⟨⟨pg, hd, po, sa⟩, nM, nR⟩
  have xBadSize : ∀ N, ExT ⟨l.prog, w, K, mg, base, C, N⟩ "BadSize" cBadSize := fun N => ⟨PySem.W.mg_of X G gBadSize, kBadSize, qBadSize, sBadSize, tBadSize⟩
  have xBadMark : ∀ N, ExT ⟨l.prog, w, K, mg, base, C, N⟩ "BadMark" cBadMark := fun N => ⟨PySem.W.mg_of X G gBadMark, kBadMark, qBadMark, sBadMark, tBadMark⟩
  have xBadThing : ∀ N, ExT ⟨l.prog, w, K, mg, base, C, N⟩ "BadThing" cBadThing := fun N => ⟨PySem.W.mg_of X G gBadThing, kBadThing, qBadThing, sBadThing, tBadThing⟩
  have xNoBox : ∀ N, ExT ⟨l.prog, w, K, mg, base, C, N⟩ "NoBox" cNoBox := fun N => ⟨PySem.W.mg_of X G gNoBox, kNoBox, qNoBox, sNoBox, tNoBox⟩
  have xMarkError : ∀ N, ExT ⟨l.prog, w, K, mg, base, C, N⟩ "MarkError" cMarkError := fun N => ⟨PySem.W.mg_of X G gMarkError, kMarkError, qMarkError, sMarkError, tMarkError⟩
  have m0 := PySem.W.mg_of X G n0
  have m1 := PySem.W.mg_of X G n1
  have mbValueError := PySem.W.mg_none_of X G nbValueError
  have xcNoBox : ExcC K cNoBox := ⟨xgNoBox, xkNoBox, xsNoBox, xdNoBox, xaNoBox, xnNoBox, xtNoBox, xmNoBox⟩
  have emNoBoxNoBox := exm_mk sNoBox ddNoBox tNoBox ssNoBoxNoBox
  have emNoBoxMarkError := exm_mk sMarkError ddMarkError tMarkError ssNoBoxMarkError
  have kiNoBoxValueError : PySem.W.kitOne K (.ref cNoBox) (.type "ValueError") = some true := (kit_typ (by decide +kernel) ssNoBoxValueError)
  have kaNoBoxBadMarkBadThingBadSize : PySem.W.kitAny K (.ref cNoBox) [.ref cBadMark, .ref cBadThing, .ref cBadSize] = some false := (kitAny_cons (kit_ref ssNoBoxNoBox ddBadMark tBadMark ssNoBoxBadMark) (fun h => (kitAny_cons (kit_ref ssNoBoxNoBox ddBadThing tBadThing ssNoBoxBadThing) (fun h => (kitAny_cons (kit_ref ssNoBoxNoBox ddBadSize tBadSize ssNoBoxBadSize) (fun h => kitAny_nil) (fun h => nomatch h))) (fun h => nomatch h))) (fun h => nomatch h))
  have h1 : ∀ N, FnT ⟨l.prog, w, K, mg, base, C, N⟩ "within" 1 A_within := by
    intro N
    have yC := TC N
    have yBadSize := xBadSize N
    have yBadMark := xBadMark N
    have yBadThing := xBadThing N
    have yNoBox := xNoBox N
    have yMarkError := xMarkError N
    have er : ErrsN ⟨l.prog, w, K, mg, base, C, N⟩ cNoBox cMarkError cBadMark cBadThing cBadSize := ⟨xcNoBox, emNoBoxNoBox, emNoBoxMarkError, kiNoBoxValueError, kaNoBoxBadMarkBadThingBadSize⟩
    refine ⟨f1, _, ["one", "other"], PySem.W.mg_of X G a1, k1, b1, ?_⟩
    apply ok_within (U := ⟨l.prog, w, K, mg, base, C, N⟩) <;> assumption
  have h2 : ∀ N, FnT ⟨l.prog, w, K, mg, base, C, N⟩ "plain" 1 A_plain := by
    intro N
    have yC := TC N
    have yBadSize := xBadSize N
    have yBadMark := xBadMark N
    have yBadThing := xBadThing N
    have yNoBox := xNoBox N
    have yMarkError := xMarkError N
    have y1 := h1 N
    have er : ErrsN ⟨l.prog, w, K, mg, base, C, N⟩ cNoBox cMarkError cBadMark cBadThing cBadSize := ⟨xcNoBox, emNoBoxNoBox, emNoBoxMarkError, kiNoBoxValueError, kaNoBoxBadMarkBadThingBadSize⟩
    refine ⟨f2, _, ["numbers"], PySem.W.mg_of X G a2, k2, b2, ?_⟩
    apply ok_plain (U := ⟨l.prog, w, K, mg, base, C, N⟩) <;> assumption
  have h3 : ∀ N, MtT ⟨l.prog, w, K, mg, base, C, N⟩ "need_marks" 1 (A_need cBadMark) := by
    intro N
    have yC := TC N
    have yBadSize := xBadSize N
    have yBadMark := xBadMark N
    have yBadThing := xBadThing N
    have yNoBox := xNoBox N
    have yMarkError := xMarkError N
    have y1 := h1 N
    have y2 := h2 N
    have er : ErrsN ⟨l.prog, w, K, mg, base, C, N⟩ cNoBox cMarkError cBadMark cBadThing cBadSize := ⟨xcNoBox, emNoBoxNoBox, emNoBoxMarkError, kiNoBoxValueError, kaNoBoxBadMarkBadThingBadSize⟩
    refine ⟨f3, _, ["self", "marks"], ⟨a3, i3, k3⟩, b3, ?_⟩
    apply ok_need (U := ⟨l.prog, w, K, mg, base, C, N⟩) <;> assumption
  have h4 : ∀ N, MkT ⟨l.prog, w, K, mg, base, C, N⟩ cBadSize cBadMark 2 := by
    intro N
    have yC := TC N
    have yBadSize := xBadSize N
    have yBadMark := xBadMark N
    have yBadThing := xBadThing N
    have yNoBox := xNoBox N
    have yMarkError := xMarkError N
    have y1 := h1 N
    have y2 := h2 N
    have y3 := h3 N
    have er : ErrsN ⟨l.prog, w, K, mg, base, C, N⟩ cNoBox cMarkError cBadMark cBadThing cBadSize := ⟨xcNoBox, emNoBoxNoBox, emNoBoxMarkError, kiNoBoxValueError, kaNoBoxBadMarkBadThingBadSize⟩
    refine ⟨f4, _, ["self", "many", "rows"], PySem.W.mg_of X G aC, ⟨mk, a4, i4, kc⟩, b4, ?_⟩
    apply ok_init (U := ⟨l.prog, w, K, mg, base, C, N⟩) <;> assumption
  have h5 : ∀ N, MtT ⟨l.prog, w, K, mg, base, C, N⟩ "things_with" 2 (A_things cBadMark) := by
    intro N
    have yC := TC N
    have yBadSize := xBadSize N
    have yBadMark := xBadMark N
    have yBadThing := xBadThing N
    have yNoBox := xNoBox N
    have yMarkError := xMarkError N
    have y1 := h1 N
    have y2 := h2 N
    have y3 := h3 N
    have y4 := h4 N
    have er : ErrsN ⟨l.prog, w, K, mg, base, C, N⟩ cNoBox cMarkError cBadMark cBadThing cBadSize := ⟨xcNoBox, emNoBoxNoBox, emNoBoxMarkError, kiNoBoxValueError, kaNoBoxBadMarkBadThingBadSize⟩
    refine ⟨f5, _, ["self", "marks"], ⟨a5, i5, k5⟩, b5, ?_⟩
    apply ok_things (U := ⟨l.prog, w, K, mg, base, C, N⟩) <;> assumption
  have h6 : ∀ N, MtT ⟨l.prog, w, K, mg, base, C, N⟩ "marks_of" 1 (A_marks cBadThing) := by
    intro N
    have yC := TC N
    have yBadSize := xBadSize N
    have yBadMark := xBadMark N
    have yBadThing := xBadThing N
    have yNoBox := xNoBox N
    have yMarkError := xMarkError N
    have y1 := h1 N
    have y2 := h2 N
    have y3 := h3 N
    have y4 := h4 N
    have y5 := h5 N
    have er : ErrsN ⟨l.prog, w, K, mg, base, C, N⟩ cNoBox cMarkError cBadMark cBadThing cBadSize := ⟨xcNoBox, emNoBoxNoBox, emNoBoxMarkError, kiNoBoxValueError, kaNoBoxBadMarkBadThingBadSize⟩
    refine ⟨f6, _, ["self", "things"], ⟨a6, i6, k6⟩, b6, ?_⟩
    apply ok_marks (U := ⟨l.prog, w, K, mg, base, C, N⟩) <;> assumption
  have h7 : ∀ N, MtT ⟨l.prog, w, K, mg, base, C, N⟩ "closed" 3 (A_closed cBadMark) := by
    intro N
    have yC := TC N
    have yBadSize := xBadSize N
    have yBadMark := xBadMark N
    have yBadThing := xBadThing N
    have yNoBox := xNoBox N
    have yMarkError := xMarkError N
    have y1 := h1 N
    have y2 := h2 N
    have y3 := h3 N
    have y4 := h4 N
    have y5 := h5 N
    have y6 := h6 N
    have er : ErrsN ⟨l.prog, w, K, mg, base, C, N⟩ cNoBox cMarkError cBadMark cBadThing cBadSize := ⟨xcNoBox, emNoBoxNoBox, emNoBoxMarkError, kiNoBoxValueError, kaNoBoxBadMarkBadThingBadSize⟩
    refine ⟨f7, _, ["self", "marks"], ⟨a7, i7, k7⟩, b7, ?_⟩
    apply ok_closed (U := ⟨l.prog, w, K, mg, base, C, N⟩) <;> assumption
  have h8 : ∀ N, FnT ⟨l.prog, w, K, mg, base, C, N⟩ "both" 1 A_both := by
    intro N
    have yC := TC N
    have yBadSize := xBadSize N
    have yBadMark := xBadMark N
    have yBadThing := xBadThing N
    have yNoBox := xNoBox N
    have yMarkError := xMarkError N
    have y1 := h1 N
    have y2 := h2 N
    have y3 := h3 N
    have y4 := h4 N
    have y5 := h5 N
    have y6 := h6 N
    have y7 := h7 N
    have er : ErrsN ⟨l.prog, w, K, mg, base, C, N⟩ cNoBox cMarkError cBadMark cBadThing cBadSize := ⟨xcNoBox, emNoBoxNoBox, emNoBoxMarkError, kiNoBoxValueError, kaNoBoxBadMarkBadThingBadSize⟩
    refine ⟨f8, _, ["one", "other"], PySem.W.mg_of X G a8, k8, b8, ?_⟩
    apply ok_both (U := ⟨l.prog, w, K, mg, base, C, N⟩) <;> assumption
  have h9 : ∀ N, FnT ⟨l.prog, w, K, mg, base, C, N⟩ "ordered" 1 A_ordered := by
    intro N
    have yC := TC N
    have yBadSize := xBadSize N
    have yBadMark := xBadMark N
    have yBadThing := xBadThing N
    have yNoBox := xNoBox N
    have yMarkError := xMarkError N
    have y1 := h1 N
    have y2 := h2 N
    have y3 := h3 N
    have y4 := h4 N
    have y5 := h5 N
    have y6 := h6 N
    have y7 := h7 N
    have y8 := h8 N
    have er : ErrsN ⟨l.prog, w, K, mg, base, C, N⟩ cNoBox cMarkError cBadMark cBadThing cBadSize := ⟨xcNoBox, emNoBoxNoBox, emNoBoxMarkError, kiNoBoxValueError, kaNoBoxBadMarkBadThingBadSize⟩
    refine ⟨f9, _, ["sets"], PySem.W.mg_of X G a9, k9, b9, ?_⟩
    apply ok_ordered (U := ⟨l.prog, w, K, mg, base, C, N⟩) <;> assumption
  have h10 : ∀ N, FnT ⟨l.prog, w, K, mg, base, C, N⟩ "all_sets" 2 A_all := by
    intro N
    have yC := TC N
    have yBadSize := xBadSize N
    have yBadMark := xBadMark N
    have yBadThing := xBadThing N
    have yNoBox := xNoBox N
    have yMarkError := xMarkError N
    have y1 := h1 N
    have y2 := h2 N
    have y3 := h3 N
    have y4 := h4 N
    have y5 := h5 N
    have y6 := h6 N
    have y7 := h7 N
    have y8 := h8 N
    have y9 := h9 N
    have er : ErrsN ⟨l.prog, w, K, mg, base, C, N⟩ cNoBox cMarkError cBadMark cBadThing cBadSize := ⟨xcNoBox, emNoBoxNoBox, emNoBoxMarkError, kiNoBoxValueError, kaNoBoxBadMarkBadThingBadSize⟩
    refine ⟨f10, _, ["many"], PySem.W.mg_of X G a10, k10, b10, ?_⟩
    apply ok_all (U := ⟨l.prog, w, K, mg, base, C, N⟩) <;> assumption
  have h11 : ∀ N, FnT ⟨l.prog, w, K, mg, base, C, N⟩ "is_knot" 2 A_knot := by
    intro N
    have yC := TC N
    have yBadSize := xBadSize N
    have yBadMark := xBadMark N
    have yBadThing := xBadThing N
    have yNoBox := xNoBox N
    have yMarkError := xMarkError N
    have y1 := h1 N
    have y2 := h2 N
    have y3 := h3 N
    have y4 := h4 N
    have y5 := h5 N
    have y6 := h6 N
    have y7 := h7 N
    have y8 := h8 N
    have y9 := h9 N
    have y10 := h10 N
    have er : ErrsN ⟨l.prog, w, K, mg, base, C, N⟩ cNoBox cMarkError cBadMark cBadThing cBadSize := ⟨xcNoBox, emNoBoxNoBox, emNoBoxMarkError, kiNoBoxValueError, kaNoBoxBadMarkBadThingBadSize⟩
    refine ⟨f11, _, ["marks", "pairs"], PySem.W.mg_of X G a11, k11, b11, ?_⟩
    apply ok_knot (U := ⟨l.prog, w, K, mg, base, C, N⟩) <;> assumption
  have h12 : ∀ N, FnT ⟨l.prog, w, K, mg, base, C, N⟩ "fewest" 4 A_fewest := by
    intro N
    have yC := TC N
    have yBadSize := xBadSize N
    have yBadMark := xBadMark N
    have yBadThing := xBadThing N
    have yNoBox := xNoBox N
    have yMarkError := xMarkError N
    have y1 := h1 N
    have y2 := h2 N
    have y3 := h3 N
    have y4 := h4 N
    have y5 := h5 N
    have y6 := h6 N
    have y7 := h7 N
    have y8 := h8 N
    have y9 := h9 N
    have y10 := h10 N
    have y11 := h11 N
    have er : ErrsN ⟨l.prog, w, K, mg, base, C, N⟩ cNoBox cMarkError cBadMark cBadThing cBadSize := ⟨xcNoBox, emNoBoxNoBox, emNoBoxMarkError, kiNoBoxValueError, kaNoBoxBadMarkBadThingBadSize⟩
    refine ⟨f12, _, ["table"], PySem.W.mg_of X G a12, k12, b12, ?_⟩
    apply ok_fewest (U := ⟨l.prog, w, K, mg, base, C, N⟩) <;> assumption
  have h12a : ∀ N, FnA ⟨l.prog, w, K, mg, base, C, N⟩ "fewest" 4 A_fewest := by
    refine fun _ => ⟨f12, _, ["table"], PySem.W.mg_of X G a12, k12, b12, fun N => ?_⟩
    have yC := TC N
    have yBadSize := xBadSize N
    have yBadMark := xBadMark N
    have yBadThing := xBadThing N
    have yNoBox := xNoBox N
    have yMarkError := xMarkError N
    have y1 := h1 N
    have y2 := h2 N
    have y3 := h3 N
    have y4 := h4 N
    have y5 := h5 N
    have y6 := h6 N
    have y7 := h7 N
    have y8 := h8 N
    have y9 := h9 N
    have y10 := h10 N
    have y11 := h11 N
    have er : ErrsN ⟨l.prog, w, K, mg, base, C, N⟩ cNoBox cMarkError cBadMark cBadThing cBadSize := ⟨xcNoBox, emNoBoxNoBox, emNoBoxMarkError, kiNoBoxValueError, kaNoBoxBadMarkBadThingBadSize⟩
    apply ok_fewest (U := ⟨l.prog, w, K, mg, base, C, N⟩) <;> assumption
  have h13 : ∀ N, FnT ⟨l.prog, w, K, mg, base, C, N⟩ "boxes" 3 A_boxes := by
    intro N
    have yC := TC N
    have yBadSize := xBadSize N
    have yBadMark := xBadMark N
    have yBadThing := xBadThing N
    have yNoBox := xNoBox N
    have yMarkError := xMarkError N
    have y1 := h1 N
    have y2 := h2 N
    have y3 := h3 N
    have y4 := h4 N
    have y5 := h5 N
    have y6 := h6 N
    have y7 := h7 N
    have y8 := h8 N
    have y9 := h9 N
    have y10 := h10 N
    have y11 := h11 N
    have y12 := h12 N
    have y12a := h12a N
    have er : ErrsN ⟨l.prog, w, K, mg, base, C, N⟩ cNoBox cMarkError cBadMark cBadThing cBadSize := ⟨xcNoBox, emNoBoxNoBox, emNoBoxMarkError, kiNoBoxValueError, kaNoBoxBadMarkBadThingBadSize⟩
    refine ⟨f13, _, ["table"], PySem.W.mg_of X G a13, k13, b13, ?_⟩
    apply ok_boxes (U := ⟨l.prog, w, K, mg, base, C, N⟩) <;> assumption
  have h13a : ∀ N, FnA ⟨l.prog, w, K, mg, base, C, N⟩ "boxes" 3 A_boxes := by
    refine fun _ => ⟨f13, _, ["table"], PySem.W.mg_of X G a13, k13, b13, fun N => ?_⟩
    have yC := TC N
    have yBadSize := xBadSize N
    have yBadMark := xBadMark N
    have yBadThing := xBadThing N
    have yNoBox := xNoBox N
    have yMarkError := xMarkError N
    have y1 := h1 N
    have y2 := h2 N
    have y3 := h3 N
    have y4 := h4 N
    have y5 := h5 N
    have y6 := h6 N
    have y7 := h7 N
    have y8 := h8 N
    have y9 := h9 N
    have y10 := h10 N
    have y11 := h11 N
    have y12 := h12 N
    have y12a := h12a N
    have er : ErrsN ⟨l.prog, w, K, mg, base, C, N⟩ cNoBox cMarkError cBadMark cBadThing cBadSize := ⟨xcNoBox, emNoBoxNoBox, emNoBoxMarkError, kiNoBoxValueError, kaNoBoxBadMarkBadThingBadSize⟩
    apply ok_boxes (U := ⟨l.prog, w, K, mg, base, C, N⟩) <;> assumption
  have h14 : ∀ N, FnT ⟨l.prog, w, K, mg, base, C, N⟩ "lies_under" 2 A_lies := by
    intro N
    have yC := TC N
    have yBadSize := xBadSize N
    have yBadMark := xBadMark N
    have yBadThing := xBadThing N
    have yNoBox := xNoBox N
    have yMarkError := xMarkError N
    have y1 := h1 N
    have y2 := h2 N
    have y3 := h3 N
    have y4 := h4 N
    have y5 := h5 N
    have y6 := h6 N
    have y7 := h7 N
    have y8 := h8 N
    have y9 := h9 N
    have y10 := h10 N
    have y11 := h11 N
    have y12 := h12 N
    have y12a := h12a N
    have y13 := h13 N
    have y13a := h13a N
    have er : ErrsN ⟨l.prog, w, K, mg, base, C, N⟩ cNoBox cMarkError cBadMark cBadThing cBadSize := ⟨xcNoBox, emNoBoxNoBox, emNoBoxMarkError, kiNoBoxValueError, kaNoBoxBadMarkBadThingBadSize⟩
    refine ⟨f14, _, ["one", "other"], PySem.W.mg_of X G a14, k14, b14, ?_⟩
    apply ok_lies (U := ⟨l.prog, w, K, mg, base, C, N⟩) <;> assumption
  have h15 : ∀ N, FnT ⟨l.prog, w, K, mg, base, C, N⟩ "right_over" 3 A_rover := by
    intro N
    have yC := TC N
    have yBadSize := xBadSize N
    have yBadMark := xBadMark N
    have yBadThing := xBadThing N
    have yNoBox := xNoBox N
    have yMarkError := xMarkError N
    have y1 := h1 N
    have y2 := h2 N
    have y3 := h3 N
    have y4 := h4 N
    have y5 := h5 N
    have y6 := h6 N
    have y7 := h7 N
    have y8 := h8 N
    have y9 := h9 N
    have y10 := h10 N
    have y11 := h11 N
    have y12 := h12 N
    have y12a := h12a N
    have y13 := h13 N
    have y13a := h13a N
    have y14 := h14 N
    have er : ErrsN ⟨l.prog, w, K, mg, base, C, N⟩ cNoBox cMarkError cBadMark cBadThing cBadSize := ⟨xcNoBox, emNoBoxNoBox, emNoBoxMarkError, kiNoBoxValueError, kaNoBoxBadMarkBadThingBadSize⟩
    refine ⟨f15, _, ["found", "k"], PySem.W.mg_of X G a15, k15, b15, ?_⟩
    apply ok_rover (U := ⟨l.prog, w, K, mg, base, C, N⟩) <;> assumption
  have h16 : ∀ N, FnT ⟨l.prog, w, K, mg, base, C, N⟩ "steps" 4 A_steps := by
    intro N
    have yC := TC N
    have yBadSize := xBadSize N
    have yBadMark := xBadMark N
    have yBadThing := xBadThing N
    have yNoBox := xNoBox N
    have yMarkError := xMarkError N
    have y1 := h1 N
    have y2 := h2 N
    have y3 := h3 N
    have y4 := h4 N
    have y5 := h5 N
    have y6 := h6 N
    have y7 := h7 N
    have y8 := h8 N
    have y9 := h9 N
    have y10 := h10 N
    have y11 := h11 N
    have y12 := h12 N
    have y12a := h12a N
    have y13 := h13 N
    have y13a := h13a N
    have y14 := h14 N
    have y15 := h15 N
    have er : ErrsN ⟨l.prog, w, K, mg, base, C, N⟩ cNoBox cMarkError cBadMark cBadThing cBadSize := ⟨xcNoBox, emNoBoxNoBox, emNoBoxMarkError, kiNoBoxValueError, kaNoBoxBadMarkBadThingBadSize⟩
    refine ⟨f16, _, ["table"], PySem.W.mg_of X G a16, k16, b16, ?_⟩
    apply ok_steps (U := ⟨l.prog, w, K, mg, base, C, N⟩) <;> assumption
  have h17 : ∀ N, FnT ⟨l.prog, w, K, mg, base, C, N⟩ "need_boxes" 4 (A_needB cNoBox) := by
    intro N
    have yC := TC N
    have yBadSize := xBadSize N
    have yBadMark := xBadMark N
    have yBadThing := xBadThing N
    have yNoBox := xNoBox N
    have yMarkError := xMarkError N
    have y1 := h1 N
    have y2 := h2 N
    have y3 := h3 N
    have y4 := h4 N
    have y5 := h5 N
    have y6 := h6 N
    have y7 := h7 N
    have y8 := h8 N
    have y9 := h9 N
    have y10 := h10 N
    have y11 := h11 N
    have y12 := h12 N
    have y12a := h12a N
    have y13 := h13 N
    have y13a := h13a N
    have y14 := h14 N
    have y15 := h15 N
    have y16 := h16 N
    have er : ErrsN ⟨l.prog, w, K, mg, base, C, N⟩ cNoBox cMarkError cBadMark cBadThing cBadSize := ⟨xcNoBox, emNoBoxNoBox, emNoBoxMarkError, kiNoBoxValueError, kaNoBoxBadMarkBadThingBadSize⟩
    refine ⟨f17, _, ["table", "some"], PySem.W.mg_of X G a17, k17, b17, ?_⟩
    apply ok_needB (U := ⟨l.prog, w, K, mg, base, C, N⟩) <;> assumption
  have h18 : ∀ N, FnT ⟨l.prog, w, K, mg, base, C, N⟩ "over" 5 (A_over cNoBox) := by
    intro N
    have yC := TC N
    have yBadSize := xBadSize N
    have yBadMark := xBadMark N
    have yBadThing := xBadThing N
    have yNoBox := xNoBox N
    have yMarkError := xMarkError N
    have y1 := h1 N
    have y2 := h2 N
    have y3 := h3 N
    have y4 := h4 N
    have y5 := h5 N
    have y6 := h6 N
    have y7 := h7 N
    have y8 := h8 N
    have y9 := h9 N
    have y10 := h10 N
    have y11 := h11 N
    have y12 := h12 N
    have y12a := h12a N
    have y13 := h13 N
    have y13a := h13a N
    have y14 := h14 N
    have y15 := h15 N
    have y16 := h16 N
    have y17 := h17 N
    have er : ErrsN ⟨l.prog, w, K, mg, base, C, N⟩ cNoBox cMarkError cBadMark cBadThing cBadSize := ⟨xcNoBox, emNoBoxNoBox, emNoBoxMarkError, kiNoBoxValueError, kaNoBoxBadMarkBadThingBadSize⟩
    refine ⟨f18, _, ["table", "one", "other"], PySem.W.mg_of X G a18, k18, b18, ?_⟩
    apply ok_over (U := ⟨l.prog, w, K, mg, base, C, N⟩) <;> assumption
  have h18k : ∀ N, FnK ⟨l.prog, w, K, mg, base, C, N⟩ "over" 5 (A_ovC ⟨l.prog, w, K, mg, base, C, N⟩ false) := by
    intro N
    have yC := TC N
    have yBadSize := xBadSize N
    have yBadMark := xBadMark N
    have yBadThing := xBadThing N
    have yNoBox := xNoBox N
    have yMarkError := xMarkError N
    have y1 := h1 N
    have y2 := h2 N
    have y3 := h3 N
    have y4 := h4 N
    have y5 := h5 N
    have y6 := h6 N
    have y7 := h7 N
    have y8 := h8 N
    have y9 := h9 N
    have y10 := h10 N
    have y11 := h11 N
    have y12 := h12 N
    have y12a := h12a N
    have y13 := h13 N
    have y13a := h13a N
    have y14 := h14 N
    have y15 := h15 N
    have y16 := h16 N
    have y17 := h17 N
    have er : ErrsN ⟨l.prog, w, K, mg, base, C, N⟩ cNoBox cMarkError cBadMark cBadThing cBadSize := ⟨xcNoBox, emNoBoxNoBox, emNoBoxMarkError, kiNoBoxValueError, kaNoBoxBadMarkBadThingBadSize⟩
    refine ⟨f18, _, ["table", "one", "other"], PySem.W.mg_of X G a18, k18, b18, ?_⟩
    apply ok_overC (U := ⟨l.prog, w, K, mg, base, C, N⟩) <;> assumption
  have h19 : ∀ N, FnT ⟨l.prog, w, K, mg, base, C, N⟩ "under" 5 (A_under cNoBox) := by
    intro N
    have yC := TC N
    have yBadSize := xBadSize N
    have yBadMark := xBadMark N
    have yBadThing := xBadThing N
    have yNoBox := xNoBox N
    have yMarkError := xMarkError N
    have y1 := h1 N
    have y2 := h2 N
    have y3 := h3 N
    have y4 := h4 N
    have y5 := h5 N
    have y6 := h6 N
    have y7 := h7 N
    have y8 := h8 N
    have y9 := h9 N
    have y10 := h10 N
    have y11 := h11 N
    have y12 := h12 N
    have y12a := h12a N
    have y13 := h13 N
    have y13a := h13a N
    have y14 := h14 N
    have y15 := h15 N
    have y16 := h16 N
    have y17 := h17 N
    have y18 := h18 N
    have y18k := h18k N
    have er : ErrsN ⟨l.prog, w, K, mg, base, C, N⟩ cNoBox cMarkError cBadMark cBadThing cBadSize := ⟨xcNoBox, emNoBoxNoBox, emNoBoxMarkError, kiNoBoxValueError, kaNoBoxBadMarkBadThingBadSize⟩
    refine ⟨f19, _, ["table", "one", "other"], PySem.W.mg_of X G a19, k19, b19, ?_⟩
    apply ok_under (U := ⟨l.prog, w, K, mg, base, C, N⟩) <;> assumption
  have h19k : ∀ N, FnK ⟨l.prog, w, K, mg, base, C, N⟩ "under" 5 (A_ovC ⟨l.prog, w, K, mg, base, C, N⟩ true) := by
    intro N
    have yC := TC N
    have yBadSize := xBadSize N
    have yBadMark := xBadMark N
    have yBadThing := xBadThing N
    have yNoBox := xNoBox N
    have yMarkError := xMarkError N
    have y1 := h1 N
    have y2 := h2 N
    have y3 := h3 N
    have y4 := h4 N
    have y5 := h5 N
    have y6 := h6 N
    have y7 := h7 N
    have y8 := h8 N
    have y9 := h9 N
    have y10 := h10 N
    have y11 := h11 N
    have y12 := h12 N
    have y12a := h12a N
    have y13 := h13 N
    have y13a := h13a N
    have y14 := h14 N
    have y15 := h15 N
    have y16 := h16 N
    have y17 := h17 N
    have y18 := h18 N
    have y18k := h18k N
    have er : ErrsN ⟨l.prog, w, K, mg, base, C, N⟩ cNoBox cMarkError cBadMark cBadThing cBadSize := ⟨xcNoBox, emNoBoxNoBox, emNoBoxMarkError, kiNoBoxValueError, kaNoBoxBadMarkBadThingBadSize⟩
    refine ⟨f19, _, ["table", "one", "other"], PySem.W.mg_of X G a19, k19, b19, ?_⟩
    apply ok_underC (U := ⟨l.prog, w, K, mg, base, C, N⟩) <;> assumption
  have h20 : ∀ N, FnT ⟨l.prog, w, K, mg, base, C, N⟩ "_law_whole" 1 A_whole := by
    intro N
    have yC := TC N
    have yBadSize := xBadSize N
    have yBadMark := xBadMark N
    have yBadThing := xBadThing N
    have yNoBox := xNoBox N
    have yMarkError := xMarkError N
    have y1 := h1 N
    have y2 := h2 N
    have y3 := h3 N
    have y4 := h4 N
    have y5 := h5 N
    have y6 := h6 N
    have y7 := h7 N
    have y8 := h8 N
    have y9 := h9 N
    have y10 := h10 N
    have y11 := h11 N
    have y12 := h12 N
    have y12a := h12a N
    have y13 := h13 N
    have y13a := h13a N
    have y14 := h14 N
    have y15 := h15 N
    have y16 := h16 N
    have y17 := h17 N
    have y18 := h18 N
    have y18k := h18k N
    have y19 := h19 N
    have y19k := h19k N
    have er : ErrsN ⟨l.prog, w, K, mg, base, C, N⟩ cNoBox cMarkError cBadMark cBadThing cBadSize := ⟨xcNoBox, emNoBoxNoBox, emNoBoxMarkError, kiNoBoxValueError, kaNoBoxBadMarkBadThingBadSize⟩
    refine ⟨f20, _, ["_law_found"], PySem.W.mg_of X G a20, k20, b20, ?_⟩
    apply ok_whole (U := ⟨l.prog, w, K, mg, base, C, N⟩) <;> assumption
  have h21 : ∀ N, FnT ⟨l.prog, w, K, mg, base, C, N⟩ "_law_cell_at" 1 A_cell := by
    intro N
    have yC := TC N
    have yBadSize := xBadSize N
    have yBadMark := xBadMark N
    have yBadThing := xBadThing N
    have yNoBox := xNoBox N
    have yMarkError := xMarkError N
    have y1 := h1 N
    have y2 := h2 N
    have y3 := h3 N
    have y4 := h4 N
    have y5 := h5 N
    have y6 := h6 N
    have y7 := h7 N
    have y8 := h8 N
    have y9 := h9 N
    have y10 := h10 N
    have y11 := h11 N
    have y12 := h12 N
    have y12a := h12a N
    have y13 := h13 N
    have y13a := h13a N
    have y14 := h14 N
    have y15 := h15 N
    have y16 := h16 N
    have y17 := h17 N
    have y18 := h18 N
    have y18k := h18k N
    have y19 := h19 N
    have y19k := h19k N
    have y20 := h20 N
    have er : ErrsN ⟨l.prog, w, K, mg, base, C, N⟩ cNoBox cMarkError cBadMark cBadThing cBadSize := ⟨xcNoBox, emNoBoxNoBox, emNoBoxMarkError, kiNoBoxValueError, kaNoBoxBadMarkBadThingBadSize⟩
    refine ⟨f21, _, ["_law_script", "_law_k"], PySem.W.mg_of X G a21, k21, b21, ?_⟩
    apply ok_cell (U := ⟨l.prog, w, K, mg, base, C, N⟩) <;> assumption
  have h22 : ∀ N, FnT ⟨l.prog, w, K, mg, base, C, N⟩ "_law_mix" 2 A_mix := by
    intro N
    have yC := TC N
    have yBadSize := xBadSize N
    have yBadMark := xBadMark N
    have yBadThing := xBadThing N
    have yNoBox := xNoBox N
    have yMarkError := xMarkError N
    have y1 := h1 N
    have y2 := h2 N
    have y3 := h3 N
    have y4 := h4 N
    have y5 := h5 N
    have y6 := h6 N
    have y7 := h7 N
    have y8 := h8 N
    have y9 := h9 N
    have y10 := h10 N
    have y11 := h11 N
    have y12 := h12 N
    have y12a := h12a N
    have y13 := h13 N
    have y13a := h13a N
    have y14 := h14 N
    have y15 := h15 N
    have y16 := h16 N
    have y17 := h17 N
    have y18 := h18 N
    have y18k := h18k N
    have y19 := h19 N
    have y19k := h19k N
    have y20 := h20 N
    have y21 := h21 N
    have er : ErrsN ⟨l.prog, w, K, mg, base, C, N⟩ cNoBox cMarkError cBadMark cBadThing cBadSize := ⟨xcNoBox, emNoBoxNoBox, emNoBoxMarkError, kiNoBoxValueError, kaNoBoxBadMarkBadThingBadSize⟩
    refine ⟨f22, _, ["_law_script", "_law_first", "_law_k"], PySem.W.mg_of X G a22, k22, b22, ?_⟩
    apply ok_mix (U := ⟨l.prog, w, K, mg, base, C, N⟩) <;> assumption
  have h23 : ∀ N, FnT ⟨l.prog, w, K, mg, base, C, N⟩ "_law_on" 1 (A_on worthL) := by
    intro N
    have yC := TC N
    have yBadSize := xBadSize N
    have yBadMark := xBadMark N
    have yBadThing := xBadThing N
    have yNoBox := xNoBox N
    have yMarkError := xMarkError N
    have y1 := h1 N
    have y2 := h2 N
    have y3 := h3 N
    have y4 := h4 N
    have y5 := h5 N
    have y6 := h6 N
    have y7 := h7 N
    have y8 := h8 N
    have y9 := h9 N
    have y10 := h10 N
    have y11 := h11 N
    have y12 := h12 N
    have y12a := h12a N
    have y13 := h13 N
    have y13a := h13a N
    have y14 := h14 N
    have y15 := h15 N
    have y16 := h16 N
    have y17 := h17 N
    have y18 := h18 N
    have y18k := h18k N
    have y19 := h19 N
    have y19k := h19k N
    have y20 := h20 N
    have y21 := h21 N
    have y22 := h22 N
    have er : ErrsN ⟨l.prog, w, K, mg, base, C, N⟩ cNoBox cMarkError cBadMark cBadThing cBadSize := ⟨xcNoBox, emNoBoxNoBox, emNoBoxMarkError, kiNoBoxValueError, kaNoBoxBadMarkBadThingBadSize⟩
    refine ⟨f23, _, ["_law_number", "_law_mark", "_law_way", "_law_many"], PySem.W.mg_of X G a23, k23, b23, ?_⟩
    apply ok_on (U := ⟨l.prog, w, K, mg, base, C, N⟩) <;> assumption
  have h24 : ∀ N, FnT ⟨l.prog, w, K, mg, base, C, N⟩ "_law_table_by" 3 A_table := by
    intro N
    have yC := TC N
    have yBadSize := xBadSize N
    have yBadMark := xBadMark N
    have yBadThing := xBadThing N
    have yNoBox := xNoBox N
    have yMarkError := xMarkError N
    have y1 := h1 N
    have y2 := h2 N
    have y3 := h3 N
    have y4 := h4 N
    have y5 := h5 N
    have y6 := h6 N
    have y7 := h7 N
    have y8 := h8 N
    have y9 := h9 N
    have y10 := h10 N
    have y11 := h11 N
    have y12 := h12 N
    have y12a := h12a N
    have y13 := h13 N
    have y13a := h13a N
    have y14 := h14 N
    have y15 := h15 N
    have y16 := h16 N
    have y17 := h17 N
    have y18 := h18 N
    have y18k := h18k N
    have y19 := h19 N
    have y19k := h19k N
    have y20 := h20 N
    have y21 := h21 N
    have y22 := h22 N
    have y23 := h23 N
    have er : ErrsN ⟨l.prog, w, K, mg, base, C, N⟩ cNoBox cMarkError cBadMark cBadThing cBadSize := ⟨xcNoBox, emNoBoxNoBox, emNoBoxMarkError, kiNoBoxValueError, kaNoBoxBadMarkBadThingBadSize⟩
    refine ⟨f24, _, ["_law_script"], PySem.W.mg_of X G a24, k24, b24, ?_⟩
    apply ok_table (U := ⟨l.prog, w, K, mg, base, C, N⟩) <;> assumption
  have h25 : ∀ N, FnT ⟨l.prog, w, K, mg, base, C, N⟩ "_law_box" 1 A_box := by
    intro N
    have yC := TC N
    have yBadSize := xBadSize N
    have yBadMark := xBadMark N
    have yBadThing := xBadThing N
    have yNoBox := xNoBox N
    have yMarkError := xMarkError N
    have y1 := h1 N
    have y2 := h2 N
    have y3 := h3 N
    have y4 := h4 N
    have y5 := h5 N
    have y6 := h6 N
    have y7 := h7 N
    have y8 := h8 N
    have y9 := h9 N
    have y10 := h10 N
    have y11 := h11 N
    have y12 := h12 N
    have y12a := h12a N
    have y13 := h13 N
    have y13a := h13a N
    have y14 := h14 N
    have y15 := h15 N
    have y16 := h16 N
    have y17 := h17 N
    have y18 := h18 N
    have y18k := h18k N
    have y19 := h19 N
    have y19k := h19k N
    have y20 := h20 N
    have y21 := h21 N
    have y22 := h22 N
    have y23 := h23 N
    have y24 := h24 N
    have er : ErrsN ⟨l.prog, w, K, mg, base, C, N⟩ cNoBox cMarkError cBadMark cBadThing cBadSize := ⟨xcNoBox, emNoBoxNoBox, emNoBoxMarkError, kiNoBoxValueError, kaNoBoxBadMarkBadThingBadSize⟩
    refine ⟨f25, _, ["_law_many", "_law_rows", "_law_marks"], PySem.W.mg_of X G a25, k25, b25, ?_⟩
    apply ok_box (U := ⟨l.prog, w, K, mg, base, C, N⟩) <;> assumption
  have h26 : ∀ N, FnT ⟨l.prog, w, K, mg, base, C, N⟩ "_law_drawn" 2 A_drawn := by
    intro N
    have yC := TC N
    have yBadSize := xBadSize N
    have yBadMark := xBadMark N
    have yBadThing := xBadThing N
    have yNoBox := xNoBox N
    have yMarkError := xMarkError N
    have y1 := h1 N
    have y2 := h2 N
    have y3 := h3 N
    have y4 := h4 N
    have y5 := h5 N
    have y6 := h6 N
    have y7 := h7 N
    have y8 := h8 N
    have y9 := h9 N
    have y10 := h10 N
    have y11 := h11 N
    have y12 := h12 N
    have y12a := h12a N
    have y13 := h13 N
    have y13a := h13a N
    have y14 := h14 N
    have y15 := h15 N
    have y16 := h16 N
    have y17 := h17 N
    have y18 := h18 N
    have y18k := h18k N
    have y19 := h19 N
    have y19k := h19k N
    have y20 := h20 N
    have y21 := h21 N
    have y22 := h22 N
    have y23 := h23 N
    have y24 := h24 N
    have y25 := h25 N
    have er : ErrsN ⟨l.prog, w, K, mg, base, C, N⟩ cNoBox cMarkError cBadMark cBadThing cBadSize := ⟨xcNoBox, emNoBoxNoBox, emNoBoxMarkError, kiNoBoxValueError, kaNoBoxBadMarkBadThingBadSize⟩
    refine ⟨f26, _, ["_law_script", "_law_at", "_law_many", "_law_rows"], PySem.W.mg_of X G a26, k26, b26, ?_⟩
    apply ok_drawn (U := ⟨l.prog, w, K, mg, base, C, N⟩) <;> assumption
  have h27 : ∀ N, FnT ⟨l.prog, w, K, mg, base, C, N⟩ "_law_same" 2 A_same := by
    intro N
    have yC := TC N
    have yBadSize := xBadSize N
    have yBadMark := xBadMark N
    have yBadThing := xBadThing N
    have yNoBox := xNoBox N
    have yMarkError := xMarkError N
    have y1 := h1 N
    have y2 := h2 N
    have y3 := h3 N
    have y4 := h4 N
    have y5 := h5 N
    have y6 := h6 N
    have y7 := h7 N
    have y8 := h8 N
    have y9 := h9 N
    have y10 := h10 N
    have y11 := h11 N
    have y12 := h12 N
    have y12a := h12a N
    have y13 := h13 N
    have y13a := h13a N
    have y14 := h14 N
    have y15 := h15 N
    have y16 := h16 N
    have y17 := h17 N
    have y18 := h18 N
    have y18k := h18k N
    have y19 := h19 N
    have y19k := h19k N
    have y20 := h20 N
    have y21 := h21 N
    have y22 := h22 N
    have y23 := h23 N
    have y24 := h24 N
    have y25 := h25 N
    have y26 := h26 N
    have er : ErrsN ⟨l.prog, w, K, mg, base, C, N⟩ cNoBox cMarkError cBadMark cBadThing cBadSize := ⟨xcNoBox, emNoBoxNoBox, emNoBoxMarkError, kiNoBoxValueError, kaNoBoxBadMarkBadThingBadSize⟩
    refine ⟨f27, _, ["_law_found", "_law_due_here"], PySem.W.mg_of X G a27, k27, b27, ?_⟩
    apply ok_same (U := ⟨l.prog, w, K, mg, base, C, N⟩) <;> assumption
  have h28 : ∀ N, FnK ⟨l.prog, w, K, mg, base, C, N⟩ "_law_spoilt" 2 A_spoilB := by
    intro N
    have yC := TC N
    have yBadSize := xBadSize N
    have yBadMark := xBadMark N
    have yBadThing := xBadThing N
    have yNoBox := xNoBox N
    have yMarkError := xMarkError N
    have y1 := h1 N
    have y2 := h2 N
    have y3 := h3 N
    have y4 := h4 N
    have y5 := h5 N
    have y6 := h6 N
    have y7 := h7 N
    have y8 := h8 N
    have y9 := h9 N
    have y10 := h10 N
    have y11 := h11 N
    have y12 := h12 N
    have y12a := h12a N
    have y13 := h13 N
    have y13a := h13a N
    have y14 := h14 N
    have y15 := h15 N
    have y16 := h16 N
    have y17 := h17 N
    have y18 := h18 N
    have y18k := h18k N
    have y19 := h19 N
    have y19k := h19k N
    have y20 := h20 N
    have y21 := h21 N
    have y22 := h22 N
    have y23 := h23 N
    have y24 := h24 N
    have y25 := h25 N
    have y26 := h26 N
    have y27 := h27 N
    have er : ErrsN ⟨l.prog, w, K, mg, base, C, N⟩ cNoBox cMarkError cBadMark cBadThing cBadSize := ⟨xcNoBox, emNoBoxNoBox, emNoBoxMarkError, kiNoBoxValueError, kaNoBoxBadMarkBadThingBadSize⟩
    refine ⟨f28, _, ["_law_box_here", "_law_cell", "_law_many", "_law_rows"], PySem.W.mg_of X G a28, k28, b28, ?_⟩
    apply ok_spoiltB (U := ⟨l.prog, w, K, mg, base, C, N⟩) <;> assumption
  have h29 : ∀ N, FnT ⟨l.prog, w, K, mg, base, C, N⟩ "_law_tried" 6 A_badB := by
    intro N
    have yC := TC N
    have yBadSize := xBadSize N
    have yBadMark := xBadMark N
    have yBadThing := xBadThing N
    have yNoBox := xNoBox N
    have yMarkError := xMarkError N
    have y1 := h1 N
    have y2 := h2 N
    have y3 := h3 N
    have y4 := h4 N
    have y5 := h5 N
    have y6 := h6 N
    have y7 := h7 N
    have y8 := h8 N
    have y9 := h9 N
    have y10 := h10 N
    have y11 := h11 N
    have y12 := h12 N
    have y12a := h12a N
    have y13 := h13 N
    have y13a := h13a N
    have y14 := h14 N
    have y15 := h15 N
    have y16 := h16 N
    have y17 := h17 N
    have y18 := h18 N
    have y18k := h18k N
    have y19 := h19 N
    have y19k := h19k N
    have y20 := h20 N
    have y21 := h21 N
    have y22 := h22 N
    have y23 := h23 N
    have y24 := h24 N
    have y25 := h25 N
    have y26 := h26 N
    have y27 := h27 N
    have y28 := h28 N
    have er : ErrsN ⟨l.prog, w, K, mg, base, C, N⟩ cNoBox cMarkError cBadMark cBadThing cBadSize := ⟨xcNoBox, emNoBoxNoBox, emNoBoxMarkError, kiNoBoxValueError, kaNoBoxBadMarkBadThingBadSize⟩
    refine ⟨f29, _, ["_law_table", "_law_way", "_law_one", "_law_other"], PySem.W.mg_of X G a29, k29, b29, ?_⟩
    apply ok_triedB (U := ⟨l.prog, w, K, mg, base, C, N⟩) <;> assumption
  have h30 : ∀ N, FnT ⟨l.prog, w, K, mg, base, C, N⟩ "_law_refused_by_any" 6 A_badE := by
    intro N
    have yC := TC N
    have yBadSize := xBadSize N
    have yBadMark := xBadMark N
    have yBadThing := xBadThing N
    have yNoBox := xNoBox N
    have yMarkError := xMarkError N
    have y1 := h1 N
    have y2 := h2 N
    have y3 := h3 N
    have y4 := h4 N
    have y5 := h5 N
    have y6 := h6 N
    have y7 := h7 N
    have y8 := h8 N
    have y9 := h9 N
    have y10 := h10 N
    have y11 := h11 N
    have y12 := h12 N
    have y12a := h12a N
    have y13 := h13 N
    have y13a := h13a N
    have y14 := h14 N
    have y15 := h15 N
    have y16 := h16 N
    have y17 := h17 N
    have y18 := h18 N
    have y18k := h18k N
    have y19 := h19 N
    have y19k := h19k N
    have y20 := h20 N
    have y21 := h21 N
    have y22 := h22 N
    have y23 := h23 N
    have y24 := h24 N
    have y25 := h25 N
    have y26 := h26 N
    have y27 := h27 N
    have y28 := h28 N
    have y29 := h29 N
    have er : ErrsN ⟨l.prog, w, K, mg, base, C, N⟩ cNoBox cMarkError cBadMark cBadThing cBadSize := ⟨xcNoBox, emNoBoxNoBox, emNoBoxMarkError, kiNoBoxValueError, kaNoBoxBadMarkBadThingBadSize⟩
    refine ⟨f30, _, ["_law_table", "_law_way", "_law_one", "_law_other"], PySem.W.mg_of X G a30, k30, b30, ?_⟩
    apply ok_refE (U := ⟨l.prog, w, K, mg, base, C, N⟩) <;> assumption
  have h31 : ∀ N, FnT ⟨l.prog, w, K, mg, base, C, N⟩ "_law_refuses" 7 A_refs := by
    intro N
    have yC := TC N
    have yBadSize := xBadSize N
    have yBadMark := xBadMark N
    have yBadThing := xBadThing N
    have yNoBox := xNoBox N
    have yMarkError := xMarkError N
    have y1 := h1 N
    have y2 := h2 N
    have y3 := h3 N
    have y4 := h4 N
    have y5 := h5 N
    have y6 := h6 N
    have y7 := h7 N
    have y8 := h8 N
    have y9 := h9 N
    have y10 := h10 N
    have y11 := h11 N
    have y12 := h12 N
    have y12a := h12a N
    have y13 := h13 N
    have y13a := h13a N
    have y14 := h14 N
    have y15 := h15 N
    have y16 := h16 N
    have y17 := h17 N
    have y18 := h18 N
    have y18k := h18k N
    have y19 := h19 N
    have y19k := h19k N
    have y20 := h20 N
    have y21 := h21 N
    have y22 := h22 N
    have y23 := h23 N
    have y24 := h24 N
    have y25 := h25 N
    have y26 := h26 N
    have y27 := h27 N
    have y28 := h28 N
    have y29 := h29 N
    have y30 := h30 N
    have er : ErrsN ⟨l.prog, w, K, mg, base, C, N⟩ cNoBox cMarkError cBadMark cBadThing cBadSize := ⟨xcNoBox, emNoBoxNoBox, emNoBoxMarkError, kiNoBoxValueError, kaNoBoxBadMarkBadThingBadSize⟩
    refine ⟨f31, _, ["_law_table", "_law_bad", "_law_good"], PySem.W.mg_of X G a31, k31, b31, ?_⟩
    apply ok_refs (U := ⟨l.prog, w, K, mg, base, C, N⟩) <;> assumption
  have h32 : ∀ N, FnT ⟨l.prog, w, K, mg, base, C, N⟩ "_law_due" 1 A_dueB := by
    intro N
    have yC := TC N
    have yBadSize := xBadSize N
    have yBadMark := xBadMark N
    have yBadThing := xBadThing N
    have yNoBox := xNoBox N
    have yMarkError := xMarkError N
    have y1 := h1 N
    have y2 := h2 N
    have y3 := h3 N
    have y4 := h4 N
    have y5 := h5 N
    have y6 := h6 N
    have y7 := h7 N
    have y8 := h8 N
    have y9 := h9 N
    have y10 := h10 N
    have y11 := h11 N
    have y12 := h12 N
    have y12a := h12a N
    have y13 := h13 N
    have y13a := h13a N
    have y14 := h14 N
    have y15 := h15 N
    have y16 := h16 N
    have y17 := h17 N
    have y18 := h18 N
    have y18k := h18k N
    have y19 := h19 N
    have y19k := h19k N
    have y20 := h20 N
    have y21 := h21 N
    have y22 := h22 N
    have y23 := h23 N
    have y24 := h24 N
    have y25 := h25 N
    have y26 := h26 N
    have y27 := h27 N
    have y28 := h28 N
    have y29 := h29 N
    have y30 := h30 N
    have y31 := h31 N
    have er : ErrsN ⟨l.prog, w, K, mg, base, C, N⟩ cNoBox cMarkError cBadMark cBadThing cBadSize := ⟨xcNoBox, emNoBoxNoBox, emNoBoxMarkError, kiNoBoxValueError, kaNoBoxBadMarkBadThingBadSize⟩
    refine ⟨f32, _, ["_law_many", "_law_rows", "_law_one", "_law_other"], PySem.W.mg_of X G a32, k32, b32, ?_⟩
    apply ok_dueB (U := ⟨l.prog, w, K, mg, base, C, N⟩) <;> assumption
  have h33 : ∀ N, FnT ⟨l.prog, w, K, mg, base, C, N⟩ "_law_refused_and_told" 8 A_ratB := by
    intro N
    have yC := TC N
    have yBadSize := xBadSize N
    have yBadMark := xBadMark N
    have yBadThing := xBadThing N
    have yNoBox := xNoBox N
    have yMarkError := xMarkError N
    have y1 := h1 N
    have y2 := h2 N
    have y3 := h3 N
    have y4 := h4 N
    have y5 := h5 N
    have y6 := h6 N
    have y7 := h7 N
    have y8 := h8 N
    have y9 := h9 N
    have y10 := h10 N
    have y11 := h11 N
    have y12 := h12 N
    have y12a := h12a N
    have y13 := h13 N
    have y13a := h13a N
    have y14 := h14 N
    have y15 := h15 N
    have y16 := h16 N
    have y17 := h17 N
    have y18 := h18 N
    have y18k := h18k N
    have y19 := h19 N
    have y19k := h19k N
    have y20 := h20 N
    have y21 := h21 N
    have y22 := h22 N
    have y23 := h23 N
    have y24 := h24 N
    have y25 := h25 N
    have y26 := h26 N
    have y27 := h27 N
    have y28 := h28 N
    have y29 := h29 N
    have y30 := h30 N
    have y31 := h31 N
    have y32 := h32 N
    have er : ErrsN ⟨l.prog, w, K, mg, base, C, N⟩ cNoBox cMarkError cBadMark cBadThing cBadSize := ⟨xcNoBox, emNoBoxNoBox, emNoBoxMarkError, kiNoBoxValueError, kaNoBoxBadMarkBadThingBadSize⟩
    refine ⟨f33, _, ["_law_table", "_law_some", "_law_many", "_law_rows", "_law_cell"], PySem.W.mg_of X G a33, k33, b33, ?_⟩
    apply ok_ratB (U := ⟨l.prog, w, K, mg, base, C, N⟩) <;> assumption
  have h34 : ∀ N, FnT ⟨l.prog, w, K, mg, base, C, N⟩ "_law_third_fits" 1 A_third := by
    intro N
    have yC := TC N
    have yBadSize := xBadSize N
    have yBadMark := xBadMark N
    have yBadThing := xBadThing N
    have yNoBox := xNoBox N
    have yMarkError := xMarkError N
    have y1 := h1 N
    have y2 := h2 N
    have y3 := h3 N
    have y4 := h4 N
    have y5 := h5 N
    have y6 := h6 N
    have y7 := h7 N
    have y8 := h8 N
    have y9 := h9 N
    have y10 := h10 N
    have y11 := h11 N
    have y12 := h12 N
    have y12a := h12a N
    have y13 := h13 N
    have y13a := h13a N
    have y14 := h14 N
    have y15 := h15 N
    have y16 := h16 N
    have y17 := h17 N
    have y18 := h18 N
    have y18k := h18k N
    have y19 := h19 N
    have y19k := h19k N
    have y20 := h20 N
    have y21 := h21 N
    have y22 := h22 N
    have y23 := h23 N
    have y24 := h24 N
    have y25 := h25 N
    have y26 := h26 N
    have y27 := h27 N
    have y28 := h28 N
    have y29 := h29 N
    have y30 := h30 N
    have y31 := h31 N
    have y32 := h32 N
    have y33 := h33 N
    have er : ErrsN ⟨l.prog, w, K, mg, base, C, N⟩ cNoBox cMarkError cBadMark cBadThing cBadSize := ⟨xcNoBox, emNoBoxNoBox, emNoBoxMarkError, kiNoBoxValueError, kaNoBoxBadMarkBadThingBadSize⟩
    refine ⟨f34, _, ["_law_third", "_law_some", "_law_high", "_law_low"], PySem.W.mg_of X G a34, k34, b34, ?_⟩
    apply ok_third (U := ⟨l.prog, w, K, mg, base, C, N⟩) <;> assumption
  have h35 : ∀ N, FnT ⟨l.prog, w, K, mg, base, C, N⟩ "_law_beside" 6 A_beside := by
    intro N
    have yC := TC N
    have yBadSize := xBadSize N
    have yBadMark := xBadMark N
    have yBadThing := xBadThing N
    have yNoBox := xNoBox N
    have yMarkError := xMarkError N
    have y1 := h1 N
    have y2 := h2 N
    have y3 := h3 N
    have y4 := h4 N
    have y5 := h5 N
    have y6 := h6 N
    have y7 := h7 N
    have y8 := h8 N
    have y9 := h9 N
    have y10 := h10 N
    have y11 := h11 N
    have y12 := h12 N
    have y12a := h12a N
    have y13 := h13 N
    have y13a := h13a N
    have y14 := h14 N
    have y15 := h15 N
    have y16 := h16 N
    have y17 := h17 N
    have y18 := h18 N
    have y18k := h18k N
    have y19 := h19 N
    have y19k := h19k N
    have y20 := h20 N
    have y21 := h21 N
    have y22 := h22 N
    have y23 := h23 N
    have y24 := h24 N
    have y25 := h25 N
    have y26 := h26 N
    have y27 := h27 N
    have y28 := h28 N
    have y29 := h29 N
    have y30 := h30 N
    have y31 := h31 N
    have y32 := h32 N
    have y33 := h33 N
    have y34 := h34 N
    have er : ErrsN ⟨l.prog, w, K, mg, base, C, N⟩ cNoBox cMarkError cBadMark cBadThing cBadSize := ⟨xcNoBox, emNoBoxNoBox, emNoBoxMarkError, kiNoBoxValueError, kaNoBoxBadMarkBadThingBadSize⟩
    refine ⟨f35, _, ["_law_many", "_law_rows", "_law_marks"], PySem.W.mg_of X G a35, k35, b35, ?_⟩
    apply ok_beside (U := ⟨l.prog, w, K, mg, base, C, N⟩) <;> assumption
  have h36 : ∀ N, FnK ⟨l.prog, w, K, mg, base, C, N⟩ "_law_exchanged" 6 A_exch := by
    intro N
    have yC := TC N
    have yBadSize := xBadSize N
    have yBadMark := xBadMark N
    have yBadThing := xBadThing N
    have yNoBox := xNoBox N
    have yMarkError := xMarkError N
    have y1 := h1 N
    have y2 := h2 N
    have y3 := h3 N
    have y4 := h4 N
    have y5 := h5 N
    have y6 := h6 N
    have y7 := h7 N
    have y8 := h8 N
    have y9 := h9 N
    have y10 := h10 N
    have y11 := h11 N
    have y12 := h12 N
    have y12a := h12a N
    have y13 := h13 N
    have y13a := h13a N
    have y14 := h14 N
    have y15 := h15 N
    have y16 := h16 N
    have y17 := h17 N
    have y18 := h18 N
    have y18k := h18k N
    have y19 := h19 N
    have y19k := h19k N
    have y20 := h20 N
    have y21 := h21 N
    have y22 := h22 N
    have y23 := h23 N
    have y24 := h24 N
    have y25 := h25 N
    have y26 := h26 N
    have y27 := h27 N
    have y28 := h28 N
    have y29 := h29 N
    have y30 := h30 N
    have y31 := h31 N
    have y32 := h32 N
    have y33 := h33 N
    have y34 := h34 N
    have y35 := h35 N
    have er : ErrsN ⟨l.prog, w, K, mg, base, C, N⟩ cNoBox cMarkError cBadMark cBadThing cBadSize := ⟨xcNoBox, emNoBoxNoBox, emNoBoxMarkError, kiNoBoxValueError, kaNoBoxBadMarkBadThingBadSize⟩
    refine ⟨f36, _, ["_law_table", "_law_handed", "_law_some", "_law_due_here"], PySem.W.mg_of X G a36, k36, b36, ?_⟩
    apply ok_exch (U := ⟨l.prog, w, K, mg, base, C, N⟩) <;> assumption
  have h37 : ∀ N, FnT ⟨l.prog, w, K, mg, base, C, N⟩ "_law_ahead" 5 A_ahead := by
    intro N
    have yC := TC N
    have yBadSize := xBadSize N
    have yBadMark := xBadMark N
    have yBadThing := xBadThing N
    have yNoBox := xNoBox N
    have yMarkError := xMarkError N
    have y1 := h1 N
    have y2 := h2 N
    have y3 := h3 N
    have y4 := h4 N
    have y5 := h5 N
    have y6 := h6 N
    have y7 := h7 N
    have y8 := h8 N
    have y9 := h9 N
    have y10 := h10 N
    have y11 := h11 N
    have y12 := h12 N
    have y12a := h12a N
    have y13 := h13 N
    have y13a := h13a N
    have y14 := h14 N
    have y15 := h15 N
    have y16 := h16 N
    have y17 := h17 N
    have y18 := h18 N
    have y18k := h18k N
    have y19 := h19 N
    have y19k := h19k N
    have y20 := h20 N
    have y21 := h21 N
    have y22 := h22 N
    have y23 := h23 N
    have y24 := h24 N
    have y25 := h25 N
    have y26 := h26 N
    have y27 := h27 N
    have y28 := h28 N
    have y29 := h29 N
    have y30 := h30 N
    have y31 := h31 N
    have y32 := h32 N
    have y33 := h33 N
    have y34 := h34 N
    have y35 := h35 N
    have y36 := h36 N
    have er : ErrsN ⟨l.prog, w, K, mg, base, C, N⟩ cNoBox cMarkError cBadMark cBadThing cBadSize := ⟨xcNoBox, emNoBoxNoBox, emNoBoxMarkError, kiNoBoxValueError, kaNoBoxBadMarkBadThingBadSize⟩
    refine ⟨f37, _, ["_law_table", "_law_cell"], PySem.W.mg_of X G a37, k37, b37, ?_⟩
    apply ok_ahead (U := ⟨l.prog, w, K, mg, base, C, N⟩) <;> assumption
  have N : ∃ N : Addr → Prop, N = fun _ => True := ⟨_, rfl⟩
  obtain ⟨N, hN⟩ := N
  have yC := TC N
  have yBadSize := xBadSize N
  have yBadMark := xBadMark N
  have yBadThing := xBadThing N
  have yNoBox := xNoBox N
  have yMarkError := xMarkError N
  have y1 := h1 N
  have y2 := h2 N
  have y3 := h3 N
  have y4 := h4 N
  have y5 := h5 N
  have y6 := h6 N
  have y7 := h7 N
  have y8 := h8 N
  have y9 := h9 N
  have y10 := h10 N
  have y11 := h11 N
  have y12 := h12 N
  have y12a := h12a N
  have y13 := h13 N
  have y13a := h13a N
  have y14 := h14 N
  have y15 := h15 N
  have y16 := h16 N
  have y17 := h17 N
  have y18 := h18 N
  have y18k := h18k N
  have y19 := h19 N
  have y19k := h19k N
  have y20 := h20 N
  have y21 := h21 N
  have y22 := h22 N
  have y23 := h23 N
  have y24 := h24 N
  have y25 := h25 N
  have y26 := h26 N
  have y27 := h27 N
  have y28 := h28 N
  have y29 := h29 N
  have y30 := h30 N
  have y31 := h31 N
  have y32 := h32 N
  have y33 := h33 N
  have y34 := h34 N
  have y35 := h35 N
  have y36 := h36 N
  have y37 := h37 N
  have er : ErrsN ⟨l.prog, w, K, mg, base, C, N⟩ cNoBox cMarkError cBadMark cBadThing cBadSize := ⟨xcNoBox, emNoBoxNoBox, emNoBoxMarkError, kiNoBoxValueError, kaNoBoxBadMarkBadThingBadSize⟩
  refine FnOk.imp (sp := spX ⟨l.prog, w, K, mg, base, C, N⟩ A_law) ?_ fun vs H Q E h => law_sp (fun a => by show N a; rw [hN]; trivial) h
  apply ok_law (U := ⟨l.prog, w, K, mg, base, C, N⟩) <;> assumption
end Mb
open PySem PySem.W PyProof.Rows
set_option maxHeartbeats 0 in
theorem PySem.Challenge.cw_markbox_k05_over_and_under_holds : PySem.Challenge.rw_markbox_k05_over_and_under.Holds := by
  w_on; o_law; k_head; (case hw => w_witness2)
  k_fill
  refine L2.walk_of (l := PySem.Challenge.rw_markbox_k05_over_and_under) (n := 63) (k := 9) (x := "_law_script") (CX := fun w => L2.CX PySem.Challenge.rw_markbox_k05_over_and_under.prog w) (sp := fun w => Mb.spL _) rfl (by decide) rfl ⟨rfl, by decide, by decide⟩ (fun w h Y => PySem.W.kIn_of Y) ?F (fun _ _ a ns hl _ hS => ⟨a, ns, rfl, hS, hl, fun _ => rfl⟩) (fun _ _ _ _ _ h => Mb.noCX h)
  case F =>
    intro w mg fa h KX G hmg
    refine' Mb.all_mk KX G hmg ?aC ?pg ?hd ?po ?sa ?mk ?kc ?nM ?nR ?a1 ?l1 ?c1 ?k1 ?a2 ?l2 ?c2 ?k2 ?a3 ?i3 ?l3 ?c3 ?k3 ?a4 ?i4 ?l4 ?c4 ?k4 ?a5 ?i5 ?l5 ?c5 ?k5 ?a6 ?i6 ?l6 ?c6 ?k6 ?a7 ?i7 ?l7 ?c7 ?k7 ?a8 ?l8 ?c8 ?k8 ?a9 ?l9 ?c9 ?k9 ?a10 ?l10 ?c10 ?k10 ?a11 ?l11 ?c11 ?k11 ?a12 ?l12 ?c12 ?k12 ?a13 ?l13 ?c13 ?k13 ?a14 ?l14 ?c14 ?k14 ?a15 ?l15 ?c15 ?k15 ?a16 ?l16 ?c16 ?k16 ?a17 ?l17 ?c17 ?k17 ?a18 ?l18 ?c18 ?k18 ?a19 ?l19 ?c19 ?k19 ?a20 ?l20 ?c20 ?k20 ?a21 ?l21 ?c21 ?k21 ?a22 ?l22 ?c22 ?k22 ?a23 ?l23 ?c23 ?k23 ?a24 ?l24 ?c24 ?k24 ?a25 ?l25 ?c25 ?k25 ?a26 ?l26 ?c26 ?k26 ?a27 ?l27 ?c27 ?k27 ?a28 ?l28 ?c28 ?k28 ?a29 ?l29 ?c29 ?k29 ?a30 ?l30 ?c30 ?k30 ?a31 ?l31 ?c31 ?k31 ?a32 ?l32 ?c32 ?k32 ?a33 ?l33 ?c33 ?k33 ?a34 ?l34 ?c34 ?k34 ?a35 ?l35 ?c35 ?k35 ?a36 ?l36 ?c36 ?k36 ?a37 ?l37 ?c37 ?k37 ?a38 ?l38 ?c38 ?k38 ?gBadSize ?kBadSize ?qBadSize ?sBadSize ?tBadSize ?gBadMark ?kBadMark ?qBadMark ?sBadMark ?tBadMark ?gBadThing ?kBadThing ?qBadThing ?sBadThing ?tBadThing ?gNoBox ?kNoBox ?qNoBox ?sNoBox ?tNoBox ?gMarkError ?kMarkError ?qMarkError ?sMarkError ?tMarkError ?n0 ?n1 ?z1 ?z2 ?z3 ?z4 ?z5 ?z6 ?z7 ?z8 ?z9 ?z10 ?z11 ?z12 ?z13 ?z14 ?nbValueError ?xgNoBox ?xkNoBox ?xsNoBox ?xdNoBox ?xaNoBox ?xnNoBox ?xtNoBox ?xmNoBox ?ddNoBox ?ddMarkError ?ddBadMark ?ddBadThing ?ddBadSize ?ssNoBoxNoBox ?ssNoBoxMarkError ?ssNoBoxValueError ?ssNoBoxBadMark ?ssNoBoxBadThing ?ssNoBoxBadSize
    (case aC => k_is)
    (case pg => k_is)
    (case hd => k_is)
    (case po => k_is)
    (case sa => k_is)
    (case mk => k_is)
    (case kc => k_is)
    (case nM => k_is)
    (case nR => k_is)
    (case a1 => k_is)
    (case l1 => k_is)
    (case c1 => k_is)
    (case k1 => k_is)
    (case a2 => k_is)
    (case l2 => k_is)
    (case c2 => k_is)
    (case k2 => k_is)
    (case a3 => k_is)
    (case i3 => k_is)
    (case l3 => k_is)
    (case c3 => k_is)
    (case k3 => k_is)
    (case a4 => k_is)
    (case i4 => k_is)
    (case l4 => k_is)
    (case c4 => k_is)
    (case k4 => k_is)
    (case a5 => k_is)
    (case i5 => k_is)
    (case l5 => k_is)
    (case c5 => k_is)
    (case k5 => k_is)
    (case a6 => k_is)
    (case i6 => k_is)
    (case l6 => k_is)
    (case c6 => k_is)
    (case k6 => k_is)
    (case a7 => k_is)
    (case i7 => k_is)
    (case l7 => k_is)
    (case c7 => k_is)
    (case k7 => k_is)
    (case a8 => k_is)
    (case l8 => k_is)
    (case c8 => k_is)
    (case k8 => k_is)
    (case a9 => k_is)
    (case l9 => k_is)
    (case c9 => k_is)
    (case k9 => k_is)
    (case a10 => k_is)
    (case l10 => k_is)
    (case c10 => k_is)
    (case k10 => k_is)
    (case a11 => k_is)
    (case l11 => k_is)
    (case c11 => k_is)
    (case k11 => k_is)
    (case a12 => k_is)
    (case l12 => k_is)
    (case c12 => k_is)
    (case k12 => k_is)
    (case a13 => k_is)
    (case l13 => k_is)
    (case c13 => k_is)
    (case k13 => k_is)
    (case a14 => k_is)
    (case l14 => k_is)
    (case c14 => k_is)
    (case k14 => k_is)
    (case a15 => k_is)
    (case l15 => k_is)
    (case c15 => k_is)
    (case k15 => k_is)
    (case a16 => k_is)
    (case l16 => k_is)
    (case c16 => k_is)
    (case k16 => k_is)
    (case a17 => k_is)
    (case l17 => k_is)
    (case c17 => k_is)
    (case k17 => k_is)
    (case a18 => k_is)
    (case l18 => k_is)
    (case c18 => k_is)
    (case k18 => k_is)
    (case a19 => k_is)
    (case l19 => k_is)
    (case c19 => k_is)
    (case k19 => k_is)
    (case a20 => k_is)
    (case l20 => k_is)
    (case c20 => k_is)
    (case k20 => k_is)
    (case a21 => k_is)
    (case l21 => k_is)
    (case c21 => k_is)
    (case k21 => k_is)
    (case a22 => k_is)
    (case l22 => k_is)
    (case c22 => k_is)
    (case k22 => k_is)
    (case a23 => k_is)
    (case l23 => k_is)
    (case c23 => k_is)
    (case k23 => k_is)
    (case a24 => k_is)
    (case l24 => k_is)
    (case c24 => k_is)
    (case k24 => k_is)
    (case a25 => k_is)
    (case l25 => k_is)
    (case c25 => k_is)
    (case k25 => k_is)
    (case a26 => k_is)
    (case l26 => k_is)
    (case c26 => k_is)
    (case k26 => k_is)
    (case a27 => k_is)
    (case l27 => k_is)
    (case c27 => k_is)
    (case k27 => k_is)
    (case a28 => k_is)
    (case l28 => k_is)
    (case c28 => k_is)
    (case k28 => k_is)
    (case a29 => k_is)
    (case l29 => k_is)
    (case c29 => k_is)
    (case k29 => k_is)
    (case a30 => k_is)
    (case l30 => k_is)
    (case c30 => k_is)
    (case k30 => k_is)
    (case a31 => k_is)
    (case l31 => k_is)
    (case c31 => k_is)
    (case k31 => k_is)
    (case a32 => k_is)
    (case l32 => k_is)
    (case c32 => k_is)
    (case k32 => k_is)
    (case a33 => k_is)
    (case l33 => k_is)
    (case c33 => k_is)
    (case k33 => k_is)
    (case a34 => k_is)
    (case l34 => k_is)
    (case c34 => k_is)
    (case k34 => k_is)
    (case a35 => k_is)
    (case l35 => k_is)
    (case c35 => k_is)
    (case k35 => k_is)
    (case a36 => k_is)
    (case l36 => k_is)
    (case c36 => k_is)
    (case k36 => k_is)
    (case a37 => k_is)
    (case l37 => k_is)
    (case c37 => k_is)
    (case k37 => k_is)
    (case a38 => k_is)
    (case l38 => k_is)
    (case c38 => k_is)
    (case k38 => k_is)
    (case gBadSize => k_is)
    (case kBadSize => k_is)
    (case qBadSize => k_exc)
    (case sBadSize => k_is)
    (case tBadSize => k_is)
    (case gBadMark => k_is)
    (case kBadMark => k_is)
    (case qBadMark => k_exc)
    (case sBadMark => k_is)
    (case tBadMark => k_is)
    (case gBadThing => k_is)
    (case kBadThing => k_is)
    (case qBadThing => k_exc)
    (case sBadThing => k_is)
    (case tBadThing => k_is)
    (case gNoBox => k_is)
    (case kNoBox => k_is)
    (case qNoBox => k_exc)
    (case sNoBox => k_is)
    (case tNoBox => k_is)
    (case gMarkError => k_is)
    (case kMarkError => k_is)
    (case qMarkError => k_exc)
    (case sMarkError => k_is)
    (case tMarkError => k_is)
    (case n0 => k_is)
    (case n1 => k_is)
    (case z1 => k_is)
    (case z2 => k_is)
    (case z3 => k_is)
    (case z4 => k_is)
    (case z5 => k_is)
    (case z6 => k_is)
    (case z7 => k_is)
    (case z8 => k_is)
    (case z9 => k_is)
    (case z10 => k_is)
    (case z11 => k_is)
    (case z12 => k_is)
    (case z13 => k_is)
    (case z14 => k_is)
    (case nbValueError => k_is)
    (case xgNoBox => k_is)
    (case xkNoBox => k_is)
    (case xsNoBox => k_is)
    (case xdNoBox => k_is)
    (case xaNoBox => k_is)
    (case xnNoBox => k_is)
    (case xtNoBox => k_is)
    (case xmNoBox => k_is)
    (case ddNoBox => k_is)
    (case ddMarkError => k_is)
    (case ddBadMark => k_is)
    (case ddBadThing => k_is)
    (case ddBadSize => k_is)
    (case ssNoBoxNoBox => k_is)
    (case ssNoBoxMarkError => k_is)
    (case ssNoBoxValueError => k_is)
    (case ssNoBoxBadMark => k_is)
    (case ssNoBoxBadThing => k_is)
    (case ssNoBoxBadSize => k_is)
