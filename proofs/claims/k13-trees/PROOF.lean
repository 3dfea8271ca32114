import PyProof.Rows.All
import Wide.All
import OpenK.AllK
import Wide.FinOn
import HandS.ForMost
import HandS.Wide
import HandS.Deep
import HandS.IsInst
import HandS.Flow
import HandS.EndBits
import HandS.SortInts
import PySem.Challenge.RW_evenkin_k13_trees_as_terms
set_option Elab.async false
set_option linter.all false
set_option maxRecDepth 100000
/-! data by value over the hand layer: what is shared (G), what is one's own (cells), blocks by ghost states -/
namespace Ek
open PySem PySem.Spec PyProof.Rows L2
abbrev St := L2.St

mutual
inductive Dr (G : Hp) : V → PyData → Prop
  | non : Dr G .non .none
  | bl (b : Bool) : Dr G (.bl b) (.bool b)
  | int (i : Int) : Dr G (.int i) (.int i)
  | str (x : Str) : Dr G (.str x) (.str x)
  | lst {a : Addr} {vs : List V} {ds : List PyData} : G a = some (.lst vs) → DrAll G vs ds → Dr G (.ref a) (.list ds)
  | tup {a : Addr} {vs : List V} {ds : List PyData} : G a = some (.tup vs) → DrAll G vs ds → Dr G (.ref a) (.tuple ds)
inductive DrAll (G : Hp) : List V → List PyData → Prop
  | nil : DrAll G [] []
  | cons {v : V} {vs : List V} {d : PyData} {ds : List PyData} : Dr G v d → DrAll G vs ds → DrAll G (v :: vs) (d :: ds)
end

mutual
theorem Dr.mono {G G' : Hp} (e : Same G G') : ∀ {v : V} {d : PyData}, Dr G v d → Dr G' v d
  | _, _, .non => .non
  | _, _, .bl b => .bl b
  | _, _, .int i => .int i
  | _, _, .str x => .str x
  | _, _, .lst h ha => .lst (e _ _ h) (DrAll.mono e ha)
  | _, _, .tup h ha => .tup (e _ _ h) (DrAll.mono e ha)
theorem DrAll.mono {G G' : Hp} (e : Same G G') : ∀ {vs : List V} {ds : List PyData}, DrAll G vs ds → DrAll G' vs ds
  | _, _, .nil => .nil
  | _, _, .cons h ha => .cons (Dr.mono e h) (DrAll.mono e ha)
end
mutual
theorem Dr.dp {K : PySem.W.Frag} {G : Hp} : ∀ {v : V} {d : PyData}, Dr G v d → Dp K G v d
  | _, _, .non => .non
  | _, _, .bl b => .bl b
  | _, _, .int i => .int i
  | _, _, .str x => .str x
  | _, _, .lst h ha => .lst (.of h) (DrAll.dp ha)
  | _, _, .tup h ha => .tup (.of h) (DrAll.dp ha)
theorem DrAll.dp {K : PySem.W.Frag} {G : Hp} : ∀ {vs : List V} {ds : List PyData}, DrAll G vs ds → DpAll K G vs ds
  | _, _, .nil => .nil
  | _, _, .cons h ha => .cons (Dr.dp h) (DrAll.dp ha)
end
theorem DrAll.length {G : Hp} : ∀ {vs : List V} {ds : List PyData}, DrAll G vs ds → vs.length = ds.length
  | _, _, .nil => rfl
  | _, _, .cons _ h => by rw [List.length_cons, List.length_cons, h.length]
theorem DrAll.get {G : Hp} : ∀ {vs : List V} {ds : List PyData} {i : Nat} {v : V}, DrAll G vs ds → vs[i]? = some v → ∃ d, ds[i]? = some d ∧ Dr G v d
  | _, _, 0, v, .cons (d := d) h _, e => ⟨d, rfl, by cases e; exact h⟩
  | _, _, i + 1, v, .cons _ h, e => h.get (i := i) e
theorem DrAll.get' {G : Hp} : ∀ {vs : List V} {ds : List PyData} {i : Nat} {d : PyData}, DrAll G vs ds → ds[i]? = some d → ∃ v, vs[i]? = some v ∧ Dr G v d
  | _, _, 0, _, .cons (v := v) h _, e => ⟨v, rfl, by cases e; exact h⟩
  | _, _, i + 1, _, .cons _ h, e => h.get' (i := i) e
theorem DrAll.app {G : Hp} : ∀ {vs ws : List V} {ds es : List PyData}, DrAll G vs ds → DrAll G ws es → DrAll G (vs ++ ws) (ds ++ es)
  | _, _, _, _, .nil, h => h
  | _, _, _, _, .cons a b, h => .cons a (b.app h)
/-- a list of plain things: its values by its data -/
theorem DrAll.ints {G : Hp} : ∀ {vs : List V} {ns : List Int}, DrAll G vs (ns.map .int) → vs = ns.map V.int
  | [], [], _ => rfl
  | _ :: _, [], h => by cases h
  | [], _ :: _, h => by cases h
  | _ :: vs, n :: ns, .cons h t => by
    cases h
    rw [t.ints] <;> rfl
theorem DrAll.bls {G : Hp} : ∀ {vs : List V} {ns : List Bool}, DrAll G vs (ns.map .bool) → vs = ns.map V.bl
  | [], [], _ => rfl
  | _ :: _, [], h => by cases h
  | [], _ :: _, h => by cases h
  | _ :: vs, n :: ns, .cons h t => by
    cases h
    rw [t.bls] <;> rfl
theorem DrAll.strs {G : Hp} : ∀ {vs : List V} {ns : List Str}, DrAll G vs (ns.map .str) → vs = ns.map V.str
  | [], [], _ => rfl
  | _ :: _, [], h => by cases h
  | [], _ :: _, h => by cases h
  | _ :: vs, n :: ns, .cons h t => by
    cases h
    rw [t.strs] <;> rfl

/-! ### ghost values, ghost cells -/
inductive GV where
  /-- data -/
  | dt (d : PyData)
  /-- one's own object at p -/
  | rf (p : Addr)
  /-- the script -/
  | sc (ns : List Int)
  /-- a built-in class -/
  | ty (n : String)
inductive GO where
  | lst (xs : List GV) | tup (xs : List GV)
abbrev GE := List (Option GV)
/-- cells: where, whether made since the def began, what -/
abbrev GM := List (Addr × Bool × GO)

def RelG (K : PySem.W.Frag) (G : Hp) (v : V) : GV → Prop
  | .dt d => Dr G v d
  | .rf p => v = .ref p
  | .sc ns => ∃ a, v = .ref a ∧ SqL K G a (ns.map V.int)
  | .ty n => v = .ty n
abbrev RelGs (K : PySem.W.Frag) (G : Hp) : List V → List GV → Prop := Paired (RelG K G)
def RelO (K : PySem.W.Frag) (G : Hp) : HO → GO → Prop
  | .lst vs, .lst gs => RelGs K G vs gs
  | .tup vs, .tup gs => RelGs K G vs gs
  | _, _ => False
section
variable {K : PySem.W.Frag} {G G' H H' : Hp}
theorem Same.sql {a : Addr} {xs : List V} (e : Same G G') (h : SqL K G a xs) : SqL K G' a xs := e.seq h
theorem RelG.mono (e : Same G G') {v : V} : ∀ {g : GV}, RelG K G v g → RelG K G' v g
  | .dt _, h => Dr.mono e h
  | .rf _, h => h
  | .sc _, ⟨a, h1, h2⟩ => ⟨a, h1, e.seq h2⟩
  | .ty _, h => h
theorem RelGs.mono (e : Same G G') : ∀ {vs : List V} {gs : List GV}, RelGs K G vs gs → RelGs K G' vs gs
  | _, _, .nil => .nil
  | _, _, .cons h t => .cons (RelG.mono e h) (RelGs.mono e t)
theorem RelO.mono (e : Same G G') {o : HO} {g : GO} (h : RelO K G o g) : RelO K G' o g := by
  cases g with
  | lst gs => cases o <;> first | exact RelGs.mono e h | exact h.elim
  | tup gs => cases o <;> first | exact RelGs.mono e h | exact h.elim
theorem RelO.lst_inv {o : HO} {gs : List GV} (h : RelO K G o (.lst gs)) : ∃ vs, o = .lst vs ∧ RelGs K G vs gs := by
  cases o <;> first | exact ⟨_, rfl, h⟩ | exact h.elim
theorem RelO.tup_inv {o : HO} {gs : List GV} (h : RelO K G o (.tup gs)) : ∃ vs, o = .tup vs ∧ RelGs K G vs gs := by
  cases o <;> first | exact ⟨_, rfl, h⟩ | exact h.elim
theorem RelGs.length : ∀ {vs : List V} {gs : List GV}, RelGs K G vs gs → vs.length = gs.length
  | _, _, .nil => rfl
  | _, _, .cons _ t => by rw [List.length_cons, List.length_cons, t.length]
theorem RelGs.get' : ∀ {vs : List V} {gs : List GV} {i : Nat} {g : GV}, RelGs K G vs gs → gs[i]? = some g → ∃ v, vs[i]? = some v ∧ RelG K G v g
  | _, _, 0, _, .cons h _, e => ⟨_, rfl, by cases e; exact h⟩
  | _, _, i + 1, _, .cons _ t, e => RelGs.get' (i := i) t e
theorem RelGs.app : ∀ {vs ws : List V} {gs hs : List GV}, RelGs K G vs gs → RelGs K G ws hs → RelGs K G (vs ++ ws) (gs ++ hs)
  | _, _, _, _, .nil, h => h
  | _, _, _, _, .cons a b, h => .cons a (RelGs.app b h)
theorem RelGs.set : ∀ {vs : List V} {gs : List GV} {i : Nat} {v : V} {g : GV}, RelGs K G vs gs → RelG K G v g → RelGs K G (vs.set i v) (gs.set i g)
  | _, _, _, _, _, .nil, _ => .nil
  | _, _, 0, _, _, .cons _ t, h => .cons h t
  | _, _, i + 1, _, _, .cons a t, h => .cons a (RelGs.set t h)
theorem RelGs.data : ∀ {vs : List V} {ds : List PyData}, RelGs K G vs (ds.map .dt) → DrAll G vs ds
  | _, [], .nil => .nil
  | _, _ :: _, .cons a b => .cons a (RelGs.data b)
theorem RelGs.of_data : ∀ {vs : List V} {ds : List PyData}, DrAll G vs ds → RelGs K G vs (ds.map .dt)
  | _, _, .nil => .nil
  | _, _, .cons a b => .cons a (RelGs.of_data b)
end

/-! ### the state -/
/-- where a def began: the cells that were handed in, what was shared, the whole -/
structure Bs where
  F0 : Addr → Prop
  G0 : Hp
  H0 : Hp
structure Fr (B : Bs) (G H : Hp) : Prop where
  g : Same B.G0 G
  h : ∀ q o, ¬ B.F0 q → B.H0 q = some o → H q = some o
  k : ∀ q, B.H0 q ≠ none → H q ≠ none
  n : ∀ q, B.H0 q ≠ none → B.G0 q = none → G q = none
structure Cells (K : PySem.W.Frag) (B : Bs) (G H : Hp) (M : GM) : Prop where
  at_ : ∀ c ∈ M, G c.1 = none ∧ (∃ o, H c.1 = some o ∧ RelO K G o c.2.2) ∧ (c.2.1 = true → B.H0 c.1 = none) ∧ (c.2.1 = false → B.F0 c.1)
  nd : (M.map (·.1)).Nodup
structure SR (K : PySem.W.Frag) (B : Bs) (E : GE) (M : GM) (σ : St) (G H : Hp) : Prop where
  sub : Same G H
  len : σ.length = E.length
  slot : ∀ (i : Nat) g, E[i]? = some (some g) → ∃ v, σ[i]? = some (some v) ∧ RelG K G v g
  cells : Cells K B G H M
  fr : Fr B G H

section
variable {K : PySem.W.Frag} {B : Bs} {E E' : GE} {M M' : GM} {σ σ' : St} {G G' H H' : Hp}
theorem same_upd {p : Addr} {o : HO} (h : H p = none) : Same H (upd H p o) := fun b x e => by
  rw [upd_ne (ne_of_none e h)]
  exact e
theorem SR.gfree (S : SR K B E M σ G H) {p : Addr} (h : H p = none) : G p = none := S.sub.free h
theorem SR.bfree (S : SR K B E M σ G H) {p : Addr} (h : H p = none) : B.H0 p = none := by
  cases e : B.H0 p with
  | none => rfl
  | some o => exact absurd h (S.fr.k p (by rw [e]; intro z; cases z))
/-- a slot is stored -/
theorem SR.set (S : SR K B E M σ G H) {i : Nat} {v : V} {g : GV} (r : RelG K G v g) : SR K B (E.set i (some g)) M (σ.set i (some v)) G H where
  sub := S.sub
  len := by rw [List.length_set, List.length_set, S.len]
  slot := fun j g' e => by
    by_cases hj : i = j
    · subst hj
      by_cases hi : i < E.length
      · rw [List.getElem?_set_self hi] at e
        cases e
        exact ⟨v, by rw [List.getElem?_set_self (by rw [S.len]; exact hi)], r⟩
      · rw [List.getElem?_eq_none (by rw [List.length_set]; omega)] at e
        cases e
    · rw [List.getElem?_set_ne hj] at e
      obtain ⟨w, h1, h2⟩ := S.slot j g' e
      exact ⟨w, by rw [List.getElem?_set_ne hj]; exact h1, h2⟩
  cells := S.cells
  fr := S.fr
/-- slots are forgotten -/
theorem SR.weak (S : SR K B E M σ G H) (hl : E'.length = E.length) (h : ∀ (i : Nat) g, E'[i]? = some (some g) → E[i]? = some (some g)) : SR K B E' M σ G H :=
  ⟨S.sub, by rw [S.len, hl], fun i g e => S.slot i g (h i g e), S.cells, S.fr⟩
/-- cells are forgotten -/
theorem SR.sub_cells (S : SR K B E M σ G H) (h : M'.Sublist M) : SR K B E M' σ G H :=
  ⟨S.sub, S.len, S.slot, ⟨fun c hc => S.cells.at_ c (h.subset hc), S.cells.nd.sublist (h.map _)⟩, S.fr⟩
/-- another block's slots -/
theorem SR.slots (S : SR K B E M σ G H) (hl : σ'.length = E'.length) (h : ∀ (i : Nat) g, E'[i]? = some (some g) → ∃ v, σ'[i]? = some (some v) ∧ RelG K G v g) : SR K B E' M σ' G H :=
  ⟨S.sub, hl, h, S.cells, S.fr⟩
/-- a new object, shared at once -/
theorem SR.share (S : SR K B E M σ G H) {p : Addr} {o : HO} (h : H p = none) : SR K B E M σ (upd G p o) (upd H p o) := by
  have hg := S.gfree h
  refine ⟨fun b x e => ?_, S.len, fun i g e => ?_, ⟨fun c hc => ?_, S.cells.nd⟩, ⟨fun b x e => ?_, fun q x nf e => ?_, fun q e => ?_, fun q e n => ?_⟩⟩
  · by_cases hb : b = p
    · subst hb; rw [upd_same] at e ⊢; exact e
    · rw [upd_ne hb] at e ⊢; exact S.sub _ _ e
  · obtain ⟨v, h1, h2⟩ := S.slot i g e
    exact ⟨v, h1, RelG.mono (same_upd hg) h2⟩
  · obtain ⟨h1, ⟨ho, h2, h3⟩, h4⟩ := S.cells.at_ c hc
    have hp : c.1 ≠ p := ne_of_none h2 h
    exact ⟨by rw [upd_ne hp]; exact h1, ⟨ho, by rw [upd_ne hp]; exact h2, RelO.mono (same_upd hg) h3⟩, h4⟩
  · exact same_upd hg _ _ (S.fr.g _ _ e)
  · exact same_upd h _ _ (S.fr.h q x nf e)
  · intro z
    by_cases hq : q = p
    · subst hq; rw [upd_same] at z; cases z
    · rw [upd_ne hq] at z; exact S.fr.k q e z
  · have hq : q ≠ p := fun z => by subst z; exact S.fr.k q e h
    rw [upd_ne hq]; exact S.fr.n q e n
/-- a new object of one's own -/
theorem SR.own (S : SR K B E M σ G H) {p : Addr} {o : HO} {g : GO} (h : H p = none) (r : RelO K G o g) : SR K B E ((p, true, g) :: M) σ G (upd H p o) := by
  have hg := S.gfree h
  refine ⟨fun b x e => same_upd h _ _ (S.sub _ _ e), S.len, S.slot, ⟨fun c hc => ?_, ?_⟩, ⟨S.fr.g, fun q x nf e => same_upd h _ _ (S.fr.h q x nf e), fun q e z => ?_, S.fr.n⟩⟩
  · rcases List.mem_cons.mp hc with rfl | hc
    · exact ⟨hg, ⟨o, upd_same, r⟩, fun _ => S.bfree h, fun z => by cases z⟩
    · obtain ⟨h1, ⟨ho, h2, h3⟩, h4⟩ := S.cells.at_ c hc
      exact ⟨h1, ⟨ho, same_upd h _ _ h2, h3⟩, h4⟩
  · rw [List.map_cons, List.nodup_cons]
    refine ⟨fun hm => ?_, S.cells.nd⟩
    obtain ⟨c, hc, e⟩ := List.mem_map.mp hm
    obtain ⟨_, ⟨ho, h2, _⟩, _⟩ := S.cells.at_ c hc
    rw [e, h] at h2; cases h2
  · by_cases hq : q = p
    · subst hq; rw [upd_same] at z; cases z
    · rw [upd_ne hq] at z; exact S.fr.k q e z
/-- one's own object is written -/
theorem SR.write (S : SR K B E M σ G H) {j : Nat} {p : Addr} {fl : Bool} {g0 g : GO} {o : HO} (hj : M[j]? = some (p, fl, g0)) (r : RelO K G o g) : SR K B E (M.set j (p, fl, g)) σ G (upd H p o) := by
  have hm : (p, fl, g0) ∈ M := List.mem_of_getElem? hj
  obtain ⟨h1, ⟨o0, h2, h3⟩, h4⟩ := S.cells.at_ _ hm
  have hjl : j < M.length := (List.getElem?_eq_some_iff.mp hj).1
  have hmap : (M.set j (p, fl, g)).map (·.1) = M.map (·.1) := by
    rw [List.map_set]
    refine List.ext_getElem? fun i => ?_
    by_cases hi : j = i
    · subst hi
      rw [List.getElem?_set_self (by rw [List.length_map]; exact hjl), List.getElem?_map, hj]; rfl
    · rw [List.getElem?_set_ne hi]
  refine ⟨fun b x e => ?_, S.len, S.slot, ⟨fun c hc => ?_, by rw [hmap]; exact S.cells.nd⟩, ⟨S.fr.g, fun q x nf e => ?_, fun q e z => ?_, S.fr.n⟩⟩
  · rw [upd_ne (ne_of_none e h1)]; exact S.sub _ _ e
  · rcases List.mem_or_eq_of_mem_set hc with hc' | rfl
    · by_cases hp : c.1 = p
      · -- the same address: then it is the written one
        obtain ⟨i, hi⟩ := List.mem_iff_getElem?.mp hc
        by_cases hij : j = i
        · subst hij
          rw [List.getElem?_set_self hjl] at hi
          cases hi
          exact ⟨h1, ⟨o, upd_same, r⟩, h4⟩
        · rw [List.getElem?_set_ne hij] at hi
          exfalso
          have e1 : (M.map (·.1))[i]? = some p := by rw [List.getElem?_map, hi]; show some c.1 = some p; rw [hp]
          have e2 : (M.map (·.1))[j]? = some p := by rw [List.getElem?_map, hj]; rfl
          have hil : i < (M.map (·.1)).length := (List.getElem?_eq_some_iff.mp e1).1
          exact hij (((List.getElem?_inj hil S.cells.nd).mp (e1.trans e2.symm)).symm)
      · obtain ⟨k1, ⟨ho, k2, k3⟩, k4⟩ := S.cells.at_ c hc'
        exact ⟨k1, ⟨ho, by rw [upd_ne hp]; exact k2, k3⟩, k4⟩
    · exact ⟨h1, ⟨o, upd_same, r⟩, h4⟩
  · have hq : q ≠ p := fun z => by
      subst z
      cases hfl : fl with
      | true => rw [h4.1 hfl] at e; cases e
      | false => exact nf (h4.2 hfl)
    rw [upd_ne hq]; exact S.fr.h q x nf e
  · by_cases hq : q = p
    · subst hq; rw [upd_same] at z; cases z
    · rw [upd_ne hq] at z; exact S.fr.k q e z
/-- one's own list of data is shared from now on -/
theorem SR.freeze (S : SR K B E M σ G H) {j : Nat} {p : Addr} {ds : List PyData} (hj : M[j]? = some (p, true, .lst (ds.map .dt))) : ∃ G', Same G G' ∧ SR K B E (M.eraseIdx j) σ G' H ∧ Dr G' (.ref p) (.list ds) := by
  have hm := List.mem_of_getElem? hj
  obtain ⟨h1, ⟨o0, h2, h3⟩, h4⟩ := S.cells.at_ _ hm
  obtain ⟨vs, rfl, h5⟩ := RelO.lst_inv h3
  have sg : Same G (upd G p (.lst vs)) := same_upd h1
  have hjl : j < M.length := (List.getElem?_eq_some_iff.mp hj).1
  refine ⟨upd G p (.lst vs), sg, ⟨fun b x e => ?_, S.len, fun i g e => ?_, ⟨fun c hc => ?_, S.cells.nd.sublist ((List.eraseIdx_sublist _ _).map _)⟩, ⟨fun b x e => sg _ _ (S.fr.g _ _ e), S.fr.h, S.fr.k, fun q e n => ?_⟩⟩, .lst upd_same (DrAll.mono sg h5.data)⟩
  · by_cases hb : b = p
    · subst hb; rw [upd_same] at e; cases e; exact h2
    · rw [upd_ne hb] at e; exact S.sub _ _ e
  · obtain ⟨v, k1, k2⟩ := S.slot i g e
    exact ⟨v, k1, RelG.mono sg k2⟩
  · have hcm : c ∈ M := (List.eraseIdx_sublist _ _).subset hc
    have hp : c.1 ≠ p := by
      intro hp
      obtain ⟨i, hi⟩ := List.mem_iff_getElem?.mp hc
      have key : ∃ i', i' ≠ j ∧ M[i']? = some c := by
        rw [List.getElem?_eraseIdx] at hi
        split at hi
        · rename_i hlt
          exact ⟨i, by omega, hi⟩
        · rename_i hlt
          exact ⟨i + 1, by omega, hi⟩
      obtain ⟨i', hne, hi'⟩ := key
      have e1 : (M.map (·.1))[i']? = some p := by rw [List.getElem?_map, hi']; show some c.1 = some p; rw [hp]
      have e2 : (M.map (·.1))[j]? = some p := by rw [List.getElem?_map, hj]; rfl
      have hil : i' < (M.map (·.1)).length := (List.getElem?_eq_some_iff.mp e1).1
      exact hne ((List.getElem?_inj hil S.cells.nd).mp (e1.trans e2.symm))
    obtain ⟨k1, ⟨ho, k2, k3⟩, k4⟩ := S.cells.at_ c hcm
    exact ⟨by rw [upd_ne hp]; exact k1, ⟨ho, k2, RelO.mono sg k3⟩, k4⟩
  · by_cases hq : q = p
    · subst hq
      exact absurd (h4.1 rfl) e
    · rw [upd_ne hq]; exact S.fr.n q e n

/-! ### calls -/
/-- behind a call that changes none of the cells -/
theorem SR.called (S : SR K B E M σ G H) (f : Fr ⟨fun _ => False, G, H⟩ G' H') (sub : Same G' H') : SR K B E M σ G' H' where
  sub := sub
  len := S.len
  slot := fun i g e => by
    obtain ⟨v, h1, h2⟩ := S.slot i g e
    exact ⟨v, h1, RelG.mono f.g h2⟩
  cells := ⟨fun c hc => by
    obtain ⟨h1, ⟨ho, h2, h3⟩, h4⟩ := S.cells.at_ c hc
    exact ⟨f.n c.1 (by show H c.1 ≠ none; rw [h2]; intro z; cases z) h1, ⟨ho, f.h c.1 ho (fun z => z) h2, RelO.mono f.g h3⟩, h4⟩, S.cells.nd⟩
  fr := ⟨fun b o e => f.g _ _ (S.fr.g _ _ e), fun q o nf e => f.h q o (fun z => z) (S.fr.h q o nf e), fun q e => f.k q (S.fr.k q e), fun q e n => f.n q (S.fr.k q e) (S.fr.n q e n)⟩
/-- a new cell is noted -/
theorem SR.noted (S : SR K B E M σ G' H') {p : Addr} {o : HO} {g : GO} (hp : B.H0 p = none) (hM : ∀ c ∈ M, c.1 ≠ p) (hg : G' p = none) (ho : H' p = some o) (r : RelO K G' o g) : SR K B E ((p, true, g) :: M) σ G' H' :=
  ⟨S.sub, S.len, S.slot, ⟨fun c hc => by
    rcases List.mem_cons.mp hc with rfl | hc
    · exact ⟨hg, ⟨o, ho, r⟩, fun _ => hp, fun z => by cases z⟩
    · exact S.cells.at_ c hc, by
    rw [List.map_cons, List.nodup_cons]
    refine ⟨fun hm => ?_, S.cells.nd⟩
    obtain ⟨c, hc, e⟩ := List.mem_map.mp hm
    exact hM c hc e⟩, S.fr⟩
theorem SR.cell_ne (S : SR K B E M σ G H) {p : Addr} (h : H p = none) : ∀ c ∈ M, c.1 ≠ p := fun c hc => by
  obtain ⟨_, ⟨ho, h2, _⟩, _⟩ := S.cells.at_ c hc
  exact ne_of_none h2 h
/-- behind a call that changes the j-th cell -/
theorem SR.called1 (S : SR K B E M σ G H) {j : Nat} {p : Addr} {fl : Bool} {g0 g : GO} {o : HO} (hj : M[j]? = some (p, fl, g0)) (f : Fr ⟨fun q => q = p, G, H⟩ G' H') (sub : Same G' H') (ho : H' p = some o) (r : RelO K G' o g) :
    SR K B E (M.set j (p, fl, g)) σ G' H' := by
  have hm : (p, fl, g0) ∈ M := List.mem_of_getElem? hj
  obtain ⟨h1, ⟨o0, h2, h3⟩, h4⟩ := S.cells.at_ _ hm
  have hjl : j < M.length := (List.getElem?_eq_some_iff.mp hj).1
  have hmap : (M.set j (p, fl, g)).map (·.1) = M.map (·.1) := by
    rw [List.map_set]
    refine List.ext_getElem? fun i => ?_
    by_cases hi : j = i
    · subst hi
      rw [List.getElem?_set_self (by rw [List.length_map]; exact hjl), List.getElem?_map, hj]; rfl
    · rw [List.getElem?_set_ne hi]
  have hgp : G' p = none := f.n p (by show H p ≠ none; rw [h2]; intro z; cases z) h1
  refine ⟨sub, S.len, fun i g e => ?_, ⟨fun c hc => ?_, by rw [hmap]; exact S.cells.nd⟩, ⟨fun b o e => f.g _ _ (S.fr.g _ _ e), fun q x nf e => ?_, fun q e => f.k q (S.fr.k q e), fun q e n => f.n q (S.fr.k q e) (S.fr.n q e n)⟩⟩
  · obtain ⟨v, k1, k2⟩ := S.slot i g e
    exact ⟨v, k1, RelG.mono f.g k2⟩
  · rcases List.mem_or_eq_of_mem_set hc with hc' | rfl
    · by_cases hp : c.1 = p
      · obtain ⟨i, hi⟩ := List.mem_iff_getElem?.mp hc
        by_cases hij : j = i
        · subst hij
          rw [List.getElem?_set_self hjl] at hi
          cases hi
          exact ⟨hgp, ⟨o, ho, r⟩, h4⟩
        · rw [List.getElem?_set_ne hij] at hi
          exfalso
          have e1 : (M.map (·.1))[i]? = some p := by rw [List.getElem?_map, hi]; show some c.1 = some p; rw [hp]
          have e2 : (M.map (·.1))[j]? = some p := by rw [List.getElem?_map, hj]; rfl
          have hil : i < (M.map (·.1)).length := (List.getElem?_eq_some_iff.mp e1).1
          exact hij (((List.getElem?_inj hil S.cells.nd).mp (e1.trans e2.symm)).symm)
      · obtain ⟨k1, ⟨hq, k2, k3⟩, k4⟩ := S.cells.at_ c hc'
        exact ⟨f.n c.1 (by show H c.1 ≠ none; rw [k2]; intro z; cases z) k1, ⟨hq, f.h c.1 hq hp k2, RelO.mono f.g k3⟩, k4⟩
    · exact ⟨hgp, ⟨o, ho, r⟩, h4⟩
  · have hq : q ≠ p := fun z => by
      subst z
      cases hfl : fl with
      | true =>
        have z := S.fr.h q x nf e
        have z2 := h4.1 hfl
        rw [z2] at e; cases e
      | false => exact nf (h4.2 hfl)
    exact f.h q x hq (S.fr.h q x nf e)
end
end Ek

set_option Elab.async false
set_option linter.all false
set_option maxRecDepth 100000
/-! judgements over ghost states, and their rules -/
namespace Ek
open PySem PySem.Spec PyProof.Rows L2

/-- an expression has the ghost value g, and leaves the cells M' -/
def EE (K : PySem.W.Frag) (te : TE) (E : GE) (M : GM) (g : GV) (M' : GM) : Prop :=
  ∀ B σ G H, SR K B E M σ G H → ∀ Q : VK, (∀ v G' H', Same G G' → SR K B E M' σ G' H' → RelG K G' v g → Q v H') → te σ H Q
/-- an expression makes a new list -/
def EF (K : PySem.W.Frag) (te : TE) (E : GE) (M : GM) (xs : List GV) (M' : GM) : Prop :=
  ∀ B σ G H, SR K B E M σ G H → ∀ Q : VK, (∀ p G' H', Same G G' → SR K B E ((p, true, .lst xs) :: M') σ G' H' → Q (.ref p) H') → te σ H Q
/-- an expression makes a new tuple (of anything) -/
def EU (K : PySem.W.Frag) (te : TE) (E : GE) (M : GM) (xs : List GV) (M' : GM) : Prop :=
  ∀ B σ G H, SR K B E M σ G H → ∀ Q : VK, (∀ p G' H', Same G G' → SR K B E ((p, true, .tup xs) :: M') σ G' H' → Q (.ref p) H') → te σ H Q
def ET (K : PySem.W.Frag) (tt : TT) (E : GE) (M : GM) (b : Bool) (M' : GM) : Prop :=
  ∀ B σ G H, SR K B E M σ G H → ∀ Q : Bool → Hp → Prop, (∀ G' H', Same G G' → SR K B E M' σ G' H' → Q b H') → tt σ H Q
def EA (K : PySem.W.Frag) (ta : TA) (E : GE) (M : GM) (gs : List GV) (M' : GM) : Prop :=
  ∀ B σ G H, SR K B E M σ G H → ∀ Q : List V → Hp → Prop, (∀ vs G' H', Same G G' → SR K B E M' σ G' H' → RelGs K G' vs gs → Q vs H') → ta σ H Q
/-- an operation on two values -/
def R2E (K : PySem.W.Frag) (r : R2) (x y : GV) (M : GM) (g : GV) (M' : GM) : Prop :=
  ∀ B E σ G H, SR K B E M σ G H → ∀ v w, RelG K G v x → RelG K G w y → ∀ Q : VK, (∀ v G' H', Same G G' → SR K B E M' σ G' H' → RelG K G' v g → Q v H') → r v w H Q
def R2F (K : PySem.W.Frag) (r : R2) (x y : GV) (M : GM) (xs : List GV) (M' : GM) : Prop :=
  ∀ B E σ G H, SR K B E M σ G H → ∀ v w, RelG K G v x → RelG K G w y → ∀ Q : VK, (∀ p G' H', Same G G' → SR K B E ((p, true, .lst xs) :: M') σ G' H' → Q (.ref p) H') → r v w H Q
abbrev TR := List V → Hp → VK → Prop
def RCE (K : PySem.W.Frag) (r : TR) (gs : List GV) (M : GM) (g : GV) (M' : GM) : Prop :=
  ∀ B E σ G H, SR K B E M σ G H → ∀ vs, RelGs K G vs gs → ∀ Q : VK, (∀ v G' H', Same G G' → SR K B E M' σ G' H' → RelG K G' v g → Q v H') → r vs H Q
def RCF (K : PySem.W.Frag) (r : TR) (gs : List GV) (M : GM) (xs : List GV) (M' : GM) : Prop :=
  ∀ B E σ G H, SR K B E M σ G H → ∀ vs, RelGs K G vs gs → ∀ Q : VK, (∀ p G' H', Same G G' → SR K B E ((p, true, .lst xs) :: M') σ G' H' → Q (.ref p) H') → r vs H Q

theorem Same.rfl' {G : Hp} : Same G G := fun _ _ h => h

section
variable {K : PySem.W.Frag} {E : GE} {M M1 M2 M3 : GM} {g x y z : GV} {ta tb tc te : TE} {tt tu : TT} {b c : Bool} {xs ys : List GV}
/-! ### expressions -/
theorem ee_var {i : Nat} (h : E[i]? = some (some g)) : EE K (tVar i) E M g M := fun B σ G H S Q q => by
  obtain ⟨v, h1, h2⟩ := S.slot i g h
  exact ⟨v, h1, q v G H Same.rfl' S h2⟩
theorem ee_int {i : Int} : EE K (tC (.int i)) E M (.dt (.int i)) M := fun B σ G H S Q q => q _ G H Same.rfl' S (Dr.int i)
theorem ee_bl {i : Bool} : EE K (tC (.bl i)) E M (.dt (.bool i)) M := fun B σ G H S Q q => q _ G H Same.rfl' S (Dr.bl i)
theorem ee_str {i : Str} : EE K (tC (.str i)) E M (.dt (.str i)) M := fun B σ G H S Q q => q _ G H Same.rfl' S (Dr.str i)
theorem ee_non : EE K (tC .non) E M (.dt .none) M := fun B σ G H S Q q => q _ G H Same.rfl' S Dr.non
theorem ee_ty {n : String} : EE K (tC (.ty n)) E M (.ty n) M := fun B σ G H S Q q => q _ G H Same.rfl' S rfl
theorem EE.eq {g' : GV} (h : EE K te E M g M1) (e : g = g') : EE K te E M g' M1 := e ▸ h
theorem ET.eq {b' : Bool} (h : ET K tt E M b M1) (e : b = b') : ET K tt E M b' M1 := e ▸ h
theorem EF.eq {ys : List GV} (h : EF K te E M xs M1) (e : xs = ys) : EF K te E M ys M1 := e ▸ h
theorem ee_op {r : R2} (ha : EE K ta E M x M1) (hb : EE K tb E M1 y M2) (hr : R2E K r x y M2 g M3) : EE K (tOp r ta tb) E M g M3 := fun B σ G H S Q q =>
  ha B σ G H S _ fun v G1 H1 s1 S1 r1 => hb B σ G1 H1 S1 _ fun w G2 H2 s2 S2 r2 => hr B E σ G2 H2 S2 v w (RelG.mono s2 r1) r2 Q fun u G3 H3 s3 S3 r3 => q u G3 H3 (fun a o e => s3 _ _ (s2 _ _ (s1 _ _ e))) S3 r3
theorem ef_op {r : R2} (ha : EE K ta E M x M1) (hb : EE K tb E M1 y M2) (hr : R2F K r x y M2 xs M3) : EF K (tOp r ta tb) E M xs M3 := fun B σ G H S Q q =>
  ha B σ G H S _ fun v G1 H1 s1 S1 r1 => hb B σ G1 H1 S1 _ fun w G2 H2 s2 S2 r2 => hr B E σ G2 H2 S2 v w (RelG.mono s2 r1) r2 Q fun u G3 H3 s3 S3 => q u G3 H3 (fun a o e => s3 _ _ (s2 _ _ (s1 _ _ e))) S3
/-- a list of data that was just made -/
theorem ee_fz {ds : List PyData} (h : EF K te E M (ds.map .dt) M1) : EE K te E M (.dt (.list ds)) M1 := fun B σ G H S Q q =>
  h B σ G H S Q fun p G1 H1 s1 S1 => by
    obtain ⟨G2, s2, S2, d⟩ := S1.freeze (j := 0) rfl
    exact q (.ref p) G2 H1 (fun a o e => s2 _ _ (s1 _ _ e)) S2 d
theorem r2_int {g : Int → Int → V} {d : PyData} {i j : Int} (hg : ∀ G : Hp, Dr G (g i j) d) : R2E K (rI0 g) (.dt (.int i)) (.dt (.int j)) M (.dt d) M := fun B E σ G H S v w hv hw Q q => by
  cases hv; cases hw
  exact ⟨i, j, rfl, rfl, q _ G H Same.rfl' S (hg G)⟩
theorem r2_intC {C : Int → Int → Prop} {g : Int → Int → V} {d : PyData} {i j : Int} (hc : C i j) (hg : ∀ G : Hp, Dr G (g i j) d) : R2E K (rI C g) (.dt (.int i)) (.dt (.int j)) M (.dt d) M := fun B E σ G H S v w hv hw Q q => by
  cases hv; cases hw
  exact ⟨i, j, rfl, rfl, hc, q _ G H Same.rfl' S (hg G)⟩
section
variable {i j : Int}
theorem ee_add (ha : EE K ta E M (.dt (.int i)) M1) (hb : EE K tb E M1 (.dt (.int j)) M2) : EE K (tOp (rI0 fun i j => .int (i + j)) ta tb) E M (.dt (.int (i + j))) M2 := ee_op ha hb (r2_int fun _ => .int _)
theorem ee_sub (ha : EE K ta E M (.dt (.int i)) M1) (hb : EE K tb E M1 (.dt (.int j)) M2) : EE K (tOp (rI0 fun i j => .int (i - j)) ta tb) E M (.dt (.int (i - j))) M2 := ee_op ha hb (r2_int fun _ => .int _)
theorem ee_mul (ha : EE K ta E M (.dt (.int i)) M1) (hb : EE K tb E M1 (.dt (.int j)) M2) (hc : CMulW i j) : EE K (tOp (rI CMulW fun i j => .int (i * j)) ta tb) E M (.dt (.int (i * j))) M2 := ee_op ha hb (r2_intC hc fun _ => .int _)
theorem ee_div (ha : EE K ta E M (.dt (.int i)) M1) (hb : EE K tb E M1 (.dt (.int j)) M2) (hc : CDivW i j) : EE K (tOp (rI CDivW fun i j => .int (i / j)) ta tb) E M (.dt (.int (i / j))) M2 := ee_op ha hb (r2_intC hc fun _ => .int _)
theorem ee_mod (ha : EE K ta E M (.dt (.int i)) M1) (hb : EE K tb E M1 (.dt (.int j)) M2) (hc : 0 < j) : EE K (tOp (rI (fun _ j => 0 < j) fun i j => .int (i % j)) ta tb) E M (.dt (.int (i % j))) M2 := ee_op ha hb (r2_intC hc fun _ => .int _)
theorem ee_pow (ha : EE K ta E M (.dt (.int i)) M1) (hb : EE K tb E M1 (.dt (.int j)) M2) (hc : CPow i j) : EE K (tOp (rI CPow fun i j => .int (i ^ j.toNat)) ta tb) E M (.dt (.int (i ^ j.toNat))) M2 := ee_op ha hb (r2_intC hc fun _ => .int _)
theorem ee_lt (ha : EE K ta E M (.dt (.int i)) M1) (hb : EE K tb E M1 (.dt (.int j)) M2) : EE K (tOp (rI0 fun i j => .bl (decide (i < j))) ta tb) E M (.dt (.bool (decide (i < j)))) M2 := ee_op ha hb (r2_int fun _ => .bl _)
theorem ee_le (ha : EE K ta E M (.dt (.int i)) M1) (hb : EE K tb E M1 (.dt (.int j)) M2) : EE K (tOp (rI0 fun i j => .bl (decide (i ≤ j))) ta tb) E M (.dt (.bool (decide (i ≤ j)))) M2 := ee_op ha hb (r2_int fun _ => .bl _)
theorem ee_gt (ha : EE K ta E M (.dt (.int i)) M1) (hb : EE K tb E M1 (.dt (.int j)) M2) : EE K (tOp (rI0 fun i j => .bl (decide (j < i))) ta tb) E M (.dt (.bool (decide (j < i)))) M2 := ee_op ha hb (r2_int fun _ => .bl _)
theorem ee_ge (ha : EE K ta E M (.dt (.int i)) M1) (hb : EE K tb E M1 (.dt (.int j)) M2) : EE K (tOp (rI0 fun i j => .bl (decide (j ≤ i))) ta tb) E M (.dt (.bool (decide (j ≤ i)))) M2 := ee_op ha hb (r2_int fun _ => .bl _)
theorem ee_neg (ha : EE K ta E M (.dt (.int i)) M1) : EE K (tUn (rU fun i => .int (-i)) ta) E M (.dt (.int (-i))) M1 := fun B σ G H S Q q =>
  ha B σ G H S _ fun v G1 H1 s1 S1 r1 => by
    cases r1
    exact ⟨i, rfl, q _ G1 H1 s1 S1 (Dr.int _)⟩
end
/-! ### equality of data -/
theorem shaped_int (i : Int) : SeqAt.shaped (.int i) = true := rfl
theorem shaped_bool (i : Bool) : SeqAt.shaped (.bool i) = true := rfl
theorem r2_eqD {d e : PyData} (hd : SeqAt.shaped d = true) (he : SeqAt.shaped e = true) : R2E K (rEqD K) (.dt d) (.dt e) M (.dt (.bool (PyData.eqv d e))) M := fun B E σ G H S v w hv hw Q q =>
  ⟨d, e, (Dr.mono S.sub hv).dp, (Dr.mono S.sub hw).dp, hd, he, q _ G H Same.rfl' S (Dr.bl _)⟩
theorem r2_neD {d e : PyData} (hd : SeqAt.shaped d = true) (he : SeqAt.shaped e = true) : R2E K (rNeD K) (.dt d) (.dt e) M (.dt (.bool (!PyData.eqv d e))) M := fun B E σ G H S v w hv hw Q q =>
  ⟨d, e, (Dr.mono S.sub hv).dp, (Dr.mono S.sub hw).dp, hd, he, q _ G H Same.rfl' S (Dr.bl _)⟩
theorem ee_eqD {d e : PyData} (ha : EE K ta E M (.dt d) M1) (hb : EE K tb E M1 (.dt e) M2) (hd : SeqAt.shaped d = true) (he : SeqAt.shaped e = true) : EE K (tOp (rEqD K) ta tb) E M (.dt (.bool (PyData.eqv d e))) M2 := ee_op ha hb (r2_eqD hd he)
theorem ee_neD {d e : PyData} (ha : EE K ta E M (.dt d) M1) (hb : EE K tb E M1 (.dt e) M2) (hd : SeqAt.shaped d = true) (he : SeqAt.shaped e = true) : EE K (tOp (rNeD K) ta tb) E M (.dt (.bool (!PyData.eqv d e))) M2 := ee_op ha hb (r2_neD hd he)
theorem eqv_int (i j : Int) : PyData.eqv (.int i) (.int j) = decide (i = j) := by
  show (i == j) = _
  by_cases h : i = j <;> simp [h]
theorem ee_eqI {i j : Int} (ha : EE K ta E M (.dt (.int i)) M1) (hb : EE K tb E M1 (.dt (.int j)) M2) : EE K (tOp (rEqD K) ta tb) E M (.dt (.bool (decide (i = j)))) M2 := (ee_eqD ha hb rfl rfl).eq (by rw [eqv_int])
theorem ee_neI {i j : Int} (ha : EE K ta E M (.dt (.int i)) M1) (hb : EE K tb E M1 (.dt (.int j)) M2) : EE K (tOp (rNeD K) ta tb) E M (.dt (.bool (!decide (i = j)))) M2 := (ee_neD ha hb rfl rfl).eq (by rw [eqv_int])
/-! ### tests -/
theorem et_test (h : EE K te E M (.dt (.bool b)) M1) : ET K (tTest te) E M b M1 := fun B σ G H S Q q =>
  h B σ G H S _ fun v G1 H1 s1 S1 r1 => by
    cases r1
    exact ⟨b, rfl, q G1 H1 s1 S1⟩
theorem et_B (h : EE K te E M (.dt (.bool b)) M1) : ET K (tB te) E M b M1 := fun B σ G H S Q q =>
  h B σ G H S _ fun v G1 H1 s1 S1 r1 => by
    cases r1
    exact ⟨b, rfl, q G1 H1 s1 S1⟩
theorem et_not (h : ET K tt E M b M1) : ET K (tNot tt) E M (!b) M1 := fun B σ G H S Q q => h B σ G H S _ fun G1 H1 s1 S1 => q G1 H1 s1 S1
theorem et_and (h : ET K tt E M b M) (h2 : b = true → ET K tu E M c M) : ET K (tAnd tt tu) E M (b && c) M := fun B σ G H S Q q => h B σ G H S _ fun G1 H1 s1 S1 => by
  cases b with
  | true =>
    show tu σ H1 Q
    exact h2 rfl B σ G1 H1 S1 Q fun G2 H2 s2 S2 => q G2 H2 (fun a o e => s2 _ _ (s1 _ _ e)) S2
  | false => exact q G1 H1 s1 S1
theorem et_or (h : ET K tt E M b M) (h2 : b = false → ET K tu E M c M) : ET K (tOr tt tu) E M (b || c) M := fun B σ G H S Q q => h B σ G H S _ fun G1 H1 s1 S1 => by
  cases b with
  | false =>
    show tu σ H1 Q
    exact h2 rfl B σ G1 H1 S1 Q fun G2 H2 s2 S2 => q G2 H2 (fun a o e => s2 _ _ (s1 _ _ e)) S2
  | true => exact q G1 H1 s1 S1
theorem ee_andV (h : EE K ta E M (.dt (.bool b)) M) (h2 : b = true → EE K tb E M (.dt (.bool c)) M) : EE K (tAndV ta tb) E M (.dt (.bool (b && c))) M := fun B σ G H S Q q => h B σ G H S _ fun v G1 H1 s1 S1 r1 => by
  cases r1
  refine ⟨b, rfl, ?_⟩
  cases b with
  | true =>
    show tb σ H1 Q
    exact h2 rfl B σ G1 H1 S1 Q fun v G2 H2 s2 S2 r => q v G2 H2 (fun a o e => s2 _ _ (s1 _ _ e)) S2 r
  | false => exact q _ G1 H1 s1 S1 (Dr.bl _)
theorem ee_orV (h : EE K ta E M (.dt (.bool b)) M) (h2 : b = false → EE K tb E M (.dt (.bool c)) M) : EE K (tOrV ta tb) E M (.dt (.bool (b || c))) M := fun B σ G H S Q q => h B σ G H S _ fun v G1 H1 s1 S1 r1 => by
  cases r1
  refine ⟨b, rfl, ?_⟩
  cases b with
  | false =>
    show tb σ H1 Q
    exact h2 rfl B σ G1 H1 S1 Q fun v G2 H2 s2 S2 r => q v G2 H2 (fun a o e => s2 _ _ (s1 _ _ e)) S2 r
  | true => exact q _ G1 H1 s1 S1 (Dr.bl _)
theorem ee_notV (h : EE K ta E M (.dt (.bool b)) M1) : EE K (tNotV ta) E M (.dt (.bool (!b))) M1 := fun B σ G H S Q q => h B σ G H S _ fun v G1 H1 s1 S1 r1 => by
  cases r1
  exact ⟨b, rfl, q _ G1 H1 s1 S1 (Dr.bl _)⟩
theorem ee_if (h : ET K tt E M b M1) (h1 : b = true → EE K ta E M1 g M2) (h2 : b = false → EE K tb E M1 g M2) : EE K (tIf tt ta tb) E M g M2 := fun B σ G H S Q q => h B σ G H S _ fun G1 H1 s1 S1 => by
  cases b with
  | true =>
    show ta σ H1 Q
    exact h1 rfl B σ G1 H1 S1 Q fun v G2 H2 s2 S2 r => q v G2 H2 (fun a o e => s2 _ _ (s1 _ _ e)) S2 r
  | false =>
    show tb σ H1 Q
    exact h2 rfl B σ G1 H1 S1 Q fun v G2 H2 s2 S2 r => q v G2 H2 (fun a o e => s2 _ _ (s1 _ _ e)) S2 r
theorem ef_if (h : ET K tt E M b M1) (h1 : b = true → EF K ta E M1 xs M2) (h2 : b = false → EF K tb E M1 xs M2) : EF K (tIf tt ta tb) E M xs M2 := fun B σ G H S Q q => h B σ G H S _ fun G1 H1 s1 S1 => by
  cases b with
  | true =>
    show ta σ H1 Q
    exact h1 rfl B σ G1 H1 S1 Q fun p G2 H2 s2 S2 => q p G2 H2 (fun a o e => s2 _ _ (s1 _ _ e)) S2
  | false =>
    show tb σ H1 Q
    exact h2 rfl B σ G1 H1 S1 Q fun p G2 H2 s2 S2 => q p G2 H2 (fun a o e => s2 _ _ (s1 _ _ e)) S2
/-! ### arguments, displays -/
theorem ea_nil : EA K tNil E M [] M := fun B σ G H S Q q => q [] G H Same.rfl' S .nil
theorem ea_cons {tr : TA} {gs : List GV} (h : EE K te E M g M1) (hr : EA K tr E M1 gs M2) : EA K (tCons te tr) E M (g :: gs) M2 := fun B σ G H S Q q =>
  h B σ G H S _ fun v G1 H1 s1 S1 r1 => hr B σ G1 H1 S1 _ fun vs G2 H2 s2 S2 r2 => q (v :: vs) G2 H2 (fun a o e => s2 _ _ (s1 _ _ e)) S2 (.cons (RelG.mono s2 r1) r2)
theorem ef_lst {tr : TA} {gs : List GV} (h : EA K tr E M gs M1) (hl : gs.length ≤ sizeLine) : EF K (tLst tr) E M gs M1 := fun B σ G H S Q q =>
  h B σ G H S _ fun vs G1 H1 s1 S1 r1 => ⟨by rw [r1.length]; exact hl, fun p hp => q p G1 _ s1 (S1.own hp r1)⟩
theorem eu_tup {tr : TA} {gs : List GV} (h : EA K tr E M gs M1) (hl : gs.length ≤ sizeLine) : EU K (tTup tr) E M gs M1 := fun B σ G H S Q q =>
  h B σ G H S _ fun vs G1 H1 s1 S1 r1 => ⟨by rw [r1.length]; exact hl, fun p hp => q p G1 _ s1 (S1.own hp r1)⟩
theorem ee_tup {tr : TA} {ds : List PyData} (h : EA K tr E M (ds.map .dt) M1) (hl : ds.length ≤ sizeLine) : EE K (tTup tr) E M (.dt (.tuple ds)) M1 := fun B σ G H S Q q =>
  h B σ G H S _ fun vs G1 H1 s1 S1 r1 => ⟨by rw [r1.length, List.length_map]; exact hl, fun p hp => by
    have hg := S1.gfree hp
    exact q (.ref p) _ _ (fun a o e => same_upd hg _ _ (s1 _ _ e)) (S1.share hp) (.tup upd_same (DrAll.mono (same_upd hg) r1.data))⟩
theorem ee_tup2 {d e : PyData} (h : EE K ta E M (.dt d) M1) (h2 : EE K tb E M1 (.dt e) M2) : EE K (tTup (tCons ta (tCons tb tNil))) E M (.dt (.tuple [d, e])) M2 := ee_tup (ds := [d, e]) (ea_cons h (ea_cons h2 ea_nil)) (by show 2 ≤ sizeLine; decide)
theorem ee_tup1 {d : PyData} (h : EE K ta E M (.dt d) M1) : EE K (tTup (tCons ta tNil)) E M (.dt (.tuple [d])) M1 := ee_tup (ds := [d]) (ea_cons h ea_nil) (by show 1 ≤ sizeLine; decide)
theorem ee_tup3 {d e f : PyData} (h : EE K ta E M (.dt d) M1) (h2 : EE K tb E M1 (.dt e) M2) (h3 : EE K tc E M2 (.dt f) M3) : EE K (tTup (tCons ta (tCons tb (tCons tc tNil)))) E M (.dt (.tuple [d, e, f])) M3 := ee_tup (ds := [d, e, f]) (ea_cons h (ea_cons h2 (ea_cons h3 ea_nil))) (by show 3 ≤ sizeLine; decide)
/-! ### items -/
theorem atI_map {α β : Type} (f : α → β) {xs : List α} {i : Int} {x : α} (h : atI xs i = some x) : atI (xs.map f) i = some (f x) := by
  unfold atI at h ⊢
  rw [List.length_map]
  cases e : ixN xs.length i with
  | none => rw [e] at h; cases h
  | some j =>
    rw [e] at h
    show (xs.map f)[j]? = _
    rw [List.getElem?_map]
    have h' : xs[j]? = some x := h
    rw [h'] <;> rfl
theorem DrAll.atI {G : Hp} {vs : List V} {ds : List PyData} {i : Int} {d : PyData} (h : DrAll G vs ds) (e : L2.atI ds i = some d) : ∃ v, L2.atI vs i = some v ∧ Dr G v d := by
  unfold L2.atI at e ⊢
  rw [h.length]
  cases e1 : ixN ds.length i with
  | none => rw [e1] at e; cases e
  | some j =>
    rw [e1] at e
    exact h.get' e
theorem RelGs.atI {G : Hp} {vs : List V} {gs : List GV} {i : Int} {g : GV} (h : RelGs K G vs gs) (e : L2.atI gs i = some g) : ∃ v, L2.atI vs i = some v ∧ RelG K G v g := by
  unfold L2.atI at e ⊢
  rw [RelGs.length h]
  cases e1 : ixN gs.length i with
  | none => rw [e1] at e; cases e
  | some j =>
    rw [e1] at e
    exact RelGs.get' h e
theorem ee_ixL {ds : List PyData} {i : Int} {d : PyData} (ha : EE K ta E M (.dt (.list ds)) M1) (hb : EE K tb E M1 (.dt (.int i)) M2) (h : atI ds i = some d) : EE K (tOp (rIxL K) ta tb) E M (.dt d) M2 :=
  ee_op ha hb fun B E σ G H S v w hv hw Q q => by
    cases hv with
    | lst e a =>
      cases hw
      obtain ⟨u, h1, h2⟩ := a.atI h
      exact ⟨_, _, i, u, rfl, rfl, .of (S.sub _ _ e), h1, q u G H Same.rfl' S h2⟩
theorem ee_ixT {ds : List PyData} {i : Int} {d : PyData} (ha : EE K ta E M (.dt (.tuple ds)) M1) (hb : EE K tb E M1 (.dt (.int i)) M2) (h : atI ds i = some d) : EE K (tOp (rIxT K) ta tb) E M (.dt d) M2 :=
  ee_op ha hb fun B E σ G H S v w hv hw Q q => by
    cases hv with
    | tup e a =>
      cases hw
      obtain ⟨u, h1, h2⟩ := a.atI h
      exact ⟨_, _, i, u, rfl, rfl, .of (S.sub _ _ e), h1, q u G H Same.rfl' S h2⟩
/-- an item of the script -/
theorem ee_ixS {ns : List Int} {i k : Int} (ha : EE K ta E M (.sc ns) M1) (hb : EE K tb E M1 (.dt (.int i)) M2) (h : atI ns i = some k) : EE K (tOp (rIxL K) ta tb) E M (.dt (.int k)) M2 :=
  ee_op ha hb fun B E σ G H S v w hv hw Q q => by
    obtain ⟨a, rfl, hs⟩ := hv
    cases hw
    exact ⟨a, _, i, _, rfl, rfl, S.sub.seq hs, atI_map V.int h, q _ G H Same.rfl' S (Dr.int _)⟩
/-- an item of one's own list, tuple -/
theorem ee_ixO {p : Addr} {i : Int} {fl : Bool} (ha : EE K ta E M (.rf p) M1) (hb : EE K tb E M1 (.dt (.int i)) M2) (hm : (p, fl, GO.lst xs) ∈ M2) (h : atI xs i = some g) : EE K (tOp (rIxL K) ta tb) E M g M2 :=
  ee_op ha hb fun B E σ G H S v w hv hw Q q => by
    have hv' : v = .ref p := hv
    subst hv'
    cases hw
    obtain ⟨_, ⟨o, h1, h2⟩, _⟩ := S.cells.at_ _ hm
    obtain ⟨vs, rfl, r⟩ := RelO.lst_inv h2
    obtain ⟨u, k1, k2⟩ := RelGs.atI r h
    exact ⟨p, vs, i, u, rfl, rfl, .of h1, k1, q u G H Same.rfl' S k2⟩
theorem ee_ixOT {p : Addr} {i : Int} {fl : Bool} (ha : EE K ta E M (.rf p) M1) (hb : EE K tb E M1 (.dt (.int i)) M2) (hm : (p, fl, GO.tup xs) ∈ M2) (h : atI xs i = some g) : EE K (tOp (rIxT K) ta tb) E M g M2 :=
  ee_op ha hb fun B E σ G H S v w hv hw Q q => by
    have hv' : v = .ref p := hv
    subst hv'
    cases hw
    obtain ⟨_, ⟨o, h1, h2⟩, _⟩ := S.cells.at_ _ hm
    obtain ⟨vs, rfl, r⟩ := RelO.tup_inv h2
    obtain ⟨u, k1, k2⟩ := RelGs.atI r h
    exact ⟨p, vs, i, u, rfl, rfl, .of h1, k1, q u G H Same.rfl' S k2⟩
/-! ### built-ins by name -/
theorem ee_cb {r : TR} {tr : TA} {gs : List GV} (h : EA K tr E M gs M1) (hr : RCE K r gs M1 g M2) : EE K (tCB r tr) E M g M2 := fun B σ G H S Q q =>
  h B σ G H S _ fun vs G1 H1 s1 S1 r1 => hr B E σ G1 H1 S1 vs r1 Q fun u G3 H3 s3 S3 r3 => q u G3 H3 (fun a o e => s3 _ _ (s1 _ _ e)) S3 r3
theorem ef_cb {r : TR} {tr : TA} {gs : List GV} (h : EA K tr E M gs M1) (hr : RCF K r gs M1 xs M2) : EF K (tCB r tr) E M xs M2 := fun B σ G H S Q q =>
  h B σ G H S _ fun vs G1 H1 s1 S1 r1 => hr B E σ G1 H1 S1 vs r1 Q fun u G3 H3 s3 S3 => q u G3 H3 (fun a o e => s3 _ _ (s1 _ _ e)) S3
theorem one_inv {G : Hp} {vs : List V} {g : GV} (h : RelGs K G vs [g]) : ∃ v, vs = [v] ∧ RelG K G v g := by
  cases h with
  | cons a t => cases t; exact ⟨_, rfl, a⟩
theorem two_inv {G : Hp} {vs : List V} {g g' : GV} (h : RelGs K G vs [g, g']) : ∃ v w, vs = [v, w] ∧ RelG K G v g ∧ RelG K G w g' := by
  cases h with
  | cons a t =>
    obtain ⟨w, rfl, b⟩ := one_inv t
    exact ⟨_, _, rfl, a, b⟩
def rAbs : TR := fun xs H Q => ∃ i, xs = [.int i] ∧ Q (.int (if i < 0 then -i else i)) H
theorem ee_abs {i : Int} (h : EE K te E M (.dt (.int i)) M1) : EE K (tCB (fun xs H Q => ∃ i, xs = [.int i] ∧ Q (.int (if i < 0 then -i else i)) H) (tCons te tNil)) E M (.dt (.int (i.natAbs : Int))) M1 :=
  ee_cb (ea_cons h ea_nil) fun B E σ G H S vs r Q q => by
    obtain ⟨v, rfl, hv⟩ := one_inv r
    cases hv
    refine ⟨i, rfl, ?_⟩
    have e : (if i < 0 then -i else i) = (i.natAbs : Int) := by split <;> omega
    rw [e]
    exact q _ G H Same.rfl' S (Dr.int _)
theorem ee_max2 {i j : Int} (h : EE K ta E M (.dt (.int i)) M1) (h2 : EE K tb E M1 (.dt (.int j)) M2) : EE K (tCB (fun xs H Q => ∃ i j, xs = [.int i, .int j] ∧ Q (.int (if j > i then j else i)) H) (tCons ta (tCons tb tNil))) E M (.dt (.int (max i j))) M2 :=
  ee_cb (ea_cons h (ea_cons h2 ea_nil)) fun B E σ G H S vs r Q q => by
    obtain ⟨v, w, rfl, hv, hw⟩ := two_inv r
    cases hv; cases hw
    refine ⟨i, j, rfl, ?_⟩
    have e : (if j > i then j else i) = max i j := by split <;> omega
    rw [e]
    exact q _ G H Same.rfl' S (Dr.int _)
theorem ee_min2 {i j : Int} (h : EE K ta E M (.dt (.int i)) M1) (h2 : EE K tb E M1 (.dt (.int j)) M2) : EE K (tCB (fun xs H Q => ∃ i j, xs = [.int i, .int j] ∧ Q (.int (if j < i then j else i)) H) (tCons ta (tCons tb tNil))) E M (.dt (.int (min i j))) M2 :=
  ee_cb (ea_cons h (ea_cons h2 ea_nil)) fun B E σ G H S vs r Q q => by
    obtain ⟨v, w, rfl, hv, hw⟩ := two_inv r
    cases hv; cases hw
    refine ⟨i, j, rfl, ?_⟩
    have e : (if j < i then j else i) = min i j := by split <;> omega
    rw [e]
    exact q _ G H Same.rfl' S (Dr.int _)
def rLenQ (K : PySem.W.Frag) : TR := fun xs H Q => ∃ p ys, xs = [.ref p] ∧ (SqL K H p ys ∨ SqT K H p ys) ∧ Q (.int ys.length) H
theorem ee_lenL {ds : List PyData} (h : EE K te E M (.dt (.list ds)) M1) : EE K (tCB (rLenQ K) (tCons te tNil)) E M (.dt (.int (ds.length : Int))) M1 :=
  ee_cb (ea_cons h ea_nil) fun B E σ G H S vs r Q q => by
    obtain ⟨v, rfl, hv⟩ := one_inv r
    cases hv with
    | lst e a => exact ⟨_, _, rfl, .inl (.of (S.sub _ _ e)), by rw [a.length]; exact q _ G H Same.rfl' S (Dr.int _)⟩
theorem ee_lenT {ds : List PyData} (h : EE K te E M (.dt (.tuple ds)) M1) : EE K (tCB (rLenQ K) (tCons te tNil)) E M (.dt (.int (ds.length : Int))) M1 :=
  ee_cb (ea_cons h ea_nil) fun B E σ G H S vs r Q q => by
    obtain ⟨v, rfl, hv⟩ := one_inv r
    cases hv with
    | tup e a => exact ⟨_, _, rfl, .inr (.of (S.sub _ _ e)), by rw [a.length]; exact q _ G H Same.rfl' S (Dr.int _)⟩
theorem ee_lenS {ns : List Int} (h : EE K te E M (.sc ns) M1) : EE K (tCB (rLenQ K) (tCons te tNil)) E M (.dt (.int (ns.length : Int))) M1 :=
  ee_cb (ea_cons h ea_nil) fun B E σ G H S vs r Q q => by
    obtain ⟨v, rfl, hv⟩ := one_inv r
    obtain ⟨a, rfl, hs⟩ := hv
    exact ⟨_, _, rfl, .inl (S.sub.seq hs), by rw [List.length_map]; exact q _ G H Same.rfl' S (Dr.int _)⟩
theorem ee_lenO {p : Addr} {fl : Bool} (h : EE K te E M (.rf p) M1) (hm : (p, fl, GO.lst xs) ∈ M1) : EE K (tCB (rLenQ K) (tCons te tNil)) E M (.dt (.int (xs.length : Int))) M1 :=
  ee_cb (ea_cons h ea_nil) fun B E σ G H S vs r Q q => by
    obtain ⟨v, rfl, hv⟩ := one_inv r
    have hv' : v = .ref p := hv
    subst hv'
    obtain ⟨_, ⟨o, h1, h2⟩, _⟩ := S.cells.at_ _ hm
    obtain ⟨ws, rfl, r⟩ := RelO.lst_inv h2
    exact ⟨p, ws, rfl, .inl (.of h1), by rw [RelGs.length r]; exact q _ G H Same.rfl' S (Dr.int _)⟩
/-- isinstance(x, T), x data -/
def tyD : PyData → String
  | .none => "NoneType" | .bool _ => "bool" | .int _ => "int" | .str _ => "str" | .list _ => "list" | .tuple _ => "tuple" | .dict _ => "dict"
theorem ty_data {G H : Hp} (e : Same G H) : ∀ {v : V} {d : PyData}, Dr G v d → TyX K H v (.type (tyD d))
  | _, _, .non => .base .non
  | _, _, .bl b => .base (.bl b)
  | _, _, .int b => .base (.int b)
  | _, _, .str b => .base (.str b)
  | _, _, .lst h _ => .base (.lst (e _ _ h))
  | _, _, .tup h _ => .base (.tup (e _ _ h))
theorem ee_isi {d : PyData} {n : String} (ha : EE K ta E M (.dt d) M1) (hb : EE K tb E M1 (.ty n) M2) (hk : kitB (tyD d) n = some b) :
    EE K (tCB (rIsi K) (tCons ta (tCons tb tNil))) E M (.dt (.bool b)) M2 :=
  ee_cb (ea_cons ha (ea_cons hb ea_nil)) fun B E σ G H S vs r Q q => by
    obtain ⟨v, w, rfl, hv, hw⟩ := two_inv r
    have hw' : w = .ty n := hw
    subst hw'
    exact ⟨v, .ty n, _, _, b, rfl, .ty n, ty_data S.sub hv, kit_ty hk, q _ G H Same.rfl' S (Dr.bl _)⟩

/-! ### blocks -/
structure Kn where
  nx : GE → GM → Prop
  rt : GV → GM → Prop
  bk : GE → GM → Prop
  ct : GE → GM → Prop
def Blk (K : PySem.W.Frag) (t : TS) (E : GE) (M : GM) (P : Kn) : Prop :=
  ∀ B σ G H (D : Ends), SR K B E M σ G H →
    (∀ E' M' σ' G' H', P.nx E' M' → Same G G' → SR K B E' M' σ' G' H' → D.nx σ' H') →
    (∀ g M' v G' H', P.rt g M' → Same G G' → SR K B [] M' [] G' H' → RelG K G' v g → D.rt v H') →
    (∀ E' M' σ' G' H', P.bk E' M' → Same G G' → SR K B E' M' σ' G' H' → D.bk σ' H') →
    (∀ E' M' σ' G' H', P.ct E' M' → Same G G' → SR K B E' M' σ' G' H' → D.ct σ' H') → t D σ H
variable {P : Kn} {t u : TS}
theorem SR.bare {B : Bs} {σ : St} {G H : Hp} (S : SR K B E M σ G H) : SR K B [] M [] G H := S.slots rfl (fun i g e => by simp at e)
theorem blk_next (h : P.nx E M) : Blk K tNext E M P := fun B σ G H D S n _ _ _ => n E M σ G H h Same.rfl' S
/-- what follows from a later state follows from here -/
theorem Blk.from_ {B : Bs} {σ : St} {G G0 H : Hp} {D : Ends} (h : Blk K t E M P) (s : Same G0 G) (S : SR K B E M σ G H)
    (n : ∀ E' M' σ' G' H', P.nx E' M' → Same G0 G' → SR K B E' M' σ' G' H' → D.nx σ' H')
    (r : ∀ g M' v G' H', P.rt g M' → Same G0 G' → SR K B [] M' [] G' H' → RelG K G' v g → D.rt v H')
    (b : ∀ E' M' σ' G' H', P.bk E' M' → Same G0 G' → SR K B E' M' σ' G' H' → D.bk σ' H')
    (c : ∀ E' M' σ' G' H', P.ct E' M' → Same G0 G' → SR K B E' M' σ' G' H' → D.ct σ' H') : t D σ H :=
  h B σ G H D S (fun E' M' σ' G' H' q e S' => n E' M' σ' G' H' q (s.trans e) S') (fun g M' v G' H' q e S' rr => r g M' v G' H' q (s.trans e) S' rr) (fun E' M' σ' G' H' q e S' => b E' M' σ' G' H' q (s.trans e) S') (fun E' M' σ' G' H' q e S' => c E' M' σ' G' H' q (s.trans e) S')
theorem blk_seq (h : Blk K t E M { P with nx := fun E' M' => Blk K u E' M' P }) : Blk K (tSeq t u) E M P := fun B σ G H D S n r b c =>
  h B σ G H { D with nx := u D } S (fun E' M' σ' G' H' q e S' => Blk.from_ (D := D) q e S' n r b c) r b c
theorem blk_mid {Mid : GE → GM → Prop} (h : Blk K t E M { P with nx := Mid }) (k : ∀ E' M', Mid E' M' → Blk K u E' M' P) : Blk K (tSeq t u) E M P := fun B σ G H D S n r b c =>
  h B σ G H { D with nx := u D } S (fun E' M' σ' G' H' q e S' => Blk.from_ (D := D) (k E' M' q) e S' n r b c) r b c
theorem Blk.imp {P' : Kn} (h : Blk K t E M P) (hn : ∀ E' M', P.nx E' M' → P'.nx E' M') (hr : ∀ g M', P.rt g M' → P'.rt g M') (hb : ∀ E' M', P.bk E' M' → P'.bk E' M') (hc : ∀ E' M', P.ct E' M' → P'.ct E' M') : Blk K t E M P' := fun B σ G H D S n r b c =>
  h B σ G H D S (fun E' M' σ' G' H' q => n E' M' σ' G' H' (hn _ _ q)) (fun g M' v G' H' q => r g M' v G' H' (hr _ _ q)) (fun E' M' σ' G' H' q => b E' M' σ' G' H' (hb _ _ q)) (fun E' M' σ' G' H' q => c E' M' σ' G' H' (hc _ _ q))
/-- what is known is weakened -/
theorem blk_weak {E' : GE} (h : Blk K t E' M P) (hl : E'.length = E.length) (hw : ∀ (i : Nat) g, E'[i]? = some (some g) → E[i]? = some (some g)) : Blk K t E M P := fun B σ G H D S => h B σ G H D (S.weak hl hw)
theorem blk_forget {M' : GM} (h : Blk K t E M' P) (hs : M'.Sublist M) : Blk K t E M P := fun B σ G H D S => h B σ G H D (S.sub_cells hs)
theorem blk_freeze {j i : Nat} {p : Addr} {ds : List PyData} (hj : M[j]? = some (p, true, .lst (ds.map .dt))) (hi : E[i]? = some (some (.rf p))) (h : Blk K t (E.set i (some (.dt (.list ds)))) (M.eraseIdx j) P) : Blk K t E M P := fun B σ G H D S n r b c => by
  obtain ⟨G', s, S', d⟩ := S.freeze hj
  refine Blk.from_ h s ⟨S'.sub, by rw [List.length_set]; exact S'.len, fun k g e => ?_, S'.cells, S'.fr⟩ n r b c
  by_cases hk : i = k
  · subst hk
    have hl : i < E.length := (List.getElem?_eq_some_iff.mp hi).1
    rw [List.getElem?_set_self hl] at e
    cases e
    obtain ⟨v, h1, h2⟩ := S'.slot i _ hi
    have h2' : v = .ref p := h2
    subst h2'
    exact ⟨_, h1, d⟩
  · rw [List.getElem?_set_ne hk] at e
    exact S'.slot k g e
theorem blk_asg {i : Nat} (h : EE K te E M g M1) (k : P.nx (E.set i (some g)) M1) : Blk K (tAsg te (gName i)) E M P := fun B σ G H D S n _ _ _ =>
  h B σ G H S _ fun v G1 H1 s1 S1 r1 => n _ _ _ G1 _ k s1 (S1.set r1)
theorem blk_asgF {i : Nat} (h : EF K te E M xs M1) (k : ∀ p, P.nx (E.set i (some (.rf p))) ((p, true, .lst xs) :: M1)) : Blk K (tAsg te (gName i)) E M P := fun B σ G H D S n _ _ _ =>
  h B σ G H S _ fun p G1 H1 s1 S1 => n _ _ _ G1 _ (k p) s1 (S1.set (g := .rf p) rfl)
theorem blk_asgU {i : Nat} (h : EU K te E M xs M1) (k : ∀ p, P.nx (E.set i (some (.rf p))) ((p, true, .tup xs) :: M1)) : Blk K (tAsg te (gName i)) E M P := fun B σ G H D S n _ _ _ =>
  h B σ G H S _ fun p G1 H1 s1 S1 => n _ _ _ G1 _ (k p) s1 (S1.set (g := .rf p) rfl)
/-- x = e, then the rest -/
theorem bs_asg {i : Nat} {E' : GE} (h : EE K te E M g M1) (k : Blk K t E' M1 P) (e : E.set i (some g) = E' := by rfl) : Blk K (tSeq (tAsg te (gName i)) t) E M P := blk_seq (blk_asg h (by rw [e]; exact k))
theorem bs_asgF {i : Nat} {E' : Addr → GE} (h : EF K te E M xs M1) (k : ∀ p, Blk K t (E' p) ((p, true, .lst xs) :: M1) P) (e : ∀ p, E.set i (some (.rf p)) = E' p := by intro _; rfl) : Blk K (tSeq (tAsg te (gName i)) t) E M P :=
  blk_seq (blk_asgF h (fun p => by rw [e p]; exact k p))
theorem blk_if (h : ET K tt E M b M1) (h1 : b = true → Blk K t E M1 P) (h2 : b = false → Blk K u E M1 P) : Blk K (tIfS tt t u) E M P := fun B σ G H D S n r bb c =>
  h B σ G H S _ fun G1 H1 s1 S1 => by
    cases b with
    | true =>
      show t D σ H1
      exact Blk.from_ (h1 rfl) s1 S1 n r bb c
    | false =>
      show u D σ H1
      exact Blk.from_ (h2 rfl) s1 S1 n r bb c
/-- an if without else, then the rest -/
theorem bs_when {tr : TS} (h : ET K tt E M b M1) (h1 : b = true → Blk K t E M1 { P with nx := fun E' M' => Blk K tr E' M' P }) (h2 : b = false → Blk K tr E M1 P) : Blk K (tSeq (tIfS tt t tNext) tr) E M P :=
  blk_seq (blk_if h h1 fun hb => blk_next (h2 hb))
theorem blk_when (h : ET K tt E M b M1) (h1 : b = true → Blk K t E M1 P) (h2 : b = false → P.nx E M1) : Blk K (tIfS tt t tNext) E M P := blk_if h h1 fun hb => blk_next (h2 hb)
theorem blk_ret (h : EE K te E M g M1) (k : P.rt g M1) : Blk K (tRet te) E M P := fun B σ G H D S _ r _ _ => h B σ G H S _ fun v G1 H1 s1 S1 r1 => r g M1 v G1 H1 k s1 S1.bare r1
theorem blk_retF (h : EF K te E M xs M1) (k : ∀ p, P.rt (.rf p) ((p, true, .lst xs) :: M1)) : Blk K (tRet te) E M P := fun B σ G H D S _ r _ _ => h B σ G H S _ fun p G1 H1 s1 S1 => r _ _ _ G1 H1 (k p) s1 S1.bare rfl
theorem blk_retN (k : P.rt (.dt .none) M) : Blk K tRetN E M P := fun B σ G H D S _ r _ _ => r _ _ _ G H k Same.rfl' S.bare Dr.non
theorem blk_brk (k : P.bk E M) : Blk K tBreak E M P := fun B σ G H D S _ _ b _ => b E M σ G H k Same.rfl' S
theorem blk_cont (k : P.ct E M) : Blk K tCont E M P := fun B σ G H D S _ _ _ c => c E M σ G H k Same.rfl' S
theorem blk_drop (h : EE K te E M g M1) (k : P.nx E M1) : Blk K (tDrop te) E M P := fun B σ G H D S n _ _ _ => h B σ G H S _ fun v G1 H1 s1 S1 r1 => n _ _ _ G1 _ k s1 S1
theorem bs_drop (h : EE K te E M g M1) (k : Blk K t E M1 P) : Blk K (tSeq (tDrop te) t) E M P := blk_seq (blk_drop h k)
/-- a, b = e, e2 -/
theorem blk_par {i j : Nat} {ta : TA} {g g' : GV} (h : EA K ta E M [g, g'] M1) (k : P.nx ((E.set i (some g)).set j (some g')) M1) : Blk K (tPar i j ta) E M P := fun B σ G H D S n _ _ _ =>
  h B σ G H S _ fun vs G1 H1 s1 S1 r1 => by
    obtain ⟨v, w, rfl, h1, h2⟩ := two_inv r1
    exact ⟨v, w, rfl, n _ _ _ G1 _ k s1 ((S1.set h1).set h2)⟩
/-- x op= e, x an int -/
theorem blk_aug {i : Nat} {f : Int → Int → Int} {a c : Int} (hx : E[i]? = some (some (.dt (.int a)))) (h : EE K te E M (.dt (.int c)) M1) (k : P.nx (E.set i (some (.dt (.int (f a c))))) M1) : Blk K (tAug i te (ipI f)) E M P := fun B σ G H D S n _ _ _ => by
  obtain ⟨v, h1, h2⟩ := S.slot i _ hx
  cases h2
  refine ⟨_, h1, h B σ G H S _ fun w G1 H1 s1 S1 r1 => ?_⟩
  cases r1
  exact ⟨a, c, rfl, rfl, n _ _ _ G1 _ k s1 (S1.set (g := .dt (.int (f a c))) (Dr.int _))⟩
/-- xs.append(e), xs one's own -/
theorem blk_app {j : Nat} {p : Addr} {fl : Bool} (ho : EE K ta E M (.rf p) M) (h : EE K te E M g M1) (hm : M[j]? = some (p, fl, .lst xs)) (hm1 : M1[j]? = some (p, fl, .lst xs)) (hz : xs.length < sizeLine) (k : P.nx E (M1.set j (p, fl, .lst (xs ++ [g])))) :
    Blk K (tDrop (tBM K "list" rAppend ta (tCons te tNil))) E M P := fun B σ G H D S n _ _ _ =>
  ho B σ G H S _ fun v G1 H1 s1 S1 r1 => by
    have r1' : v = .ref p := r1
    subst r1'
    obtain ⟨_, ⟨o, k1, k2⟩, _⟩ := S1.cells.at_ _ (List.mem_of_getElem? hm)
    obtain ⟨vs, rfl, r⟩ := RelO.lst_inv k2
    refine ⟨.inl ⟨rfl, _, .of k1⟩, h B σ G1 H1 S1 _ fun w G2 H2 s2 S2 r2 => ?_⟩
    obtain ⟨_, ⟨o, k1, k2⟩, _⟩ := S2.cells.at_ _ (List.mem_of_getElem? hm1)
    obtain ⟨vs, rfl, r⟩ := RelO.lst_inv k2
    exact ⟨p, vs, w, rfl, rfl, k1, by rw [RelGs.length r]; exact hz, n _ _ _ G2 _ k (s1.trans s2) (S2.write (g := .lst (xs ++ [g])) hm1 (RelGs.app r (.cons r2 .nil)))⟩
/-- xs[i] = e, xs one's own -/
theorem blk_setL {j : Nat} {p : Addr} {fl : Bool} {i : Int} {n0 : Nat} (h : EE K te E M g M1) (ho : EE K ta E M1 (.rf p) M1) (hi : EE K tb E M1 (.dt (.int i)) M2) (hm : M2[j]? = some (p, fl, .lst xs)) (hn : ixN xs.length i = some n0) (k : P.nx E (M2.set j (p, fl, .lst (xs.set n0 g)))) :
    Blk K (tAsg te (gSub ta tb rSetL)) E M P := fun B σ G H D S n _ _ _ =>
  h B σ G H S _ fun v G1 H1 s1 S1 r1 => ho B σ G1 H1 S1 _ fun w G2 H2 s2 S2 r2 => hi B σ G2 H2 S2 _ fun x G3 H3 s3 S3 r3 => by
    have r2' : w = .ref p := r2
    subst r2'
    cases r3
    obtain ⟨_, ⟨o, k1, k2⟩, _⟩ := S3.cells.at_ _ (List.mem_of_getElem? hm)
    obtain ⟨vs, rfl, r⟩ := RelO.lst_inv k2
    exact ⟨p, vs, i, n0, rfl, rfl, k1, by rw [RelGs.length r]; exact hn, n _ _ _ G3 _ k (s1.trans (s2.trans s3)) (S3.write (g := .lst (xs.set n0 g)) hm (RelGs.set r (RelG.mono s3 (RelG.mono s2 r1))))⟩
/-! ### loops -/
/-- the body of a turn, from a state behind the loop's start -/
abbrev turnK (P : Kn) (N : GE → GM → Prop) : Kn := { nx := N, ct := N, bk := P.nx, rt := P.rt }
/-- for x in xs, xs data -/
theorem blk_forL {j : Nat} {ds : List PyData} {tl : TE} (h : EE K tl E M (.dt (.list ds)) M1) (Iv : Nat → GE → GM → Prop) (h0 : Iv 0 E M1)
    (hs : ∀ i d E1 N1, ds[i]? = some d → Iv i E1 N1 → Blk K t (E1.set j (some (.dt d))) N1 (turnK P (Iv (i + 1)))) (hd : ∀ E1 N1, Iv ds.length E1 N1 → P.nx E1 N1) :
    Blk K (tFor (iList K tl) (gName j) t) E M P := fun B σ G H D S n r bb c =>
  h B σ G H S _ fun v G1 H1 s1 S1 r1 => by
    cases r1 with
    | lst e a =>
      rename_i ad vs
      refine ⟨ad, rfl, ⟨vs, .of (S1.sub _ _ e)⟩, for_list (xs := vs) (fun i σ' H' => ∃ E1 N1 G2, Iv i E1 N1 ∧ SR K B E1 N1 σ' G2 H' ∧ Same G1 G2) ⟨E, M1, G1, h0, S1, Same.rfl'⟩ (fun i σ' H' _ ⟨E1, N1, G2, q1, S2, s2⟩ => .of (S2.sub _ _ (s2 _ _ e)))
        (fun i x σ' H' hx ⟨E1, N1, G2, q1, S2, s2⟩ => ?_) (fun σ' H' ⟨E1, N1, G2, q1, S2, s2⟩ => n E1 N1 σ' G2 H' (hd _ _ (by rw [← a.length]; exact q1)) (s1.trans s2) S2)⟩
      obtain ⟨d, hdi, rd⟩ := a.get hx
      have rd' : RelG K G2 x (.dt d) := Dr.mono s2 rd
      exact Blk.from_ (G0 := G1) (hs i d E1 N1 hdi q1) s2 (S2.set (i := j) rd') (fun E' M' σ3 G3 H3 q e3 S3 => ⟨E', M', G3, q, S3, e3⟩) (fun g M' v G3 H3 q e3 S3 rr => r g M' v G3 H3 q (s1.trans e3) S3 rr) (fun E' M' σ3 G3 H3 q e3 S3 => n E' M' σ3 G3 H3 q (s1.trans e3) S3) (fun E' M' σ3 G3 H3 q e3 S3 => ⟨E', M', G3, q, S3, e3⟩)
/-- for a, b in xs, xs data: pairs -/
theorem blk_forL2 {j1 j2 : Nat} {ds : List PyData} {tl : TE} (f : Nat → PyData × PyData) (h : EE K tl E M (.dt (.list ds)) M1) (Iv : Nat → GE → GM → Prop) (h0 : Iv 0 E M1) (hf : ∀ (i : Nat) (d : PyData), ds[i]? = some d → d = PyData.tuple [(f i).1, (f i).2])
    (hs : ∀ i E1 N1, i < ds.length → Iv i E1 N1 → Blk K t ((E1.set j1 (some (.dt (f i).1))).set j2 (some (.dt (f i).2))) N1 (turnK P (Iv (i + 1)))) (hd : ∀ E1 N1, Iv ds.length E1 N1 → P.nx E1 N1) :
    Blk K (tFor (iList K tl) (gTup K 2 (gCons (gName j1) (gCons (gName j2) gNil))) t) E M P := fun B σ G H D S n r bb c =>
  h B σ G H S _ fun v G1 H1 s1 S1 r1 => by
    cases r1 with
    | lst e a =>
      rename_i ad vs
      refine ⟨ad, rfl, ⟨vs, .of (S1.sub _ _ e)⟩, for_list (xs := vs) (fun i σ' H' => ∃ E1 N1 G2, Iv i E1 N1 ∧ SR K B E1 N1 σ' G2 H' ∧ Same G1 G2) ⟨E, M1, G1, h0, S1, Same.rfl'⟩ (fun i σ' H' _ ⟨E1, N1, G2, q1, S2, s2⟩ => .of (S2.sub _ _ (s2 _ _ e)))
        (fun i x σ' H' hx ⟨E1, N1, G2, q1, S2, s2⟩ => ?_) (fun σ' H' ⟨E1, N1, G2, q1, S2, s2⟩ => n E1 N1 σ' G2 H' (hd _ _ (by rw [← a.length]; exact q1)) (s1.trans s2) S2)⟩
      obtain ⟨d, hdi, rd⟩ := a.get hx
      have hdl : i < ds.length := (List.getElem?_eq_some_iff.mp hdi).1
      have hd2 := hf i d hdi
      subst hd2
      cases Dr.mono s2 rd with
      | tup et at_ =>
        cases at_ with
        | cons d1 t1 =>
          cases t1 with
          | cons d2 t2 =>
            cases t2
            refine ⟨_, _, rfl, .of (S2.sub _ _ et), rfl, _, _, rfl, _, _, rfl, rfl, ?_⟩
            exact Blk.from_ (G0 := G1) (hs i E1 N1 hdl q1) s2 ((S2.set (i := j1) (g := .dt (f i).1) d1).set (i := j2) (g := .dt (f i).2) d2) (fun E' M' σ3 G3 H3 q e3 S3 => ⟨E', M', G3, q, S3, e3⟩) (fun g M' v G3 H3 q e3 S3 rr => r g M' v G3 H3 q (s1.trans e3) S3 rr) (fun E' M' σ3 G3 H3 q e3 S3 => n E' M' σ3 G3 H3 q (s1.trans e3) S3) (fun E' M' σ3 G3 H3 q e3 S3 => ⟨E', M', G3, q, S3, e3⟩)
/-- for k in range(n) -/
theorem blk_forR1 {j : Nat} {m : Int} {tr : TA} (h : EA K tr E M [.dt (.int m)] M1) (hm : -(2 ^ 62) ≤ m ∧ m < 2 ^ 62) (Iv : Nat → GE → GM → Prop) (h0 : Iv 0 E M1)
    (hs : ∀ (i : Nat) E1 N1, (i : Int) < m → Iv i E1 N1 → Blk K t (E1.set j (some (.dt (.int (i : Int))))) N1 (turnK P (Iv (i + 1)))) (hd : ∀ E1 N1, Iv m.toNat E1 N1 → P.nx E1 N1) :
    Blk K (tFor (iRng1 tr) (gName j) t) E M P := fun B σ G H D S n r bb c =>
  h B σ G H S _ fun vs G1 H1 s1 S1 r1 => by
    obtain ⟨v, rfl, hv⟩ := one_inv r1
    cases hv
    refine ⟨m, rfl, hm.1, hm.2, for_range (lo := 0) (n := m.toNat) (fun i σ' H' => ∃ E1 N1 G2, Iv i E1 N1 ∧ SR K B E1 N1 σ' G2 H' ∧ Same G1 G2) ⟨E, M1, G1, h0, S1, Same.rfl'⟩
      (fun i σ' H' hi ⟨E1, N1, G2, q1, S2, s2⟩ => ?_) (fun σ' H' ⟨E1, N1, G2, q1, S2, s2⟩ => n E1 N1 σ' G2 H' (hd _ _ q1) (s1.trans s2) S2)⟩
    have e0 : (0 : Int) + (i : Int) = (i : Int) := Int.zero_add _
    rw [e0]
    exact Blk.from_ (G0 := G1) (hs i E1 N1 (by omega) q1) s2 (S2.set (i := j) (g := .dt (.int (i : Int))) (Dr.int _)) (fun E' M' σ3 G3 H3 q e3 S3 => ⟨E', M', G3, q, S3, e3⟩) (fun g M' v G3 H3 q e3 S3 rr => r g M' v G3 H3 q (s1.trans e3) S3 rr) (fun E' M' σ3 G3 H3 q e3 S3 => n E' M' σ3 G3 H3 q (s1.trans e3) S3) (fun E' M' σ3 G3 H3 q e3 S3 => ⟨E', M', G3, q, S3, e3⟩)
/-- for k in range(lo, m) -/
theorem blk_forR2 {j : Nat} {lo m : Int} {tr : TA} (h : EA K tr E M [.dt (.int lo), .dt (.int m)] M1) (hm : -(2 ^ 62) ≤ lo ∧ lo < 2 ^ 62 ∧ -(2 ^ 62) ≤ m ∧ m < 2 ^ 62) (Iv : Nat → GE → GM → Prop) (h0 : Iv 0 E M1)
    (hs : ∀ (i : Nat) E1 N1, lo + (i : Int) < m → Iv i E1 N1 → Blk K t (E1.set j (some (.dt (.int (lo + (i : Int)))))) N1 (turnK P (Iv (i + 1)))) (hd : ∀ E1 N1, Iv (m - lo).toNat E1 N1 → P.nx E1 N1) :
    Blk K (tFor (iRng2 tr) (gName j) t) E M P := fun B σ G H D S n r bb c =>
  h B σ G H S _ fun vs G1 H1 s1 S1 r1 => by
    obtain ⟨v, w, rfl, hv, hw⟩ := two_inv r1
    cases hv; cases hw
    refine ⟨lo, m, rfl, hm, for_range (lo := lo) (n := (m - lo).toNat) (fun i σ' H' => ∃ E1 N1 G2, Iv i E1 N1 ∧ SR K B E1 N1 σ' G2 H' ∧ Same G1 G2) ⟨E, M1, G1, h0, S1, Same.rfl'⟩
      (fun i σ' H' hi ⟨E1, N1, G2, q1, S2, s2⟩ => ?_) (fun σ' H' ⟨E1, N1, G2, q1, S2, s2⟩ => n E1 N1 σ' G2 H' (hd _ _ q1) (s1.trans s2) S2)⟩
    exact Blk.from_ (G0 := G1) (hs i E1 N1 (by omega) q1) s2 (S2.set (i := j) (g := .dt (.int (lo + (i : Int)))) (Dr.int _)) (fun E' M' σ3 G3 H3 q e3 S3 => ⟨E', M', G3, q, S3, e3⟩) (fun g M' v G3 H3 q e3 S3 rr => r g M' v G3 H3 q (s1.trans e3) S3 rr) (fun E' M' σ3 G3 H3 q e3 S3 => n E' M' σ3 G3 H3 q (s1.trans e3) S3) (fun E' M' σ3 G3 H3 q e3 S3 => ⟨E', M', G3, q, S3, e3⟩)
/-- while -/
theorem blk_while (W : Nat → GE → GM → Prop) (m0 : Nat) (h0 : W m0 E M)
    (hs : ∀ m E1 N1, W m E1 N1 → ∃ b N2, ET K tt E1 N1 b N2 ∧ (b = true → Blk K t E1 N2 (turnK P (fun E' M' => ∃ m', m' < m ∧ W m' E' M'))) ∧ (b = false → P.nx E1 N2)) :
    Blk K (tWhile tt t) E M P := fun B σ G H D S n r bb c => by
  refine ⟨fun m σ' H' => ∃ E1 N1 G2, W m E1 N1 ∧ SR K B E1 N1 σ' G2 H' ∧ Same G G2, ⟨m0, E, M, G, h0, S, Same.rfl'⟩, ?_⟩
  rintro m σ' H' ⟨E1, N1, G2, q1, S2, s2⟩
  obtain ⟨b, N2, h1, h2, h3⟩ := hs m E1 N1 q1
  refine h1 B σ' G2 H' S2 _ fun G3 H3 s3 S3 => ?_
  cases b with
  | true =>
    refine ⟨fun σ4 H4 => ∃ E' M' G4, (∃ m', m' < m ∧ W m' E' M') ∧ SR K B E' M' σ4 G4 H4 ∧ Same G G4, fun σ4 H4 ⟨E', M', G4, ⟨m', hl, w⟩, S4, s4⟩ => ⟨m', hl, E', M', G4, w, S4, s4⟩, ?_⟩
    exact Blk.from_ (G0 := G) (h2 rfl) (s2.trans s3) S3 (fun E' M' σ3 G3 H3 q e3 S3 => ⟨E', M', G3, q, S3, e3⟩) r n (fun E' M' σ3 G3 H3 q e3 S3 => ⟨E', M', G3, q, S3, e3⟩)
  | false => exact n E1 N2 σ' G3 H3 (h3 rfl) (s2.trans s3) S3
end
end Ek

set_option Elab.async false
set_option linter.all false
set_option maxRecDepth 100000
/-! frames, calls, promises, comprehensions -/
namespace Ek
open PySem PySem.Spec PyProof.Rows L2

/-! ### the frame: cells that a piece does not name stay -/
open Classical in
noncomputable def Bs.re (B : Bs) (M : GM) (G H : Hp) : Bs := ⟨fun q => B.F0 q ∧ ∃ c ∈ M, c.1 = q, G, fun q => if ∃ c ∈ M, c.2.1 = true ∧ c.1 = q then none else H q⟩
section
variable {K : PySem.W.Frag} {B : Bs} {E : GE} {M M' cs : GM} {σ σ' : St} {G G' H H' : Hp}
theorem re_h {q : Addr} {o : HO} (e : (B.re M G H).H0 q = some o) : H q = some o ∧ ¬ ∃ c ∈ M, c.2.1 = true ∧ c.1 = q := by
  unfold Bs.re at e
  simp only at e
  split at e
  · cases e
  · rename_i h; exact ⟨e, h⟩
theorem re_some {q : Addr} {o : HO} (e : H q = some o) (h : ¬ ∃ c ∈ M, c.2.1 = true ∧ c.1 = q) : (B.re M G H).H0 q = some o := by
  unfold Bs.re
  simp only
  rw [if_neg h]; exact e
theorem re_none {q : Addr} (e : (B.re M G H).H0 q = none) : H q = none ∨ ∃ c ∈ M, c.2.1 = true ∧ c.1 = q := by
  unfold Bs.re at e
  simp only at e
  split at e
  · rename_i h; exact .inr h
  · exact .inl e
theorem SR.frame_in (S : SR K B E (cs ++ M) σ G H) : SR K (B.re M G H) E M σ G H where
  sub := S.sub
  len := S.len
  slot := S.slot
  cells := ⟨fun c hc => by
    obtain ⟨h1, h2, h3, h4⟩ := S.cells.at_ c (List.mem_append_right _ hc)
    refine ⟨h1, h2, fun hf => ?_, fun hf => ⟨h4 hf, c, hc, rfl⟩⟩
    unfold Bs.re
    simp only
    exact if_pos ⟨c, hc, hf, rfl⟩, by
    have h := S.cells.nd
    rw [List.map_append] at h
    exact (List.nodup_append.mp h).2.1⟩
  fr := ⟨fun _ _ e => e, fun q o _ e => (re_h e).1, fun q e z => by
    cases e1 : (B.re M G H).H0 q with
    | none => exact e e1
    | some o => (rw [(re_h e1).1] at z; cases z), fun q e n => n⟩
theorem SR.frame_out (S : SR K B E (cs ++ M) σ G H) {E' : GE} (T : SR K (B.re M G H) E' M' σ' G' H') : SR K B E' (cs ++ M') σ' G' H' := by
  have hnd := S.cells.nd
  rw [List.map_append] at hnd
  have notM : ∀ c ∈ cs, ∀ d ∈ M, d.1 ≠ c.1 := fun c hc d hd e => (List.nodup_append.mp hnd).2.2 c.1 (List.mem_map.mpr ⟨c, hc, rfl⟩) d.1 (List.mem_map.mpr ⟨d, hd, rfl⟩) e.symm
  have keep : ∀ q o, H q = some o → (∀ d ∈ M, d.1 ≠ q) → H' q = some o := fun q o e hq =>
    T.fr.h q o (fun ⟨_, d, hd, ed⟩ => hq d hd ed) (re_some e fun ⟨d, hd, _, ed⟩ => hq d hd ed)
  have keepN : ∀ q, H q ≠ none → (∀ d ∈ M, d.1 ≠ q) → G q = none → G' q = none := fun q e hq n => by
    cases e1 : H q with
    | none => exact absurd e1 e
    | some o => exact T.fr.n q (by rw [re_some e1 fun ⟨d, hd, _, ed⟩ => hq d hd ed]; intro z; cases z) n
  refine ⟨T.sub, T.len, T.slot, ⟨fun c hc => ?_, ?_⟩, ⟨fun a o e => T.fr.g _ _ (S.fr.g _ _ e), fun q o nf e => ?_, fun q e => ?_, fun q e n => ?_⟩⟩
  · rcases List.mem_append.mp hc with hc | hc
    · obtain ⟨h1, ⟨o, h2, h3⟩, h4, h5⟩ := S.cells.at_ c (List.mem_append_left _ hc)
      have hq : ∀ d ∈ M, d.1 ≠ c.1 := fun d hd => notM c hc d hd
      exact ⟨keepN c.1 (by rw [h2]; intro z; cases z) hq h1, ⟨o, keep _ _ h2 hq, RelO.mono T.fr.g h3⟩, h4, h5⟩
    · obtain ⟨h1, h2, h4, h5⟩ := T.cells.at_ c hc
      refine ⟨h1, h2, fun hf => ?_, fun hf => (h5 hf).1⟩
      rcases re_none (h4 hf) with z | ⟨d, hd, hdf, ed⟩
      · exact S.bfree z
      · rw [← ed]; exact (S.cells.at_ d (List.mem_append_right _ hd)).2.2.1 hdf
  · rw [List.map_append]
    refine List.nodup_append.mpr ⟨(List.nodup_append.mp hnd).1, T.cells.nd, fun a ha b hb e => ?_⟩
    obtain ⟨c, hc, rfl⟩ := List.mem_map.mp ha
    obtain ⟨d, hd, rfl⟩ := List.mem_map.mp hb
    obtain ⟨_, ⟨o, h2, _⟩, _⟩ := S.cells.at_ c (List.mem_append_left _ hc)
    obtain ⟨_, _, k4, k5⟩ := T.cells.at_ d hd
    cases hf : d.2.1 with
    | true =>
      rcases re_none (k4 hf) with z | ⟨x, hx, _, ex⟩
      · rw [← e, h2] at z; cases z
      · exact notM c hc x hx (ex.trans e.symm)
    | false =>
      obtain ⟨_, x, hx, ex⟩ := k5 hf
      exact notM c hc x hx (ex.trans e.symm)
  · have e1 := S.fr.h q o nf e
    refine T.fr.h q o (fun z => nf z.1) (re_some e1 fun ⟨d, hd, hdf, ed⟩ => ?_)
    have z := (S.cells.at_ d (List.mem_append_right _ hd)).2.2.1 hdf
    rw [ed, e] at z; cases z
  · have e1 := S.fr.k q e
    cases e2 : H q with
    | none => exact absurd e2 e1
    | some o =>
      have hn : ¬ ∃ c ∈ M, c.2.1 = true ∧ c.1 = q := fun ⟨d, hd, hdf, ed⟩ => by
        have z := (S.cells.at_ d (List.mem_append_right _ hd)).2.2.1 hdf
        rw [ed] at z; exact e z
      refine T.fr.k q ?_
      rw [re_some e2 hn]
      intro z; cases z
  · have e1 := S.fr.k q e
    have n1 := S.fr.n q e n
    cases e2 : H q with
    | none => exact absurd e2 e1
    | some o =>
      have hn : ¬ ∃ c ∈ M, c.2.1 = true ∧ c.1 = q := fun ⟨d, hd, hdf, ed⟩ => by
        have z := (S.cells.at_ d (List.mem_append_right _ hd)).2.2.1 hdf
        rw [ed] at z; exact e z
      refine T.fr.n q ?_ n1
      rw [re_some e2 hn]
      intro z; cases z
end
section
variable {K : PySem.W.Frag} {E : GE} {M M1 M2 cs : GM} {g : GV} {te : TE} {tt : TT} {ta : TA} {b : Bool} {xs gs : List GV}
theorem EE.fr (h : EE K te E M g M1) : EE K te E (cs ++ M) g (cs ++ M1) := fun B σ G H S Q q => h _ σ G H S.frame_in Q fun v G' H' s T r => q v G' H' s (S.frame_out T) r
theorem ET.fr (h : ET K tt E M b M1) : ET K tt E (cs ++ M) b (cs ++ M1) := fun B σ G H S Q q => h _ σ G H S.frame_in Q fun G' H' s T => q G' H' s (S.frame_out T)
theorem EA.fr (h : EA K ta E M gs M1) : EA K ta E (cs ++ M) gs (cs ++ M1) := fun B σ G H S Q q => h _ σ G H S.frame_in Q fun v G' H' s T r => q v G' H' s (S.frame_out T) r
end

/-! ### promises -/
/-- a def that changes nothing: its value -/
def sp0 (K : PySem.W.Frag) {A : Type} (args : A → List GV) (pre : A → Prop) (res : A → GV) : Sp := fun vs H Q _ =>
  ∃ G i, Same G H ∧ RelGs K G vs (args i) ∧ pre i ∧ ∀ v G' H', Fr ⟨fun _ => False, G, H⟩ G' H' → Same G' H' → RelG K G' v (res i) → Q v H'
/-- .. its value a new list -/
def spF (K : PySem.W.Frag) {A : Type} (args : A → List GV) (pre : A → Prop) (xs : A → List GV) : Sp := fun vs H Q _ =>
  ∃ G i, Same G H ∧ RelGs K G vs (args i) ∧ pre i ∧ ∀ p o G' H', Fr ⟨fun _ => False, G, H⟩ G' H' → Same G' H' → H p = none → G' p = none → H' p = some o → RelO K G' o (.lst (xs i)) → Q (.ref p) H'
/-- a def that changes one object of the caller's -/
def sp1 (K : PySem.W.Frag) {A : Type} (args : A → List GV) (pa : A → Addr) (o0 : A → GO) (pre : A → Prop) (o1 : A → GO) (res : A → GV) : Sp := fun vs H Q _ =>
  ∃ G i, Same G H ∧ RelGs K G vs (args i) ∧ pre i ∧ G (pa i) = none ∧ (∃ o, H (pa i) = some o ∧ RelO K G o (o0 i)) ∧
    ∀ v o G' H', Fr ⟨fun q => q = pa i, G, H⟩ G' H' → Same G' H' → H' (pa i) = some o → RelO K G' o (o1 i) → RelG K G' v (res i) → Q v H'
section
variable {K : PySem.W.Frag} {E : GE} {M M1 : GM} {tr : TA} {X : XK} {A : Type} {args : A → List GV} {pre : A → Prop}
theorem ee_call0 {res : A → GV} {g : GV} (i : A) (h : EA K tr E M (args i) M1) (hp : pre i) (hg : res i = g := by rfl) : EE K (tCall (sp0 K args pre res) [] X tr) E M g M1 := fun B σ G H S Q q =>
  h B σ G H S _ fun vs G1 H1 s1 S1 r1 => by
    show sp0 K args pre res (vs ++ []) H1 Q X
    rw [List.append_nil]
    exact ⟨G1, i, S1.sub, r1, hp, fun v G' H' f sub r => q v G' H' (s1.trans f.g) (S1.called f sub) (by rw [← hg]; exact r)⟩
theorem ef_callF {xs : A → List GV} {ys : List GV} (i : A) (h : EA K tr E M (args i) M1) (hp : pre i) (hy : xs i = ys := by rfl) : EF K (tCall (spF K args pre xs) [] X tr) E M ys M1 := fun B σ G H S Q q =>
  h B σ G H S _ fun vs G1 H1 s1 S1 r1 => by
    show spF K args pre xs (vs ++ []) H1 Q X
    rw [List.append_nil]
    exact ⟨G1, i, S1.sub, r1, hp, fun p o G' H' f sub hp hg ho r => q p G' H' (s1.trans f.g) ((S1.called f sub).noted (S1.bfree hp) (S1.cell_ne hp) hg ho (by rw [← hy]; exact r))⟩
theorem ee_call1 {pa : A → Addr} {o0 o1 : A → GO} {res : A → GV} {g : GV} {j : Nat} {fl : Bool} {M2 : GM} (i : A) (h : EA K tr E M (args i) M1) (hp : pre i) (hj : M1[j]? = some (pa i, fl, o0 i)) (hg : res i = g := by rfl) (hM : M1.set j (pa i, fl, o1 i) = M2 := by rfl) :
    EE K (tCall (sp1 K args pa o0 pre o1 res) [] X tr) E M g M2 := fun B σ G H S Q q =>
  h B σ G H S _ fun vs G1 H1 s1 S1 r1 => by
    show sp1 K args pa o0 pre o1 res (vs ++ []) H1 Q X
    rw [List.append_nil]
    obtain ⟨k1, k2, _⟩ := S1.cells.at_ _ (List.mem_of_getElem? hj)
    exact ⟨G1, i, S1.sub, r1, hp, k1, k2, fun v o G' H' f sub ho ro r => q v G' H' (s1.trans f.g) (by rw [← hM]; exact S1.called1 hj f sub ho ro) (by rw [← hg]; exact r)⟩
end

/-! ### defs -/
def begin_ (N : List Str) (gs : List GV) : GE := gs.map some ++ List.replicate (N.length - gs.length) none
theorem relGs_get {K : PySem.W.Frag} {G : Hp} : ∀ {vs : List V} {gs : List GV} {n m : Nat} {i : Nat} {g : GV}, RelGs K G vs gs → (gs.map some ++ List.replicate n none)[i]? = some (some g) → ∃ v, (vs.map some ++ List.replicate m none)[i]? = some (some v) ∧ RelG K G v g
  | [], [], n, m, i, g, .nil, e => by
    have : (List.replicate n (none : Option GV))[i]? = some (some g) := e
    rw [List.getElem?_replicate] at this
    split at this <;> cases this
  | _ :: _, _ :: _, n, m, 0, g, .cons h _, e => by cases e; exact ⟨_, rfl, h⟩
  | _ :: _, _ :: _, n, m, i + 1, g, .cons _ t, e => relGs_get (i := i) t e
def rt0 (r : GV) : GV → GM → Prop := fun g M => g = r ∨ ∃ p ds, g = .rf p ∧ r = .dt (.list ds) ∧ (p, true, GO.lst (ds.map .dt)) ∈ M
def ends0 (r : GV) : Kn := ⟨fun _ _ => r = .dt .none, rt0 r, fun _ _ => False, fun _ _ => False⟩
def endsF (xs : List GV) : Kn := ⟨fun _ _ => False, fun g M => ∃ p, g = .rf p ∧ (p, true, GO.lst xs) ∈ M, fun _ _ => False, fun _ _ => False⟩
def ends1 (p : Addr) (o : GO) (r : GV) : Kn := ⟨fun _ M => r = .dt .none ∧ (p, false, o) ∈ M, fun g M => rt0 r g M ∧ (p, false, o) ∈ M, fun _ _ => False, fun _ _ => False⟩
section
variable {P : Program} {w : World} {K : PySem.W.Frag} {mg : Str → Option Value} {base : Heap} {x qual : Str} {st : Stmt} {f : Addr} {fd : FuncData} {N ps : List Str} {k : Nat} {A : Type} {args : A → List GV} {pre : A → Prop}
theorem start_sr {G H : Hp} {vs : List V} {gs : List GV} {F0 : Addr → Prop} (hs : Same G H) (r : RelGs K G vs gs) : SR K ⟨F0, G, H⟩ (begin_ N gs) [] (L2.start N vs) G H where
  sub := hs
  len := by unfold begin_ L2.start; rw [List.length_append, List.length_append, List.length_map, List.length_map, RelGs.length r]; rw [List.length_replicate, List.length_replicate]
  slot := fun i g e => relGs_get r e
  cells := ⟨fun c hc => (by cases hc), List.nodup_nil⟩
  fr := ⟨fun _ _ e => e, fun _ _ _ e => e, fun _ e => e, fun _ _ n => n⟩
/-- a return's value, shared where the promise wants data -/
theorem rt0_end {B : Bs} {M : GM} {G H : Hp} {r g : GV} {v : V} (h : rt0 r g M) (S : SR K B [] M [] G H) (rv : RelG K G v g) : ∃ G', Same G G' ∧ SR K B [] [] [] G' H ∧ RelG K G' v r ∧ ∀ c ∈ M, (∀ p ds, g = .rf p → r = .dt (.list ds) → c.1 ≠ p) → G' c.1 = none := by
  rcases h with rfl | ⟨p, ds, rfl, rfl, hm⟩
  · exact ⟨G, Same.rfl', S.sub_cells (List.nil_sublist _), rv, fun c hc _ => (S.cells.at_ c hc).1⟩
  · obtain ⟨j, hj⟩ := List.mem_iff_getElem?.mp hm
    obtain ⟨G', s, S', d⟩ := S.freeze hj
    have rv' : v = .ref p := rv
    subst rv'
    refine ⟨G', s, S'.sub_cells (List.nil_sublist _), d, fun c hc hne => ?_⟩
    have hp := hne p ds rfl rfl
    obtain ⟨i, hi⟩ := List.mem_iff_getElem?.mp hc
    have hij : i ≠ j := fun z => by subst z; rw [hi] at hj; cases hj; exact hp rfl
    have : c ∈ M.eraseIdx j := by
      rw [List.mem_iff_getElem?]
      by_cases hlt : i < j
      · exact ⟨i, by rw [List.getElem?_eraseIdx, if_pos hlt]; exact hi⟩
      · refine ⟨i - 1, ?_⟩
        rw [List.getElem?_eraseIdx, if_neg (by omega)]
        rw [show i - 1 + 1 = i by omega]; exact hi
    exact (S'.cells.at_ c this).1
theorem fn0 {res : A → GV} (F : Fun K x qual st f fd) (S : FnScope N ps (defScope st)) (ha : ∀ i, (args i).length = ps.length)
    (hb : ∀ (cdv : Value) (R : Around) (outer : List Env) (s : Shared) (H : Hp) (E : XK), Room k (R.deeper (envOfC qual (defScope st) s.heap.objs.size f cdv)) →
      ∃ t, PSs (cxOf CX0 P w K mg base N qual (defScope st) f cdv R outer s H E).nox (defBody st) t ∧ ∀ i, pre i → Blk K t (begin_ N (args i)) [] (ends0 (res i))) :
    FnOk P w K mg base CX0 (k + 1) f fd ps (sp0 K args pre res) := by
  refine F.ok S (fun vs H Q E h => ?_) (fun cdv R outer s H vs Q E hr h => ?_)
  · obtain ⟨G, i, _, r, _⟩ := h
    rw [RelGs.length r, ha]
  · obtain ⟨G, i, hs, r, hp, q⟩ := h
    obtain ⟨t, ht, hB⟩ := hb cdv R outer s H E hr
    refine ⟨t, ht, hB i hp ⟨fun _ => False, G, H⟩ (L2.start N vs) G H _ (start_sr hs r) (fun E' M' σ' G' H' e _ S' => ?_) (fun g M' v G' H' e _ S' rv => ?_) (fun _ _ _ _ _ e => e.elim) (fun _ _ _ _ _ e => e.elim)⟩
    · exact q .non G' H' S'.fr S'.sub (by have e' : res i = .dt .none := e; rw [e']; exact Dr.non)
    · obtain ⟨G2, _, S2, r2, _⟩ := rt0_end e S' rv
      exact q v G2 H' S2.fr S2.sub r2
theorem fnF {xs : A → List GV} (F : Fun K x qual st f fd) (S : FnScope N ps (defScope st)) (ha : ∀ i, (args i).length = ps.length)
    (hb : ∀ (cdv : Value) (R : Around) (outer : List Env) (s : Shared) (H : Hp) (E : XK), Room k (R.deeper (envOfC qual (defScope st) s.heap.objs.size f cdv)) →
      ∃ t, PSs (cxOf CX0 P w K mg base N qual (defScope st) f cdv R outer s H E).nox (defBody st) t ∧ ∀ i, pre i → Blk K t (begin_ N (args i)) [] (endsF (xs i))) :
    FnOk P w K mg base CX0 (k + 1) f fd ps (spF K args pre xs) := by
  refine F.ok S (fun vs H Q E h => ?_) (fun cdv R outer s H vs Q E hr h => ?_)
  · obtain ⟨G, i, _, r, _⟩ := h
    rw [RelGs.length r, ha]
  · obtain ⟨G, i, hs, r, hp, q⟩ := h
    obtain ⟨t, ht, hB⟩ := hb cdv R outer s H E hr
    refine ⟨t, ht, hB i hp ⟨fun _ => False, G, H⟩ (L2.start N vs) G H _ (start_sr hs r) (fun E' M' σ' G' H' e _ S' => e.elim) (fun g M' v G' H' e _ S' rv => ?_) (fun _ _ _ _ _ e => e.elim) (fun _ _ _ _ _ e => e.elim)⟩
    obtain ⟨p, rfl, hm⟩ := e
    have rv' : v = .ref p := rv
    subst rv'
    obtain ⟨h1, ⟨o, h2, h3⟩, h4, _⟩ := S'.cells.at_ _ hm
    exact q p o G' H' S'.fr S'.sub (h4 rfl) h1 h2 h3
theorem fn1 {pa : A → Addr} {o0 o1 : A → GO} {res : A → GV} (F : Fun K x qual st f fd) (S : FnScope N ps (defScope st)) (ha : ∀ i, (args i).length = ps.length)
    (hb : ∀ (cdv : Value) (R : Around) (outer : List Env) (s : Shared) (H : Hp) (E : XK), Room k (R.deeper (envOfC qual (defScope st) s.heap.objs.size f cdv)) →
      ∃ t, PSs (cxOf CX0 P w K mg base N qual (defScope st) f cdv R outer s H E).nox (defBody st) t ∧ ∀ i, pre i → Blk K t (begin_ N (args i)) [(pa i, false, o0 i)] (ends1 (pa i) (o1 i) (res i))) :
    FnOk P w K mg base CX0 (k + 1) f fd ps (sp1 K args pa o0 pre o1 res) := by
  refine F.ok S (fun vs H Q E h => ?_) (fun cdv R outer s H vs Q E hr h => ?_)
  · obtain ⟨G, i, _, r, _⟩ := h
    rw [RelGs.length r, ha]
  · obtain ⟨G, i, hs, r, hp, c1, c2, q⟩ := h
    obtain ⟨t, ht, hB⟩ := hb cdv R outer s H E hr
    have S0 : SR K ⟨fun q => q = pa i, G, H⟩ (begin_ N (args i)) [(pa i, false, o0 i)] (L2.start N vs) G H := by
      have Z := start_sr (N := N) (F0 := fun q => q = pa i) hs r
      have hc1 : ∀ c ∈ [(pa i, false, o0 i)], G c.1 = none ∧ (∃ o, H c.1 = some o ∧ RelO K G o c.2.2) ∧ (c.2.1 = true → H c.1 = none) ∧ (c.2.1 = false → c.1 = pa i) := fun c hc => by
        rcases List.mem_cons.mp hc with rfl | hc
        · exact ⟨c1, c2, fun z => (by cases z), fun _ => rfl⟩
        · cases hc
      exact ⟨Z.sub, Z.len, Z.slot, ⟨hc1, List.nodup_cons.mpr ⟨fun z => (by cases z), List.nodup_nil⟩⟩, Z.fr⟩
    refine ⟨t, ht, hB i hp _ (L2.start N vs) G H _ S0 (fun E' M' σ' G' H' e _ S' => ?_) (fun g M' v G' H' e _ S' rv => ?_) (fun _ _ _ _ _ e => e.elim) (fun _ _ _ _ _ e => e.elim)⟩
    · obtain ⟨e1, hm⟩ := e
      obtain ⟨_, ⟨o, h2, h3⟩, _⟩ := S'.cells.at_ _ hm
      exact q .non o G' H' S'.fr S'.sub h2 h3 (by rw [e1]; exact Dr.non)
    · obtain ⟨e1, hm⟩ := e
      obtain ⟨_, ⟨o, h2, h3⟩, _⟩ := S'.cells.at_ _ hm
      obtain ⟨G2, s2, S2, r2, _⟩ := rt0_end e1 S' rv
      exact q v o G2 H' S2.fr S2.sub h2 (RelO.mono s2 h3) r2
end
/-! ### comprehensions -/
def wipeE (E : GE) : List Nat → GE
  | [] => E
  | v :: vs => (wipeE E vs).set v none
section
variable {K : PySem.W.Frag} {E : GE} {M M1 : GM} {tl te : TE} {tt : TT}
theorem wipeE_length (E : GE) : ∀ vs : List Nat, (wipeE E vs).length = E.length
  | [] => rfl
  | v :: vs => by unfold wipeE; rw [List.length_set, wipeE_length E vs]
theorem SR.wiped {B : Bs} {σ : St} {G H : Hp} (S : SR K B E M σ G H) : ∀ vs : List Nat, SR K B (wipeE E vs) M (wipe σ vs) G H
  | [] => S
  | v :: vs => by
    have T := S.wiped vs
    refine ⟨T.sub, by unfold wipe wipeE; rw [List.length_set, List.length_set, T.len], fun i g e => ?_, T.cells, T.fr⟩
    unfold wipeE at e
    by_cases hi : v = i
    · subst hi
      by_cases hl : v < (wipeE E vs).length
      · rw [List.getElem?_set_self hl] at e; cases e
      · rw [List.getElem?_eq_none (by rw [List.length_set]; omega)] at e; cases e
    · rw [List.getElem?_set_ne hi] at e
      obtain ⟨w, h1, h2⟩ := T.slot i g e
      exact ⟨w, by unfold wipe; rw [List.getElem?_set_ne hi]; exact h1, h2⟩
theorem wipe_set (σ : St) (x : Option V) : ∀ (vs : List Nat) (j : Nat), j ∈ vs → wipe ((wipe σ vs).set j x) vs = wipe σ vs := by
  have key : ∀ (vs : List Nat) (τ : St) (i : Nat), (wipe τ vs)[i]? = if i ∈ vs ∧ i < τ.length then some none else τ[i]? := by
    intro vs
    induction vs with
    | nil => intro τ i; unfold wipe; rw [if_neg (by simp)]
    | cons v vs ih =>
      intro τ i
      unfold wipe
      by_cases hi : v = i
      · subst hi
        by_cases hl : v < τ.length
        · rw [List.getElem?_set_self (by rw [wipe_length]; exact hl), if_pos ⟨List.mem_cons_self, hl⟩]
        · rw [List.getElem?_eq_none (by rw [List.length_set, wipe_length]; omega), if_neg (by omega), List.getElem?_eq_none (by omega)]
      · rw [List.getElem?_set_ne hi, ih]
        by_cases hm : i ∈ vs
        · by_cases hl : i < τ.length
          · rw [if_pos ⟨hm, hl⟩, if_pos ⟨List.mem_cons_of_mem _ hm, hl⟩]
          · rw [if_neg (by omega), if_neg (by omega)]
        · rw [if_neg (by simp [hm]), if_neg (by simp [hm, Ne.symm hi])]
  intro vs j hj
  refine List.ext_getElem? fun i => ?_
  rw [key, key]
  rw [List.length_set, wipe_length]
  by_cases hm : i ∈ vs ∧ i < σ.length
  · rw [if_pos hm, if_pos hm]
  · rw [if_neg hm, if_neg hm]
    by_cases hij : j = i
    · subst hij
      have hl : ¬ j < σ.length := fun z => hm ⟨hj, z⟩
      rw [List.getElem?_eq_none (by rw [List.length_set, wipe_length]; omega), List.getElem?_eq_none (by omega)]
    · rw [List.getElem?_set_ne hij, key, if_neg hm]
/-- what a comprehension with tests has made behind i turns -/
def made (f : Nat → GV) (p : Nat → Bool) (i : Nat) : List GV := ((List.range i).filter p).map f
theorem made_zero (f : Nat → GV) (p : Nat → Bool) : made f p 0 = [] := rfl
theorem made_yes {f : Nat → GV} {p : Nat → Bool} {i : Nat} (h : p i = true) : made f p (i + 1) = made f p i ++ [f i] := by
  unfold made
  rw [List.range_succ, List.filter_append, List.map_append, List.filter_cons, if_pos h] <;> rfl
theorem made_no {f : Nat → GV} {p : Nat → Bool} {i : Nat} (h : p i = false) : made f p (i + 1) = made f p i := by
  unfold made
  rw [List.range_succ, List.filter_append, List.map_append, List.filter_cons, if_neg (by rw [h]; decide)]
  show _ ++ [] = _
  rw [List.append_nil]
theorem made_len (f : Nat → GV) (p : Nat → Bool) (n : Nat) : (made f p n).length ≤ n := by
  unfold made
  rw [List.length_map]
  have h := List.length_filter_le p (List.range n)
  rw [List.length_range] at h
  exact h
/-- [e for x in xs if t] over data; the cells may change from turn to turn -/
theorem ef_lcL {j : Nat} {vs : List Nat} {ds : List PyData} (Ms : Nat → GM) (p : Nat → Bool) (f : Nat → GV) (h : EE K tl E M (.dt (.list ds)) (Ms 0)) (hj : j ∈ vs) (hz : ds.length ≤ 1000000)
    (ht : ∀ i d, ds[i]? = some d → ET K tt ((wipeE E vs).set j (some (.dt d))) (Ms i) (p i) (Ms i)) (hno : ∀ i d, ds[i]? = some d → p i = false → Ms (i + 1) = Ms i)
    (he : ∀ i d, ds[i]? = some d → p i = true → EE K te ((wipeE E vs).set j (some (.dt d))) (Ms i) (f i) (Ms (i + 1))) :
    EF K (tLc (iList K tl) (gName j) tt te vs) E M (made f p ds.length) (Ms ds.length) := fun B σ G H S Q q =>
  h B σ G H S _ fun v G1 H1 s1 S1 r1 => by
    cases r1 with
    | lst e a =>
      rename_i ad ws
      refine ⟨ad, rfl, ⟨ws, .of (S1.sub _ _ e)⟩, fun D hD => lc_list (xs := ws) (fun i H' => ∃ G2, SR K B E ((D, true, .lst (made f p i)) :: Ms i) σ G2 H' ∧ Same G1 G2) ⟨G1, S1.own (o := .lst []) hD .nil, Same.rfl'⟩ (fun i H' _ ⟨G2, S2, s2⟩ => .of (S2.sub _ _ (s2 _ _ e)))
        (fun i x H' hx ⟨G2, S2, s2⟩ => ?_) (fun H' ⟨G2, S2, s2⟩ => by rw [a.length] at S2; exact q D G2 H' (s1.trans s2) S2)⟩
      obtain ⟨d, hdi, rd⟩ := a.get hx
      have rd' : RelG K G2 x (.dt d) := Dr.mono s2 rd
      have hil : i < ds.length := (List.getElem?_eq_some_iff.mp hdi).1
      have S3 := (S2.wiped vs).set (i := j) rd'
      refine ⟨wipe_set σ (some x) vs j hj, ?_⟩
      refine (ht i d hdi).fr (cs := [(D, true, .lst (made f p i))]) B _ G2 H' S3 _ fun G3 H3 e3 S4 => ?_
      have back : ∀ {N : GM} {G4 H4 : Hp}, SR K B ((wipeE E vs).set j (some (.dt d))) N ((wipe σ vs).set j (some x)) G4 H4 → Same G2 G4 → SR K B E N σ G4 H4 := fun {N G4 H4} T s4 =>
        T.slots (S2.len) fun k g ek => by
          obtain ⟨w, k1, k2⟩ := S2.slot k g ek
          exact ⟨w, k1, RelG.mono s4 k2⟩
      cases hp : p i with
      | true =>
        rw [if_pos rfl]
        refine (he i d hdi hp).fr (cs := [(D, true, .lst (made f p i))]) B _ G3 H3 S4 _ fun y G4 H4 e4 S5 r5 => ?_
        obtain ⟨_, ⟨o, k1, k2⟩, _⟩ := S5.cells.at_ (D, true, .lst (made f p i)) List.mem_cons_self
        obtain ⟨us, rfl, ru⟩ := RelO.lst_inv k2
        refine ⟨us, k1, ?_, G4, ?_, s2.trans (e3.trans e4)⟩
        · rw [RelGs.length ru]
          have := made_len f p i
          rw [sizeLine_eq]; omega
        · have S6 := S5.write (j := 0) (p := D) (fl := true) (g := .lst (made f p i ++ [f i])) (o := .lst (us ++ [y])) rfl (RelGs.app ru (.cons r5 .nil))
          rw [← made_yes hp] at S6
          exact back S6 (e3.trans e4)
      | false =>
        rw [if_neg Bool.false_ne_true]
        refine ⟨G3, ?_, s2.trans e3⟩
        have S6 := back S4 e3
        rw [made_no hp, hno i d hdi hp]
        exact S6
end
end Ek

set_option Elab.async false
set_option linter.all false
set_option maxRecDepth 100000
/-! operators that stand for several kinds at once; their rules by the ghost values -/
namespace Ek
open PySem PySem.Spec PyProof.Rows L2

/-! ### one reading for each sign of the language -/
section
variable {X : Cx}
theorem OpR.both {f : Value → Value → Sem Value} {r r' : R2} (h : OpR X f r) (h' : OpR X f r') : OpR X f (fun x y H Q => r x y H Q ∨ r' x y H Q) := by
  intro pins s σ H x y v u Q I rx ry q
  rcases q with q | q
  · exact h pins s σ H x y v u Q I rx ry q
  · exact h' pins s σ H x y v u Q I rx ry q
theorem CallR.both {f : Value} {r r' : TR} (h : CallR X f r) (h' : CallR X f r') : CallR X f (fun x H Q => r x H Q ∨ r' x H Q) := by
  intro pins s σ H xs us Q I rx q
  rcases q with q | q
  · exact h pins s σ H xs us Q I rx q
  · exact h' pins s σ H xs us Q I rx q
def rCatS2 : R2 := fun x y H Q => ∃ i j, x = .str i ∧ y = .str j ∧ i.length + j.length ≤ sizeLine ∧ Q (.str (i ++ j)) H
def rPlus : R2 := fun x y H Q => rI0 (fun i j => .int (i + j)) x y H Q ∨ rCat x y H Q ∨ rCatS2 x y H Q
theorem o_plus : OpR X (binaryOp .Add) rPlus := OpR.both op_add (OpR.both op_cat op_add_str)
def rTimes : R2 := fun x y H Q => rI CMulW (fun i j => .int (i * j)) x y H Q ∨ rRep x y H Q
theorem o_times : OpR X (binaryOp .Mult) rTimes := OpR.both op_mulW op_rep
def rLenU (K : PySem.W.Frag) : TR := fun xs H Q => rLenQ K xs H Q ∨ ∃ z, xs = [.str z] ∧ z.length ≤ sizeLine ∧ Q (.int z.length) H
theorem o_len : CallR X (.builtin "len") (rLenU X.K) := CallR.both call_len_seq call_len_str
def rSlU (K : PySem.W.Frag) : V → Option Int → Option Int → Hp → VK → Prop := fun x lo hi H Q => rSlL K x lo hi H Q ∨ rSlS x lo hi H Q
theorem o_slice : SlR X (rSlU X.K) := SlR.or sl_list sl_str
def rLtU : R2 := rI0 fun i j => .bl (decide (i < j))
def rSorted0 (K : PySem.W.Frag) : TR := rSortedI K
end
section
variable {K : PySem.W.Frag} {E : GE} {M M1 M2 M3 : GM} {g x y z : GV} {ta tb tc te : TE} {tt tu : TT} {b c : Bool} {xs ys : List GV}
theorem R2E.inl {r r' : R2} (h : R2E K r x y M g M1) : R2E K (fun x y H Q => r x y H Q ∨ r' x y H Q) x y M g M1 := fun B E σ G H S v w hv hw Q q => .inl (h B E σ G H S v w hv hw Q q)
theorem R2E.inr {r r' : R2} (h : R2E K r' x y M g M1) : R2E K (fun x y H Q => r x y H Q ∨ r' x y H Q) x y M g M1 := fun B E σ G H S v w hv hw Q q => .inr (h B E σ G H S v w hv hw Q q)
theorem R2F.inl {r r' : R2} (h : R2F K r x y M xs M1) : R2F K (fun x y H Q => r x y H Q ∨ r' x y H Q) x y M xs M1 := fun B E σ G H S v w hv hw Q q => .inl (h B E σ G H S v w hv hw Q q)
theorem R2F.inr {r r' : R2} (h : R2F K r' x y M xs M1) : R2F K (fun x y H Q => r x y H Q ∨ r' x y H Q) x y M xs M1 := fun B E σ G H S v w hv hw Q q => .inr (h B E σ G H S v w hv hw Q q)
theorem R2F.fz {r : R2} {ds : List PyData} (h : R2F K r x y M (ds.map .dt) M1) : R2E K r x y M (.dt (.list ds)) M1 := fun B E σ G H S v w hv hw Q q =>
  h B E σ G H S v w hv hw Q fun p G1 H1 s1 S1 => by
    obtain ⟨G2, s2, S2, d⟩ := S1.freeze (j := 0) rfl
    exact q (.ref p) G2 H1 (fun a o e => s2 _ _ (s1 _ _ e)) S2 d
theorem RCE.inl {r r' : TR} {gs : List GV} (h : RCE K r gs M g M1) : RCE K (fun x H Q => r x H Q ∨ r' x H Q) gs M g M1 := fun B E σ G H S v hv Q q => .inl (h B E σ G H S v hv Q q)
theorem RCE.inr {r r' : TR} {gs : List GV} (h : RCE K r' gs M g M1) : RCE K (fun x H Q => r x H Q ∨ r' x H Q) gs M g M1 := fun B E σ G H S v hv Q q => .inr (h B E σ G H S v hv Q q)
/-! ### + and * -/
theorem p_int {i j : Int} : R2E K rPlus (.dt (.int i)) (.dt (.int j)) M (.dt (.int (i + j))) M := R2E.inl (r2_int fun _ => .int _)
theorem p_str {i j : Str} (h : i.length + j.length ≤ sizeLine) : R2E K rPlus (.dt (.str i)) (.dt (.str j)) M (.dt (.str (i ++ j))) M := R2E.inr (R2E.inr fun B E σ G H S v w hv hw Q q => by
  cases hv; cases hw
  exact ⟨i, j, rfl, rfl, h, q _ G H Same.rfl' S (Dr.str _)⟩)
theorem p_listF {ds es : List PyData} (h : ds.length + es.length ≤ sizeLine) : R2F K rPlus (.dt (.list ds)) (.dt (.list es)) M ((ds ++ es).map .dt) M := R2F.inr (R2F.inl fun B E σ G H S v w hv hw Q q => by
  cases hv with
  | lst e a =>
    cases hw with
    | lst e2 a2 => exact ⟨_, _, _, _, rfl, rfl, S.sub _ _ e, S.sub _ _ e2, by rw [a.length, a2.length]; exact h, fun p hp => q p G _ Same.rfl' (S.own hp (RelGs.of_data (a.app a2)))⟩)
theorem p_list {ds es : List PyData} (h : ds.length + es.length ≤ sizeLine) : R2E K rPlus (.dt (.list ds)) (.dt (.list es)) M (.dt (.list (ds ++ es))) M := R2F.fz (p_listF h)
theorem t_int {i j : Int} (h : CMulW i j) : R2E K rTimes (.dt (.int i)) (.dt (.int j)) M (.dt (.int (i * j))) M := R2E.inl (r2_intC h fun _ => .int _)
theorem DrAll.rep {G : Hp} {vs : List V} {ds : List PyData} (h : DrAll G vs ds) : ∀ n : Nat, DrAll G (List.replicate n vs).flatten (List.replicate n ds).flatten
  | 0 => .nil
  | n + 1 => by
    rw [List.replicate_succ, List.replicate_succ, List.flatten_cons, List.flatten_cons]
    exact h.app (h.rep n)
theorem t_listF {ds : List PyData} {k : Int} (h : ds.length * k.toNat ≤ sizeLine) (h1 : -(2 ^ 63) ≤ k) (h2 : k < 2 ^ 63) : R2F K rTimes (.dt (.list ds)) (.dt (.int k)) M ((List.replicate k.toNat ds).flatten.map .dt) M := R2F.inr fun B E σ G H S v w hv hw Q q => by
  cases hv with
  | lst e a =>
    cases hw
    exact ⟨_, k, _, rfl, rfl, S.sub _ _ e, h1, h2, by rw [a.length]; exact h, fun p hp => q p G _ Same.rfl' (S.own hp (RelGs.of_data (a.rep _)))⟩
theorem t_list {ds : List PyData} {k : Int} (h : ds.length * k.toNat ≤ sizeLine) (h1 : -(2 ^ 63) ≤ k) (h2 : k < 2 ^ 63) : R2E K rTimes (.dt (.list ds)) (.dt (.int k)) M (.dt (.list (List.replicate k.toNat ds).flatten)) M := R2F.fz (t_listF h h1 h2)
theorem t_oneF {d : PyData} {k : Int} (h : k.toNat ≤ 1000000) (h1 : -(2 ^ 63) ≤ k) (h2 : k < 2 ^ 63) : R2F K rTimes (.dt (.list [d])) (.dt (.int k)) M ((List.replicate k.toNat d).map .dt) M := by
  have e : (List.replicate k.toNat [d]).flatten = List.replicate k.toNat d := by
    generalize k.toNat = n
    induction n with
    | zero => rfl
    | succ n ih => rw [List.replicate_succ, List.flatten_cons, ih, List.replicate_succ]; rfl
  rw [← e]
  exact t_listF (by show 1 * k.toNat ≤ sizeLine; rw [sizeLine_eq]; omega) h1 h2
theorem t_one {d : PyData} {k : Int} (h : k.toNat ≤ 1000000) (h1 : -(2 ^ 63) ≤ k) (h2 : k < 2 ^ 63) : R2E K rTimes (.dt (.list [d])) (.dt (.int k)) M (.dt (.list (List.replicate k.toNat d))) M := R2F.fz (t_oneF h h1 h2)
theorem m_int {i j : Int} (h : 0 < j) : R2E K (rI (fun _ j => 0 < j) fun i j => .int (i % j)) (.dt (.int i)) (.dt (.int j)) M (.dt (.int (i % j))) M := r2_intC h fun _ => .int _
theorem d_int {i j : Int} (h : CDivW i j) : R2E K (rI CDivW fun i j => .int (i / j)) (.dt (.int i)) (.dt (.int j)) M (.dt (.int (i / j))) M := r2_intC h fun _ => .int _
theorem s_int {i j : Int} : R2E K (rI0 fun i j => .int (i - j)) (.dt (.int i)) (.dt (.int j)) M (.dt (.int (i - j))) M := r2_int fun _ => .int _
theorem w_int {i j : Int} (h : CPow i j) : R2E K (rI CPow fun i j => .int (i ^ j.toNat)) (.dt (.int i)) (.dt (.int j)) M (.dt (.int (i ^ j.toNat))) M := r2_intC h fun _ => .int _
theorem lt_int' {i j : Int} : R2E K (rI0 fun i j => .bl (decide (i < j))) (.dt (.int i)) (.dt (.int j)) M (.dt (.bool (decide (i < j)))) M := r2_int fun _ => .bl _
theorem le_int' {i j : Int} : R2E K (rI0 fun i j => .bl (decide (i ≤ j))) (.dt (.int i)) (.dt (.int j)) M (.dt (.bool (decide (i ≤ j)))) M := r2_int fun _ => .bl _
theorem gt_int' {i j : Int} : R2E K (rI0 fun i j => .bl (decide (j < i))) (.dt (.int i)) (.dt (.int j)) M (.dt (.bool (decide (j < i)))) M := r2_int fun _ => .bl _
theorem ge_int' {i j : Int} : R2E K (rI0 fun i j => .bl (decide (j ≤ i))) (.dt (.int i)) (.dt (.int j)) M (.dt (.bool (decide (j ≤ i)))) M := r2_int fun _ => .bl _
theorem eq_int' {i j : Int} : R2E K (rEqD K) (.dt (.int i)) (.dt (.int j)) M (.dt (.bool (decide (i = j)))) M := by rw [← eqv_int]; exact r2_eqD rfl rfl
theorem ne_int' {i j : Int} : R2E K (rNeD K) (.dt (.int i)) (.dt (.int j)) M (.dt (.bool (!decide (i = j)))) M := by rw [← eqv_int]; exact r2_neD rfl rfl
theorem eqv_str (i j : Str) : PyData.eqv (.str i) (.str j) = decide (i = j) := by
  show (i == j) = _
  by_cases h : i = j <;> simp [h]
theorem eq_str' {i j : Str} (h : SeqAt.shaped (.str i) = true) (h2 : SeqAt.shaped (.str j) = true) : R2E K (rEqD K) (.dt (.str i)) (.dt (.str j)) M (.dt (.bool (decide (i = j)))) M := by rw [← eqv_str]; exact r2_eqD h h2
theorem ne_str' {i j : Str} (h : SeqAt.shaped (.str i) = true) (h2 : SeqAt.shaped (.str j) = true) : R2E K (rNeD K) (.dt (.str i)) (.dt (.str j)) M (.dt (.bool (!decide (i = j)))) M := by rw [← eqv_str]; exact r2_neD h h2
def isNon : PyData → Bool | .none => true | _ => false
theorem is_none' {d : PyData} : R2E K (fun x y H Q => y = .non ∧ Q (.bl (decide (x = .non))) H) (.dt d) (.dt .none) M (.dt (.bool (isNon d))) M := fun B E σ G H S v w hv hw Q q => by
  cases hw
  refine ⟨rfl, q _ G H Same.rfl' S ?_⟩
  cases hv <;> exact Dr.bl _
theorem isnt_none' {d : PyData} : R2E K (fun x y H Q => y = .non ∧ Q (.bl (!decide (x = .non))) H) (.dt d) (.dt .none) M (.dt (.bool (!isNon d))) M := fun B E σ G H S v w hv hw Q q => by
  cases hw
  refine ⟨rfl, q _ G H Same.rfl' S ?_⟩
  cases hv <;> exact Dr.bl _
/-! ### items -/
theorem x_list {ds : List PyData} {i : Int} {d : PyData} (h : atI ds i = some d) : R2E K (rIx K) (.dt (.list ds)) (.dt (.int i)) M (.dt d) M := R2E.inl fun B E σ G H S v w hv hw Q q => by
  cases hv with
  | lst e a =>
    cases hw
    obtain ⟨u, h1, h2⟩ := a.atI h
    exact ⟨_, _, i, u, rfl, rfl, .of (S.sub _ _ e), h1, q u G H Same.rfl' S h2⟩
theorem x_tup {ds : List PyData} {i : Int} {d : PyData} (h : atI ds i = some d) : R2E K (rIx K) (.dt (.tuple ds)) (.dt (.int i)) M (.dt d) M := R2E.inr (R2E.inl fun B E σ G H S v w hv hw Q q => by
  cases hv with
  | tup e a =>
    cases hw
    obtain ⟨u, h1, h2⟩ := a.atI h
    exact ⟨_, _, i, u, rfl, rfl, .of (S.sub _ _ e), h1, q u G H Same.rfl' S h2⟩)
theorem x_scr {ns : List Int} {i k : Int} (h : atI ns i = some k) : R2E K (rIx K) (.sc ns) (.dt (.int i)) M (.dt (.int k)) M := R2E.inl fun B E σ G H S v w hv hw Q q => by
  obtain ⟨a, rfl, hs⟩ := hv
  cases hw
  exact ⟨a, _, i, _, rfl, rfl, S.sub.seq hs, atI_map V.int h, q _ G H Same.rfl' S (Dr.int _)⟩
theorem x_own {p : Addr} {i : Int} {fl : Bool} (hm : (p, fl, GO.lst xs) ∈ M) (h : atI xs i = some g) : R2E K (rIx K) (.rf p) (.dt (.int i)) M g M := R2E.inl fun B E σ G H S v w hv hw Q q => by
  have hv' : v = .ref p := hv
  subst hv'
  cases hw
  obtain ⟨_, ⟨o, h1, h2⟩, _⟩ := S.cells.at_ _ hm
  obtain ⟨vs, rfl, r⟩ := RelO.lst_inv h2
  obtain ⟨u, k1, k2⟩ := RelGs.atI r h
  exact ⟨p, vs, i, u, rfl, rfl, .of h1, k1, q u G H Same.rfl' S k2⟩
theorem x_ownT {p : Addr} {i : Int} {fl : Bool} (hm : (p, fl, GO.tup xs) ∈ M) (h : atI xs i = some g) : R2E K (rIx K) (.rf p) (.dt (.int i)) M g M := R2E.inr (R2E.inl fun B E σ G H S v w hv hw Q q => by
  have hv' : v = .ref p := hv
  subst hv'
  cases hw
  obtain ⟨_, ⟨o, h1, h2⟩, _⟩ := S.cells.at_ _ hm
  obtain ⟨vs, rfl, r⟩ := RelO.tup_inv h2
  obtain ⟨u, k1, k2⟩ := RelGs.atI r h
  exact ⟨p, vs, i, u, rfl, rfl, .of h1, k1, q u G H Same.rfl' S k2⟩)
theorem x_str {z : Str} {i : Int} {c : Nat} (hz : z.length ≤ sizeLine) (h : atI z.cps.toList i = some c) : R2E K (rIx K) (.dt (.str z)) (.dt (.int i)) M (.dt (.str ⟨#[c]⟩)) M := R2E.inr (R2E.inr fun B E σ G H S v w hv hw Q q => by
  cases hv; cases hw
  exact ⟨z, i, c, rfl, rfl, hz, h, q _ G H Same.rfl' S (Dr.str _)⟩)
/-! ### slices -/
def EO (K : PySem.W.Frag) (to : TO) (E : GE) (M : GM) (o : Option Int) : Prop :=
  ∀ B σ G H, SR K B E M σ G H → ∀ Q : Option Int → Hp → Prop, (∀ G' H', Same G G' → SR K B E M σ G' H' → Q o H') → to σ H Q
theorem eo_none : EO K tNoPart E M none := fun B σ G H S Q q => q G H Same.rfl' S
theorem eo_int {i : Int} (h : EE K te E M (.dt (.int i)) M) : EO K (tPart te) E M (some i) := fun B σ G H S Q q => h B σ G H S _ fun v G1 H1 s1 S1 r1 => by
  cases r1
  exact ⟨i, rfl, q G1 H1 s1 S1⟩
def cutD {α : Type} (xs : List α) (lo hi : Option Int) : List α := (xs.drop (HT.sIx xs.length 0 lo)).take (HT.sIx xs.length xs.length hi - HT.sIx xs.length 0 lo)
theorem DrAll.drop {G : Hp} : ∀ {vs : List V} {ds : List PyData} (n : Nat), DrAll G vs ds → DrAll G (vs.drop n) (ds.drop n)
  | _, _, 0, h => h
  | _, _, _ + 1, .nil => .nil
  | _, _, n + 1, .cons _ t => t.drop n
theorem DrAll.take {G : Hp} : ∀ {vs : List V} {ds : List PyData} (n : Nat), DrAll G vs ds → DrAll G (vs.take n) (ds.take n)
  | _, _, 0, h => .nil
  | _, _, _ + 1, .nil => .nil
  | _, _, n + 1, .cons h t => .cons h (t.take n)
theorem DrAll.of_ints {G : Hp} : ∀ ns : List Int, DrAll G (ns.map V.int) (ns.map .int)
  | [] => .nil
  | _ :: ns => .cons (.int _) (DrAll.of_ints ns)
theorem ef_cut {tl th : TO} {ds : List PyData} {lo hi : Option Int} (h : EE K te E M (.dt (.list ds)) M1) (hl : EO K tl E M1 lo) (hh : EO K th E M1 hi) : EF K (tSl (rSlU K) te tl th) E M ((cutD ds lo hi).map .dt) M1 := fun B σ G H S Q q =>
  h B σ G H S _ fun v G1 H1 s1 S1 r1 => hl B σ G1 H1 S1 _ fun G2 H2 s2 S2 => hh B σ G2 H2 S2 _ fun G3 H3 s3 S3 => by
    cases Dr.mono (s2.trans s3) r1 with
    | lst e a =>
      refine .inl ⟨_, _, rfl, .of (S3.sub _ _ e), fun p hp => q p G3 _ (s1.trans (s2.trans s3)) (S3.own hp ?_)⟩
      unfold cutV cutD
      rw [a.length]
      exact RelGs.of_data ((a.drop _).take _)
theorem ef_cutS {tl th : TO} {ns : List Int} {lo hi : Option Int} (h : EE K te E M (.sc ns) M1) (hl : EO K tl E M1 lo) (hh : EO K th E M1 hi) : EF K (tSl (rSlU K) te tl th) E M (((cutD ns lo hi).map PyData.int).map .dt) M1 := fun B σ G H S Q q =>
  h B σ G H S _ fun v G1 H1 s1 S1 r1 => hl B σ G1 H1 S1 _ fun G2 H2 s2 S2 => hh B σ G2 H2 S2 _ fun G3 H3 s3 S3 => by
    obtain ⟨a, rfl, hs⟩ := r1
    refine .inl ⟨_, _, rfl, S3.sub.seq (s3.seq (s2.seq hs)), fun p hp => q p G3 _ (s1.trans (s2.trans s3)) (S3.own hp ?_)⟩
    unfold cutV cutD
    rw [List.length_map, ← List.map_drop, ← List.map_take]
    exact RelGs.of_data (DrAll.of_ints _)
theorem ee_cutT {tl th : TO} {z : Str} {lo hi : Option Int} (h : EE K te E M (.dt (.str z)) M1) (hl : EO K tl E M1 lo) (hh : EO K th E M1 hi) (hz : z.length ≤ sizeLine) : EE K (tSl (rSlU K) te tl th) E M (.dt (.str (cutS z lo hi))) M1 := fun B σ G H S Q q =>
  h B σ G H S _ fun v G1 H1 s1 S1 r1 => hl B σ G1 H1 S1 _ fun G2 H2 s2 S2 => hh B σ G2 H2 S2 _ fun G3 H3 s3 S3 => by
    cases r1
    exact .inr ⟨z, rfl, hz, q _ G3 H3 (s1.trans (s2.trans s3)) S3 (Dr.str _)⟩
/-! ### len -/
theorem l_list {ds : List PyData} : RCE K (rLenU K) [.dt (.list ds)] M (.dt (.int (ds.length : Int))) M := RCE.inl fun B E σ G H S vs r Q q => by
  obtain ⟨v, rfl, hv⟩ := one_inv r
  cases hv with
  | lst e a => exact ⟨_, _, rfl, .inl (.of (S.sub _ _ e)), by rw [a.length]; exact q _ G H Same.rfl' S (Dr.int _)⟩
theorem l_tup {ds : List PyData} : RCE K (rLenU K) [.dt (.tuple ds)] M (.dt (.int (ds.length : Int))) M := RCE.inl fun B E σ G H S vs r Q q => by
  obtain ⟨v, rfl, hv⟩ := one_inv r
  cases hv with
  | tup e a => exact ⟨_, _, rfl, .inr (.of (S.sub _ _ e)), by rw [a.length]; exact q _ G H Same.rfl' S (Dr.int _)⟩
theorem l_scr {ns : List Int} : RCE K (rLenU K) [.sc ns] M (.dt (.int (ns.length : Int))) M := RCE.inl fun B E σ G H S vs r Q q => by
  obtain ⟨v, rfl, hv⟩ := one_inv r
  obtain ⟨a, rfl, hs⟩ := hv
  exact ⟨_, _, rfl, .inl (S.sub.seq hs), by rw [List.length_map]; exact q _ G H Same.rfl' S (Dr.int _)⟩
theorem l_own {p : Addr} {fl : Bool} (hm : (p, fl, GO.lst xs) ∈ M) : RCE K (rLenU K) [.rf p] M (.dt (.int (xs.length : Int))) M := RCE.inl fun B E σ G H S vs r Q q => by
  obtain ⟨v, rfl, hv⟩ := one_inv r
  have hv' : v = .ref p := hv
  subst hv'
  obtain ⟨_, ⟨o, h1, h2⟩, _⟩ := S.cells.at_ _ hm
  obtain ⟨ws, rfl, r⟩ := RelO.lst_inv h2
  exact ⟨p, ws, rfl, .inl (.of h1), by rw [RelGs.length r]; exact q _ G H Same.rfl' S (Dr.int _)⟩
theorem l_str {z : Str} (hz : z.length ≤ sizeLine) : RCE K (rLenU K) [.dt (.str z)] M (.dt (.int (z.length : Int))) M := RCE.inr fun B E σ G H S vs r Q q => by
  obtain ⟨v, rfl, hv⟩ := one_inv r
  cases hv
  exact ⟨z, rfl, hz, q _ G H Same.rfl' S (Dr.int _)⟩
def rAbs1 : TR := fun xs H Q => ∃ i, xs = [.int i] ∧ Q (.int (if i < 0 then -i else i)) H
theorem o_abs {X : Cx} : CallR X (.builtin "abs") rAbs1 := call_abs
theorem l_abs {i : Int} : RCE K rAbs1 [.dt (.int i)] M (.dt (.int (i.natAbs : Int))) M := fun B E σ G H S vs r Q q => by
  obtain ⟨v, rfl, hv⟩ := one_inv r
  cases hv
  refine ⟨i, rfl, ?_⟩
  have e : (if i < 0 then -i else i) = (i.natAbs : Int) := by split <;> omega
  rw [e]
  exact q _ G H Same.rfl' S (Dr.int _)
def rMax2' : TR := fun xs H Q => ∃ i j, xs = [.int i, .int j] ∧ Q (.int (if j > i then j else i)) H
theorem o_max2 {X : Cx} (hc : X.calm = true) : CallR X (.builtin "max") rMax2' := call_max2 hc
theorem l_max2 {i j : Int} : RCE K rMax2' [.dt (.int i), .dt (.int j)] M (.dt (.int (max i j))) M := fun B E σ G H S vs r Q q => by
  obtain ⟨v, w, rfl, hv, hw⟩ := two_inv r
  cases hv; cases hw
  refine ⟨i, j, rfl, ?_⟩
  have e : (if j > i then j else i) = max i j := by split <;> omega
  rw [e]
  exact q _ G H Same.rfl' S (Dr.int _)
def rMin2' : TR := fun xs H Q => ∃ i j, xs = [.int i, .int j] ∧ Q (.int (if j < i then j else i)) H
theorem o_min2 {X : Cx} (hc : X.calm = true) : CallR X (.builtin "min") rMin2' := call_min2 hc
theorem l_min2 {i j : Int} : RCE K rMin2' [.dt (.int i), .dt (.int j)] M (.dt (.int (min i j))) M := fun B E σ G H S vs r Q q => by
  obtain ⟨v, w, rfl, hv, hw⟩ := two_inv r
  cases hv; cases hw
  refine ⟨i, j, rfl, ?_⟩
  have e : (if j < i then j else i) = min i j := by split <;> omega
  rw [e]
  exact q _ G H Same.rfl' S (Dr.int _)
def rInt1 : TR := fun xs H Q => (∃ i, xs = [.int i] ∧ Q (.int i) H) ∨ ∃ k, xs = [.bl k] ∧ Q (.int (if k then 1 else 0)) H
theorem o_int {X : Cx} : CallR X (.type "int") rInt1 := call_int1
theorem l_intB {k : Bool} : RCE K rInt1 [.dt (.bool k)] M (.dt (.int (if k then 1 else 0))) M := fun B E σ G H S vs r Q q => by
  obtain ⟨v, rfl, hv⟩ := one_inv r
  cases hv
  exact .inr ⟨k, rfl, q _ G H Same.rfl' S (Dr.int _)⟩
theorem l_isi {d : PyData} {n : String} (hk : kitB (tyD d) n = some b) : RCE K (rIsi K) [.dt d, .ty n] M (.dt (.bool b)) M := fun B E σ G H S vs r Q q => by
  obtain ⟨v, w, rfl, hv, hw⟩ := two_inv r
  have hw' : w = .ty n := hw
  subst hw'
  exact ⟨v, .ty n, _, _, b, rfl, .ty n, ty_data S.sub hv, kit_ty hk, q _ G H Same.rfl' S (Dr.bl _)⟩
theorem l_sum {ns : List Int} : RCE K (rSum K) [.dt (.list (ns.map .int))] M (.dt (.int ns.sum)) M := fun B E σ G H S vs r Q q => by
  obtain ⟨v, rfl, hv⟩ := one_inv r
  cases hv with
  | lst e a =>
    rw [a.ints] at e
    exact ⟨_, ns, rfl, .of (S.sub _ _ e), q _ G H Same.rfl' S (Dr.int _)⟩
/-! ### in -/
theorem i_data {d : PyData} {ds : List PyData} (h1 : SeqAt.shaped d = true) (h2 : SeqAt.shaped (.list ds) = true) : R2E K (rInD K) (.dt d) (.dt (.list ds)) M (.dt (.bool (ds.any fun z => PyData.eqv z d))) M := fun B E σ G H S v w hv hw Q q =>
  ⟨d, ds, (Dr.mono S.sub hv).dp, (Dr.mono S.sub hw).dp, h1, h2, q _ G H Same.rfl' S (Dr.bl _)⟩
theorem ni_data {d : PyData} {ds : List PyData} (h1 : SeqAt.shaped d = true) (h2 : SeqAt.shaped (.list ds) = true) : R2E K (rNotInD K) (.dt d) (.dt (.list ds)) M (.dt (.bool (!ds.any fun z => PyData.eqv z d))) M := fun B E σ G H S v w hv hw Q q =>
  ⟨d, ds, (Dr.mono S.sub hv).dp, (Dr.mono S.sub hw).dp, h1, h2, q _ G H Same.rfl' S (Dr.bl _)⟩
/-- one's own list read as data where it stands -/
theorem SR.own_dp {B : Bs} {σ : L2.St} {G H : Hp} {p : Addr} {fl : Bool} {ds : List PyData} (S : SR K B E M σ G H) (hm : (p, fl, GO.lst (ds.map .dt)) ∈ M) : Dp K H (.ref p) (.list ds) := by
  obtain ⟨_, ⟨o, h1, h2⟩, _⟩ := S.cells.at_ _ hm
  obtain ⟨vs, rfl, r⟩ := RelO.lst_inv h2
  exact .lst (.of h1) (DrAll.mono S.sub r.data).dp
theorem i_own {d : PyData} {p : Addr} {fl : Bool} {ds : List PyData} (hm : (p, fl, GO.lst (ds.map .dt)) ∈ M) (h1 : SeqAt.shaped d = true) (h2 : SeqAt.shaped (.list ds) = true) : R2E K (rInD K) (.dt d) (.rf p) M (.dt (.bool (ds.any fun z => PyData.eqv z d))) M := fun B E σ G H S v w hv hw Q q => by
  have hw' : w = .ref p := hw
  subst hw'
  exact ⟨d, ds, (Dr.mono S.sub hv).dp, S.own_dp hm, h1, h2, q _ G H Same.rfl' S (Dr.bl _)⟩
theorem ni_own {d : PyData} {p : Addr} {fl : Bool} {ds : List PyData} (hm : (p, fl, GO.lst (ds.map .dt)) ∈ M) (h1 : SeqAt.shaped d = true) (h2 : SeqAt.shaped (.list ds) = true) : R2E K (rNotInD K) (.dt d) (.rf p) M (.dt (.bool (!ds.any fun z => PyData.eqv z d))) M := fun B E σ G H S v w hv hw Q q => by
  have hw' : w = .ref p := hw
  subst hw'
  exact ⟨d, ds, (Dr.mono S.sub hv).dp, S.own_dp hm, h1, h2, q _ G H Same.rfl' S (Dr.bl _)⟩
/-! ### data of ghost lists -/
def undt : List GV → Option (List PyData)
  | [] => some []
  | .dt d :: r => (undt r).map (d :: ·)
  | _ :: _ => none
theorem undt_eq : ∀ {xs : List GV} {ds : List PyData}, undt xs = some ds → xs = ds.map .dt
  | [], ds, h => by cases h; rfl
  | .dt d :: r, ds, h => by
    unfold undt at h
    cases e : undt r with
    | none => rw [e] at h; cases h
    | some es =>
      rw [e] at h
      cases h
      rw [undt_eq e] <;> rfl
  | .rf _ :: _, _, h => by cases h
  | .sc _ :: _, _, h => by cases h
  | .ty _ :: _, _, h => by cases h
theorem ee_fzU {ds : List PyData} (h : EF K te E M xs M1) (e : undt xs = some ds) : EE K te E M (.dt (.list ds)) M1 := by
  rw [undt_eq e] at h
  exact ee_fz h
theorem ee_tupU {tr : TA} {gs : List GV} {ds : List PyData} (h : EA K tr E M gs M1) (e : undt gs = some ds) (hl : ds.length ≤ sizeLine) : EE K (tTup tr) E M (.dt (.tuple ds)) M1 := by
  rw [undt_eq e] at h
  exact ee_tup h hl
end
end Ek

set_option Elab.async false
set_option linter.all false
set_option maxRecDepth 100000
/-! zip, enumerate, ranges, comprehensions over them; in, list(..); the law's begin -/
namespace Ek
open PySem PySem.Spec PyProof.Rows L2

theorem hu64 {A : Around} {k : Nat} (hr : Room k A) : A.units + 64 < cLine := by have := hr.un; omega
theorem hu65 {A : Around} {k : Nat} (hr : Room k A) : A.units + 65 < cLine := by have := hr.un; omega
section
variable {X : Cx}
def rInStr : R2 := fun x y H Q => ∃ i j, x = .str i ∧ y = .str j ∧ Q (.bl (!(Builtin.Str.occurrences j i 0 j.length 1).isEmpty)) H
def rNotInStr : R2 := fun x y H Q => ∃ i j, x = .str i ∧ y = .str j ∧ Q (.bl (!(!(Builtin.Str.occurrences j i 0 j.length 1).isEmpty))) H
def rInU (K : PySem.W.Frag) : R2 := fun x y H Q => rInD K x y H Q ∨ rIn K false x y H Q ∨ rInStr x y H Q
def rNotInU (K : PySem.W.Frag) : R2 := fun x y H Q => rNotInD K x y H Q ∨ rIn K true x y H Q ∨ rNotInStr x y H Q
theorem o_in (hu : X.A.units + 65 < cLine) : OpR X (compareOp .In) (rInU X.K) := OpR.both (op_inD hu) (OpR.both op_in_seq op_in_str)
theorem o_notin (hu : X.A.units + 65 < cLine) : OpR X (compareOp .NotIn) (rNotInU X.K) := OpR.both (op_notInD hu) (OpR.both op_notIn_seq op_notin_str)
def rListOf (K : PySem.W.Frag) : TR := fun xs H Q => ∃ p ys, xs = [.ref p] ∧ (SqL K H p ys ∨ SqT K H p ys) ∧ ∀ l, H l = none → Q (.ref l) (upd H l (.lst ys))
theorem o_list : CallR X (.type "list") (rListOf X.K) := call_list_of
end
/-! ### one structure of walk -/
theorem for_it {J : It} {g : TG} {tb : TS} {D : Ends} {σ : L2.St} {H : Hp} (n : Nat) (Pv : Nat → L2.St → Hp → Prop) (h0 : Pv 0 σ H) (hgo : ∀ i σ H, i < n → Pv i σ H → J.go i H) (hstop : ∀ σ H, Pv n σ H → J.stop n H)
    (hs : ∀ i σ H x H', i < n → Pv i σ H → J.yld i H x H' → g x σ H' fun σ2 H2 => tb { D with nx := Pv (i + 1), ct := Pv (i + 1), bk := D.nx } σ2 H2) (hd : ∀ σ H, Pv n σ H → D.nx σ H) :
    ∃ W : Nat → Nat → L2.St → Hp → Prop, (∃ m, W 0 m σ H) ∧ ∀ i m σ H, W i m σ H →
      (J.stop i H ∧ D.nx σ H) ∨ (J.go i H ∧ ∃ N : L2.St → Hp → Prop, (∀ σ' H', N σ' H' → ∃ m', m' < m ∧ W (i + 1) m' σ' H') ∧ ∀ v H', J.yld i H v H' → g v σ H' fun σ2 H2 => tb { D with nx := N, ct := N, bk := D.nx } σ2 H2) := by
  refine ⟨fun i m σ H => m = n - i ∧ i ≤ n ∧ Pv i σ H, ⟨n, rfl, Nat.zero_le _, h0⟩, ?_⟩
  rintro i m σ H ⟨rfl, hi, p⟩
  by_cases hlt : i < n
  · exact .inr ⟨hgo i σ H hlt p, Pv (i + 1), fun σ' H' p' => ⟨n - (i + 1), by omega, rfl, hlt, p'⟩, fun v H' y => hs i σ H v H' hlt p y⟩
  · have e : i = n := by omega
    subst e
    exact .inl ⟨hstop σ H p, hd σ H p⟩
theorem lc_it {J : It} {g : TG} {tt : TT} {te : TE} {vs : List Nat} {σ : L2.St} {H1 : Hp} {D : Addr} {Qd : Hp → Prop} (n : Nat) (Pv : Nat → Hp → Prop) (h0 : Pv 0 (upd H1 D (.lst []))) (hgo : ∀ i H, i < n → Pv i H → J.go i H) (hstop : ∀ H, Pv n H → J.stop n H)
    (hs : ∀ i H x H', i < n → Pv i H → J.yld i H x H' → g x (wipe σ vs) H' fun σ2 H2 => wipe σ2 vs = wipe σ vs ∧ tt σ2 H2 fun b H3 =>
      if b = true then te σ2 H3 fun y H4 => ∃ acc, H4 D = some (.lst acc) ∧ acc.length < sizeLine ∧ Pv (i + 1) (upd H4 D (.lst (acc ++ [y]))) else Pv (i + 1) H3) (hd : ∀ H, Pv n H → Qd H) :
    ∃ W : Nat → Nat → Hp → Prop, (∃ m, W 0 m (upd H1 D (.lst []))) ∧ ∀ i m H, W i m H →
      (J.stop i H ∧ Qd H) ∨ (J.go i H ∧ ∃ Nx : Hp → Prop, (∀ H', Nx H' → ∃ m', m' < m ∧ W (i + 1) m' H') ∧ ∀ x H', J.yld i H x H' → g x (wipe σ vs) H' fun σ2 H2 => wipe σ2 vs = wipe σ vs ∧ tt σ2 H2 fun b H3 =>
        if b = true then te σ2 H3 fun y H4 => ∃ acc, H4 D = some (.lst acc) ∧ acc.length < sizeLine ∧ Nx (upd H4 D (.lst (acc ++ [y]))) else Nx H3) := by
  refine ⟨fun i m H => m = n - i ∧ i ≤ n ∧ Pv i H, ⟨n, rfl, Nat.zero_le _, h0⟩, ?_⟩
  rintro i m H ⟨rfl, hi, p⟩
  by_cases hlt : i < n
  · exact .inr ⟨hgo i H hlt p, Pv (i + 1), fun H' p' => ⟨n - (i + 1), by omega, rfl, hlt, p'⟩, fun v H' y => hs i H v H' hlt p y⟩
  · have e : i = n := by omega
    subst e
    exact .inl ⟨hstop H p, hd H p⟩
section
variable {K : PySem.W.Frag} {E : GE} {M M1 M2 : GM} {P : Kn} {t : TS} {te tl tl2 : TE} {tt : TT}
def setL (E : GE) : List Nat → List GV → GE
  | j :: js, g :: gs => setL (E.set j (some g)) js gs
  | _, _ => E
/-- what a walk gives to its target's slots, turn by turn, from the shared data G1 on -/
structure Wk (K : PySem.W.Frag) (J : It) (g : TG) (G1 : Hp) (n : Nat) (js : List Nat) (f : Nat → List GV) : Prop where
  go : ∀ i H G2, i < n → Same G1 G2 → Same G2 H → J.go i H
  stop : ∀ H G2, Same G1 G2 → Same G2 H → J.stop n H
  turn : ∀ (i : Nat) (B : Bs) (E : GE) (M : GM) (σ : L2.St) (G2 H : Hp) (x : V) (H' : Hp) (R : L2.St → Hp → Prop), i < n → SR K B E M σ G2 H → Same G1 G2 → J.yld i H x H' →
    (∀ σ3 G3, Same G2 G3 → SR K B (setL E js (f i)) M σ3 G3 H' → (∀ vs, (∀ j ∈ js, j ∈ vs) → wipe σ3 vs = wipe σ vs) → R σ3 H') → g x σ H' R
/-- an iterable -/
def EI (K : PySem.W.Frag) (wi : TI) (g : TG) (E : GE) (M : GM) (M1 : GM) (n : Nat) (js : List Nat) (f : Nat → List GV) : Prop :=
  ∀ B σ G H, SR K B E M σ G H → ∀ R : It → Hp → Prop, (∀ J G' H', Same G G' → SR K B E M1 σ G' H' → Wk K J g G' n js f → R J H') → wi σ H R
theorem wipe_at (vs : List Nat) (τ : L2.St) (i : Nat) : (wipe τ vs)[i]? = if i ∈ vs ∧ i < τ.length then some none else τ[i]? := by
  induction vs with
  | nil => unfold wipe; rw [if_neg (by simp)]
  | cons v vs ih =>
    unfold wipe
    by_cases hi : v = i
    · subst hi
      by_cases hl : v < τ.length
      · rw [List.getElem?_set_self (by rw [wipe_length]; exact hl), if_pos ⟨List.mem_cons_self, hl⟩]
      · rw [List.getElem?_eq_none (by rw [List.length_set, wipe_length]; omega), if_neg (by omega), List.getElem?_eq_none (by omega)]
    · rw [List.getElem?_set_ne hi, ih]
      by_cases hm : i ∈ vs
      · by_cases hl : i < τ.length
        · rw [if_pos ⟨hm, hl⟩, if_pos ⟨List.mem_cons_of_mem _ hm, hl⟩]
        · rw [if_neg (by omega), if_neg (by omega)]
      · rw [if_neg (by simp [hm]), if_neg (by simp [hm, Ne.symm hi])]
theorem wipe_of_set {σ : L2.St} {x : Option V} {j : Nat} {vs : List Nat} (hj : j ∈ vs) : wipe (σ.set j x) vs = wipe σ vs := by
  refine List.ext_getElem? fun i => ?_
  rw [wipe_at, wipe_at, List.length_set]
  by_cases hm : i ∈ vs ∧ i < σ.length
  · rw [if_pos hm, if_pos hm]
  · rw [if_neg hm, if_neg hm]
    by_cases hij : j = i
    · subst hij
      have hl : ¬ j < σ.length := fun z => hm ⟨hj, z⟩
      rw [List.getElem?_eq_none (by rw [List.length_set]; omega), List.getElem?_eq_none (by omega)]
    · rw [List.getElem?_set_ne hij]
theorem wipe_wipe (σ : L2.St) (vs : List Nat) : wipe (wipe σ vs) vs = wipe σ vs := by
  refine List.ext_getElem? fun i => ?_
  rw [wipe_at, wipe_length, wipe_at]
  by_cases hm : i ∈ vs ∧ i < σ.length
  · rw [if_pos hm]
    exact (if_pos hm).symm
  · rw [if_neg hm]
/-- a pair handed to two names -/
theorem turn_pair {B : Bs} {M : GM} {σ : L2.St} {G2 H : Hp} {T : Addr} {x y : V} {gx gy : GV} {j1 j2 : Nat} {R : L2.St → Hp → Prop} (S : SR K B E M σ G2 H) (hT : SqT K H T [x, y]) (hx : RelG K G2 x gx) (hy : RelG K G2 y gy)
    (q : ∀ σ3 G3, Same G2 G3 → SR K B (setL E [j1, j2] [gx, gy]) M σ3 G3 H → (∀ vs, (∀ j ∈ [j1, j2], j ∈ vs) → wipe σ3 vs = wipe σ vs) → R σ3 H) :
    gTup K 2 (gCons (gName j1) (gCons (gName j2) gNil)) (.ref T) σ H R := by
  refine ⟨T, [x, y], rfl, hT, rfl, x, [y], rfl, y, [], rfl, rfl, ?_⟩
  refine q _ G2 Same.rfl' ((S.set hx).set hy) fun vs hv => ?_
  rw [wipe_of_set (hv j2 (by simp)), wipe_of_set (hv j1 (by simp))]
theorem wk_list {G1 : Hp} {a : Addr} {vs : List V} {ds : List PyData} {j : Nat} (e : G1 a = some (.lst vs)) (ha : DrAll G1 vs ds) : Wk K (Itl K a) (gName j) G1 ds.length [j] (fun i => [.dt (ds.getD i .none)]) where
  go := fun i H G2 hi s1 s2 => ⟨vs, vs[i]'(by rw [ha.length]; exact hi), .of (s2 _ _ (s1 _ _ e)), by simp⟩
  stop := fun H G2 s1 s2 => ⟨vs, .of (s2 _ _ (s1 _ _ e)), by rw [ha.length]; exact Nat.le_refl _⟩
  turn := fun i B E M σ G2 H x H' R hi S s1 y q => by
    obtain ⟨rfl, y⟩ := y
    obtain ⟨d, hd, rd⟩ := ha.get (y vs (.of (S.sub _ _ (s1 _ _ e))))
    have e2 : ds.getD i .none = d := by rw [List.getD_eq_getElem?_getD, hd] <;> rfl
    refine q _ G2 Same.rfl' (S.set (i := j) (g := .dt (ds.getD i .none)) (by rw [e2]; exact Dr.mono s1 rd)) fun vs hv => wipe_of_set (hv j (by simp))
theorem ei_list {j : Nat} {ds : List PyData} (h : EE K tl E M (.dt (.list ds)) M1) : EI K (iList K tl) (gName j) E M M1 ds.length [j] (fun i => [.dt (ds.getD i .none)]) := fun B σ G H S R q =>
  h B σ G H S _ fun v G1 H1 s1 S1 r1 => by
    cases r1 with
    | lst e a => exact ⟨_, rfl, ⟨_, .of (S1.sub _ _ e)⟩, q _ G1 H1 s1 S1 (wk_list e a)⟩
/-- the script itself -/
theorem ei_scr {j : Nat} {ns : List Int} (h : EE K tl E M (.sc ns) M1) : EI K (iList K tl) (gName j) E M M1 ns.length [j] (fun i => [.dt (.int (ns.getD i 0))]) := fun B σ G H S R q =>
  h B σ G H S _ fun v G1 H1 s1 S1 r1 => by
    obtain ⟨a, rfl, hs⟩ := r1
    refine ⟨_, rfl, ⟨_, S1.sub.seq hs⟩, q _ G1 H1 s1 S1 ⟨fun i H G2 hi s1 s2 => ⟨_, .int (ns.getD i 0), s2.seq (s1.seq hs), ?_⟩, fun H G2 s1 s2 => ⟨_, s2.seq (s1.seq hs), by rw [List.length_map]; exact Nat.le_refl _⟩, fun i B E M σ G2 H x H' R hi S s1 y q => ?_⟩⟩
    · rw [List.getElem?_map, List.getElem?_eq_getElem hi, List.getD_eq_getElem?_getD, List.getElem?_eq_getElem hi] <;> rfl
    · obtain ⟨rfl, y⟩ := y
      have hx := y _ (S.sub.seq (s1.seq hs))
      rw [List.getElem?_map, List.getElem?_eq_getElem hi] at hx
      have hx' : x = .int (ns.getD i 0) := by
        rw [List.getD_eq_getElem?_getD, List.getElem?_eq_getElem hi]
        exact (Option.some.inj hx).symm
      subst hx'
      exact q _ G2 Same.rfl' (S.set (i := j) (g := .dt (.int (ns.getD i 0))) (Dr.int _)) fun vs hv => wipe_of_set (hv j (by simp))
/-- for a, b in a list of pairs -/
theorem ei_list2 {j1 j2 : Nat} {ds : List PyData} (fa fb : Nat → PyData) (h : EE K tl E M (.dt (.list ds)) M1) (hf : ∀ (i : Nat) (d : PyData), ds[i]? = some d → d = PyData.tuple [fa i, fb i]) :
    EI K (iList K tl) (gTup K 2 (gCons (gName j1) (gCons (gName j2) gNil))) E M M1 ds.length [j1, j2] (fun i => [.dt (fa i), .dt (fb i)]) := fun B σ G H S R q =>
  h B σ G H S _ fun v G1 H1 s1 S1 r1 => by
    cases r1 with
    | lst e a =>
      rename_i ad vs
      refine ⟨_, rfl, ⟨_, .of (S1.sub _ _ e)⟩, q _ G1 H1 s1 S1 ⟨fun i H G2 hi s1 s2 => ⟨vs, vs[i]'(by rw [a.length]; exact hi), .of (s2 _ _ (s1 _ _ e)), by simp⟩, fun H G2 s1 s2 => ⟨vs, .of (s2 _ _ (s1 _ _ e)), by rw [a.length]; exact Nat.le_refl _⟩, fun i B E M σ G2 H x H' R hi S s1 y q => ?_⟩⟩
      obtain ⟨rfl, y⟩ := y
      obtain ⟨d, hd, rd⟩ := a.get (y vs (.of (S.sub _ _ (s1 _ _ e))))
      have hd2 := hf i d hd
      subst hd2
      cases Dr.mono s1 rd with
      | tup et at_ =>
        cases at_ with
        | cons d1 t1 =>
          cases t1 with
          | cons d2 t2 =>
            cases t2
            exact turn_pair S (.of (S.sub _ _ et)) (gx := .dt (fa i)) (gy := .dt (fb i)) d1 d2 q
/-- enumerate -/
theorem ei_enum {j1 j2 : Nat} {ds : List PyData} (h : EE K tl E M (.dt (.list ds)) M1) :
    EI K (iEnum K (tCons tl tNil)) (gTup K 2 (gCons (gName j1) (gCons (gName j2) gNil))) E M M1 ds.length [j1, j2] (fun i => [.dt (.int (i : Int)), .dt (ds.getD i .none)]) := fun B σ G H S R q =>
  h B σ G H S _ fun v G1 H1 s1 S1 r1 => by
    cases r1 with
    | lst e a =>
      rename_i ad vs
      refine ⟨ad, vs, rfl, .of (S1.sub _ _ e), q _ G1 H1 s1 S1 ⟨fun i H G2 hi s1 s2 => ⟨vs, vs[i]'(by rw [a.length]; exact hi), .of (s2 _ _ (s1 _ _ e)), by simp⟩, fun H G2 s1 s2 => ⟨vs, .of (s2 _ _ (s1 _ _ e)), by rw [a.length]; exact Nat.le_refl _⟩, fun i B E M σ G2 H x H' R hi S s1 y q => ?_⟩⟩
      obtain ⟨T, w, rfl, hT, rfl, y⟩ := y
      obtain ⟨d, hd, rd⟩ := a.get (y vs (.of (S.sub _ _ (s1 _ _ e))))
      have e2 : ds.getD i .none = d := by rw [List.getD_eq_getElem?_getD, hd] <;> rfl
      have hg := S.gfree hT
      refine turn_pair (S.share hT) (.of upd_same) (gx := .dt (.int (i : Int))) (gy := .dt (ds.getD i .none)) (Dr.int _) (by rw [e2]; exact Dr.mono (same_upd hg) (Dr.mono s1 rd)) fun σ3 G3 s3 S3 hw => ?_
      exact q σ3 G3 ((same_upd hg).trans s3) S3 hw
/-- zip of two lists -/
theorem ei_zip {j1 j2 : Nat} {ds es : List PyData} (h : EE K tl E M (.dt (.list ds)) M1) (h2 : EE K tl2 E M1 (.dt (.list es)) M2) :
    EI K (iZip K (tCons tl (tCons tl2 tNil))) (gTup K 2 (gCons (gName j1) (gCons (gName j2) gNil))) E M M2 (min ds.length es.length) [j1, j2] (fun i => [.dt (ds.getD i .none), .dt (es.getD i .none)]) := fun B σ G H S R q =>
  h B σ G H S _ fun v G1 H1 s1 S1 r1 => h2 B σ G1 H1 S1 _ fun v2 G2 H2 s2 S2 r2 => by
    cases Dr.mono s2 r1 with
    | lst e a =>
      cases r2 with
      | lst e2 a2 =>
        rename_i ad vs ad2 vs2
        refine ⟨ad, ad2, vs, vs2, rfl, .of (S2.sub _ _ e), .of (S2.sub _ _ e2), q _ G2 H2 (s1.trans s2) S2 ⟨fun i H G3 hi s1 s2 => ⟨vs, vs2, vs[i]'(by rw [a.length]; omega), vs2[i]'(by rw [a2.length]; omega), .of (s2 _ _ (s1 _ _ e)), .of (s2 _ _ (s1 _ _ e2)), by simp, by simp⟩,
          fun H G2 s1 s2 => ⟨vs, vs2, .of (s2 _ _ (s1 _ _ e)), .of (s2 _ _ (s1 _ _ e2)), by rw [a.length, a2.length]; omega⟩, fun i B E M σ G3 H x H' R hi S s1 y q => ?_⟩⟩
        obtain ⟨T, w, w2, rfl, hT, rfl, y, y2⟩ := y
        obtain ⟨d, hd, rd⟩ := a.get (y vs (.of (S.sub _ _ (s1 _ _ e))))
        obtain ⟨d2, hd2, rd2⟩ := a2.get (y2 vs2 (.of (S.sub _ _ (s1 _ _ e2))))
        have k1 : ds.getD i .none = d := by rw [List.getD_eq_getElem?_getD, hd] <;> rfl
        have k2 : es.getD i .none = d2 := by rw [List.getD_eq_getElem?_getD, hd2] <;> rfl
        have hg := S.gfree hT
        refine turn_pair (S.share hT) (.of upd_same) (gx := .dt (ds.getD i .none)) (gy := .dt (es.getD i .none)) (by rw [k1]; exact Dr.mono (same_upd hg) (Dr.mono s1 rd)) (by rw [k2]; exact Dr.mono (same_upd hg) (Dr.mono s1 rd2)) fun σ3 G3 s3 S3 hw => ?_
        exact q σ3 G3 ((same_upd hg).trans s3) S3 hw
theorem ei_range1 {j : Nat} {m : Int} {tr : TA} (h : EA K tr E M [.dt (.int m)] M1) (h1 : -(2 ^ 62) ≤ m) (h2 : m < 2 ^ 62) : EI K (iRng1 tr) (gName j) E M M1 m.toNat [j] (fun i => [.dt (.int (i : Int))]) := fun B σ G H S R q =>
  h B σ G H S _ fun vs G1 H1 s1 S1 r1 => by
    obtain ⟨v, rfl, hv⟩ := one_inv r1
    cases hv
    refine ⟨m, rfl, h1, h2, q _ G1 H1 s1 S1 ⟨fun i H G2 hi s1 s2 => hi, fun H G2 s1 s2 => Nat.le_refl _, fun i B E M σ G2 H x H' R hi S s1 y q => ?_⟩⟩
    obtain ⟨rfl, rfl⟩ := y
    have e0 : (0 : Int) + (i : Int) = (i : Int) := Int.zero_add _
    rw [e0]
    exact q _ G2 Same.rfl' (S.set (i := j) (g := .dt (.int (i : Int))) (Dr.int _)) fun vs hv => wipe_of_set (hv j (by simp))
theorem ei_range2 {j : Nat} {lo m : Int} {tr : TA} (h : EA K tr E M [.dt (.int lo), .dt (.int m)] M1) (hm : -(2 ^ 62) ≤ lo ∧ lo < 2 ^ 62 ∧ -(2 ^ 62) ≤ m ∧ m < 2 ^ 62) : EI K (iRng2 tr) (gName j) E M M1 (m - lo).toNat [j] (fun i => [.dt (.int (lo + (i : Int)))]) := fun B σ G H S R q =>
  h B σ G H S _ fun vs G1 H1 s1 S1 r1 => by
    obtain ⟨v, w, rfl, hv, hw⟩ := two_inv r1
    cases hv; cases hw
    refine ⟨lo, m, rfl, hm, q _ G1 H1 s1 S1 ⟨fun i H G2 hi s1 s2 => hi, fun H G2 s1 s2 => Nat.le_refl _, fun i B E M σ G2 H x H' R hi S s1 y q => ?_⟩⟩
    obtain ⟨rfl, rfl⟩ := y
    exact q _ G2 Same.rfl' (S.set (i := j) (g := .dt (.int (lo + (i : Int)))) (Dr.int _)) fun vs hv => wipe_of_set (hv j (by simp))
theorem three_inv {G : Hp} {vs : List V} {g g' g2 : GV} (h : RelGs K G vs [g, g', g2]) : ∃ v w u, vs = [v, w, u] ∧ RelG K G v g ∧ RelG K G w g' ∧ RelG K G u g2 := by
  cases h with
  | cons a t =>
    obtain ⟨w, u, rfl, b, c⟩ := two_inv t
    exact ⟨_, _, _, rfl, a, b, c⟩
theorem ei_range3 {j : Nat} {lo m c : Int} {n : Nat} {tr : TA} (h : EA K tr E M [.dt (.int lo), .dt (.int m), .dt (.int c)] M1) (hm : RgC lo m c n) : EI K (iRng3 tr) (gName j) E M M1 n [j] (fun i => [.dt (.int (lo + (i : Int) * c))]) := fun B σ G H S R q =>
  h B σ G H S _ fun vs G1 H1 s1 S1 r1 => by
    obtain ⟨v, w, u, rfl, hv, hw, hu⟩ := three_inv r1
    cases hv; cases hw; cases hu
    refine ⟨lo, m, c, n, rfl, hm, q _ G1 H1 s1 S1 ⟨fun i H G2 hi s1 s2 => hi, fun H G2 s1 s2 => Nat.le_refl _, fun i B E M σ G2 H x H' R hi S s1 y q => ?_⟩⟩
    obtain ⟨rfl, rfl⟩ := y
    exact q _ G2 Same.rfl' (S.set (i := j) (g := .dt (.int (lo + (i : Int) * c))) (Dr.int _)) fun vs hv => wipe_of_set (hv j (by simp))
/-- for .. in .. -/
theorem blk_for {wi : TI} {g : TG} {n : Nat} {js : List Nat} {f : Nat → List GV} (h : EI K wi g E M M1 n js f) (Iv : Nat → GE → GM → Prop) (h0 : Iv 0 E M1)
    (hs : ∀ i E1 N1, i < n → Iv i E1 N1 → Blk K t (setL E1 js (f i)) N1 (turnK P (Iv (i + 1)))) (hd : ∀ E1 N1, Iv n E1 N1 → P.nx E1 N1) : Blk K (tFor wi g t) E M P := fun B σ G H D S nn r bb c =>
  h B σ G H S _ fun J G1 H1 s1 S1 wk => for_it n (fun i σ' H' => ∃ E1 N1 G2, Iv i E1 N1 ∧ SR K B E1 N1 σ' G2 H' ∧ Same G1 G2) ⟨E, M1, G1, h0, S1, Same.rfl'⟩
    (fun i σ' H' hi ⟨E1, N1, G2, q1, S2, s2⟩ => wk.go i H' G2 hi s2 S2.sub) (fun σ' H' ⟨E1, N1, G2, q1, S2, s2⟩ => wk.stop H' G2 s2 S2.sub)
    (fun i σ' H' x H'' hi ⟨E1, N1, G2, q1, S2, s2⟩ y => wk.turn i B E1 N1 σ' G2 H' x H'' _ hi S2 s2 y fun σ3 G3 s3 S3 _ =>
      Blk.from_ (G0 := G1) (hs i E1 N1 hi q1) (s2.trans s3) S3 (fun E' M' σ3 G3 H3 q e3 S3 => ⟨E', M', G3, q, S3, e3⟩) (fun g M' v G3 H3 q e3 S3 rr => r g M' v G3 H3 q (s1.trans e3) S3 rr) (fun E' M' σ3 G3 H3 q e3 S3 => nn E' M' σ3 G3 H3 q (s1.trans e3) S3) (fun E' M' σ3 G3 H3 q e3 S3 => ⟨E', M', G3, q, S3, e3⟩))
    fun σ' H' ⟨E1, N1, G2, q1, S2, s2⟩ => nn E1 N1 σ' G2 H' (hd _ _ q1) (s1.trans s2) S2
/-- [e for .. in .. if ..]; the cells may change from turn to turn -/
theorem ef_lc {wi : TI} {g : TG} {n : Nat} {js : List Nat} {f : Nat → List GV} {vs : List Nat} (Ms : Nat → GM) (p : Nat → Bool) (fv : Nat → GV) (h : EI K wi g E M (Ms 0) n js f) (hj : ∀ j ∈ js, j ∈ vs) (hz : n ≤ 1000000)
    (ht : ∀ i, i < n → ET K tt (setL (wipeE E vs) js (f i)) (Ms i) (p i) (Ms i)) (hno : ∀ i, i < n → p i = false → Ms (i + 1) = Ms i)
    (he : ∀ i, i < n → p i = true → EE K te (setL (wipeE E vs) js (f i)) (Ms i) (fv i) (Ms (i + 1))) :
    EF K (tLc wi g tt te vs) E M (made fv p n) (Ms n) := fun B σ G H S Q q =>
  h B σ G H S _ fun J G1 H1 s1 S1 wk => by
    refine fun D hD => lc_it n (fun i H' => ∃ G2, SR K B E ((D, true, .lst (made fv p i)) :: Ms i) σ G2 H' ∧ Same G1 G2) ⟨G1, S1.own (o := .lst []) hD .nil, Same.rfl'⟩ (fun i H' hi ⟨G2, S2, s2⟩ => wk.go i H' G2 hi s2 S2.sub) (fun H' ⟨G2, S2, s2⟩ => wk.stop H' G2 s2 S2.sub)
        (fun i H' x H'' hi ⟨G2, S2, s2⟩ y => ?_) (fun H' ⟨G2, S2, s2⟩ => q D G2 H' (s1.trans s2) S2)
    refine wk.turn i B (wipeE E vs) _ (wipe σ vs) G2 H' x H'' _ hi (S2.wiped vs) s2 y fun σ3 G3 s3 S3 hw => ⟨by rw [hw vs hj, wipe_wipe], ?_⟩
    refine (ht i hi).fr (cs := [(D, true, .lst (made fv p i))]) B _ G3 H'' S3 _ fun G4 H4 e4 S4 => ?_
    have back : ∀ {N : GM} {G5 H5 : Hp}, SR K B (setL (wipeE E vs) js (f i)) N σ3 G5 H5 → Same G2 G5 → SR K B E N σ G5 H5 := fun {N G5 H5} T s5 =>
      T.slots (S2.len) fun k g ek => by
        obtain ⟨w, k1, k2⟩ := S2.slot k g ek
        exact ⟨w, k1, RelG.mono s5 k2⟩
    cases hp : p i with
    | true =>
      rw [if_pos rfl]
      refine (he i hi hp).fr (cs := [(D, true, .lst (made fv p i))]) B _ G4 H4 S4 _ fun y G5 H5 e5 S5 r5 => ?_
      obtain ⟨_, ⟨o, k1, k2⟩, _⟩ := S5.cells.at_ (D, true, .lst (made fv p i)) List.mem_cons_self
      obtain ⟨us, rfl, ru⟩ := RelO.lst_inv k2
      refine ⟨us, k1, ?_, G5, ?_, s2.trans (s3.trans (e4.trans e5))⟩
      · rw [RelGs.length ru]
        have := made_len fv p i
        rw [sizeLine_eq]; omega
      · have S6 := S5.write (j := 0) (p := D) (fl := true) (g := .lst (made fv p i ++ [fv i])) (o := .lst (us ++ [y])) rfl (RelGs.app ru (.cons r5 .nil))
        rw [← made_yes hp] at S6
        exact back S6 (s3.trans (e4.trans e5))
    | false =>
      rw [if_neg Bool.false_ne_true]
      refine ⟨G4, ?_, s2.trans (s3.trans e4)⟩
      have S6 := back S4 (s3.trans e4)
      rw [made_no hp, hno i hi hp]
      exact S6
theorem et_yes : ET K tYes E M true M := fun B σ G H S Q q => q G H Same.rfl' S
theorem made_all {f : Nat → GV} {n : Nat} : made f (fun _ => true) n = (List.range n).map f := by
  unfold made
  rw [List.filter_eq_self.mpr (fun _ _ => rfl)]
/-- [e for .. in ..], nothing changes -/
theorem ef_map {wi : TI} {g : TG} {n : Nat} {js : List Nat} {f : Nat → List GV} {vs : List Nat} (fv : Nat → GV) {xs : List GV} (h : EI K wi g E M M1 n js f) (he : ∀ i, i < n → EE K te (setL (wipeE E vs) js (f i)) M1 (fv i) M1) (hx : (List.range n).map fv = xs) (hj : ∀ j ∈ js, j ∈ vs := by decide) (hz : n ≤ 1000000) :
    EF K (tLc wi g tYes te vs) E M xs M1 := by
  rw [← hx, ← made_all]
  exact ef_lc (fun _ => M1) (fun _ => true) fv h hj hz (fun _ _ => et_yes) (fun _ _ h => by cases h) fun i hi _ => he i hi
/-- [e for .. in .. if ..], nothing changes -/
theorem ef_filter {wi : TI} {g : TG} {n : Nat} {js : List Nat} {f : Nat → List GV} {vs : List Nat} (p : Nat → Bool) (fv : Nat → GV) (h : EI K wi g E M M1 n js f) (ht : ∀ i, i < n → ET K tt (setL (wipeE E vs) js (f i)) M1 (p i) M1) (he : ∀ i, i < n → p i = true → EE K te (setL (wipeE E vs) js (f i)) M1 (fv i) M1) (hj : ∀ j ∈ js, j ∈ vs := by decide) (hz : n ≤ 1000000) :
    EF K (tLc wi g tt te vs) E M (made fv p n) M1 := ef_lc (fun _ => M1) p fv h hj hz ht (fun _ _ _ => rfl) he
/-! ### tuples handed to names; list(..) -/
theorem blk_asgT2 {i j : Nat} {d e : PyData} (h : EE K te E M (.dt (.tuple [d, e])) M1) (k : P.nx ((E.set i (some (.dt d))).set j (some (.dt e))) M1) : Blk K (tAsg te (gTup K 2 (gCons (gName i) (gCons (gName j) gNil)))) E M P := fun B σ G H D S n _ _ _ =>
  h B σ G H S _ fun v G1 H1 s1 S1 r1 => by
    cases r1 with
    | tup et at_ =>
      cases at_ with
      | cons d1 t1 =>
        cases t1 with
        | cons d2 t2 =>
          cases t2
          exact ⟨_, _, rfl, .of (S1.sub _ _ et), rfl, _, _, rfl, _, _, rfl, rfl, n _ _ _ G1 _ k s1 ((S1.set (g := .dt d) d1).set (g := .dt e) d2)⟩
theorem blk_asgT3 {i j l : Nat} {d e f : PyData} (h : EE K te E M (.dt (.tuple [d, e, f])) M1) (k : P.nx (((E.set i (some (.dt d))).set j (some (.dt e))).set l (some (.dt f))) M1) : Blk K (tAsg te (gTup K 3 (gCons (gName i) (gCons (gName j) (gCons (gName l) gNil))))) E M P := fun B σ G H D S n _ _ _ =>
  h B σ G H S _ fun v G1 H1 s1 S1 r1 => by
    cases r1 with
    | tup et at_ =>
      cases at_ with
      | cons d1 t1 =>
        cases t1 with
        | cons d2 t2 =>
          cases t2 with
          | cons d3 t3 =>
            cases t3
            exact ⟨_, _, rfl, .of (S1.sub _ _ et), rfl, _, _, rfl, _, _, rfl, _, _, rfl, rfl, n _ _ _ G1 _ k s1 (((S1.set (g := .dt d) d1).set (g := .dt e) d2).set (g := .dt f) d3)⟩
theorem li_list {ds : List PyData} : RCF K (rListOf K) [.dt (.list ds)] M (ds.map .dt) M := fun B E σ G H S vs r Q q => by
  obtain ⟨v, rfl, hv⟩ := one_inv r
  cases hv with
  | lst e a => exact ⟨_, _, rfl, .inl (.of (S.sub _ _ e)), fun l hl => q l G _ Same.rfl' (S.own hl (RelGs.of_data a))⟩
theorem RCF.fz {r : TR} {gs : List GV} {ds : List PyData} (h : RCF K r gs M (ds.map .dt) M1) : RCE K r gs M (.dt (.list ds)) M1 := fun B E σ G H S vs hv Q q =>
  h B E σ G H S vs hv Q fun p G1 H1 s1 S1 => by
    obtain ⟨G2, s2, S2, d⟩ := S1.freeze (j := 0) rfl
    exact q (.ref p) G2 H1 (fun a o e => s2 _ _ (s1 _ _ e)) S2 d
end
/-! ### the law's begin -/
abbrev spLaw (K : PySem.W.Frag) : Sp := sp0 K (fun ns : List Int => [.sc ns]) (fun ns => ns.length ≤ 63) (fun _ => .dt (.bool true))
theorem law_begin {K : PySem.W.Frag} {H : Hp} {a : Addr} {ns : List Int} (hl : ns.length ≤ 63) (hS : SqL K H a (ns.map V.int)) : spLaw K [.ref a] H (fun v _ => v = .bl true) fun _ _ _ => False :=
  ⟨H, ns, Same.rfl', .cons ⟨a, rfl, hS⟩ .nil, hl, fun v G' H' f s r => by cases r; rfl⟩
end Ek
namespace Ek
open PySem PySem.Spec PyProof.Rows L2
/-- // by any divisor below 2 ^ 9000, not 0 -/
def CDivX (_ j : Int) : Prop := j ≠ 0 ∧ j.natAbs.log2 < 9000
theorem o_fdiv {X : Cx} : OpR X (binaryOp .FloorDiv) (rI CDivX fun i j => .int (i.fdiv j)) := opI fun i j _ _ _ _ _ hc q => floordiv_int hc.1 q (.inl (PyProof.noPylong_of_log2 hc.2))
section
variable {K : PySem.W.Frag} {M : GM} {i j : Int}
theorem d_any (h : CDivX i j) : R2E K (rI CDivX fun i j => .int (i.fdiv j)) (.dt (.int i)) (.dt (.int j)) M (.dt (.int (i.fdiv j))) M := r2_intC h fun _ => .int _
theorem d_pos (h : 0 < j ∧ j.natAbs.log2 < 9000) : R2E K (rI CDivX fun i j => .int (i.fdiv j)) (.dt (.int i)) (.dt (.int j)) M (.dt (.int (i / j))) M := by
  have e : i / j = i.fdiv j := (Int.fdiv_eq_ediv_of_nonneg i (by omega)).symm
  rw [e]
  exact r2_intC (C := CDivX) ⟨by omega, h.2⟩ fun _ => .int _
end
theorem lenz0 : ([] : List PyData).length ≤ sizeLine := Nat.zero_le _
theorem lenz1 {a : PyData} : [a].length ≤ sizeLine := by show 1 ≤ sizeLine; decide
theorem lenz2 {a b : PyData} : [a, b].length ≤ sizeLine := by show 2 ≤ sizeLine; decide
theorem lenz3 {a b c : PyData} : [a, b, c].length ≤ sizeLine := by show 3 ≤ sizeLine; decide
theorem lenz4 {a b c d : PyData} : [a, b, c, d].length ≤ sizeLine := by show 4 ≤ sizeLine; decide
end Ek
namespace Ek
open PySem PySem.Spec PyProof.Rows L2
section
variable {K : PySem.W.Frag} {E : GE} {M : GM} {ta tb tc td : TE} {g g2 g3 g4 : GV}
theorem ea_p1 (h : EE K ta E M g M) : EA K (tCons ta tNil) E M [g] M := ea_cons h ea_nil
theorem ea_p2 (h : EE K ta E M g M) (h2 : EE K tb E M g2 M) : EA K (tCons ta (tCons tb tNil)) E M [g, g2] M := ea_cons h (ea_p1 h2)
theorem ea_p3 (h : EE K ta E M g M) (h2 : EE K tb E M g2 M) (h3 : EE K tc E M g3 M) : EA K (tCons ta (tCons tb (tCons tc tNil))) E M [g, g2, g3] M := ea_cons h (ea_p2 h2 h3)
theorem ea_p4 (h : EE K ta E M g M) (h2 : EE K tb E M g2 M) (h3 : EE K tc E M g3 M) (h4 : EE K td E M g4 M) : EA K (tCons ta (tCons tb (tCons tc (tCons td tNil)))) E M [g, g2, g3, g4] M := ea_cons h (ea_p3 h2 h3 h4)
end
end Ek

set_option Elab.async false
set_option linter.all false
set_option maxRecDepth 100000
/-! fractions: a tuple of top and bottom is a Rat's num and den -/
namespace Ek
open PySem PySem.Spec PyProof.Rows L2
abbrev eRat (q : Rat) : PyData := .tuple [.int q.num, .int (q.den : Int)]
/-- the divisor with the bottom's sign -/
def byOf (a b : Int) : Int := if b < 0 then -(Int.gcd a b : Int) else (Int.gcd a b : Int)
theorem byOf_ne {a b : Int} (hb : b ≠ 0) : byOf a b ≠ 0 := by
  have h : Int.gcd a b ≠ 0 := fun z => hb (Int.gcd_eq_zero_iff.mp z).2
  unfold byOf; split <;> omega
theorem byOf_abs (a b : Int) : (byOf a b).natAbs = Int.gcd a b := by
  unfold byOf; split <;> omega
theorem byOf_dvd_left (a b : Int) : byOf a b ∣ a := by
  unfold byOf
  split
  · exact Int.neg_dvd.mpr (Int.gcd_dvd_left _ _)
  · exact Int.gcd_dvd_left _ _
theorem byOf_dvd_right (a b : Int) : byOf a b ∣ b := by
  unfold byOf
  split
  · exact Int.neg_dvd.mpr (Int.gcd_dvd_right _ _)
  · exact Int.gcd_dvd_right _ _
theorem gcd_le_right {a b : Int} (hb : b ≠ 0) : Int.gcd a b ≤ b.natAbs := Nat.le_of_dvd (by omega) (Int.gcd_dvd_natAbs_right a b)
theorem fr_num {a b : Int} (hb : b ≠ 0) : a.fdiv (byOf a b) = (Rat.divInt a b).num := by
  rw [Rat.num_divInt, Int.fdiv_eq_ediv_of_dvd (byOf_dvd_left a b)]
  unfold byOf
  rw [Int.gcd_comm b a]
  split
  · rename_i h
    rw [Int.sign_eq_neg_one_of_neg h, Int.ediv_neg, Int.neg_one_mul, Int.neg_ediv_of_dvd (Int.gcd_dvd_left _ _)]
  · rename_i h
    rw [Int.sign_eq_one_of_pos (by omega), Int.one_mul]
theorem fr_den {a b : Int} (hb : b ≠ 0) : b.fdiv (byOf a b) = ((Rat.divInt a b).den : Int) := by
  rw [Rat.den_divInt, if_neg hb, Int.fdiv_eq_ediv_of_dvd (byOf_dvd_right a b)]
  unfold byOf
  rw [Int.gcd_comm b a, Int.natCast_ediv]
  split
  · rename_i h
    rw [Int.ediv_neg, show ((b.natAbs : Int)) = -b by omega, Int.neg_ediv_of_dvd (Int.gcd_dvd_right _ _)]
  · rename_i h
    rw [show ((b.natAbs : Int)) = b by omega]
theorem gcd_step (x y : Nat) (h : 0 < y) : Nat.gcd y (x % y) = Nat.gcd x y := by
  rw [Nat.gcd_comm x y, Nat.gcd_rec y x, Nat.gcd_comm]
theorem rat_sum (p q : Rat) : Rat.divInt (p.num * q.den + q.num * p.den) ((p.den : Int) * q.den) = p + q := by
  rw [Rat.add_def', ← Int.natCast_mul, Rat.divInt_ofNat]
theorem rat_mul (p q : Rat) : Rat.divInt (p.num * q.num) ((p.den : Int) * q.den) = p * q := by
  rw [Rat.mul_def', ← Int.natCast_mul, Rat.divInt_ofNat]
theorem rat_ext_den1 {p : Rat} (h : p.den = 1) : p = (p.num : Rat) := Rat.ext rfl h
theorem sum_den1 {p q : Rat} (h : p.den = 1) (h2 : q.den = 1) : eRat (p + q) = .tuple [.int (p.num + q.num), .int 1] := by
  rw [rat_ext_den1 h, rat_ext_den1 h2, ← Rat.intCast_add]
  rfl
theorem mul_den1 {p q : Rat} (h : p.den = 1) (h2 : q.den = 1) : eRat (p * q) = .tuple [.int (p.num * q.num), .int 1] := by
  rw [rat_ext_den1 h, rat_ext_den1 h2, ← Rat.intCast_mul]
  rfl
/-- so many bits at most -/
def Bd (n : Nat) (q : Rat) : Prop := q.num.natAbs < 2 ^ n ∧ q.den < 2 ^ n
theorem Bd.mono {n m : Nat} {q : Rat} (h : Bd n q) (hm : n ≤ m) : Bd m q := ⟨Nat.lt_of_lt_of_le h.1 (Nat.pow_le_pow_right (by decide) hm), Nat.lt_of_lt_of_le h.2 (Nat.pow_le_pow_right (by decide) hm)⟩
theorem log2_bd {x n m : Nat} (h : x < 2 ^ n) (hm : n ≤ m) (h0 : 0 < m) : x.log2 < m := PySem.Flt.log2_lt_of h0 (Nat.lt_of_lt_of_le h (Nat.pow_le_pow_right (by decide) hm))
theorem mulW {i j : Int} {n m : Nat} (hi : i.natAbs < 2 ^ n) (hj : j.natAbs < 2 ^ m) (h : n + m ≤ 900000) : CMulW i j := by
  have h1 : i.natAbs < 2 ^ (n + 1) := Nat.lt_of_lt_of_le hi (Nat.pow_le_pow_right (by decide) (by omega))
  have h2 : j.natAbs < 2 ^ (m + 1) := Nat.lt_of_lt_of_le hj (Nat.pow_le_pow_right (by decide) (by omega))
  exact wide_mul h1 h2 (by omega) (by omega) (by omega)
theorem natAbs_mul_lt {i j : Int} {n m : Nat} (hi : i.natAbs < 2 ^ n) (hj : j.natAbs < 2 ^ m) : (i * j).natAbs < 2 ^ (n + m) := wide_lt hi hj
theorem natAbs_add_lt {i j : Int} {n : Nat} (hi : i.natAbs < 2 ^ n) (hj : j.natAbs < 2 ^ n) : (i + j).natAbs < 2 ^ (n + 1) := by
  have := Int.natAbs_add_le i j
  rw [Nat.pow_succ]; omega
theorem natAbs_mono {i : Int} {n m : Nat} (h : i.natAbs < 2 ^ n) (hm : n ≤ m) : i.natAbs < 2 ^ m := Nat.lt_of_lt_of_le h (Nat.pow_le_pow_right (by decide) hm)
theorem den_natAbs (q : Rat) : ((q.den : Int)).natAbs = q.den := rfl
theorem dvd_le_natAbs {x y : Int} (hy : y ≠ 0) (h : x ∣ y) : x.natAbs ≤ y.natAbs := Nat.le_of_dvd (by omega) (Int.natAbs_dvd_natAbs.mpr h)
theorem bd_divInt {a b : Int} {n : Nat} (hb : b ≠ 0) (h1 : a.natAbs < 2 ^ n) (h2 : b.natAbs < 2 ^ n) : Bd n (Rat.divInt a b) := by
  constructor
  · rw [← fr_num hb]
    rw [Int.fdiv_eq_ediv_of_dvd (byOf_dvd_left a b), Int.natAbs_ediv_of_dvd (byOf_dvd_left a b)]
    exact Nat.lt_of_le_of_lt (Nat.div_le_self _ _) h1
  · have e := fr_den (a := a) hb
    rw [Int.fdiv_eq_ediv_of_dvd (byOf_dvd_right a b)] at e
    have e2 : (Rat.divInt a b).den = (b / byOf a b).natAbs := by rw [e]; rfl
    rw [e2, Int.natAbs_ediv_of_dvd (byOf_dvd_right a b)]
    exact Nat.lt_of_le_of_lt (Nat.div_le_self _ _) h2
theorem Bd.add {p q : Rat} {n m : Nat} (hp : Bd n p) (hq : Bd n q) (h : 2 * n + 1 ≤ m) : Bd m (p + q) := by
  rw [← rat_sum]
  have hz : (p.den : Int) * q.den ≠ 0 := by
    rw [← Int.natCast_mul]
    have := Nat.mul_pos p.den_pos q.den_pos
    omega
  have k1 := natAbs_mul_lt hp.1 (show ((q.den : Int)).natAbs < 2 ^ n from hq.2)
  have k2 := natAbs_mul_lt hq.1 (show ((p.den : Int)).natAbs < 2 ^ n from hp.2)
  have k3 := natAbs_mul_lt (show ((p.den : Int)).natAbs < 2 ^ n from hp.2) (show ((q.den : Int)).natAbs < 2 ^ n from hq.2)
  exact bd_divInt hz (natAbs_mono (natAbs_add_lt k1 k2) (by omega)) (natAbs_mono k3 (by omega))
theorem Bd.mul {p q : Rat} {n k m : Nat} (hp : Bd n p) (hq : Bd k q) (h : n + k ≤ m) : Bd m (p * q) := by
  rw [← rat_mul]
  have hz : (p.den : Int) * q.den ≠ 0 := by
    rw [← Int.natCast_mul]
    have := Nat.mul_pos p.den_pos q.den_pos
    omega
  have k1 := natAbs_mul_lt hp.1 hq.1
  have k3 := natAbs_mul_lt (show ((p.den : Int)).natAbs < 2 ^ n from hp.2) (show ((q.den : Int)).natAbs < 2 ^ k from hq.2)
  exact bd_divInt hz (natAbs_mono k1 h) (natAbs_mono k3 h)
theorem den_ne (p q : Rat) : (p.den : Int) * q.den ≠ 0 := by
  rw [← Int.natCast_mul]
  have := Nat.mul_pos p.den_pos q.den_pos
  omega
theorem eRat_int (n : Int) : eRat (n : Rat) = .tuple [.int n, .int 1] := rfl
mutual
theorem eqv_self : ∀ d : PyData, d.canLay0 = true → PyData.eqv d d = true
  | .none, _ => by unfold PyData.eqv; rfl
  | .bool b, _ => by unfold PyData.eqv; simp
  | .int i, _ => by unfold PyData.eqv; simp
  | .str x, _ => by unfold PyData.eqv; simp
  | .list xs, h => by unfold PyData.eqv; exact eqvAll_self xs (by unfold PyData.canLay0 at h; exact h)
  | .tuple xs, h => by unfold PyData.eqv; exact eqvAll_self xs (by unfold PyData.canLay0 at h; exact h)
  | .dict _, h => by unfold PyData.canLay0 at h; cases h
theorem eqvAll_self : ∀ ds : List PyData, PyData.canLayAll0 ds = true → PyData.eqvAll ds ds = true
  | [], _ => by unfold PyData.eqvAll; rfl
  | d :: ds, h => by
    unfold PyData.canLayAll0 at h
    rw [Bool.and_eq_true] at h
    unfold PyData.eqvAll
    rw [eqv_self d h.1, eqvAll_self ds h.2]; rfl
end
theorem shaped_lay {d : PyData} (h : SeqAt.shaped d = true) : d.canLay0 = true := SeqAt.canLay_of_shaped h
theorem eqv_refl' {d : PyData} (h : SeqAt.shaped d = true) : PyData.eqv d d = true := eqv_self d (shaped_lay h)
theorem shaped_rat (q : Rat) : SeqAt.shaped (eRat q) = true := rfl
theorem eqv_rat (p q : Rat) : PyData.eqv (eRat p) (eRat q) = decide (p = q) := by
  have e : PyData.eqv (eRat p) (eRat q) = ((p.num == q.num) && (((p.den : Int) == q.den) && true)) := by
    show PyData.eqv _ _ = _
    unfold eRat
    rw [PyData.eqv, PyData.eqvAll, PyData.eqvAll, PyData.eqvAll, PyData.eqv, PyData.eqv]
  rw [e]
  by_cases h : p = q
  · subst h; simp
  · rw [decide_eq_false h]
    have : ¬ (p.num = q.num ∧ p.den = q.den) := fun ⟨a, b⟩ => h (Rat.ext a b)
    by_cases h1 : p.num = q.num
    · have h2 : ¬ p.den = q.den := fun z => this ⟨h1, z⟩
      simp [h1]; omega
    · simp [h1]
end Ek
namespace Ek
open PySem PySem.Spec PyProof.Rows L2
theorem mulS {i j : Int} (h : i.natAbs < 18446744073709551616) (h2 : j.natAbs < 18446744073709551616) : CMulW i j := mulW (n := 64) (m := 64) h h2 (by decide)
/-- a cell of the script, 0 beyond -/
def cellZ (ns : List Int) (k : Int) : Int := ns.getD k.toNat 0
theorem atI_getD {α : Type} {xs : List α} {i : Int} {d : α} (h0 : 0 ≤ i) (h : i < xs.length) : atI xs i = some (xs.getD i.toNat d) := by
  have hl : i.toNat < xs.length := by omega
  have e : (i.toNat : Int) = i := by omega
  rw [← e]
  rw [atI_nat (j := i.toNat) (v := xs.getD i.toNat d)]
  · rw [Int.toNat_natCast]
  · rw [List.getD_eq_getElem?_getD, List.getElem?_eq_getElem hl] <;> rfl
theorem divInt_cross {a b : Int} (hb : b ≠ 0) : (Rat.divInt a b).num * b = a * (Rat.divInt a b).den := by
  have h := Rat.num_divInt_den (Rat.divInt a b)
  have hd : ((Rat.divInt a b).den : Int) ≠ 0 := by have := (Rat.divInt a b).den_pos; omega
  rw [Rat.divInt_eq_divInt_iff hd hb] at h
  exact h
theorem rat_gcd (q : Rat) : Int.gcd q.num (q.den : Int) = 1 := q.reduced
theorem rgC_of {m c : Int} (hc : 0 < c) (hc2 : c < 1000000) (h1 : 0 ≤ m) (h2 : m < 1000000) : RgC 0 m c (Builtin.Range.rangeSize 0 m c).toNat := by
  have k0 : 0 ≤ (m - 0 - 1) / c ∨ m ≤ 0 := by
    by_cases h : m ≤ 0
    · exact .inr h
    · exact .inl (Int.ediv_nonneg (by omega) (by omega))
  have k1 : (m - 0 - 1) / c ≤ m ∨ m ≤ 0 := by
    by_cases h : m ≤ 0
    · exact .inr h
    · exact .inl (Int.le_trans (Int.ediv_le_self _ (by omega)) (by omega))
  refine ⟨by omega, by omega, ?_, ?_⟩
  · unfold Builtin.Range.small
    simp only [Builtin.Range.rangeSize, Builtin.Range.rangeFitsLong, Bool.and_eq_true, Bool.or_eq_true, decide_eq_true_eq, beq_iff_eq, if_pos hc]
    generalize (m - 0 - 1) / c = d at k0 k1 ⊢
    refine ⟨?_, ?_⟩ <;> (try split) <;> (try omega) <;> (repeat' constructor) <;> omega
  · unfold Builtin.Range.rangeSize
    rw [if_pos (by omega)]
    split <;> omega
end Ek
namespace Ek
open PySem PySem.Spec PyProof.Rows L2
section
variable {K : PySem.W.Frag} {M : GM}
theorem is_ii {i : Int} : RCE K (rIsi K) [.dt (.int i), .ty "int"] M (.dt (.bool true)) M := l_isi (show kitB "int" "int" = some true by decide +kernel)
theorem is_ib {i : Int} : RCE K (rIsi K) [.dt (.int i), .ty "bool"] M (.dt (.bool false)) M := l_isi (show kitB "int" "bool" = some false by decide +kernel)
theorem is_tt {ds : List PyData} : RCE K (rIsi K) [.dt (.tuple ds), .ty "tuple"] M (.dt (.bool true)) M := l_isi (show kitB "tuple" "tuple" = some true by decide +kernel)
theorem is_ll {ds : List PyData} : RCE K (rIsi K) [.dt (.list ds), .ty "list"] M (.dt (.bool true)) M := l_isi (show kitB "list" "list" = some true by decide +kernel)
theorem is_ss {x : Str} : RCE K (rIsi K) [.dt (.str x), .ty "str"] M (.dt (.bool true)) M := l_isi (show kitB "str" "str" = some true by decide +kernel)
theorem is_bi {x : Bool} : RCE K (rIsi K) [.dt (.bool x), .ty "int"] M (.dt (.bool true)) M := l_isi (show kitB "bool" "int" = some true by decide +kernel)
theorem is_bb {x : Bool} : RCE K (rIsi K) [.dt (.bool x), .ty "bool"] M (.dt (.bool true)) M := l_isi (show kitB "bool" "bool" = some true by decide +kernel)
theorem is_ti {ds : List PyData} : RCE K (rIsi K) [.dt (.tuple ds), .ty "int"] M (.dt (.bool false)) M := l_isi (show kitB "tuple" "int" = some false by decide +kernel)
theorem w_1060 : R2E K (rI CPow fun i j => .int (i ^ j.toNat)) (.dt (.int 10)) (.dt (.int 60)) M (.dt (.int 1000000000000000000000000000000000000000000000000000000000000)) M := by
  have e : (10 : Int) ^ (60 : Int).toNat = 1000000000000000000000000000000000000000000000000000000000000 := by decide +kernel
  have h := w_int (K := K) (M := M) (i := 10) (j := 60) ⟨by decide, by decide, by decide⟩
  rw [e] at h
  exact h
end
theorem lenB {A : Type} {xs : List A} (h : Nat.ble xs.length 1000 = true) : xs.length ≤ sizeLine := by
  have := Nat.le_of_ble_eq_true h
  rw [sizeLine_eq]; omega
end Ek
namespace Ek
open PySem PySem.Spec PyProof.Rows L2
theorem tw_lit {K : PySem.W.Frag} {M : GM} : R2E K rTimes (.dt (.int 2)) (.dt (.int 1000000000000000000000000000000000000000000000000000000000000)) M (.dt (.int 2000000000000000000000000000000000000000000000000000000000000)) M := by
  have e : (2 : Int) * 1000000000000000000000000000000000000000000000000000000000000 = 2000000000000000000000000000000000000000000000000000000000000 := by decide +kernel
  rw [← e]
  exact t_int (by unfold CMulW; decide +kernel)
end Ek

set_option Elab.async false
set_option linter.all false
set_option maxRecDepth 100000
/-! many outcomes at once; nested objects of one's own, and how they become data -/
namespace Ek
open PySem PySem.Spec PyProof.Rows L2

/-! ### what nested cells read as -/
mutual
inductive RelD (cs : GM) : GV → PyData → Prop
  | dt (d : PyData) : RelD cs (.dt d) d
  | lst {p : Addr} {fl : Bool} {gs : List GV} {ds : List PyData} : (p, fl, GO.lst gs) ∈ cs → RelDs cs gs ds → RelD cs (.rf p) (.list ds)
  | tup {p : Addr} {fl : Bool} {gs : List GV} {ds : List PyData} : (p, fl, GO.tup gs) ∈ cs → RelDs cs gs ds → RelD cs (.rf p) (.tuple ds)
inductive RelDs (cs : GM) : List GV → List PyData → Prop
  | nil : RelDs cs [] []
  | cons {g : GV} {gs : List GV} {d : PyData} {ds : List PyData} : RelD cs g d → RelDs cs gs ds → RelDs cs (g :: gs) (d :: ds)
end
mutual
theorem RelD.mono {cs cs' : GM} (h : ∀ c ∈ cs, c ∈ cs') : ∀ {g : GV} {d : PyData}, RelD cs g d → RelD cs' g d
  | _, _, .dt d => .dt d
  | _, _, .lst m r => .lst (h _ m) (RelDs.mono h r)
  | _, _, .tup m r => .tup (h _ m) (RelDs.mono h r)
theorem RelDs.mono {cs cs' : GM} (h : ∀ c ∈ cs, c ∈ cs') : ∀ {gs : List GV} {ds : List PyData}, RelDs cs gs ds → RelDs cs' gs ds
  | _, _, .nil => .nil
  | _, _, .cons a b => .cons (RelD.mono h a) (RelDs.mono h b)
end
theorem RelDs.of_data {cs : GM} : ∀ ds : List PyData, RelDs cs (ds.map .dt) ds
  | [] => .nil
  | d :: ds => .cons (.dt d) (RelDs.of_data ds)
section
variable {K : PySem.W.Frag} {B : Bs} {E E' : GE} {M M' cs : GM} {σ : L2.St} {G H : Hp}
open Classical in
noncomputable def joinG (G H : Hp) (cs : GM) : Hp := fun q => if ∃ c ∈ cs, c.1 = q then H q else G q
theorem joinG_in {c : Addr × Bool × GO} (h : c ∈ cs) : joinG G H cs c.1 = H c.1 := by unfold joinG; rw [if_pos ⟨c, h, rfl⟩]
theorem joinG_out {q : Addr} (h : ∀ c ∈ cs, c.1 ≠ q) : joinG G H cs q = G q := by
  unfold joinG; rw [if_neg]
  rintro ⟨c, hc, e⟩; exact h c hc e
/-- cells that were made here become shared data -/
theorem SR.melt (S : SR K B E M σ G H) (hc : ∀ c ∈ cs, c ∈ M ∧ c.2.1 = true) (hM : M'.Sublist M) (hd : ∀ c ∈ M', ∀ c' ∈ cs, c.1 ≠ c'.1) :
    ∃ G', Same G G' ∧ SR K B E M' σ G' H ∧ ∀ g d v, RelD cs g d → RelG K G v g → Dr G' v d := by
  have sg : Same G (joinG G H cs) := fun a o e => by
    have : ∀ c ∈ cs, c.1 ≠ a := fun c hcs z => by
      have := (S.cells.at_ c (hc c hcs).1).1
      rw [z, e] at this; cases this
    rw [joinG_out this]; exact e
  refine ⟨joinG G H cs, sg, ⟨fun a o e => ?_, S.len, fun i g e => ?_, ⟨fun c hcm => ?_, S.cells.nd.sublist (hM.map _)⟩, ⟨fun a o e => sg _ _ (S.fr.g _ _ e), S.fr.h, S.fr.k, fun q e n => ?_⟩⟩, ?_⟩
  · by_cases h : ∃ c ∈ cs, c.1 = a
    · obtain ⟨c, hcs, rfl⟩ := h
      rw [joinG_in hcs] at e; exact e
    · rw [joinG_out fun c hcs z => h ⟨c, hcs, z⟩] at e
      exact S.sub _ _ e
  · obtain ⟨v, h1, h2⟩ := S.slot i g e
    exact ⟨v, h1, RelG.mono sg h2⟩
  · obtain ⟨h1, ⟨o, h2, h3⟩, h4⟩ := S.cells.at_ c (hM.subset hcm)
    exact ⟨by rw [joinG_out fun c' hc' z => hd c hcm c' hc' z.symm]; exact h1, ⟨o, h2, RelO.mono sg h3⟩, h4⟩
  · have hn := S.fr.n q e n
    have : ∀ c ∈ cs, c.1 ≠ q := fun c hcs z => by
      have h4 := (S.cells.at_ c (hc c hcs).1).2.2.1 (hc c hcs).2
      rw [z] at h4; exact e h4
    rw [joinG_out this]; exact hn
  · have key : ∀ c ∈ cs, ∃ o, joinG G H cs c.1 = some o ∧ RelO K G o c.2.2 := fun c hcs => by
      obtain ⟨_, ⟨o, h2, h3⟩, _⟩ := S.cells.at_ c (hc c hcs).1
      exact ⟨o, by rw [joinG_in hcs]; exact h2, h3⟩
    have main : ∀ n, (∀ g d v, sizeOf d < n → RelD cs g d → RelG K G v g → Dr (joinG G H cs) v d) ∧ (∀ gs ds vs, sizeOf ds < n → RelDs cs gs ds → RelGs K G vs gs → DrAll (joinG G H cs) vs ds) := by
      intro n
      induction n with
      | zero => exact ⟨fun g d v h => by omega, fun g d v h => by omega⟩
      | succ n ih =>
        refine ⟨fun g d v hs r rv => ?_, fun gs ds vs hs r rv => ?_⟩
        · cases r with
          | dt => exact Dr.mono sg rv
          | lst m rs =>
            have rv' : v = .ref _ := rv
            subst rv'
            obtain ⟨o, e, ro⟩ := key _ m
            obtain ⟨ws, rfl, rw'⟩ := RelO.lst_inv ro
            refine .lst e (ih.2 _ _ _ ?_ rs rw')
            simp only [PyData.list.sizeOf_spec] at hs; omega
          | tup m rs =>
            have rv' : v = .ref _ := rv
            subst rv'
            obtain ⟨o, e, ro⟩ := key _ m
            obtain ⟨ws, rfl, rw'⟩ := RelO.tup_inv ro
            refine .tup e (ih.2 _ _ _ ?_ rs rw')
            simp only [PyData.tuple.sizeOf_spec] at hs; omega
        · cases r with
          | nil => cases rv; exact .nil
          | cons r1 r2 =>
            cases rv with
            | cons v1 v2 =>
              simp only [List.cons.sizeOf_spec] at hs
              exact .cons (ih.1 _ _ _ (by omega) r1 v1) (ih.2 _ _ _ (by omega) r2 v2)
    exact fun g d v r rv => (main (sizeOf d + 1)).1 g d v (by omega) r rv
end
/-! ### many outcomes -/
def EX (K : PySem.W.Frag) (te : TE) (E : GE) (M : GM) (F : GV → GM → Prop) : Prop :=
  ∀ B σ G H, SR K B E M σ G H → ∀ Q : VK, (∀ g M' v G' H', F g M' → Same G G' → SR K B E M' σ G' H' → RelG K G' v g → Q v H') → te σ H Q
section
variable {K : PySem.W.Frag} {E E' : GE} {M M1 M' cs : GM} {g : GV} {te : TE} {t u : TS} {P : Kn} {F F' : GV → GM → Prop} {xs : List GV}
theorem EE.ex (h : EE K te E M g M1) (hF : F g M1) : EX K te E M F := fun B σ G H S Q q => h B σ G H S Q fun v G' H' s S' r => q g M1 v G' H' hF s S' r
theorem EF.ex (h : EF K te E M xs M1) (hF : ∀ p, F (.rf p) ((p, true, .lst xs) :: M1)) : EX K te E M F := fun B σ G H S Q q => h B σ G H S Q fun p G' H' s S' => q (.rf p) _ (.ref p) G' H' (hF p) s S' rfl
theorem EU.ex (h : EU K te E M xs M1) (hF : ∀ p, F (.rf p) ((p, true, .tup xs) :: M1)) : EX K te E M F := fun B σ G H S Q q => h B σ G H S Q fun p G' H' s S' => q (.rf p) _ (.ref p) G' H' (hF p) s S' rfl
theorem EX.imp (h : EX K te E M F) (k : ∀ g M', F g M' → F' g M') : EX K te E M F' := fun B σ G H S Q q => h B σ G H S Q fun g M' v G' H' f => q g M' v G' H' (k _ _ f)
theorem blk_asgX {i : Nat} (h : EX K te E M F) (k : ∀ g M', F g M' → P.nx (E.set i (some g)) M') : Blk K (tAsg te (gName i)) E M P := fun B σ G H D S n _ _ _ =>
  h B σ G H S _ fun g M' v G1 H1 f s1 S1 r1 => n _ _ _ G1 _ (k g M' f) s1 (S1.set r1)
theorem bs_asgX {i : Nat} (h : EX K te E M F) (k : ∀ g M', F g M' → Blk K u (E.set i (some g)) M' P) : Blk K (tSeq (tAsg te (gName i)) u) E M P := blk_seq (blk_asgX h k)
theorem blk_retX (h : EX K te E M F) (k : ∀ g M', F g M' → P.rt g M') : Blk K (tRet te) E M P := fun B σ G H D S _ r _ _ => h B σ G H S _ fun g M' v G1 H1 f s1 S1 r1 => r g M' v G1 H1 (k g M' f) s1 S1.bare r1
theorem blk_dropX (h : EX K te E M F) (k : ∀ g M', F g M' → P.nx E M') : Blk K (tDrop te) E M P := fun B σ G H D S n _ _ _ => h B σ G H S _ fun g M' v G1 H1 f s1 S1 r1 => n _ _ _ G1 _ (k g M' f) s1 S1
/-- a, b = e, e a tuple of data or one of one's own -/
theorem blk_asgT2X {i j : Nat} (h : EX K te E M F) (k : ∀ g M', F g M' → (∃ d e, g = .dt (.tuple [d, e]) ∧ P.nx ((E.set i (some (.dt d))).set j (some (.dt e))) M') ∨ ∃ p fl x y, g = .rf p ∧ (p, fl, GO.tup [x, y]) ∈ M' ∧ P.nx ((E.set i (some x)).set j (some y)) M') :
    Blk K (tAsg te (gTup K 2 (gCons (gName i) (gCons (gName j) gNil)))) E M P := fun B σ G H D S n _ _ _ =>
  h B σ G H S _ fun g M' v G1 H1 f s1 S1 r1 => by
    rcases k g M' f with ⟨d, e, rfl, q⟩ | ⟨p, fl, x, y, rfl, hm, q⟩
    · cases r1 with
      | tup et at_ =>
        cases at_ with
        | cons d1 t1 =>
          cases t1 with
          | cons d2 t2 =>
            cases t2
            exact ⟨_, _, rfl, .of (S1.sub _ _ et), rfl, _, _, rfl, _, _, rfl, rfl, n _ _ _ G1 _ q s1 ((S1.set (g := .dt d) d1).set (g := .dt e) d2)⟩
    · have r1' : v = .ref p := r1
      subst r1'
      obtain ⟨_, ⟨o, k1, k2⟩, _⟩ := S1.cells.at_ _ hm
      obtain ⟨vs, rfl, r⟩ := RelO.tup_inv k2
      obtain ⟨a, b, rfl, ra, rb⟩ := two_inv r
      exact ⟨p, _, rfl, .of k1, rfl, _, _, rfl, _, _, rfl, rfl, n _ _ _ G1 _ q s1 ((S1.set ra).set rb)⟩
/-- slots told anew as data -/
theorem blk_melt (cs : GM) (h : Blk K t E' M' P) (hc : ∀ c ∈ cs, c ∈ M ∧ c.2.1 = true) (hM : M'.Sublist M) (hd : ∀ c ∈ M', ∀ c' ∈ cs, c.1 ≠ c'.1) (hl : E'.length = E.length)
    (he : ∀ (i : Nat) g', E'[i]? = some (some g') → ∃ g, E[i]? = some (some g) ∧ (g = g' ∨ ∃ d, g' = .dt d ∧ RelD cs g d)) : Blk K t E M P := fun B σ G H D S n r b c => by
  obtain ⟨G', s, S', key⟩ := S.melt hc hM hd
  refine Blk.from_ h s (S'.slots (by rw [S.len, hl]) fun i g' e => ?_) n r b c
  obtain ⟨g, e1, e2⟩ := he i g' e
  obtain ⟨v, k1, k2⟩ := S.slot i g e1
  rcases e2 with rfl | ⟨d, rfl, rd⟩
  · exact ⟨v, k1, RelG.mono s k2⟩
  · exact ⟨v, k1, key g d v rd k2⟩
/-- an expression's value told anew as data -/
theorem ee_melt {d : PyData} (cs : GM) (h : EE K te E M g M1) (r : RelD cs g d) (hc : ∀ c ∈ cs, c ∈ M1 ∧ c.2.1 = true) (hM : M'.Sublist M1) (hd : ∀ c ∈ M', ∀ c' ∈ cs, c.1 ≠ c'.1) : EE K te E M (.dt d) M' := fun B σ G H S Q q =>
  h B σ G H S Q fun v G1 H1 s1 S1 r1 => by
    obtain ⟨G', s, S', key⟩ := S1.melt hc hM hd
    exact q v G' H1 (s1.trans s) S' (key g d v r r1)
end
/-! ### promises with many outcomes -/
/-- no object of the caller's is changed; an outcome r: its value, what was made -/
def spN0 (K : PySem.W.Frag) {A R : Type} (args : A → List GV) (pre : A → Prop) (post : A → R → Prop) (new : A → R → GM) (res : A → R → GV) : Sp := fun vs H Q _ =>
  ∃ G i, Same G H ∧ RelGs K G vs (args i) ∧ pre i ∧ ∀ r v G' H', post i r → Fr ⟨fun _ => False, G, H⟩ G' H' → Same G' H' → Cells K ⟨fun _ => False, G, H⟩ G' H' (new i r) → RelG K G' v (res i r) → Q v H'
/-- one object of the caller's is changed -/
def spN1 (K : PySem.W.Frag) {A R : Type} (args : A → List GV) (pa : A → Addr) (o0 : A → GO) (pre : A → Prop) (post : A → R → Prop) (o1 : A → R → GO) (new : A → R → GM) (res : A → R → GV) : Sp := fun vs H Q _ =>
  ∃ G i, Same G H ∧ RelGs K G vs (args i) ∧ pre i ∧ G (pa i) = none ∧ (∃ o, H (pa i) = some o ∧ RelO K G o (o0 i)) ∧
    ∀ r v G' H', post i r → Fr ⟨fun q => q = pa i, G, H⟩ G' H' → Same G' H' → Cells K ⟨fun q => q = pa i, G, H⟩ G' H' ((pa i, false, o1 i r) :: new i r) → RelG K G' v (res i r) → Q v H'
section
variable {K : PySem.W.Frag} {E : GE} {M M1 : GM} {tr : TA} {X : XK} {A R : Type} {args : A → List GV} {pre : A → Prop} {post : A → R → Prop} {new : A → R → GM} {res : A → R → GV}
theorem Cells.noted {B B' : Bs} {σ : L2.St} {G H G' H' : Hp} {N : GM} (S : SR K B E M σ G H) (S' : SR K B E M1 σ G' H') (hM : ∀ c ∈ M1, ∃ c' ∈ M, c'.1 = c.1) (hB : B'.H0 = H) (C : Cells K B' G' H' N) (hf : ∀ c ∈ N, c.2.1 = true) : SR K B E (N ++ M1) σ G' H' := by
  have hn : ∀ c ∈ N, H c.1 = none := fun c hc => by have := (C.at_ c hc).2.2.1 (hf c hc); rw [hB] at this; exact this
  refine ⟨S'.sub, S'.len, S'.slot, ⟨fun c hc => ?_, ?_⟩, S'.fr⟩
  · rcases List.mem_append.mp hc with hc | hc
    · obtain ⟨h1, h2, h3, h4⟩ := C.at_ c hc
      exact ⟨h1, h2, fun _ => S.bfree (hn c hc), fun z => by rw [hf c hc] at z; cases z⟩
    · exact S'.cells.at_ c hc
  · rw [List.map_append]
    refine List.nodup_append.mpr ⟨C.nd, S'.cells.nd, fun a ha b hb e => ?_⟩
    obtain ⟨c, hc, rfl⟩ := List.mem_map.mp ha
    obtain ⟨d, hd, rfl⟩ := List.mem_map.mp hb
    obtain ⟨c', hc', ec⟩ := hM d hd
    obtain ⟨_, ⟨o, k, _⟩, _⟩ := S.cells.at_ c' hc'
    rw [ec, ← e, hn c hc] at k; cases k
theorem ex_callN0 (i : A) (h : EA K tr E M (args i) M1) (hp : pre i) (hf : ∀ r, ∀ c ∈ new i r, c.2.1 = true) : EX K (tCall (spN0 K args pre post new res) [] X tr) E M (fun g M' => ∃ r, post i r ∧ g = res i r ∧ M' = new i r ++ M1) := fun B σ G H S Q q =>
  h B σ G H S _ fun vs G1 H1 s1 S1 r1 => by
    show spN0 K args pre post new res (vs ++ []) H1 Q X
    rw [List.append_nil]
    refine ⟨G1, i, S1.sub, r1, hp, fun r v G' H' hr f sub C rv => ?_⟩
    exact q _ _ v G' H' ⟨r, hr, rfl, rfl⟩ (s1.trans f.g) (Cells.noted S1 (S1.called f sub) (fun c hc => ⟨c, hc, rfl⟩) rfl C (hf r)) rv
theorem ex_callN1 {pa : A → Addr} {o0 : A → GO} {o1 : A → R → GO} {j : Nat} {fl : Bool} (i : A) (h : EA K tr E M (args i) M1) (hp : pre i) (hj : M1[j]? = some (pa i, fl, o0 i)) (hf : ∀ r, ∀ c ∈ new i r, c.2.1 = true) :
    EX K (tCall (spN1 K args pa o0 pre post o1 new res) [] X tr) E M (fun g M' => ∃ r, post i r ∧ g = res i r ∧ M' = new i r ++ M1.set j (pa i, fl, o1 i r)) := fun B σ G H S Q q =>
  h B σ G H S _ fun vs G1 H1 s1 S1 r1 => by
    show spN1 K args pa o0 pre post o1 new res (vs ++ []) H1 Q X
    rw [List.append_nil]
    obtain ⟨k1, k2, _⟩ := S1.cells.at_ _ (List.mem_of_getElem? hj)
    refine ⟨G1, i, S1.sub, r1, hp, k1, k2, fun r v G' H' hr f sub C rv => ?_⟩
    obtain ⟨_, ⟨o, c2, c3⟩, _⟩ := C.at_ _ List.mem_cons_self
    have S2 := S1.called1 hj f sub c2 c3
    refine q _ _ v G' H' ⟨r, hr, rfl, rfl⟩ (s1.trans f.g) (Cells.noted (B' := ⟨fun q => q = pa i, G1, H1⟩) S1 S2 (fun c hc => ?_) rfl ⟨fun c hc => C.at_ c (List.mem_cons_of_mem _ hc), by have := C.nd; rw [List.map_cons, List.nodup_cons] at this; exact this.2⟩ (hf r)) rv
    rcases List.mem_or_eq_of_mem_set hc with hc | rfl
    · exact ⟨c, hc, rfl⟩
    · exact ⟨_, List.mem_of_getElem? hj, rfl⟩
end
/-- a return: an outcome's value and cells, or data read off cells that were made here -/
def rtN {R : Type} (post : R → Prop) (res : R → GV) (new : R → GM) (cin : R → GM) : GV → GM → Prop := fun g M =>
  ∃ r, post r ∧ (∀ c ∈ cin r, c ∈ M) ∧ ((g = res r ∧ (new r).Sublist M ∧ ∀ c ∈ new r, c.2.1 = true) ∨ (new r = [] ∧ ∃ d cs, res r = .dt d ∧ RelD cs g d ∧ (∀ c ∈ cs, c ∈ M ∧ c.2.1 = true)))
def endsN {R : Type} (post : R → Prop) (res : R → GV) (new : R → GM) (cin : R → GM) : Kn :=
  ⟨fun _ M => ∃ r, post r ∧ res r = .dt .none ∧ new r = [] ∧ ∀ c ∈ cin r, c ∈ M, rtN post res new cin, fun _ _ => False, fun _ _ => False⟩
section
variable {P : Program} {w : World} {K : PySem.W.Frag} {mg : Str → Option Value} {base : Heap} {x qual : Str} {st : Stmt} {f : Addr} {fd : FuncData} {N ps : List Str} {k : Nat} {A R : Type} {args : A → List GV} {pre : A → Prop} {post : A → R → Prop} {new : A → R → GM} {res : A → R → GV}
theorem fnN0 (F : Fun K x qual st f fd) (S : FnScope N ps (defScope st)) (ha : ∀ i, (args i).length = ps.length)
    (hb : ∀ (cdv : Value) (Rr : Around) (outer : List Env) (s : Shared) (H : Hp) (E : XK), Room k (Rr.deeper (envOfC qual (defScope st) s.heap.objs.size f cdv)) →
      ∃ t, PSs (cxOf CX0 P w K mg base N qual (defScope st) f cdv Rr outer s H E).nox (defBody st) t ∧ ∀ i, pre i → Blk K t (begin_ N (args i)) [] (endsN (post i) (res i) (new i) (fun _ => []))) :
    FnOk P w K mg base CX0 (k + 1) f fd ps (spN0 K args pre post new res) := by
  refine F.ok S (fun vs H Q E h => ?_) (fun cdv Rr outer s H vs Q E hr h => ?_)
  · obtain ⟨G, i, _, r, _⟩ := h
    rw [RelGs.length r, ha]
  · obtain ⟨G, i, hs, r, hp, q⟩ := h
    obtain ⟨t, ht, hB⟩ := hb cdv Rr outer s H E hr
    refine ⟨t, ht, hB i hp ⟨fun _ => False, G, H⟩ (L2.start N vs) G H _ (start_sr hs r) (fun E' M' σ' G' H' e _ S' => ?_) (fun g M' v G' H' e _ S' rv => ?_) (fun _ _ _ _ _ e => e.elim) (fun _ _ _ _ _ e => e.elim)⟩
    · obtain ⟨r, hr, e1, e2, _⟩ := e
      exact q r .non G' H' hr S'.fr S'.sub (by rw [e2]; exact ⟨fun c hc => (by cases hc), List.nodup_nil⟩) (by rw [e1]; exact Dr.non)
    · obtain ⟨r, hr, _, ⟨rfl, hs, _⟩ | ⟨hn, d, cs, e1, rd, hc⟩⟩ := e
      · exact q r v G' H' hr S'.fr S'.sub (S'.sub_cells hs).cells rv
      · obtain ⟨G2, s2, S2, key⟩ := S'.melt hc (List.nil_sublist _) (fun c hc => by cases hc)
        exact q r v G2 H' hr S2.fr S2.sub (by rw [hn]; exact S2.cells) (by rw [e1]; exact key g d v rd rv)
theorem fnN1 {pa : A → Addr} {o0 : A → GO} {o1 : A → R → GO} (F : Fun K x qual st f fd) (S : FnScope N ps (defScope st)) (ha : ∀ i, (args i).length = ps.length)
    (hb : ∀ (cdv : Value) (Rr : Around) (outer : List Env) (s : Shared) (H : Hp) (E : XK), Room k (Rr.deeper (envOfC qual (defScope st) s.heap.objs.size f cdv)) →
      ∃ t, PSs (cxOf CX0 P w K mg base N qual (defScope st) f cdv Rr outer s H E).nox (defBody st) t ∧ ∀ i, pre i → Blk K t (begin_ N (args i)) [(pa i, false, o0 i)] (endsN (post i) (res i) (new i) (fun r => [(pa i, false, o1 i r)]))) :
    FnOk P w K mg base CX0 (k + 1) f fd ps (spN1 K args pa o0 pre post o1 new res) := by
  refine F.ok S (fun vs H Q E h => ?_) (fun cdv Rr outer s H vs Q E hr h => ?_)
  · obtain ⟨G, i, _, r, _⟩ := h
    rw [RelGs.length r, ha]
  · obtain ⟨G, i, hs, r, hp, c1, c2, q⟩ := h
    obtain ⟨t, ht, hB⟩ := hb cdv Rr outer s H E hr
    have S0 : SR K ⟨fun q => q = pa i, G, H⟩ (begin_ N (args i)) [(pa i, false, o0 i)] (L2.start N vs) G H := by
      have Z := start_sr (N := N) (F0 := fun q => q = pa i) hs r
      have hc1 : ∀ c ∈ [(pa i, false, o0 i)], G c.1 = none ∧ (∃ o, H c.1 = some o ∧ RelO K G o c.2.2) ∧ (c.2.1 = true → H c.1 = none) ∧ (c.2.1 = false → c.1 = pa i) := fun c hc => by
        rcases List.mem_cons.mp hc with rfl | hc
        · exact ⟨c1, c2, fun z => (by cases z), fun _ => rfl⟩
        · cases hc
      exact ⟨Z.sub, Z.len, Z.slot, ⟨hc1, List.nodup_cons.mpr ⟨fun z => (by cases z), List.nodup_nil⟩⟩, Z.fr⟩
    have pair : ∀ {M : GM} {G' H' : Hp} {n : GM} {r : R}, SR K ⟨fun q => q = pa i, G, H⟩ [] M [] G' H' → (pa i, false, o1 i r) ∈ M → n.Sublist M → (∀ c ∈ n, c.2.1 = true) → Cells K ⟨fun q => q = pa i, G, H⟩ G' H' ((pa i, false, o1 i r) :: n) := fun {M G' H' n r} S' hm hs hf => by
      refine ⟨fun c hc => ?_, ?_⟩
      · rcases List.mem_cons.mp hc with rfl | hc
        · exact S'.cells.at_ _ hm
        · exact S'.cells.at_ _ (hs.subset hc)
      · rw [List.map_cons, List.nodup_cons]
        refine ⟨fun hm2 => ?_, S'.cells.nd.sublist (hs.map _)⟩
        obtain ⟨c, hc, e⟩ := List.mem_map.mp hm2
        have k1 := (S'.cells.at_ c (hs.subset hc)).2.2.1 (hf c hc)
        obtain ⟨o, k2, _⟩ := c2
        have e' : c.1 = pa i := e
        have k1' : H c.1 = none := k1
        rw [e', k2] at k1'; cases k1'
    refine ⟨t, ht, hB i hp _ (L2.start N vs) G H _ S0 (fun E' M' σ' G' H' e _ S' => ?_) (fun g M' v G' H' e _ S' rv => ?_) (fun _ _ _ _ _ e => e.elim) (fun _ _ _ _ _ e => e.elim)⟩
    · obtain ⟨r, hr, e1, e2, hm⟩ := e
      refine q r .non G' H' hr S'.fr S'.sub ?_ (by rw [e1]; exact Dr.non)
      rw [e2]
      exact pair S'.bare (hm _ List.mem_cons_self) (List.nil_sublist _) (fun c hc => by cases hc)
    · obtain ⟨r, hr, hm, ⟨rfl, hs, hf⟩ | ⟨hn, d, cs, e1, rd, hc⟩⟩ := e
      · exact q r v G' H' hr S'.fr S'.sub (pair S' (hm _ List.mem_cons_self) hs hf) rv
      · have hm1 := hm _ List.mem_cons_self
        obtain ⟨G2, s2, S2, key⟩ := S'.melt (M' := [(pa i, false, o1 i r)]) hc (List.singleton_sublist.mpr hm1) (fun c hcm c' hc' e => by
          have ec : c = (pa i, false, o1 i r) := by simpa using hcm
          subst ec
          have k1 : H c'.1 = none := (S'.cells.at_ c' (hc c' hc').1).2.2.1 (hc c' hc').2
          obtain ⟨o, k2, _⟩ := c2
          have e' : pa i = c'.1 := e
          rw [← e', k2] at k1; cases k1)
        refine q r v G2 H' hr S2.fr S2.sub ?_ (by rw [e1]; exact key g d v rd rv)
        rw [hn]; exact S2.cells
/-- a def that is never called -/
theorem fn_never {sp : Sp} (h : ∀ vs H Q E, ¬ sp vs H Q E) : FnOk P w K mg base CX0 0 f fd ps sp :=
  ⟨fun vs H Q E q => absurd q (h vs H Q E), fun A outer s H args us vs Q E _ _ _ _ q => absurd q (h vs H Q E)⟩
end
end Ek

set_option Elab.async false
set_option linter.all false
set_option maxRecDepth 100000
/-! the laws' draws: digits of a cell, then mixed ones; all that is used of them is their range -/
namespace Ek
open PySem PySem.Spec PyProof.Rows L2
/-- what is left, how many mixed ones so far, the cell -/
structure Dw where
  a : Int
  b : Int
  c : Int
abbrev dwO (s : Dw) : GO := .lst [.dt (.int s.a), .dt (.int s.b), .dt (.int s.c)]
def begM (c : Int) : Dw := ⟨c / 2, c % 2, c⟩
def mix1 (c k : Int) : Int := (c % 2147483647 + 31 * k) % 2147483629
def mix2 (c k : Int) : Int := (mix1 c k * mix1 c k + 16807 * mix1 c k + k * k * k + 7) % 2147483629
def mixM (c k : Int) : Int := mix2 c k * mix2 c k % 2147483587
def takeS (s : Dw) : Dw := if s.b = 0 ∧ (s.a = 0 ∨ s.a = -1) then ⟨s.c, 1, s.c⟩ else s
def takeM (s : Dw) (m : Int) : Int × Dw :=
  if (takeS s).b = 0 then ((takeS s).a % m, ⟨(takeS s).a / m, (takeS s).b, (takeS s).c⟩)
  else (mixM (takeS s).a ((takeS s).b + 1) % m, ⟨(takeS s).a, (takeS s).b + 1, (takeS s).c⟩)
def DwOk (n : Nat) (s : Dw) : Prop := 0 ≤ s.b ∧ s.b ≤ n + 1
theorem begM_ok (c : Int) : DwOk 0 (begM c) := by unfold DwOk begM; simp only; omega
theorem takeS_ok {n : Nat} {s : Dw} (h : DwOk n s) : DwOk n (takeS s) := by
  unfold takeS
  split
  · unfold DwOk; simp only; omega
  · exact h
theorem takeM_rng (s : Dw) {m : Int} (hm : 0 < m) : 0 ≤ (takeM s m).1 ∧ (takeM s m).1 < m := by
  unfold takeM
  split
  · exact ⟨Int.emod_nonneg _ (by omega), Int.emod_lt_of_pos _ hm⟩
  · exact ⟨Int.emod_nonneg _ (by omega), Int.emod_lt_of_pos _ hm⟩
theorem takeM_ok {n : Nat} {s : Dw} (m : Int) (h : DwOk n s) : DwOk (n + 1) (takeM s m).2 := by
  have h' := takeS_ok h
  unfold takeM
  generalize takeS s = s' at h' ⊢
  unfold DwOk at h' ⊢
  split <;> simp only <;> omega
theorem DwOk.mono {n m : Nat} {s : Dw} (h : DwOk n s) (hm : n ≤ m) : DwOk m s := ⟨h.1, by have := h.2; omega⟩
theorem mix1_rng (c k : Int) : 0 ≤ mix1 c k ∧ mix1 c k < 2147483629 := ⟨Int.emod_nonneg _ (by decide), Int.emod_lt_of_pos _ (by decide)⟩
theorem mix2_rng (c k : Int) : 0 ≤ mix2 c k ∧ mix2 c k < 2147483629 := ⟨Int.emod_nonneg _ (by decide), Int.emod_lt_of_pos _ (by decide)⟩
theorem log2S {j : Int} (h : j.natAbs < 18446744073709551616) : j.natAbs.log2 < 9000 := log2_bd (n := 64) h (by decide) (by decide)
theorem in_two (x : Int) : ([PyData.int 0, .int (-1)].any fun z => PyData.eqv z (.int x)) = decide (x = 0 ∨ x = -1) := by
  show (PyData.eqv (.int 0) (.int x) || (PyData.eqv (.int (-1)) (.int x) || false)) = _
  rw [eqv_int, eqv_int]
  by_cases h : x = 0
  · subst h; rfl
  · by_cases h2 : x = -1
    · subst h2; rfl
    · rw [decide_eq_false (fun z => h z.symm), decide_eq_false (fun z => h2 z.symm), decide_eq_false (fun z => z.elim h h2)]; rfl
theorem i_dataU {K : PySem.W.Frag} {M : GM} {d : PyData} {ds : List PyData} (h1 : SeqAt.shaped d = true) (h2 : SeqAt.shaped (.list ds) = true) : R2E K (rInU K) (.dt d) (.dt (.list ds)) M (.dt (.bool (ds.any fun z => PyData.eqv z d))) M := R2E.inl (i_data h1 h2)
theorem ni_dataU {K : PySem.W.Frag} {M : GM} {d : PyData} {ds : List PyData} (h1 : SeqAt.shaped d = true) (h2 : SeqAt.shaped (.list ds) = true) : R2E K (rNotInU K) (.dt d) (.dt (.list ds)) M (.dt (.bool (!ds.any fun z => PyData.eqv z d))) M := R2E.inl (ni_data h1 h2)
theorem i_ownU {K : PySem.W.Frag} {M : GM} {d : PyData} {p : Addr} {fl : Bool} {ds : List PyData} (hm : (p, fl, GO.lst (ds.map .dt)) ∈ M) (h1 : SeqAt.shaped d = true) (h2 : SeqAt.shaped (.list ds) = true) : R2E K (rInU K) (.dt d) (.rf p) M (.dt (.bool (ds.any fun z => PyData.eqv z d))) M := R2E.inl (i_own hm h1 h2)
theorem ni_ownU {K : PySem.W.Frag} {M : GM} {d : PyData} {p : Addr} {fl : Bool} {ds : List PyData} (hm : (p, fl, GO.lst (ds.map .dt)) ∈ M) (h1 : SeqAt.shaped d = true) (h2 : SeqAt.shaped (.list ds) = true) : R2E K (rNotInU K) (.dt d) (.rf p) M (.dt (.bool (!ds.any fun z => PyData.eqv z d))) M := R2E.inl (ni_own hm h1 h2)
end Ek

set_option Elab.async false
set_option linter.all false
set_option maxRecDepth 100000
/-! trees, their terms, and trees built by hanging each knot onto an earlier one -/
namespace Ek
open PySem PySem.Spec PyProof.Rows L2
inductive Tr where
  | mk (w : Option Int) (bs : List Tr)
def eWish : Option Int → PyData
  | none => .none
  | some c => .int c
mutual
def eTr : Tr → PyData
  | .mk w bs => .tuple [eWish w, .list (eTrs bs)]
def eTrs : List Tr → List PyData
  | [] => []
  | b :: bs => eTr b :: eTrs bs
end
theorem eTrs_map : ∀ bs : List Tr, eTrs bs = bs.map eTr
  | [] => by unfold eTrs; rfl
  | b :: bs => by unfold eTrs; rw [eTrs_map bs]; rfl
theorem eTr_mk (w : Option Int) (bs : List Tr) : eTr (.mk w bs) = .tuple [eWish w, .list (bs.map eTr)] := by rw [eTr, eTrs_map]
mutual
def trDepth : Tr → Nat
  | .mk _ bs => trDepths bs + 1
def trDepths : List Tr → Nat
  | [] => 0
  | b :: bs => max (trDepth b) (trDepths bs)
end
mutual
def knots : Tr → Nat
  | .mk _ bs => knotss bs + 1
def knotss : List Tr → Nat
  | [] => 0
  | b :: bs => knots b + knotss bs
end
theorem trDepths_mem {b : Tr} : ∀ {bs : List Tr}, b ∈ bs → trDepth b ≤ trDepths bs
  | [], h => by cases h
  | c :: bs, h => by
    rw [trDepths]
    rcases List.mem_cons.mp h with rfl | h
    · exact Nat.le_max_left _ _
    · exact Nat.le_trans (trDepths_mem h) (Nat.le_max_right _ _)
mutual
theorem trDepth_knots : ∀ t : Tr, trDepth t ≤ knots t
  | .mk w bs => by rw [trDepth, knots]; have := trDepths_knots bs; omega
theorem trDepths_knots : ∀ bs : List Tr, trDepths bs ≤ knotss bs
  | [] => by rw [trDepths, knotss]; exact Nat.le_refl _
  | b :: bs => by rw [trDepths, knotss]; have h1 := trDepth_knots b; have h2 := trDepths_knots bs; omega
end
theorem knots_pos : ∀ t : Tr, 0 < knots t
  | .mk w bs => by rw [knots]; omega
theorem knotss_sum : ∀ bs : List Tr, knotss bs = (bs.map knots).sum
  | [] => by rw [knotss]; rfl
  | b :: bs => by rw [knotss, knotss_sum bs]; simp
theorem sum_cast : ∀ l : List Nat, (l.map fun n : Nat => (n : Int)).sum = ((l.sum : Nat) : Int)
  | [] => rfl
  | n :: l => by simp only [List.map_cons, List.sum_cons, sum_cast l]; omega
/-! ### terms -/
abbrev dS (s : String) : PyData := .str (Str.ofString s)
def hueD : Option Int → PyData
  | none => .tuple [dS "one"]
  | some c => .tuple [dS "hue", .int c]
abbrev bothD (t u : PyData) : PyData := .tuple [dS "both", t, .tuple [dS "near", u]]
mutual
def termD : Tr → PyData
  | .mk w bs => termDs (hueD w) bs
def termDs : PyData → List Tr → PyData
  | t, [] => t
  | t, b :: bs => termDs (bothD t (termD b)) bs
end
theorem termDs_snoc (b : Tr) : ∀ (bs : List Tr) (t : PyData), termDs t (bs ++ [b]) = bothD (termDs t bs) (termD b)
  | [], t => by rw [List.nil_append, termDs, termDs, termDs]
  | c :: bs, t => by rw [List.cons_append, termDs, termDs_snoc b bs, termDs]
theorem take_snoc {A : Type} {l : List A} {i : Nat} (h : i < l.length) : l.take (i + 1) = l.take i ++ [l[i]] := by
  rw [List.take_add_one, List.getElem?_eq_getElem h]; rfl
theorem getD_map {A : Type} (f : A → PyData) {l : List A} {i : Nat} (h : i < l.length) (d : PyData) : (l.map f).getD i d = f l[i] := by
  rw [List.getD_eq_getElem?_getD, List.getElem?_map, List.getElem?_eq_getElem h] <;> rfl
theorem getD_of {A : Type} {l : List A} {i : Nat} (h : i < l.length) (d : A) : l.getD i d = l[i] := by
  rw [List.getD_eq_getElem?_getD, List.getElem?_eq_getElem h] <;> rfl
theorem range_getD {A C : Type} (l : List A) (d : A) (g : A → C) : (List.range l.length).map (fun i => g (l.getD i d)) = l.map g := by
  refine List.ext_getElem? fun i => ?_
  rw [List.getElem?_map, List.getElem?_map]
  by_cases hi : i < l.length
  · rw [List.getElem?_range hi, List.getElem?_eq_getElem hi]
    show some (g (l.getD i d)) = some (g l[i])
    rw [getD_of hi]
  · rw [List.getElem?_eq_none (by rw [List.length_range]; omega), List.getElem?_eq_none (by omega)]; rfl
/-! ### shapes -/
theorem canLay_tuple (ds : List PyData) : PyData.canLay0 (.tuple ds) = PyData.canLayAll0 ds := by rw [PyData.canLay0]
theorem canLay_list (ds : List PyData) : PyData.canLay0 (.list ds) = PyData.canLayAll0 ds := by rw [PyData.canLay0]
theorem canLayAll_iff : ∀ ds : List PyData, PyData.canLayAll0 ds = true ↔ ∀ d ∈ ds, PyData.canLay0 d = true
  | [] => by rw [PyData.canLayAll0]; simp
  | d :: ds => by rw [PyData.canLayAll0, Bool.and_eq_true, canLayAll_iff ds]; simp
theorem depth_tuple (ds : List PyData) : PyData.depth (.tuple ds) = PyData.depthAll ds + 1 := by rw [PyData.depth]
theorem depth_list (ds : List PyData) : PyData.depth (.list ds) = PyData.depthAll ds + 1 := by rw [PyData.depth]
theorem depthAll_le {n : Nat} : ∀ ds : List PyData, PyData.depthAll ds ≤ n ↔ ∀ d ∈ ds, PyData.depth d ≤ n
  | [] => by rw [PyData.depthAll]; simp
  | d :: ds => by
    rw [PyData.depthAll, Nat.max_le, depthAll_le ds]; simp
theorem shaped_iff {d : PyData} : SeqAt.shaped d = true ↔ d.canLay0 = true ∧ d.depth ≤ 64 := by unfold SeqAt.shaped; rw [Bool.and_eq_true, decide_eq_true_eq]
theorem eWish_lay (w : Option Int) : (eWish w).canLay0 = true ∧ (eWish w).depth = 0 := by cases w <;> exact ⟨rfl, rfl⟩
mutual
theorem eTr_lay : ∀ t : Tr, (eTr t).canLay0 = true ∧ (eTr t).depth ≤ 2 * trDepth t
  | .mk w bs => by
    have h := eTrs_lay bs
    rw [eTr, trDepth, canLay_tuple, depth_tuple]
    refine ⟨?_, ?_⟩
    · rw [canLayAll_iff]
      intro d hd
      rcases List.mem_cons.mp hd with rfl | hd
      · exact (eWish_lay w).1
      · rcases List.mem_cons.mp hd with rfl | hd
        · rw [canLay_list]; exact h.1
        · cases hd
    · have : PyData.depthAll [eWish w, .list (eTrs bs)] ≤ 2 * trDepths bs + 1 := by
        rw [depthAll_le]
        intro d hd
        rcases List.mem_cons.mp hd with rfl | hd
        · rw [(eWish_lay w).2]; omega
        · rcases List.mem_cons.mp hd with rfl | hd
          · rw [depth_list]; omega
          · cases hd
      omega
theorem eTrs_lay : ∀ bs : List Tr, PyData.canLayAll0 (eTrs bs) = true ∧ PyData.depthAll (eTrs bs) ≤ 2 * trDepths bs
  | [] => by rw [eTrs, PyData.canLayAll0, PyData.depthAll]; exact ⟨rfl, Nat.zero_le _⟩
  | b :: bs => by
    have h1 := eTr_lay b
    have h2 := eTrs_lay bs
    rw [eTrs, trDepths, PyData.canLayAll0, PyData.depthAll, h1.1, h2.1]
    exact ⟨rfl, by omega⟩
end
theorem eTr_shaped {t : Tr} (h : knots t ≤ 32) : SeqAt.shaped (eTr t) = true := by
  rw [shaped_iff]
  have h1 := eTr_lay t
  have h2 := trDepth_knots t
  exact ⟨h1.1, by omega⟩
theorem lay_one : (dS "one").canLay0 = true := by decide +kernel
theorem lay_hue : (dS "hue").canLay0 = true := by decide +kernel
theorem lay_both : (dS "both").canLay0 = true := by decide +kernel
theorem lay_near : (dS "near").canLay0 = true := by decide +kernel
theorem hueD_lay (w : Option Int) : (hueD w).canLay0 = true ∧ (hueD w).depth = 1 := by
  cases w with
  | none => exact ⟨by decide +kernel, rfl⟩
  | some c =>
    refine ⟨?_, rfl⟩
    show PyData.canLay0 (.tuple [dS "hue", .int c]) = true
    rw [canLay_tuple, PyData.canLayAll0, PyData.canLayAll0, PyData.canLayAll0, lay_hue]; rfl
theorem both_lay {t u : PyData} (h1 : t.canLay0 = true) (h2 : u.canLay0 = true) : (bothD t u).canLay0 = true ∧ (bothD t u).depth = 1 + max t.depth (1 + u.depth) := by
  constructor
  · rw [canLay_tuple, canLayAll_iff]
    intro d hd
    rcases List.mem_cons.mp hd with rfl | hd
    · exact lay_both
    · rcases List.mem_cons.mp hd with rfl | hd
      · exact h1
      · rcases List.mem_cons.mp hd with rfl | hd
        · rw [canLay_tuple, canLayAll_iff]
          intro d hd
          rcases List.mem_cons.mp hd with rfl | hd
          · exact lay_near
          · rcases List.mem_cons.mp hd with rfl | hd
            · exact h2
            · cases hd
        · cases hd
  · have e0 : PyData.depth (dS "both") = 0 := rfl
    have e1 : PyData.depth (dS "near") = 0 := rfl
    rw [depth_tuple, PyData.depthAll, PyData.depthAll, PyData.depthAll, PyData.depthAll, depth_tuple, PyData.depthAll, PyData.depthAll, PyData.depthAll, e0, e1]
    omega
mutual
theorem termD_lay : ∀ t : Tr, (termD t).canLay0 = true ∧ (termD t).depth + 1 ≤ 2 * knots t
  | .mk w bs => by
    rw [termD, knots]
    have h0 := hueD_lay w
    exact termDs_lay bs (hueD w) 1 h0.1 (by omega) (by omega)
theorem termDs_lay : ∀ (bs : List Tr) (t : PyData) (k : Nat), t.canLay0 = true → t.depth + 1 ≤ 2 * k → 1 ≤ k → (termDs t bs).canLay0 = true ∧ (termDs t bs).depth + 1 ≤ 2 * (knotss bs + k)
  | [], t, k, h, hd, hk => by rw [termDs, knotss]; exact ⟨h, by omega⟩
  | b :: bs, t, k, h, hd, hk => by
    rw [termDs, knotss]
    have h1 := termD_lay b
    have hb := knots_pos b
    have h2 := both_lay h h1.1
    have h3 := termDs_lay bs (bothD t (termD b)) (knots b + k) h2.1 (by rw [h2.2]; omega) (by omega)
    exact ⟨h3.1, by have := h3.2; omega⟩
end
theorem termD_shaped {t : Tr} (h : knots t ≤ 32) : SeqAt.shaped (termD t) = true := by
  rw [shaped_iff]
  have h1 := termD_lay t
  exact ⟨h1.1, by have := h1.2; omega⟩
/-! ### trees by their parents -/
section
variable (m : Nat) (par : Nat → Nat) (ws : Nat → Option Int)
/-- the knots hung onto i among the first n -/
def kidsTo (n i : Nat) : List Nat := (List.range n).filter fun c => decide (1 ≤ c ∧ par c = i)
def treeF : Nat → Nat → Tr
  | 0, i => .mk (ws i) []
  | n + 1, i => .mk (ws i) ((kidsTo par m i).map (treeF n))
variable {m par ws}
theorem kids_lt (hp : ∀ c, 1 ≤ c → c < m → par c < c) {i c : Nat} (h : c ∈ kidsTo par m i) : i < c ∧ c < m := by
  unfold kidsTo at h
  rw [List.mem_filter, List.mem_range, decide_eq_true_eq] at h
  have := hp c h.2.1 h.1
  omega
theorem treeF_stable (hp : ∀ c, 1 ≤ c → c < m → par c < c) : ∀ (n n' i : Nat), m ≤ n + 1 + i → m ≤ n' + 1 + i → treeF m par ws n i = treeF m par ws n' i
  | 0, 0, _, _, _ => rfl
  | 0, n' + 1, i, h, _ => by
    have e : kidsTo par m i = [] := by
      refine List.eq_nil_iff_forall_not_mem.mpr fun c hc => ?_
      have := kids_lt hp hc; omega
    rw [treeF, treeF, e]; rfl
  | n + 1, 0, i, _, h => by
    have e : kidsTo par m i = [] := by
      refine List.eq_nil_iff_forall_not_mem.mpr fun c hc => ?_
      have := kids_lt hp hc; omega
    rw [treeF, treeF, e]; rfl
  | n + 1, n' + 1, i, h, h' => by
    rw [treeF, treeF]
    congr 1
    refine List.map_congr_left fun c hc => ?_
    have := kids_lt hp hc
    exact treeF_stable hp n n' c (by omega) (by omega)
theorem treeF_unf (hp : ∀ c, 1 ≤ c → c < m → par c < c) (i : Nat) : treeF m par ws m i = .mk (ws i) ((kidsTo par m i).map (treeF m par ws m)) := by
  rw [treeF_stable hp m (m + 1) i (by omega) (by omega), treeF]
theorem sum_add (f g : Nat → Nat) : ∀ l : List Nat, (l.map fun c => f c + g c).sum = (l.map f).sum + (l.map g).sum
  | [] => rfl
  | c :: l => by simp only [List.map_cons, List.sum_cons, sum_add f g l]; omega
theorem sum_zero (f : Nat → Nat) : ∀ l : List Nat, (∀ c ∈ l, f c = 0) → (l.map f).sum = 0
  | [], _ => rfl
  | c :: l, h => by simp only [List.map_cons, List.sum_cons]; rw [h c (by simp), sum_zero f l (fun d hd => h d (List.mem_cons_of_mem _ hd))]
theorem sum_at (f : Nat → Nat) (n : Nat) : ∀ m : Nat, n < m → ((List.range m).map fun c => if c = n then f c else 0).sum = f n
  | 0, h => by omega
  | m + 1, h => by
    rw [List.range_succ, List.map_append, List.sum_append]
    by_cases hm : n < m
    · rw [sum_at f n m hm]; simp; omega
    · have e : n = m := by omega
      subst e
      rw [sum_zero _ _ (fun c hc => by rw [List.mem_range] at hc; rw [if_neg (by omega)])]; simp
theorem sum_filter (f : Nat → Nat) (p : Nat → Bool) : ∀ l : List Nat, ((l.filter p).map f).sum = (l.map fun c => if p c = true then f c else 0).sum
  | [] => rfl
  | c :: l => by
    rw [List.filter_cons]
    by_cases h : p c = true
    · rw [if_pos h, List.map_cons, List.sum_cons, sum_filter f p l, List.map_cons, List.sum_cons, if_pos h]
    · rw [if_neg h, sum_filter f p l, List.map_cons, List.sum_cons, if_neg h]; omega
theorem knots_treeF (hp : ∀ c, 1 ≤ c → c < m → par c < c) (hm : 0 < m) : knots (treeF m par ws m 0) = m := by
  let k : Nat → Nat := fun c => knots (treeF m par ws m c)
  have hk : ∀ i, k i = 1 + ((List.range m).map fun c => if 1 ≤ c ∧ par c = i then k c else 0).sum := fun i => by
    show knots (treeF m par ws m i) = _
    rw [treeF_unf hp i, knots, knotss_sum, List.map_map]
    unfold kidsTo
    rw [sum_filter]
    simp only [decide_eq_true_eq]
    rw [Nat.add_comm]; rfl
  let S : Nat → Nat := fun n => ((List.range m).map fun c => if n ≤ c ∧ par c < n then k c else 0).sum
  have step : ∀ n, 1 ≤ n → n < m → S n = 1 + S (n + 1) := fun n h1 h2 => by
    have e : (((List.range m).map fun c => (if n ≤ c ∧ par c < n then k c else 0) + (if 1 ≤ c ∧ par c = n then k c else 0))).sum = ((List.range m).map fun c => (if c = n then k c else 0) + (if n + 1 ≤ c ∧ par c < n + 1 then k c else 0)).sum := by
      congr 1
      refine List.map_congr_left fun c hc => ?_
      rw [List.mem_range] at hc
      by_cases hcn : c = n
      · subst hcn
        have := hp c h1 hc
        rw [if_pos ⟨Nat.le_refl _, this⟩, if_neg (by omega), if_pos rfl, if_neg (by omega)]
      · rw [if_neg hcn]
        by_cases hlt : c < n
        · have : c = 0 ∨ par c < c := by
            by_cases h0 : c = 0
            · exact .inl h0
            · exact .inr (hp c (by omega) hc)
          rw [if_neg (by omega), if_neg (by omega), if_neg (by omega)]
        · have hpc := hp c (by omega) hc
          by_cases h3 : par c < n
          · rw [if_pos ⟨by omega, h3⟩, if_neg (by omega), if_pos ⟨by omega, by omega⟩]; omega
          · by_cases h4 : par c = n
            · rw [if_neg (by omega), if_pos ⟨by omega, h4⟩, if_pos ⟨by omega, by omega⟩]
            · rw [if_neg (by omega), if_neg (by omega), if_neg (by omega)]
    rw [sum_add, sum_add, sum_at k n m h2] at e
    have := hk n
    show ((List.range m).map fun c => if n ≤ c ∧ par c < n then k c else 0).sum = 1 + ((List.range m).map fun c => if n + 1 ≤ c ∧ par c < n + 1 then k c else 0).sum
    omega
  have last : S m = 0 := sum_zero _ _ fun c hc => by rw [List.mem_range] at hc; rw [if_neg (by omega)]
  have all : ∀ j, j < m → S (m - j) = j := by
    intro j
    induction j with
    | zero => intro _; exact last
    | succ j ih =>
      intro h
      have e := step (m - (j + 1)) (by omega) (by omega)
      rw [show m - (j + 1) + 1 = m - j by omega, ih (by omega)] at e
      omega
  have e0 := hk 0
  have e1 : ((List.range m).map fun c => if 1 ≤ c ∧ par c = 0 then k c else 0).sum = S 1 := by
    show _ = ((List.range m).map fun c => if 1 ≤ c ∧ par c < 1 then k c else 0).sum
    congr 1
    refine List.map_congr_left fun c _ => ?_
    by_cases h : 1 ≤ c ∧ par c = 0
    · rw [if_pos h, if_pos (by omega)]
    · rw [if_neg h, if_neg (by omega)]
  have e2 := all (m - 1) (by omega)
  rw [show m - (m - 1) = 1 by omega] at e2
  show k 0 = m
  omega
end
mutual
/-- all wishes are of those that are drawn -/
def TrOk : Tr → Prop
  | .mk w bs => (w = none ∨ w = some 0 ∨ w = some 1 ∨ w = some 7) ∧ TrOks bs
def TrOks : List Tr → Prop
  | [] => True
  | b :: bs => TrOk b ∧ TrOks bs
end
theorem TrOks_iff : ∀ bs : List Tr, TrOks bs ↔ ∀ b ∈ bs, TrOk b
  | [] => by rw [TrOks]; simp
  | b :: bs => by rw [TrOks, TrOks_iff bs]; simp
theorem treeF_ok {m : Nat} {par : Nat → Nat} {ws : Nat → Option Int} (h : ∀ i, ws i = none ∨ ws i = some 0 ∨ ws i = some 1 ∨ ws i = some 7) : ∀ n i, TrOk (treeF m par ws n i)
  | 0, i => by rw [treeF, TrOk, TrOks]; exact ⟨h i, trivial⟩
  | n + 1, i => by
    rw [treeF, TrOk, TrOks_iff]
    refine ⟨h i, fun b hb => ?_⟩
    obtain ⟨c, _, rfl⟩ := List.mem_map.mp hb
    exact treeF_ok h n c
/-! ### cells in another order; a new pair with a new list; append of anything -/
section
variable {K : PySem.W.Frag} {B : Bs} {E : GE} {M M' M1 : GM} {t u : TS} {P : Kn} {ta te : TE} {F : GV → GM → Prop} {g : GV} {xs : List GV}
theorem SR.perm {σ : L2.St} {G H : Hp} (S : SR K B E M σ G H) (h : M.Perm M') : SR K B E M' σ G H :=
  ⟨S.sub, S.len, S.slot, ⟨fun c hc => S.cells.at_ c (h.mem_iff.mpr hc), (h.map _).nodup_iff.mp S.cells.nd⟩, S.fr⟩
theorem blk_perm (h : Blk K t E M' P) (hp : M.Perm M') : Blk K t E M P := fun B σ G H D S => h B σ G H D (S.perm hp)
theorem ex_pairNew (h : EE K ta E M g M1) : EX K (tTup (tCons ta (tCons (tLst tNil) tNil))) E M (fun g' M' => ∃ p q, g' = .rf p ∧ M' = (p, true, .tup [g, .rf q]) :: (q, true, .lst []) :: M1) := fun B σ G H S Q q =>
  h B σ G H S _ fun v G1 H1 s1 S1 r1 => by
    show ([] : List V).length ≤ sizeLine ∧ ∀ p, H1 p = none → [v, .ref p].length ≤ sizeLine ∧ ∀ p_1, upd H1 p (.lst []) p_1 = none → Q (.ref p_1) (upd (upd H1 p (.lst [])) p_1 (.tup [v, .ref p]))
    refine ⟨Nat.zero_le _, fun p hp => ⟨by show 2 ≤ sizeLine; decide, fun p2 hp2 => ?_⟩⟩
    have S2 := S1.own (o := .lst []) (g := .lst []) hp .nil
    have S3 := S2.own (o := .tup [v, .ref p]) (g := .tup [g, .rf p]) hp2 (.cons r1 (.cons rfl .nil))
    exact q _ _ _ G1 _ ⟨p2, p, rfl, rfl⟩ s1 S3 rfl
theorem blk_app' {p : Addr} {M0 : GM} (ho : EE K ta E M (.rf p) M0) (hy : ∀ B σ G H, SR K B E M0 σ G H → ∃ xs, SqL K H p xs) (h : EX K te E M0 F) (k : ∀ g M1, F g M1 → ∃ j fl xs, M1[j]? = some (p, fl, .lst xs) ∧ xs.length < sizeLine ∧ P.nx E (M1.set j (p, fl, .lst (xs ++ [g])))) :
    Blk K (tDrop (tBM K "list" rAppend ta (tCons te tNil))) E M P := fun B σ G H D S n _ _ _ =>
  ho B σ G H S _ fun v G1 H1 s1 S1 r1 => by
    have r1' : v = .ref p := r1
    subst r1'
    refine ⟨.inl ⟨rfl, hy B σ G1 H1 S1⟩, h B σ G1 H1 S1 _ fun g M1 w G2 H2 f s2 S2 r2 => ?_⟩
    obtain ⟨j, fl, xs, hm1, hz, q⟩ := k g M1 f
    obtain ⟨_, ⟨o, k1, k2⟩, _⟩ := S2.cells.at_ _ (List.mem_of_getElem? hm1)
    obtain ⟨vs, rfl, r⟩ := RelO.lst_inv k2
    exact ⟨p, vs, w, rfl, rfl, k1, by rw [RelGs.length r]; exact hz, n _ _ _ G2 _ q (s1.trans s2) (S2.write (g := .lst (xs ++ [g])) hm1 (RelGs.app r (.cons r2 .nil)))⟩
theorem seq_of_mem {p : Addr} {fl : Bool} (hm : (p, fl, GO.lst xs) ∈ M) : ∀ B σ G H, SR K B E M σ G H → ∃ xs, SqL K H p xs := fun B σ G H S => by
  obtain ⟨_, ⟨o, k1, k2⟩, _⟩ := S.cells.at_ _ hm
  obtain ⟨vs, rfl, r⟩ := RelO.lst_inv k2
  exact ⟨vs, .of k1⟩
end
end Ek
namespace Ek
open PySem PySem.Spec PyProof.Rows L2
theorem RelDs.of_map {A : Type} {cs : GM} {f : A → GV} {g : A → PyData} : ∀ {l : List A}, (∀ c ∈ l, RelD cs (f c) (g c)) → RelDs cs (l.map f) (l.map g)
  | [], _ => .nil
  | c :: l, h => .cons (h c (by simp)) (RelDs.of_map fun d hd => h d (List.mem_cons_of_mem _ hd))
theorem perm_node {A : Type} (r p t b : A) (X Y : List A) : (t :: b :: r :: p :: (X ++ Y)).Perm (r :: p :: ((X ++ [t]) ++ (Y ++ [b]))) := by
  have h1 : ((X ++ [t]) ++ (Y ++ [b])).Perm (t :: b :: (X ++ Y)) := by
    have e : (X ++ [t]) ++ (Y ++ [b]) = X ++ t :: (Y ++ [b]) := by simp
    rw [e]
    refine List.Perm.trans (List.perm_middle) ?_
    refine List.Perm.cons _ ?_
    have e2 : X ++ (Y ++ [b]) = (X ++ Y) ++ [b] := by simp
    rw [e2]
    exact List.perm_append_comm
  have h2 : (r :: p :: ((X ++ [t]) ++ (Y ++ [b]))).Perm (r :: p :: t :: b :: (X ++ Y)) := (h1.cons p).cons r
  refine List.Perm.trans ?_ h2.symm
  have h3 : (t :: b :: r :: p :: (X ++ Y)).Perm ([r, p] ++ [t, b] ++ (X ++ Y)) := List.Perm.append_right (X ++ Y) (List.perm_append_comm (l₁ := [t, b]) (l₂ := [r, p]))
  exact h3
theorem set_range {A : Type} (f : Nat → A) (m r : Nat) (y : A) : ((List.range m).map f).set r y = (List.range m).map fun c => if c = r then y else f c := by
  refine List.ext_getElem? fun i => ?_
  by_cases hi : i < m
  · by_cases hr : r = i
    · subst hr
      rw [List.getElem?_set_self (by rw [List.length_map, List.length_range]; exact hi), List.getElem?_map, List.getElem?_range hi]
      show some y = some (if r = r then y else f r)
      rw [if_pos rfl]
    · rw [List.getElem?_set_ne hr, List.getElem?_map, List.getElem?_map, List.getElem?_range hi]
      show some (f i) = some (if i = r then y else f i)
      rw [if_neg (Ne.symm hr)]
  · rw [List.getElem?_eq_none (by rw [List.length_set, List.length_map, List.length_range]; omega), List.getElem?_eq_none (by rw [List.length_map, List.length_range]; omega)]
theorem set_app {A : Type} : ∀ (X Y : List A) (r : Nat) (y : A), (X ++ Y).set (X.length + r) y = X ++ Y.set r y
  | [], Y, r, y => by simp
  | x :: X, Y, r, y => by
    rw [List.length_cons, show X.length + 1 + r = (X.length + r) + 1 by omega, List.cons_append, List.set_cons_succ, set_app X Y r y]; rfl
theorem getElem_range_map {A : Type} (f : Nat → A) {m i : Nat} (h : i < m) : ((List.range m).map f)[i]? = some (f i) := by
  rw [List.getElem?_map, List.getElem?_range h]; rfl
abbrev tCells (ts bs : Nat → Addr) (ws : Nat → Option Int) (i : Nat) : GM := (List.range i).map fun c => (ts c, true, GO.tup [.dt (eWish (ws c)), .rf (bs c)])
abbrev bCells (ts bs : Nat → Addr) (par : Nat → Nat) (m n : Nat) : GM := (List.range m).map fun c => (bs c, true, GO.lst ((kidsTo par n c).map fun x => GV.rf (ts x)))
theorem tree_reads {m : Nat} {par : Nat → Nat} {ws : Nat → Option Int} (hp : ∀ c, 1 ≤ c → c < m → par c < c) (ts bs : Nat → Addr) : ∀ n i, i < m → m ≤ n + 1 + i → RelD (tCells ts bs ws m ++ bCells ts bs par m m) (.rf (ts i)) (eTr (treeF m par ws n i)) := by
  have mt : ∀ i, i < m → (ts i, true, GO.tup [.dt (eWish (ws i)), .rf (bs i)]) ∈ tCells ts bs ws m ++ bCells ts bs par m m := fun i hi => List.mem_append_left _ (List.mem_map.mpr ⟨i, List.mem_range.mpr hi, rfl⟩)
  have mb : ∀ i, i < m → (bs i, true, GO.lst ((kidsTo par m i).map fun x => GV.rf (ts x))) ∈ tCells ts bs ws m ++ bCells ts bs par m m := fun i hi => List.mem_append_right _ (List.mem_map.mpr ⟨i, List.mem_range.mpr hi, rfl⟩)
  intro n
  induction n with
  | zero =>
    intro i hi h
    have e : kidsTo par m i = [] := List.eq_nil_iff_forall_not_mem.mpr fun c hc => by have := kids_lt hp hc; omega
    rw [treeF, eTr_mk]
    refine .tup (mt i hi) (.cons (.dt _) (.cons (.lst (mb i hi) ?_) .nil))
    rw [e]; exact .nil
  | succ n ih =>
    intro i hi h
    rw [treeF, eTr_mk, List.map_map]
    refine .tup (mt i hi) (.cons (.dt _) (.cons (.lst (mb i hi) ?_) .nil))
    refine RelDs.of_map fun c hc => ?_
    have := kids_lt hp hc
    exact ih c (by omega) (by omega)
theorem kids_one (par : Nat → Nat) (c : Nat) : kidsTo par 1 c = [] := by
  unfold kidsTo
  rw [show List.range 1 = [0] from rfl, List.filter_cons, if_neg (by simp)]; rfl
theorem kids_succ (par : Nat → Nat) {k r c : Nat} (hk : 1 ≤ k) : kidsTo (fun x => if x = k then r else par x) (k + 1) c = kidsTo par k c ++ (if c = r then [k] else []) := by
  unfold kidsTo
  rw [List.range_succ, List.filter_append]
  congr 1
  · refine List.filter_congr fun x hx => ?_
    rw [List.mem_range] at hx
    show decide (1 ≤ x ∧ (if x = k then r else par x) = c) = decide (1 ≤ x ∧ par x = c)
    rw [if_neg (show ¬ x = k by omega)]
  · rw [List.filter_cons]
    show (if decide (1 ≤ k ∧ (if k = k then r else par k) = c) = true then _ else _) = _
    rw [if_pos (rfl : k = k)]
    by_cases h : c = r
    · subst h
      rw [if_pos (decide_eq_true (show 1 ≤ k ∧ c = c from ⟨hk, rfl⟩)), if_pos rfl]; rfl
    · rw [if_neg (by rw [decide_eq_true_eq]; exact fun z => h z.2.symm), if_neg h]; rfl
end Ek

set_option Elab.async false
set_option linter.all false
set_option maxRecDepth 100000
set_option maxHeartbeats 4000000
namespace Ek
open PySem PySem.Spec PyProof.Rows L2
/-! ### short words for the readings -/
local macro_rules | `(tactic| walk_at "eks") => `(tactic| first | assumption | omega | exact rfl | decide)
local macro_rules | `(tactic| walk_at "ekq") => `(tactic| first | assumption | (refine mulS ?_ ?_ <;> omega))
local macro_rules | `(tactic| walk_at "ekx") => `(tactic| first | exact rfl | walk_at "eks")
local macro_rules | `(tactic| walk_at "ekm") => `(tactic| first | exact .head _ | exact .tail _ (.head _) | exact .tail _ (.tail _ (.head _)) | exact .tail _ (.tail _ (.tail _ (.head _))))
local macro_rules | `(tactic| walk_at "ekr") => `(tactic| first
  | exact p_int | exact s_int | exact eq_int' | exact ne_int' | exact lt_int' | exact gt_int' | exact le_int' | exact ge_int' | exact is_none' | exact isnt_none'
  | (refine' x_tup ?e1; (case e1 => walk_at "ekx")) | (refine' x_list ?e1; (case e1 => walk_at "ekx")) | (refine' x_scr ?e1; (case e1 => walk_at "ekx")) | (refine' x_own ?e1 ?e2; (case e1 => walk_at "ekm"); (case e2 => walk_at "ekx")) | (refine' x_ownT ?e1 ?e2; (case e1 => walk_at "ekm"); (case e2 => walk_at "ekx"))
  | exact tw_lit | (refine t_int ?_; walk_at "ekq") | (refine m_int ?_; first | assumption | omega) | (refine d_pos ⟨?_, ?_⟩ <;> first | assumption | omega | decide) | (refine d_any ?_; assumption) | exact w_1060 | (refine w_int ?_; exact ⟨by decide, by decide, by decide⟩)
  | (refine p_list ?_; walk_at "eks") | (refine t_one ?_ ?_ ?_ <;> walk_at "eks") | (refine p_str ?_; walk_at "eks") | (refine eq_str' ?_ ?_ <;> walk_at "eks") | (refine ne_str' ?_ ?_ <;> walk_at "eks")
  | (refine r2_eqD ?_ ?_ <;> walk_at "eks") | (refine r2_neD ?_ ?_ <;> walk_at "eks"))
local macro_rules | `(tactic| walk_at "ekl") => `(tactic| first
  | exact l_list | exact l_tup | exact l_scr | (refine' l_own ?e1; (case e1 => walk_at "ekm")) | (refine l_str ?_; walk_at "eks") | exact l_abs | exact l_max2 | exact l_min2 | exact l_intB | exact l_sum | exact is_ii | exact is_ib | exact is_tt | exact is_ll | exact is_ss | exact is_bi | exact is_bb | exact is_ti)
local macro_rules | `(tactic| walk_at "eka") => `(tactic| first | exact ea_nil | (refine' ea_cons ?e1 ?e2; (case e1 => walk_at "ek"); (case e2 => walk_at "eka")))
local macro_rules | `(tactic| walk_at "ekf") => `(tactic| first
  | (refine' ef_lst ?e1 ?e2; (case e1 => walk_at "eka"); (case e2 => exact lenB rfl))
  | (refine' ef_cut ?e1 ?e2 ?e3; (case e1 => walk_at "ek"); (case e2 => walk_at "eko"); (case e3 => walk_at "eko"))
  | (refine' ef_cutS ?e1 ?e2 ?e3; (case e1 => walk_at "ek"); (case e2 => walk_at "eko"); (case e3 => walk_at "eko"))
  | (refine' ef_op ?e1 ?e2 ?e3; (case e1 => walk_at "ek"); (case e2 => walk_at "ek"); (case e3 => first | (refine p_listF ?_; walk_at "eks") | (refine t_oneF ?_ ?_ ?_ <;> walk_at "eks")))
  | (refine' ef_cb ?e1 ?e2; (case e1 => walk_at "eka"); (case e2 => exact li_list))
  | walk_at "ekcF")
local macro_rules | `(tactic| walk_at "eko") => `(tactic| first | exact eo_none | (refine' eo_int ?e1; (case e1 => walk_at "ek")))
local macro_rules | `(tactic| walk_at "ek") => `(tactic| first
  | exact ee_var rfl | exact ee_int | exact ee_bl | exact ee_str | exact ee_non | exact ee_ty
  | (refine' ee_op ?e1 ?e2 ?e3; (case e1 => walk_at "ek"); (case e2 => walk_at "ek"); (case e3 => walk_at "ekr"))
  | (refine' ee_neg ?e1; (case e1 => walk_at "ek"))
  | (refine' ee_cb ?e1 ?e2; (case e1 => walk_at "eka"); (case e2 => walk_at "ekl"))
  | (refine' ee_tupU ?e1 ?e2 ?e3; (case e1 => walk_at "eka"); (case e2 => exact rfl); (case e3 => walk_at "ekz"))
  | walk_at "ekc"
  | (refine' ee_andV ?e1 ?e2; (case e1 => walk_at "ek"); (case e2 => (intro _; walk_at "ek")))
  | (refine' ee_orV ?e1 ?e2; (case e1 => walk_at "ek"); (case e2 => (intro _; walk_at "ek")))
  | (refine' ee_notV ?e1; (case e1 => walk_at "ek"))
  | (refine' ee_fz ?e1; (case e1 => walk_at "ekf"))
  | (refine' ee_fzU ?e1 ?e2; (case e1 => walk_at "ekf"); (case e2 => exact rfl)))
local macro_rules | `(tactic| walk_at "ekz") => `(tactic| first | exact lenB rfl)
local macro_rules | `(tactic| walk_at "ekt") => `(tactic| first
  | (refine' et_not ?e1; (case e1 => walk_at "ekt"))
  | (refine' et_and ?e1 ?e2; (case e1 => walk_at "ekt"); (case e2 => (intro _; walk_at "ekt")))
  | (refine' et_or ?e1 ?e2; (case e1 => walk_at "ekt"); (case e2 => (intro _; walk_at "ekt")))
  | (refine' et_test ?e1; (case e1 => walk_at "ek")) | (refine' et_B ?e1; (case e1 => walk_at "ek")))
def topS (i : Nat) : Stmt := PySem.Challenge.pw_evenkin_k13_trees_as_terms.main.body.getD i (.Pass ⟨0, 0, 0, 0⟩)
abbrev s_term_of : Stmt := topS 1
theorem sc_term_of : FnScope ["tree", "wish", "boughs", "term", "bough"] ["tree"] (defScope s_term_of) := ⟨rfl, rfl, rfl, by decide +kernel, rfl, by decide +kernel, by decide +kernel⟩
abbrev s_knots_of : Stmt := topS 2
theorem sc_knots_of : FnScope ["tree", "bough"] ["tree"] (defScope s_knots_of) := ⟨rfl, rfl, rfl, by decide +kernel, rfl, by decide +kernel, by decide +kernel⟩
abbrev s__law_cell_at : Stmt := topS 4
theorem sc__law_cell_at : FnScope ["_law_script", "_law_k"] ["_law_script", "_law_k"] (defScope s__law_cell_at) := ⟨rfl, rfl, rfl, by decide +kernel, rfl, by decide +kernel, by decide +kernel⟩
abbrev s__law_whole : Stmt := topS 5
theorem sc__law_whole : FnScope ["_law_found"] ["_law_found"] (defScope s__law_whole) := ⟨rfl, rfl, rfl, by decide +kernel, rfl, by decide +kernel, by decide +kernel⟩
abbrev s__law_mix : Stmt := topS 6
theorem sc__law_mix : FnScope ["_law_cell", "_law_k", "_law_x"] ["_law_cell", "_law_k"] (defScope s__law_mix) := ⟨rfl, rfl, rfl, by decide +kernel, rfl, by decide +kernel, by decide +kernel⟩
abbrev s__law_begun : Stmt := topS 7
theorem sc__law_begun : FnScope ["_law_cell"] ["_law_cell"] (defScope s__law_begun) := ⟨rfl, rfl, rfl, by decide +kernel, rfl, by decide +kernel, by decide +kernel⟩
abbrev s__law_take : Stmt := topS 8
theorem sc__law_take : FnScope ["_law_draw", "_law_most", "_law_found"] ["_law_draw", "_law_most"] (defScope s__law_take) := ⟨rfl, rfl, rfl, by decide +kernel, rfl, by decide +kernel, by decide +kernel⟩
abbrev s__law_tree : Stmt := topS 9
theorem sc__law_tree : FnScope ["_law_draw", "_law_many", "_law_rows", "_law_k", "_law_wish"] ["_law_draw", "_law_many"] (defScope s__law_tree) := ⟨rfl, rfl, rfl, by decide +kernel, rfl, by decide +kernel, by decide +kernel⟩
abbrev s__law_term : Stmt := topS 10
theorem sc__law_term : FnScope ["_law_tree_here", "_law_found", "_law_bough"] ["_law_tree_here"] (defScope s__law_term) := ⟨rfl, rfl, rfl, by decide +kernel, rfl, by decide +kernel, by decide +kernel⟩
abbrev s__law_copied : Stmt := topS 11
theorem sc__law_copied : FnScope ["_law_tree_here", "_law_bough"] ["_law_tree_here"] (defScope s__law_copied) := ⟨rfl, rfl, rfl, by decide +kernel, rfl, by decide +kernel, by decide +kernel⟩
abbrev s_law : Stmt := topS 12
theorem sc_law : FnScope ["_law_script", "_law_cell", "_law_draw", "_law_many", "_law_tree_here", "_law_beside"] ["_law_script"] (defScope s_law) := ⟨rfl, rfl, rfl, by decide +kernel, rfl, by decide +kernel, by decide +kernel⟩
/-- what the top has left -/
structure Txt (K : PySem.W.Frag) (mg : Str → Option Value) where
  a_term_of : Addr
  d_term_of : FuncData
  F_term_of : Fun K "term_of" "term_of" s_term_of a_term_of d_term_of
  g_term_of : mg "term_of" = some (.ref a_term_of)
  b_term_of : Binds K d_term_of ["tree"] []
  a_knots_of : Addr
  d_knots_of : FuncData
  F_knots_of : Fun K "knots_of" "knots_of" s_knots_of a_knots_of d_knots_of
  g_knots_of : mg "knots_of" = some (.ref a_knots_of)
  b_knots_of : Binds K d_knots_of ["tree"] []
  a__law_cell_at : Addr
  d__law_cell_at : FuncData
  F__law_cell_at : Fun K "_law_cell_at" "_law_cell_at" s__law_cell_at a__law_cell_at d__law_cell_at
  g__law_cell_at : mg "_law_cell_at" = some (.ref a__law_cell_at)
  b__law_cell_at : Binds K d__law_cell_at ["_law_script", "_law_k"] []
  a__law_whole : Addr
  d__law_whole : FuncData
  F__law_whole : Fun K "_law_whole" "_law_whole" s__law_whole a__law_whole d__law_whole
  g__law_whole : mg "_law_whole" = some (.ref a__law_whole)
  b__law_whole : Binds K d__law_whole ["_law_found"] []
  a__law_mix : Addr
  d__law_mix : FuncData
  F__law_mix : Fun K "_law_mix" "_law_mix" s__law_mix a__law_mix d__law_mix
  g__law_mix : mg "_law_mix" = some (.ref a__law_mix)
  b__law_mix : Binds K d__law_mix ["_law_cell", "_law_k"] []
  a__law_begun : Addr
  d__law_begun : FuncData
  F__law_begun : Fun K "_law_begun" "_law_begun" s__law_begun a__law_begun d__law_begun
  g__law_begun : mg "_law_begun" = some (.ref a__law_begun)
  b__law_begun : Binds K d__law_begun ["_law_cell"] []
  a__law_take : Addr
  d__law_take : FuncData
  F__law_take : Fun K "_law_take" "_law_take" s__law_take a__law_take d__law_take
  g__law_take : mg "_law_take" = some (.ref a__law_take)
  b__law_take : Binds K d__law_take ["_law_draw", "_law_most"] []
  a__law_tree : Addr
  d__law_tree : FuncData
  F__law_tree : Fun K "_law_tree" "_law_tree" s__law_tree a__law_tree d__law_tree
  g__law_tree : mg "_law_tree" = some (.ref a__law_tree)
  b__law_tree : Binds K d__law_tree ["_law_draw", "_law_many"] []
  a__law_term : Addr
  d__law_term : FuncData
  F__law_term : Fun K "_law_term" "_law_term" s__law_term a__law_term d__law_term
  g__law_term : mg "_law_term" = some (.ref a__law_term)
  b__law_term : Binds K d__law_term ["_law_tree_here"] []
  a__law_copied : Addr
  d__law_copied : FuncData
  F__law_copied : Fun K "_law_copied" "_law_copied" s__law_copied a__law_copied d__law_copied
  g__law_copied : mg "_law_copied" = some (.ref a__law_copied)
  b__law_copied : Binds K d__law_copied ["_law_tree_here"] []
  a_law : Addr
  d_law : FuncData
  F_law : Fun K "law" "law" s_law a_law d_law
  g_law : mg "law" = some (.ref a_law)
  b_law : Binds K d_law ["_law_script"] []
  n_bool : mg "bool" = none
  n_int : mg "int" = none
  n_isinstance : mg "isinstance" = none
  n_len : mg "len" = none
  n_range : mg "range" = none
  n_sum : mg "sum" = none
section
variable {P : Program} {w : World} {K : PySem.W.Frag} {mg : Str → Option Value} {base : Heap}
/-! ### trees.py -/
abbrev spTermN (K : PySem.W.Frag) (n : Nat) : Sp := sp0 K (fun t : Tr => [.dt (eTr t)]) (fun t => trDepth t ≤ n) (fun t => .dt (termD t))
theorem no_depth0 {t : Tr} (h : trDepth t ≤ 0) : False := by cases t; rw [trDepth] at h; omega
theorem wish_if {w0 : Option Int} {te : TE} {E : GE} {M : GM} (h1 : w0 = none → EE K te E M (.dt (hueD w0)) M) : w0 = none → EE K te E M (.dt (hueD w0)) M := h1
theorem ok_term_n (T : Txt K mg) : ∀ n, FnOk P w K mg base CX0 n T.a_term_of T.d_term_of ["tree"] (spTermN K n)
  | 0 => fn_never fun vs H Q E ⟨G, i, _, _, hp, _⟩ => no_depth0 hp
  | n + 1 =>
    have ih_term_of := ok_term_n T n
    fn0 T.F_term_of sc_term_of (fun _ => rfl) fun cdv R outer s H E hr => ⟨_, (pss_cons (ps_asg (pv 0) (pg_tup rfl (pgs_cons (pg_name (i := 1) sc_term_of.nd rfl (Or.inl rfl)) (pgs_cons (pg_name (i := 2) sc_term_of.nd rfl (Or.inl rfl)) pgs_nil))))
  (pss_cons (ps_set (i := 3) sc_term_of.nd rfl (Or.inl rfl) (pe_ifExp (pt_cmpR op_isN (pv 1) pe_non (nomark _)) (pe_tup (pa_cons pe_str pa_nil)) (pe_tup (pa_cons pe_str (pa_cons (pv 1) pa_nil)))))
  (pss_cons (ps_for PassesOwn.never rfl (pi_list (pv 2)) (pg_name (i := 4) sc_term_of.nd rfl (Or.inl rfl)) (pss_one (ps_set (i := 3) sc_term_of.nd rfl (Or.inl rfl) (pe_tup (pa_cons pe_str (pa_cons (pv 3) (pa_cons (pe_tup (pa_cons pe_str (pa_cons (pe_call ih_term_of hr (by rfl) T.g_term_of T.F_term_of.kp T.b_term_of .nil pass0 (pa_cons (pv 4) pa_nil)) pa_nil))) pa_nil)))))))
  (pss_one (ps_ret (pv 3)))))), fun t hd => by
    obtain ⟨w0, bs⟩ := t
    have hd : trDepth (.mk w0 bs) ≤ n + 1 := hd
    rw [trDepth] at hd
    have hb : ∀ b ∈ bs, trDepth b ≤ n := fun b hbm => Nat.le_trans (trDepths_mem hbm) (by omega)
    show Blk K _ (begin_ _ [.dt (eTr (.mk w0 bs))]) [] (ends0 (.dt (termD (.mk w0 bs))))
    rw [eTr_mk, termD]
    refine blk_seq (blk_asgT2 (ee_var rfl) ?_)
    refine bs_asg (g := .dt (hueD w0)) (M1 := []) ?_ ?_
    · cases w0 with
      | none => exact ee_if (b := true) (et_test (ee_op (ee_var rfl) ee_non is_none')) (fun _ => by walk_at "ek") (fun h => by cases h)
      | some c => exact ee_if (b := false) (et_test (ee_op (ee_var rfl) ee_non is_none')) (fun h => by cases h) (fun _ => by walk_at "ek")
    refine blk_mid (Mid := fun E' M' => ∃ x, E' = [some (.dt (.tuple [eWish w0, .list (bs.map eTr)])), some (.dt (eWish w0)), some (.dt (.list (bs.map eTr))), some (.dt (termDs (hueD w0) bs)), x] ∧ M' = []) ?_ ?_
    · refine blk_for (ei_list (ee_var rfl)) (fun i E' M' => ∃ x, E' = [some (.dt (.tuple [eWish w0, .list (bs.map eTr)])), some (.dt (eWish w0)), some (.dt (.list (bs.map eTr))), some (.dt (termDs (hueD w0) (bs.take i))), x] ∧ M' = []) ⟨none, rfl, rfl⟩ ?_ ?_
      · rintro i E1 N1 hi ⟨x, rfl, rfl⟩
        rw [List.length_map] at hi
        rw [getD_map eTr hi]
        refine blk_asg (g := .dt (bothD (termDs (hueD w0) (bs.take i)) (termD bs[i]))) (ee_tupU (ea_p3 ee_str (ee_var rfl) (ee_tupU (ea_p2 ee_str (ee_call0 bs[i] (ea_p1 (ee_var rfl)) (hb _ (List.getElem_mem hi)))) rfl (lenB rfl))) rfl (lenB rfl)) ?_
        rw [take_snoc hi, termDs_snoc]
        exact ⟨_, rfl, rfl⟩
      · rintro E1 N1 ⟨x, rfl, rfl⟩
        rw [List.length_map, List.take_length]
        exact ⟨_, rfl, rfl⟩
    · rintro E1 N1 ⟨x, rfl, rfl⟩
      exact blk_ret (ee_var rfl) (.inl rfl)⟩
theorem ok_term_of (T : Txt K mg) : FnOk P w K mg base CX0 32 T.a_term_of T.d_term_of ["tree"] (spTermN K 32) := ok_term_n T 32
theorem use_term_of {E : GE} {M M1 : GM} {tr : TA} {X : XK} {t : Tr} (h : EA K tr E M [.dt (eTr t)] M1) (hd : trDepth t ≤ 32) : EE K (tCall (spTermN K 32) [] X tr) E M (.dt (termD t)) M1 := ee_call0 t h hd
abbrev spKnotsN (K : PySem.W.Frag) (n : Nat) : Sp := sp0 K (fun t : Tr => [.dt (eTr t)]) (fun t => trDepth t ≤ n ∧ knots t ≤ 1000000) (fun t => .dt (.int (knots t : Int)))
theorem knots_mem {b : Tr} : ∀ {bs : List Tr}, b ∈ bs → knots b ≤ knotss bs
  | [], h => by cases h
  | c :: bs, h => by
    rw [knotss]
    rcases List.mem_cons.mp h with rfl | h
    · omega
    · have := knots_mem h; omega
theorem len_knotss : ∀ bs : List Tr, bs.length ≤ knotss bs
  | [] => Nat.zero_le _
  | b :: bs => by rw [knotss, List.length_cons]; have := knots_pos b; have := len_knotss bs; omega
theorem ok_knots_n (T : Txt K mg) : ∀ n, FnOk P w K mg base CX0 n T.a_knots_of T.d_knots_of ["tree"] (spKnotsN K n)
  | 0 => fn_never fun vs H Q E ⟨G, i, _, _, hp, _⟩ => no_depth0 hp.1
  | n + 1 =>
    have ih_knots_of := ok_knots_n T n
    fn0 T.F_knots_of sc_knots_of (fun _ => rfl) fun cdv R outer s H E hr => ⟨_, (pss_one (ps_ret (pe_op o_plus pe_int (pe_callB (cr_sum rfl) (by rfl) T.n_sum (by decide +kernel) (pa_cons (pe_lc (own := [("bough", 1)]) rfl sc_knots_of.nd (pi_list (pe_ix ix_seq (pv 0) pe_int (fun _ _ => rfl))) (blkOk_by (own := [("bough", 1)]) (N := ["tree", "bough"]) (sc := defScope s_knots_of) (by decide +kernel)) (fun _ _ _ _ _ => (pg_name (i := 1) sc_knots_of.nd rfl (Or.inl rfl))) (fun _ _ _ _ _ => pts_nil) (fun _ _ _ _ _ => (pe_call ih_knots_of hr (by rfl) T.g_knots_of T.F_knots_of.kp T.b_knots_of .nil pass0 (pa_cons (pv 1) pa_nil)))) pa_nil))))), fun t hd => by
    obtain ⟨w0, bs⟩ := t
    have hd1 : trDepth (.mk w0 bs) ≤ n + 1 := hd.1
    have hd2 : knots (.mk w0 bs) ≤ 1000000 := hd.2
    rw [trDepth] at hd1
    rw [knots] at hd2
    have hb : ∀ b ∈ bs, trDepth b ≤ n := fun b hbm => Nat.le_trans (trDepths_mem hbm) (by omega)
    have hk : ∀ b ∈ bs, knots b ≤ 1000000 := fun b hbm => Nat.le_trans (knots_mem hbm) (by omega)
    have hlen := len_knotss bs
    show Blk K _ (begin_ _ [.dt (eTr (.mk w0 bs))]) [] (ends0 (.dt (.int (knots (.mk w0 bs) : Int))))
    rw [eTr_mk]
    refine blk_ret (EE.eq (ee_op ee_int (ee_cb (ea_p1 (ee_fz (ds := (bs.map fun b => (knots b : Int)).map .int) (M1 := []) ?_)) l_sum) p_int) ?_) (.inl rfl)
    · refine ef_map (M1 := []) (fun i => .dt (.int (knots (bs.getD i (.mk none [])) : Int))) (ei_list (ds := bs.map eTr) (ee_op (ee_var rfl) ee_int (x_tup rfl))) (fun i hi => ?_) ?_ (by decide) ?_
      · rw [List.length_map] at hi
        rw [getD_map eTr hi, getD_of hi]
        exact ee_call0 bs[i] (ea_p1 (ee_var rfl)) ⟨hb _ (List.getElem_mem hi), hk _ (List.getElem_mem hi)⟩
      · rw [List.length_map, List.map_map, List.map_map]
        exact range_getD bs (.mk none []) (fun b => GV.dt (.int (knots b : Int)))
      · rw [List.length_map]; omega
    · have e := sum_cast (bs.map knots)
      rw [List.map_map] at e
      have e' : (bs.map fun b => (knots b : Int)).sum = ((knotss bs : Nat) : Int) := by rw [knotss_sum]; exact e
      rw [e', knots]
      congr 2
      omega⟩
theorem ok_knots_of (T : Txt K mg) : FnOk P w K mg base CX0 32 T.a_knots_of T.d_knots_of ["tree"] (spKnotsN K 32) := ok_knots_n T 32
abbrev spWhole (K : PySem.W.Frag) : Sp := sp0 K (fun i : Int => [.dt (.int i)]) (fun _ => True) (fun _ => .dt (.bool true))
theorem ok__law_whole (T : Txt K mg) : FnOk P w K mg base CX0 1 T.a__law_whole T.d__law_whole ["_law_found"] (spWhole K) :=
  fn0 T.F__law_whole sc__law_whole (fun _ => rfl) fun cdv R outer s H E hr => ⟨_, (pss_one (ps_ret (pe_and (pe_callB call_isi (by rfl) T.n_isinstance (by decide +kernel) (pa_cons (pv 0) (pa_cons (pe_bltn (v := .ty "int") (u := .type "int") (by rfl) T.n_int (by decide +kernel) rfl) pa_nil))) (pe_one (pe_not (pe_callB call_isi (by rfl) T.n_isinstance (by decide +kernel) (pa_cons (pv 0) (pa_cons (pe_bltn (v := .ty "bool") (u := .type "bool") (by rfl) T.n_bool (by decide +kernel) rfl) pa_nil)))))))), fun i _ => by
    refine blk_ret (EE.eq (by walk_at "ek") ?_) (.inl rfl)
    rfl⟩
theorem use_whole {E : GE} {M M1 : GM} {tr : TA} {X : XK} {i : Int} (h : EA K tr E M [.dt (.int i)] M1) : EE K (tCall (spWhole K) [] X tr) E M (.dt (.bool true)) M1 := ee_call0 i h trivial
local macro_rules | `(tactic| walk_at "ekc") => `(tactic| (refine' use_whole ?e1; (case e1 => walk_at "eka")))
/-! ### draws -/
abbrev spMix (K : PySem.W.Frag) : Sp := sp0 K (fun p : Int × Int => [.dt (.int p.1), .dt (.int p.2)]) (fun p => 0 ≤ p.2 ∧ p.2 < 1048576) (fun p => .dt (.int (mixM p.1 p.2)))
theorem ok__law_mix (T : Txt K mg) : FnOk P w K mg base CX0 1 T.a__law_mix T.d__law_mix ["_law_cell", "_law_k"] (spMix K) :=
  fn0 T.F__law_mix sc__law_mix (fun _ => rfl) fun cdv R outer s H E hr => ⟨_, (pss_cons (ps_set (i := 2) sc__law_mix.nd rfl (Or.inl rfl) (pe_op op_mod (pe_op o_plus (pe_op op_mod (pv 0) pe_int) (pe_op o_times pe_int (pv 1))) pe_int))
  (pss_cons (ps_set (i := 2) sc__law_mix.nd rfl (Or.inl rfl) (pe_op op_mod (pe_op o_plus (pe_op o_plus (pe_op o_plus (pe_op o_times (pv 2) (pv 2)) (pe_op o_times pe_int (pv 2))) (pe_op o_times (pe_op o_times (pv 1) (pv 1)) (pv 1))) pe_int) pe_int))
  (pss_one (ps_ret (pe_op op_mod (pe_op o_times (pv 2) (pv 2)) pe_int))))), fun (c, k) ⟨h1, h2⟩ => by
    have h1 : 0 ≤ k := h1
    have h2 : k < 1048576 := h2
    refine bs_asg (g := .dt (.int (mix1 c k))) (by walk_at "ek") ?_
    obtain ⟨a1, a2⟩ := mix1_rng c k
    have hkk : (k * k).natAbs < 2 ^ 40 := natAbs_mul_lt (n := 20) (m := 20) (by omega) (by omega)
    have hc : CMulW (k * k) k := mulW (m := 20) hkk (by omega) (by decide)
    refine bs_asg (g := .dt (.int (mix2 c k))) (M1 := []) ?_ ?_
    · unfold mix2
      generalize mix1 c k = x at *
      walk_at "ek"
    obtain ⟨b1, b2⟩ := mix2_rng c k
    refine blk_ret (g := .dt (.int (mixM c k))) (M1 := []) ?_ (.inl rfl)
    unfold mixM
    generalize mix2 c k = x at *
    walk_at "ek"⟩
theorem use_mix {E : GE} {M M1 : GM} {tr : TA} {X : XK} {c k : Int} (h : EA K tr E M [.dt (.int c), .dt (.int k)] M1) (h1 : 0 ≤ k) (h2 : k < 1048576) : EE K (tCall (spMix K) [] X tr) E M (.dt (.int (mixM c k))) M1 := ee_call0 (c, k) h ⟨h1, h2⟩
abbrev spBegun (K : PySem.W.Frag) : Sp := spF K (fun c : Int => [.dt (.int c)]) (fun _ => True) (fun c => [.dt (.int (begM c).a), .dt (.int (begM c).b), .dt (.int (begM c).c)])
theorem ok__law_begun (T : Txt K mg) : FnOk P w K mg base CX0 1 T.a__law_begun T.d__law_begun ["_law_cell"] (spBegun K) :=
  fnF T.F__law_begun sc__law_begun (fun _ => rfl) fun cdv R outer s H E hr => ⟨_, (pss_one (ps_ret (pe_lst (pa_cons (pe_op o_fdiv (pv 0) pe_int) (pa_cons (pe_op op_mod (pv 0) pe_int) (pa_cons (pv 0) pa_nil)))))), fun c _ => by
    exact blk_retF (by walk_at "ekf") (fun p => ⟨p, rfl, .head _⟩)⟩
theorem use_begun {E : GE} {M M1 : GM} {tr : TA} {X : XK} {c : Int} (h : EA K tr E M [.dt (.int c)] M1) : EF K (tCall (spBegun K) [] X tr) E M [.dt (.int (begM c).a), .dt (.int (begM c).b), .dt (.int (begM c).c)] M1 := ef_callF c h trivial
local macro_rules | `(tactic| walk_at "ekcF") => `(tactic| (refine' use_begun ?e1; (case e1 => walk_at "eka")))
abbrev spTake (K : PySem.W.Frag) : Sp := sp1 K (fun i : Addr × Dw × Int => [.rf i.1, .dt (.int i.2.2)]) (fun i => i.1) (fun i => dwO i.2.1) (fun i => DwOk 1000000 i.2.1 ∧ 0 < i.2.2 ∧ i.2.2 < 1048576) (fun i => dwO (takeM i.2.1 i.2.2).2) (fun i => .dt (.int (takeM i.2.1 i.2.2).1))
theorem ok__law_take (T : Txt K mg) : FnOk P w K mg base CX0 2 T.a__law_take T.d__law_take ["_law_draw", "_law_most"] (spTake K) :=
  fn1 T.F__law_take sc__law_take (fun _ => rfl) fun cdv R outer s H E hr => ⟨_, (pss_cons (ps_if (PW.pt (pw_and (pt_cmpR (op_eqD (hu64 hr)) (pe_ix ix_seq (pv 0) pe_int (fun _ _ => rfl)) pe_int (nomark _)) (pw_and1 (pt_cmpR (o_in (hu65 hr)) (pe_ix ix_seq (pv 0) pe_int (fun _ _ => rfl)) (pe_lst (pa_cons pe_int (pa_cons (pe_un un_neg pe_int) pa_nil))) (by rfl))))) (pss_cons (ps_asg pe_int (pg_sub (pv 0) pe_int set_list))
  (pss_one (ps_asg (pe_ix ix_seq (pv 0) pe_int (fun _ _ => rfl)) (pg_sub (pv 0) pe_int set_list)))) pss_nil)
  (pss_cons (ps_if (pt_cmpR (op_eqD (hu64 hr)) (pe_ix ix_seq (pv 0) pe_int (fun _ _ => rfl)) pe_int (nomark _)) (pss_cons (ps_set (i := 2) sc__law_take.nd rfl (Or.inl rfl) (pe_op op_mod (pe_ix ix_seq (pv 0) pe_int (fun _ _ => rfl)) (pv 1)))
  (pss_cons (ps_asg (pe_op o_fdiv (pe_ix ix_seq (pv 0) pe_int (fun _ _ => rfl)) (pv 1)) (pg_sub (pv 0) pe_int set_list))
  (pss_one (ps_ret (pv 2))))) pss_nil)
  (pss_cons (ps_asg (pe_op o_plus (pe_ix ix_seq (pv 0) pe_int (fun _ _ => rfl)) pe_int) (pg_sub (pv 0) pe_int set_list))
  (pss_one (ps_ret (pe_op op_mod (pe_call (ok__law_mix T) (hr.mono (by omega)) (by rfl) T.g__law_mix T.F__law_mix.kp T.b__law_mix .nil pass0 (pa_cons (pe_ix ix_seq (pv 0) pe_int (fun _ _ => rfl)) (pa_cons (pe_ix ix_seq (pv 0) pe_int (fun _ _ => rfl)) pa_nil))) (pv 1))))))), fun (p, dw, m) ⟨h0, h1, h2⟩ => by
    have h0 : DwOk 1000000 dw := h0
    have h1 : 0 < m := h1
    have h2 : m < 1048576 := h2
    have hml : m.natAbs.log2 < 9000 := log2S (by omega)
    refine blk_mid (Mid := fun E' M' => E' = [some (.rf p), some (.dt (.int m)), none] ∧ M' = [(p, false, dwO (takeS dw))]) ?_ ?_
    · refine blk_when (b := decide (dw.b = 0) && decide (dw.a = 0 ∨ dw.a = -1)) (et_and (et_test (ee_op (ee_op (ee_var rfl) ee_int (x_own (.head _) rfl)) ee_int eq_int')) fun _ => et_test (EE.eq (ee_op (ee_op (ee_var rfl) ee_int (x_own (.head _) rfl)) (y := .dt (.list [.int 0, .int (-1)])) (by walk_at "ek") (i_dataU rfl rfl)) (by rw [in_two]))) (fun h => ?_) (fun h => ?_)
      · rw [Bool.and_eq_true] at h
        have e : takeS dw = ⟨dw.c, 1, dw.c⟩ := by unfold takeS; rw [if_pos ⟨of_decide_eq_true h.1, of_decide_eq_true h.2⟩]
        rw [e]
        refine blk_seq (blk_setL (j := 0) (n0 := 1) (by walk_at "ek") (ee_var rfl) ee_int rfl rfl ?_)
        exact blk_setL (j := 0) (n0 := 0) (g := .dt (.int dw.c)) (ee_op (ee_var rfl) ee_int (x_own (.head _) rfl)) (ee_var rfl) ee_int rfl rfl ⟨rfl, rfl⟩
      · have e : takeS dw = dw := by
          unfold takeS
          rw [if_neg]
          rintro ⟨z1, z2⟩
          rw [decide_eq_true z1, decide_eq_true z2] at h; cases h
        rw [e]
        exact ⟨rfl, rfl⟩
    · rintro E1 N1 ⟨rfl, rfl⟩
      have h0' := takeS_ok h0
      have em : takeM dw m = if (takeS dw).b = 0 then ((takeS dw).a % m, ⟨(takeS dw).a / m, (takeS dw).b, (takeS dw).c⟩) else (mixM (takeS dw).a ((takeS dw).b + 1) % m, ⟨(takeS dw).a, (takeS dw).b + 1, (takeS dw).c⟩) := rfl
      generalize takeS dw = d at h0' em ⊢
      obtain ⟨k1, k2⟩ := h0'
      refine bs_when (et_test (ee_op (ee_op (ee_var rfl) ee_int (x_own (.head _) rfl)) ee_int eq_int')) (fun h => ?_) (fun h => ?_)
      · rw [if_pos (of_decide_eq_true h)] at em
        refine bs_asg (g := .dt (.int (d.a % m))) (ee_op (ee_op (ee_var rfl) ee_int (x_own (.head _) rfl)) (ee_var rfl) (m_int h1)) ?_
        refine blk_seq (blk_setL (j := 0) (n0 := 0) (g := .dt (.int (d.a / m))) (ee_op (ee_op (ee_var rfl) ee_int (x_own (.head _) rfl)) (ee_var rfl) (d_pos ⟨h1, hml⟩)) (ee_var rfl) ee_int rfl rfl ?_)
        refine blk_ret (ee_var rfl) ?_
        show rt0 (.dt (.int (takeM dw m).1)) _ _ ∧ _
        rw [em]
        exact ⟨.inl rfl, .head _⟩
      · rw [if_neg (of_decide_eq_false h)] at em
        refine blk_seq (blk_setL (j := 0) (n0 := 1) (g := .dt (.int (d.b + 1))) (ee_op (ee_op (ee_var rfl) ee_int (x_own (.head _) rfl)) ee_int p_int) (ee_var rfl) ee_int rfl rfl ?_)
        refine blk_ret (g := .dt (.int (mixM d.a (d.b + 1) % m))) (ee_op (use_mix (ea_p2 (ee_op (ee_var rfl) ee_int (x_own (.head _) rfl)) (ee_op (ee_var rfl) ee_int (x_own (.head _) rfl))) (by omega) (by omega)) (ee_var rfl) (m_int h1)) ?_
        show rt0 (.dt (.int (takeM dw m).1)) _ _ ∧ _
        rw [em]
        exact ⟨.inl rfl, .head _⟩⟩
theorem use_take {E : GE} {M M1 M2 : GM} {tr : TA} {X : XK} {p : Addr} {fl : Bool} {dw : Dw} {m : Int} {j : Nat} (h : EA K tr E M [.rf p, .dt (.int m)] M1) (hj : M1[j]? = some (p, fl, dwO dw)) (h0 : DwOk 1000000 dw) (h1 : 0 < m) (h2 : m < 1048576) (hM : M1.set j (p, fl, dwO (takeM dw m).2) = M2 := by rfl) :
    EE K (tCall (spTake K) [] X tr) E M (.dt (.int (takeM dw m).1)) M2 := ee_call1 (p, dw, m) h ⟨h0, h1, h2⟩ hj rfl hM
/-! ### a drawn tree -/
abbrev Ti := Addr × Dw × Nat × Nat
abbrev spTree (K : PySem.W.Frag) : Sp := spN1 K (fun i : Ti => [.rf i.1, .dt (.int (i.2.2.1 : Int))]) (fun i => i.1) (fun i => dwO i.2.1) (fun i => 1 ≤ i.2.2.1 ∧ i.2.2.1 ≤ 16 ∧ i.2.2.2 ≤ 900000 ∧ DwOk i.2.2.2 i.2.1)
  (fun i (r : Dw × Tr) => DwOk (i.2.2.2 + 40) r.1 ∧ knots r.2 = i.2.2.1 ∧ TrOk r.2) (fun _ r => dwO r.1) (fun _ _ => []) (fun _ r => .dt (eTr r.2))
theorem wish_six {r : Int} (h0 : 0 ≤ r) (h1 : r < 6) : ∃ w0 : Option Int, [PyData.none, .int 0, .int 1, .none, .int 7, .none].getD r.toNat .none = eWish w0 ∧ (w0 = none ∨ w0 = some 0 ∨ w0 = some 1 ∨ w0 = some 7) := by
  have : r = 0 ∨ r = 1 ∨ r = 2 ∨ r = 3 ∨ r = 4 ∨ r = 5 := by omega
  rcases this with rfl | rfl | rfl | rfl | rfl | rfl
  · exact ⟨none, rfl, .inl rfl⟩
  · exact ⟨some 0, rfl, .inr (.inl rfl)⟩
  · exact ⟨some 1, rfl, .inr (.inr (.inl rfl))⟩
  · exact ⟨none, rfl, .inl rfl⟩
  · exact ⟨some 7, rfl, .inr (.inr (.inr rfl))⟩
  · exact ⟨none, rfl, .inl rfl⟩
theorem ok__law_tree (T : Txt K mg) : FnOk P w K mg base CX0 3 T.a__law_tree T.d__law_tree ["_law_draw", "_law_many"] (spTree K) :=
  fnN1 T.F__law_tree sc__law_tree (fun _ => rfl) fun cdv R outer s H E hr => ⟨_, (pss_cons (ps_set (i := 2) sc__law_tree.nd rfl (Or.inl rfl) (pe_lst pa_nil))
  (pss_cons (ps_for PassesOwn.never rfl (pi_range1 (by rfl) T.n_range (pa_cons (pv 1) pa_nil)) (pg_name (i := 3) sc__law_tree.nd rfl (Or.inl rfl)) (pss_cons (ps_set (i := 4) sc__law_tree.nd rfl (Or.inl rfl) (pe_ix ix_seq (pe_lst (pa_cons pe_non (pa_cons pe_int (pa_cons pe_int (pa_cons pe_non (pa_cons pe_int (pa_cons pe_non pa_nil))))))) (pe_call (ok__law_take T) (hr.mono (by omega)) (by rfl) T.g__law_take T.F__law_take.kp T.b__law_take .nil pass0 (pa_cons (pv 0) (pa_cons pe_int pa_nil))) (fun _ _ => rfl)))
  (pss_one (ps_expr (pe_bm PySem.F.plainAttrs_list PySem.F.slot_list_append PySem.F.type_list_append mt_append (pv 2) (pa_cons (pe_tup (pa_cons (pv 4) (pa_cons (pe_lst pa_nil) pa_nil))) pa_nil))))))
  (pss_cons (ps_for PassesOwn.never rfl (pi_range2 (by rfl) T.n_range (pa_cons pe_int (pa_cons (pv 1) pa_nil))) (pg_name (i := 3) sc__law_tree.nd rfl (Or.inl rfl)) (pss_one (ps_expr (pe_bm PySem.F.plainAttrs_list PySem.F.slot_list_append PySem.F.type_list_append mt_append (pe_ix ix_seq (pe_ix ix_seq (pv 2) (pe_call (ok__law_take T) (hr.mono (by omega)) (by rfl) T.g__law_take T.F__law_take.kp T.b__law_take .nil pass0 (pa_cons (pv 0) (pa_cons (pv 3) pa_nil))) (fun _ _ => rfl)) pe_int (fun _ _ => rfl)) (pa_cons (pe_ix ix_seq (pv 2) (pv 3) (fun _ _ => rfl)) pa_nil)))))
  (pss_one (ps_ret (pe_ix ix_seq (pv 2) pe_int (fun _ _ => rfl))))))), fun (p, dw, m, n) ⟨h1, h2, h3, h4⟩ => by
    have h1 : 1 ≤ m := h1
    have h2 : m ≤ 16 := h2
    have h3 : n ≤ 900000 := h3
    have h4 : DwOk n dw := h4
    refine bs_asgF (xs := []) (M1 := [(p, false, dwO dw)]) (by walk_at "ekf") (fun r => ?_)
    refine blk_mid (Mid := fun E' M' => ∃ x y ts bs ws d, E' = [some (.rf p), some (.dt (.int (m : Int))), some (.rf r), x, y] ∧ DwOk (n + m) d ∧ (∀ i, ws i = none ∨ ws i = some 0 ∨ ws i = some 1 ∨ ws i = some 7) ∧ M'.Perm ((r, true, .lst ((List.range m).map fun c => .rf (ts c))) :: (p, false, dwO d) :: (tCells ts bs ws m ++ bCells ts bs (fun _ => 0) m 1))) ?_ ?_
    · refine blk_for (ei_range1 (by walk_at "eka") (by omega) (by omega)) (fun i E' M' => ∃ x y ts bs ws d, E' = [some (.rf p), some (.dt (.int (m : Int))), some (.rf r), x, y] ∧ DwOk (n + i) d ∧ (∀ i, ws i = none ∨ ws i = some 0 ∨ ws i = some 1 ∨ ws i = some 7) ∧ M'.Perm ((r, true, .lst ((List.range i).map fun c => .rf (ts c))) :: (p, false, dwO d) :: (tCells ts bs ws i ++ bCells ts bs (fun _ => 0) i 1))) ?_ ?_ ?_
      · exact ⟨none, none, fun _ => 0, fun _ => 0, fun _ => none, dw, rfl, h4, fun _ => .inl rfl, .refl _⟩
      · rintro i E1 N1 hi ⟨x, y, ts, bs, ws, d, rfl, hd, hw, hperm⟩
        refine blk_perm ?_ hperm
        have hd1 : DwOk 1000000 d := hd.mono (by omega)
        obtain ⟨r0, r1⟩ := takeM_rng d (m := 6) (by decide)
        obtain ⟨w0, hw0, hw1⟩ := wish_six r0 r1
        refine bs_asg (g := .dt (eWish w0)) (M1 := (r, true, .lst ((List.range i).map fun c => .rf (ts c))) :: (p, false, dwO (takeM d 6).2) :: (tCells ts bs ws i ++ bCells ts bs (fun _ => 0) i 1)) ?_ ?_
        · refine ee_op (ee_fzU (ds := [PyData.none, .int 0, .int 1, .none, .int 7, .none]) (by walk_at "ekf") rfl) (use_take (j := 1) (fl := false) (p := p) (by walk_at "eka") rfl hd1 (by decide) (by decide)) (x_list ?_)
          rw [← hw0]
          exact atI_getD r0 r1
        refine blk_app' (ee_var rfl) (seq_of_mem (fl := true) (.head _)) (ex_pairNew (ee_var rfl)) ?_
        rintro g M1 ⟨t, b, rfl, rfl⟩
        refine ⟨2, true, _, rfl, by rw [List.length_map, List.length_range, sizeLine_eq]; omega, ?_⟩
        refine ⟨_, _, fun c => if c = i then t else ts c, fun c => if c = i then b else bs c, fun c => if c = i then w0 else ws c, (takeM d 6).2, rfl, by have := takeM_ok 6 hd; exact this.mono (by omega), fun c => ?_, ?_⟩
        · by_cases hc : c = i
          · simp only [if_pos hc]; exact hw1
          · simp only [if_neg hc]; exact hw c
        · refine List.Perm.trans (perm_node _ _ _ _ _ _) ?_
          have e1 : (List.range i).map (fun c => GV.rf (if c = i then t else ts c)) = (List.range i).map fun c => .rf (ts c) := List.map_congr_left fun c hc => by rw [List.mem_range] at hc; rw [if_neg (by omega)]
          have e2 : (List.range i).map (fun c => ((if c = i then t else ts c), true, GO.tup [.dt (eWish (if c = i then w0 else ws c)), .rf (if c = i then b else bs c)])) = tCells ts bs ws i := List.map_congr_left fun c hc => by rw [List.mem_range] at hc; rw [if_neg (by omega), if_neg (by omega), if_neg (by omega)]
          have e3 : (List.range i).map (fun c => ((if c = i then b else bs c), true, GO.lst ((kidsTo (fun _ => 0) 1 c).map fun x => GV.rf (if x = i then t else ts x)))) = bCells ts bs (fun _ => 0) i 1 := List.map_congr_left fun c hc => by rw [List.mem_range] at hc; rw [if_neg (by omega), kids_one]; rfl
          have f1 : (List.range (i + 1)).map (fun c => GV.rf (if c = i then t else ts c)) = (List.range i).map (fun c => .rf (ts c)) ++ [.rf t] := by rw [List.range_succ, List.map_append, e1]; simp
          have f2 : tCells (fun c => if c = i then t else ts c) (fun c => if c = i then b else bs c) (fun c => if c = i then w0 else ws c) (i + 1) = tCells ts bs ws i ++ [(t, true, .tup [.dt (eWish w0), .rf b])] := by
            unfold tCells
            rw [List.range_succ, List.map_append, e2]; simp
          have f3 : bCells (fun c => if c = i then t else ts c) (fun c => if c = i then b else bs c) (fun _ => 0) (i + 1) 1 = bCells ts bs (fun _ => 0) i 1 ++ [(b, true, .lst [])] := by
            unfold bCells
            rw [List.range_succ, List.map_append, e3]; simp [kids_one]
          rw [f1, f2, f3]
      · rintro E1 N1 ⟨x, y, ts, bs, ws, d, rfl, hd, hw, hperm⟩
        rw [Int.toNat_natCast] at hd hperm
        exact ⟨x, y, ts, bs, ws, d, rfl, hd, hw, hperm⟩
    · rintro E1 N1 ⟨x, y, ts, bs, ws, d, rfl, hd, hw, hperm⟩
      refine blk_mid (Mid := fun E' M' => ∃ x par d, E' = [some (.rf p), some (.dt (.int (m : Int))), some (.rf r), x, y] ∧ DwOk (n + m + m) d ∧ (∀ c, 1 ≤ c → c < m → par c < c) ∧ M'.Perm ((r, true, .lst ((List.range m).map fun c => .rf (ts c))) :: (p, false, dwO d) :: (tCells ts bs ws m ++ bCells ts bs par m m))) ?_ ?_
      · refine blk_for (ei_range2 (lo := 1) (by walk_at "eka") (by omega)) (fun i E' M' => ∃ x par d, E' = [some (.rf p), some (.dt (.int (m : Int))), some (.rf r), x, y] ∧ DwOk (n + m + i) d ∧ (∀ c, 1 ≤ c → c < i + 1 → par c < c) ∧ M'.Perm ((r, true, .lst ((List.range m).map fun c => .rf (ts c))) :: (p, false, dwO d) :: (tCells ts bs ws m ++ bCells ts bs par m (i + 1)))) ?_ ?_ ?_
        · exact ⟨x, fun _ => 0, d, rfl, hd, fun c k1 k2 => by omega, hperm⟩
        · rintro i E1 N1 hi ⟨x, par, d, rfl, hd, hpar, hperm⟩
          refine blk_perm ?_ hperm
          have hd1 : DwOk 1000000 d := hd.mono (by omega)
          have him : i + 1 < m := by omega
          have ek : (1 : Int) + (i : Int) = ((i + 1 : Nat) : Int) := by omega
          rw [ek]
          obtain ⟨r0, r1⟩ := takeM_rng d (m := ((i + 1 : Nat) : Int)) (by omega)
          have hd2 := takeM_ok ((i + 1 : Nat) : Int) hd
          have htake : ∀ {tr : TA} {X : XK} {E : GE} {M : GM}, EA K tr E M [.rf p, .dt (.int ((i + 1 : Nat) : Int))] M → M = (r, true, .lst ((List.range m).map fun c => .rf (ts c))) :: (p, false, dwO d) :: (tCells ts bs ws m ++ bCells ts bs par m (i + 1)) → EE K (tCall (spTake K) [] X tr) E M (.dt (.int (takeM d ((i + 1 : Nat) : Int)).1)) ((r, true, .lst ((List.range m).map fun c => .rf (ts c))) :: (p, false, dwO (takeM d ((i + 1 : Nat) : Int)).2) :: (tCells ts bs ws m ++ bCells ts bs par m (i + 1))) := fun {tr X E M} h e => by
            subst e
            exact use_take (j := 1) (fl := false) h rfl hd1 (by omega) (by omega)
          generalize takeM d ((i + 1 : Nat) : Int) = tk at r0 r1 hd2 htake
          obtain ⟨j, hj⟩ : ∃ j : Nat, tk.1 = (j : Int) := ⟨tk.1.toNat, by omega⟩
          have hjm : j < i + 1 := by omega
          have mt : (ts j, true, GO.tup [.dt (eWish (ws j)), .rf (bs j)]) ∈ ((r, true, GO.lst ((List.range m).map fun c => .rf (ts c))) :: (p, false, dwO tk.2) :: (tCells ts bs ws m ++ bCells ts bs par m (i + 1)) : GM) := .tail _ (.tail _ (List.mem_append_left _ (List.mem_map.mpr ⟨j, List.mem_range.mpr (by omega), rfl⟩)))
          have mb : (bs j, true, GO.lst ((kidsTo par (i + 1) j).map fun x => GV.rf (ts x))) ∈ ((r, true, GO.lst ((List.range m).map fun c => .rf (ts c))) :: (p, false, dwO tk.2) :: (tCells ts bs ws m ++ bCells ts bs par m (i + 1)) : GM) := .tail _ (.tail _ (List.mem_append_right _ (List.mem_map.mpr ⟨j, List.mem_range.mpr (by omega), rfl⟩)))
          refine blk_app' (p := bs j) (M0 := (r, true, .lst ((List.range m).map fun c => .rf (ts c))) :: (p, false, dwO tk.2) :: (tCells ts bs ws m ++ bCells ts bs par m (i + 1))) ?_ (seq_of_mem mb) (EE.ex (g := .rf (ts (i + 1))) (M1 := (r, true, .lst ((List.range m).map fun c => .rf (ts c))) :: (p, false, dwO tk.2) :: (tCells ts bs ws m ++ bCells ts bs par m (i + 1))) (F := fun g M' => g = .rf (ts (i + 1)) ∧ M' = (r, true, .lst ((List.range m).map fun c => .rf (ts c))) :: (p, false, dwO tk.2) :: (tCells ts bs ws m ++ bCells ts bs par m (i + 1))) ?_ ⟨rfl, rfl⟩) ?_
          · refine ee_op (ee_op (ee_var rfl) (htake (by walk_at "eka") rfl) (x_own (g := .rf (ts j)) (.head _) ?_)) ee_int (x_ownT mt rfl)
            rw [hj]
            exact atI_nat (getElem_range_map _ (by omega))
          · exact ee_op (ee_var rfl) (ee_var rfl) (x_own (.head _) (atI_nat (getElem_range_map _ him)))
          · rintro g M1 ⟨rfl, rfl⟩
            have eg : ((r, true, GO.lst ((List.range m).map fun c => .rf (ts c))) :: (p, false, dwO tk.2) :: (tCells ts bs ws m ++ bCells ts bs par m (i + 1)) : GM)[2 + m + j]? = some (bs j, true, .lst ((kidsTo par (i + 1) j).map fun x => GV.rf (ts x))) := by
              rw [show 2 + m + j = (m + j) + 1 + 1 by omega, List.getElem?_cons_succ, List.getElem?_cons_succ, List.getElem?_append_right (by rw [List.length_map, List.length_range]; omega), List.length_map, List.length_range, show m + j - m = j by omega]
              exact getElem_range_map _ (by omega)
            refine ⟨2 + m + j, true, _, eg, ?_, ?_⟩
            · rw [List.length_map]
              unfold kidsTo
              have := List.length_filter_le (fun c => decide (1 ≤ c ∧ par c = j)) (List.range (i + 1))
              rw [List.length_range] at this
              rw [sizeLine_eq]; omega
            · refine ⟨_, fun c => if c = i + 1 then j else par c, tk.2, rfl, hd2.mono (by omega), fun c k1 k2 => ?_, ?_⟩
              · show (if c = i + 1 then j else par c) < c
                split
                · omega
                · exact hpar c k1 (by omega)
              · have es : ((r, true, GO.lst ((List.range m).map fun c => .rf (ts c))) :: (p, false, dwO tk.2) :: (tCells ts bs ws m ++ bCells ts bs par m (i + 1)) : GM).set (2 + m + j) (bs j, true, .lst ((kidsTo par (i + 1) j).map (fun x => GV.rf (ts x)) ++ [.rf (ts (i + 1))])) = (r, true, GO.lst ((List.range m).map fun c => .rf (ts c))) :: (p, false, dwO tk.2) :: (tCells ts bs ws m ++ bCells ts bs (fun c => if c = i + 1 then j else par c) m (i + 1 + 1)) := by
                  have el : (tCells ts bs ws m).length = m := by rw [List.length_map, List.length_range]
                  rw [show 2 + m + j = ((tCells ts bs ws m).length + j) + 1 + 1 by omega, List.set_cons_succ, List.set_cons_succ, set_app, set_range]
                  congr 3
                  refine List.map_congr_left fun c _ => ?_
                  rw [kids_succ par (by omega)]
                  by_cases hc : c = j
                  · subst hc; rw [if_pos rfl, if_pos rfl, List.map_append]; rfl
                  · rw [if_neg hc, if_neg hc, List.append_nil]
                rw [es]
        · rintro E1 N1 ⟨x, par, d, rfl, hd, hpar, hperm⟩
          have e : ((m : Int) - 1).toNat = m - 1 := by omega
          rw [e] at hd hpar hperm
          rw [show m - 1 + 1 = m by omega] at hpar hperm
          exact ⟨x, par, d, rfl, hd.mono (by omega), hpar, hperm⟩
      · rintro E1 N1 ⟨x, par, d, rfl, hd, hpar, hperm⟩
        refine blk_perm ?_ hperm
        refine blk_ret (g := .rf (ts 0)) (ee_op (ee_var rfl) ee_int (x_own (.head _) (atI_nat (j := 0) (getElem_range_map _ (by omega))))) ?_
        refine ⟨(d, treeF m par ws m 0), ⟨(show DwOk (n + 40) d from hd.mono (by omega)), knots_treeF hpar (by omega), treeF_ok hw m 0⟩, fun c hc => ?_, .inr ⟨rfl, _, tCells ts bs ws m ++ bCells ts bs par m m, rfl, tree_reads hpar ts bs m 0 (by omega) (by omega), fun c hc => ?_⟩⟩
        · rcases List.mem_cons.mp hc with rfl | hc
          · exact .tail _ (.head _)
          · cases hc
        · refine ⟨.tail _ (.tail _ hc), ?_⟩
          rcases List.mem_append.mp hc with hc | hc
          · obtain ⟨_, _, rfl⟩ := List.mem_map.mp hc; rfl
          · obtain ⟨_, _, rfl⟩ := List.mem_map.mp hc; rfl⟩
theorem ok_lawterm_n (T : Txt K mg) : ∀ n, FnOk P w K mg base CX0 n T.a__law_term T.d__law_term ["_law_tree_here"] (spTermN K n)
  | 0 => fn_never fun vs H Q E ⟨G, i, _, _, hp, _⟩ => no_depth0 hp
  | n + 1 =>
    have ih__law_term := ok_lawterm_n T n
    fn0 T.F__law_term sc__law_term (fun _ => rfl) fun cdv R outer s H E hr => ⟨_, (pss_cons (ps_set (i := 1) sc__law_term.nd rfl (Or.inl rfl) (pe_tup (pa_cons pe_str pa_nil)))
  (pss_cons (ps_if (pt_cmpR op_notN (pe_ix ix_seq (pv 0) pe_int (fun _ _ => rfl)) pe_non (nomark _)) (pss_one (ps_set (i := 1) sc__law_term.nd rfl (Or.inl rfl) (pe_tup (pa_cons pe_str (pa_cons (pe_ix ix_seq (pv 0) pe_int (fun _ _ => rfl)) pa_nil))))) pss_nil)
  (pss_cons (ps_for PassesOwn.never rfl (pi_list (pe_ix ix_seq (pv 0) pe_int (fun _ _ => rfl))) (pg_name (i := 2) sc__law_term.nd rfl (Or.inl rfl)) (pss_one (ps_set (i := 1) sc__law_term.nd rfl (Or.inl rfl) (pe_tup (pa_cons pe_str (pa_cons (pv 1) (pa_cons (pe_tup (pa_cons pe_str (pa_cons (pe_call ih__law_term hr (by rfl) T.g__law_term T.F__law_term.kp T.b__law_term .nil pass0 (pa_cons (pv 2) pa_nil)) pa_nil))) pa_nil)))))))
  (pss_one (ps_ret (pv 1)))))), fun t hd => by
    obtain ⟨w0, bs⟩ := t
    have hd : trDepth (.mk w0 bs) ≤ n + 1 := hd
    rw [trDepth] at hd
    have hb : ∀ b ∈ bs, trDepth b ≤ n := fun b hbm => Nat.le_trans (trDepths_mem hbm) (by omega)
    show Blk K _ (begin_ _ [.dt (eTr (.mk w0 bs))]) [] (ends0 (.dt (termD (.mk w0 bs))))
    rw [eTr_mk, termD]
    refine bs_asg (g := .dt (.tuple [dS "one"])) (M1 := []) (ee_tupU (ea_p1 ee_str) rfl (lenB rfl)) ?_
    refine blk_mid (Mid := fun E' M' => E' = [some (.dt (.tuple [eWish w0, .list (bs.map eTr)])), some (.dt (hueD w0)), none] ∧ M' = []) ?_ ?_
    · cases w0 with
      | none => exact blk_when (b := false) (et_test (ee_op (ee_op (ee_var rfl) ee_int (x_tup rfl)) ee_non isnt_none')) (fun h => by cases h) (fun _ => ⟨rfl, rfl⟩)
      | some c => exact blk_when (b := true) (et_test (ee_op (ee_op (ee_var rfl) ee_int (x_tup rfl)) ee_non isnt_none')) (fun _ => blk_asg (ee_tupU (ea_p2 ee_str (ee_op (ee_var rfl) ee_int (x_tup rfl))) rfl (lenB rfl)) ⟨rfl, rfl⟩) (fun h => by cases h)
    rintro E0 N0 ⟨rfl, rfl⟩
    refine blk_mid (Mid := fun E' M' => ∃ x, E' = [some (.dt (.tuple [eWish w0, .list (bs.map eTr)])), some (.dt (termDs (hueD w0) bs)), x] ∧ M' = []) ?_ ?_
    · refine blk_for (ei_list (ds := bs.map eTr) (ee_op (ee_var rfl) ee_int (x_tup rfl))) (fun i E' M' => ∃ x, E' = [some (.dt (.tuple [eWish w0, .list (bs.map eTr)])), some (.dt (termDs (hueD w0) (bs.take i))), x] ∧ M' = []) ⟨none, rfl, rfl⟩ ?_ ?_
      · rintro i E1 N1 hi ⟨x, rfl, rfl⟩
        rw [List.length_map] at hi
        rw [getD_map eTr hi]
        refine blk_asg (g := .dt (bothD (termDs (hueD w0) (bs.take i)) (termD bs[i]))) (ee_tupU (ea_p3 ee_str (ee_var rfl) (ee_tupU (ea_p2 ee_str (ee_call0 bs[i] (ea_p1 (ee_var rfl)) (hb _ (List.getElem_mem hi)))) rfl (lenB rfl))) rfl (lenB rfl)) ?_
        rw [take_snoc hi, termDs_snoc]
        exact ⟨_, rfl, rfl⟩
      · rintro E1 N1 ⟨x, rfl, rfl⟩
        rw [List.length_map, List.take_length]
        exact ⟨_, rfl, rfl⟩
    · rintro E1 N1 ⟨x, rfl, rfl⟩
      exact blk_ret (ee_var rfl) (.inl rfl)⟩
theorem ok__law_term (T : Txt K mg) : FnOk P w K mg base CX0 32 T.a__law_term T.d__law_term ["_law_tree_here"] (spTermN K 32) := ok_lawterm_n T 32
abbrev spCopyN (K : PySem.W.Frag) (n : Nat) : Sp := sp0 K (fun t : Tr => [.dt (eTr t)]) (fun t => trDepth t ≤ n ∧ knots t ≤ 1000000) (fun t => .dt (eTr t))
theorem ok_copied_n (T : Txt K mg) : ∀ n, FnOk P w K mg base CX0 n T.a__law_copied T.d__law_copied ["_law_tree_here"] (spCopyN K n)
  | 0 => fn_never fun vs H Q E ⟨G, i, _, _, hp, _⟩ => no_depth0 hp.1
  | n + 1 =>
    have ih__law_copied := ok_copied_n T n
    fn0 T.F__law_copied sc__law_copied (fun _ => rfl) fun cdv R outer s H E hr => ⟨_, (pss_one (ps_ret (pe_tup (pa_cons (pe_ix ix_seq (pv 0) pe_int (fun _ _ => rfl)) (pa_cons (pe_lc (own := [("_law_bough", 1)]) rfl sc__law_copied.nd (pi_list (pe_ix ix_seq (pv 0) pe_int (fun _ _ => rfl))) (blkOk_by (own := [("_law_bough", 1)]) (N := ["_law_tree_here", "_law_bough"]) (sc := defScope s__law_copied) (by decide +kernel)) (fun _ _ _ _ _ => (pg_name (i := 1) sc__law_copied.nd rfl (Or.inl rfl))) (fun _ _ _ _ _ => pts_nil) (fun _ _ _ _ _ => (pe_call ih__law_copied hr (by rfl) T.g__law_copied T.F__law_copied.kp T.b__law_copied .nil pass0 (pa_cons (pv 1) pa_nil)))) pa_nil))))), fun t hd => by
    obtain ⟨w0, bs⟩ := t
    have hd1 : trDepth (.mk w0 bs) ≤ n + 1 := hd.1
    have hd2 : knots (.mk w0 bs) ≤ 1000000 := hd.2
    rw [trDepth] at hd1
    rw [knots] at hd2
    have hb : ∀ b ∈ bs, trDepth b ≤ n := fun b hbm => Nat.le_trans (trDepths_mem hbm) (by omega)
    have hk : ∀ b ∈ bs, knots b ≤ 1000000 := fun b hbm => Nat.le_trans (knots_mem hbm) (by omega)
    have hlen := len_knotss bs
    show Blk K _ (begin_ _ [.dt (eTr (.mk w0 bs))]) [] (ends0 (.dt (eTr (.mk w0 bs))))
    rw [eTr_mk]
    refine blk_ret (g := .dt (.tuple [eWish w0, .list (bs.map eTr)])) (M1 := []) (ee_tupU (ea_p2 (ee_op (ee_var rfl) ee_int (x_tup rfl)) (ee_fz (ds := bs.map eTr) ?_)) rfl (lenB rfl)) (.inl rfl)
    refine ef_map (M1 := []) (fun i => .dt (eTr (bs.getD i (.mk none [])))) (ei_list (ds := bs.map eTr) (ee_op (ee_var rfl) ee_int (x_tup rfl))) (fun i hi => ?_) ?_ (by decide) ?_
    · rw [List.length_map] at hi
      rw [getD_map eTr hi, getD_of hi]
      exact ee_call0 bs[i] (ea_p1 (ee_var rfl)) ⟨hb _ (List.getElem_mem hi), hk _ (List.getElem_mem hi)⟩
    · rw [List.length_map, List.map_map]
      exact range_getD bs (.mk none []) (fun b => GV.dt (eTr b))
    · rw [List.length_map]; omega⟩
theorem ok__law_copied (T : Txt K mg) : FnOk P w K mg base CX0 32 T.a__law_copied T.d__law_copied ["_law_tree_here"] (spCopyN K 32) := ok_copied_n T 32
theorem use_knots {E : GE} {M M1 : GM} {tr : TA} {X : XK} {t : Tr} (h : EA K tr E M [.dt (eTr t)] M1) (hd : trDepth t ≤ 32) (hk : knots t ≤ 1000000) : EE K (tCall (spKnotsN K 32) [] X tr) E M (.dt (.int (knots t : Int))) M1 := ee_call0 t h ⟨hd, hk⟩
theorem ok_law (T : Txt K mg) : FnOk P w K mg base CX0 33 T.a_law T.d_law ["_law_script"] (spLaw K) :=
  fn0 T.F_law sc_law (fun _ => rfl) fun cdv R outer s H E hr => ⟨_, (pss_cons (ps_for PassesOwn.never rfl (pi_list (pe_op o_plus (pe_slice o_slice (pv 0) po_none (po_some pe_int)) (pe_lst (pa_cons pe_int pa_nil)))) (pg_name (i := 1) sc_law.nd rfl (Or.inl rfl)) (pss_cons (ps_set (i := 2) sc_law.nd rfl (Or.inl rfl) (pe_call (ok__law_begun T) (hr.mono (by omega)) (by rfl) T.g__law_begun T.F__law_begun.kp T.b__law_begun .nil pass0 (pa_cons (pv 1) pa_nil)))
  (pss_cons (ps_set (i := 3) sc_law.nd rfl (Or.inl rfl) (pe_op o_plus pe_int (pe_call (ok__law_take T) (hr.mono (by omega)) (by rfl) T.g__law_take T.F__law_take.kp T.b__law_take .nil pass0 (pa_cons (pv 2) (pa_cons pe_int pa_nil)))))
  (pss_cons (ps_set (i := 4) sc_law.nd rfl (Or.inl rfl) (pe_call (ok__law_tree T) (hr.mono (by omega)) (by rfl) T.g__law_tree T.F__law_tree.kp T.b__law_tree .nil pass0 (pa_cons (pv 2) (pa_cons (pv 3) pa_nil))))
  (pss_cons (ps_set (i := 5) sc_law.nd rfl (Or.inl rfl) (pe_call (ok__law_copied T) (hr.mono (by omega)) (by rfl) T.g__law_copied T.F__law_copied.kp T.b__law_copied .nil pass0 (pa_cons (pv 4) pa_nil)))
  (pss_cons (ps_if (PW.pt (pw_or (pt_cmpR (op_neD (hu64 hr)) (pe_call (ok_term_of T) (hr.mono (by omega)) (by rfl) T.g_term_of T.F_term_of.kp T.b_term_of .nil pass0 (pa_cons (pv 4) pa_nil)) (pe_call (ok__law_term T) (hr.mono (by omega)) (by rfl) T.g__law_term T.F__law_term.kp T.b__law_term .nil pass0 (pa_cons (pv 4) pa_nil)) (nomark _)) (pw_or (pt_not (pt_val (pe_call (ok__law_whole T) (hr.mono (by omega)) (by rfl) T.g__law_whole T.F__law_whole.kp T.b__law_whole .nil pass0 (pa_cons (pe_call (ok_knots_of T) (hr.mono (by omega)) (by rfl) T.g_knots_of T.F_knots_of.kp T.b_knots_of .nil pass0 (pa_cons (pv 4) pa_nil)) pa_nil)))) (pw_or1 (pt_cmpR (op_neD (hu64 hr)) (pe_call (ok_knots_of T) (hr.mono (by omega)) (by rfl) T.g_knots_of T.F_knots_of.kp T.b_knots_of .nil pass0 (pa_cons (pv 4) pa_nil)) (pv 3) (nomark _)))))) (pss_one (ps_ret pe_bl)) pss_nil)
  (pss_one (ps_if (pt_cmpR (op_neD (hu64 hr)) (pv 4) (pv 5) (nomark _)) (pss_one (ps_ret pe_bl)) pss_nil))))))))
  (pss_one (ps_ret pe_bl))), fun ns hl => by
    have hl : ns.length ≤ 63 := hl
    refine blk_mid (Mid := fun E' M' => True) ?_ ?_
    · refine blk_for (ei_list (ds := ((cutD ns none (some 40)).map PyData.int ++ [PyData.int 0])) (M1 := []) (ee_op (ee_fz (by walk_at "ekf")) (ee_fzU (by walk_at "ekf") rfl) (p_list ?_))) (fun i E' M' => ∃ x1 x2 x3 x4 x5 N, E' = [some (.sc ns), x1, x2, x3, x4, x5] ∧ M' = N) ⟨_, _, _, _, _, _, rfl, rfl⟩ ?_ (fun _ _ _ => trivial)
      · rw [List.length_map]
        have : (cutD ns none (some 40)).length ≤ ns.length := by unfold cutD; rw [List.length_take, List.length_drop]; omega
        rw [sizeLine_eq]
        show _ + 1 ≤ _
        omega
      rintro i E1 N1 hi ⟨x1, x2, x3, x4, x5, N, rfl, rfl⟩
      have hc : ∃ c : Int, ((cutD ns none (some 40)).map PyData.int ++ [PyData.int 0]).getD i .none = PyData.int c := by
        have e : (cutD ns none (some 40)).map PyData.int ++ [.int 0] = (cutD ns none (some 40) ++ [0]).map PyData.int := by rw [List.map_append]; rfl
        rw [e] at hi ⊢
        rw [List.length_map] at hi
        exact ⟨_, getD_map PyData.int hi _⟩
      obtain ⟨c, hc⟩ := hc
      rw [hc]
      refine blk_forget (M' := []) ?_ (List.nil_sublist _)
      refine bs_asgF (by walk_at "ekf") (fun p => ?_)
      have d0 := begM_ok c
      have e0 : GO.lst [GV.dt (.int (begM c).a), .dt (.int (begM c).b), .dt (.int (begM c).c)] = dwO (begM c) := rfl
      rw [e0]
      generalize begM c = dw at d0 ⊢
      obtain ⟨r0, r1⟩ := takeM_rng dw (m := 12) (by decide)
      have d1 := takeM_ok 12 d0
      have hm : ∃ m : Nat, (1 : Int) + (takeM dw 12).1 = (m : Int) ∧ 1 ≤ m ∧ m ≤ 12 := ⟨(1 + (takeM dw 12).1).toNat, by omega, by omega, by omega⟩
      refine bs_asg (ee_op ee_int (use_take (j := 0) (ea_p2 (ee_var rfl) ee_int) rfl (d0.mono (by omega)) (by decide) (by decide)) p_int) ?_
      obtain ⟨m, em, m1, m2⟩ := hm
      rw [em]
      generalize (takeM dw 12).2 = dw1 at d1 ⊢
      refine bs_asgX (ex_callN1 (j := 0) (p, dw1, m, 1) (ea_p2 (ee_var rfl) (ee_var rfl)) ⟨m1, by show m ≤ 16; omega, by show 1 ≤ 900000; decide, d1⟩ rfl (fun r c hc => by cases hc)) ?_
      rintro g M' ⟨⟨dw2, t⟩, ⟨_, hk, _⟩, rfl, rfl⟩
      have hk : knots t = m := hk
      have hdp : trDepth t ≤ 32 := by have := trDepth_knots t; omega
      have hk2 : knots t ≤ 1000000 := by omega
      refine bs_asg (ee_call0 t (ea_p1 (ee_var rfl)) ⟨hdp, hk2⟩) ?_
      have s1 := termD_shaped (t := t) (by omega)
      have s2 := eTr_shaped (t := t) (by omega)
      refine bs_when (b := false) (et_or (b := false) (c := false) (et_test (EE.eq (ee_op (use_term_of (ea_p1 (ee_var rfl)) hdp) (ee_call0 t (ea_p1 (ee_var rfl)) hdp) (r2_neD s1 s1)) ?_)) fun _ => et_or (b := false) (c := false) (et_not (b := true) (et_B (use_whole (ea_p1 (use_knots (ea_p1 (ee_var rfl)) hdp hk2))))) fun _ => et_test (EE.eq (ee_op (use_knots (ea_p1 (ee_var rfl)) hdp hk2) (ee_var rfl) ne_int') ?_)) (fun h => by cases h) (fun _ => ?_)
      · rw [eqv_refl' s1]; rfl
      · rw [hk]; simp
      refine blk_when (b := false) (et_test (EE.eq (ee_op (ee_var rfl) (ee_var rfl) (r2_neD s2 s2)) ?_)) (fun h => by cases h) (fun _ => ?_)
      · rw [eqv_refl' s2]; rfl
      · exact ⟨_, _, _, _, _, _, rfl, rfl⟩
    · rintro E1 N1 -
      exact blk_ret ee_bl (.inl rfl)⟩
end
theorem all_mk {w : World} {K : PySem.W.Frag} {h : Heap} {mg : Str → Option Value} {fa : Addr} (X : K.In h) (G : h.Ns mainGlobals mg) (hfa : mg "law" = some (.ref fa))
    {f_term_of : Addr} {od_term_of an_term_of : Option Addr} {sl_term_of : Array (Option Value)} {oc_term_of kV_term_of dc_term_of pm_term_of cd_term_of ct_term_of : Value}
    (a_term_of : PySem.W.nsIn K mainGlobals "term_of" = some (some (.ref f_term_of))) (l_term_of : K.lookup f_term_of = some ⟨oc_term_of, od_term_of, .func (PySem.W.fnOf "term_of" "term_of" (defArgs s_term_of) (defBody s_term_of) (defScope s_term_of) .none kV_term_of dc_term_of pm_term_of an_term_of cd_term_of ct_term_of), sl_term_of⟩) (c_term_of : PySem.W.codeIn K cd_term_of "term_of" = true) (k_term_of : PySem.W.keepIn K (.ref f_term_of) = true)
    {f_knots_of : Addr} {od_knots_of an_knots_of : Option Addr} {sl_knots_of : Array (Option Value)} {oc_knots_of kV_knots_of dc_knots_of pm_knots_of cd_knots_of ct_knots_of : Value}
    (a_knots_of : PySem.W.nsIn K mainGlobals "knots_of" = some (some (.ref f_knots_of))) (l_knots_of : K.lookup f_knots_of = some ⟨oc_knots_of, od_knots_of, .func (PySem.W.fnOf "knots_of" "knots_of" (defArgs s_knots_of) (defBody s_knots_of) (defScope s_knots_of) .none kV_knots_of dc_knots_of pm_knots_of an_knots_of cd_knots_of ct_knots_of), sl_knots_of⟩) (c_knots_of : PySem.W.codeIn K cd_knots_of "knots_of" = true) (k_knots_of : PySem.W.keepIn K (.ref f_knots_of) = true)
    {f__law_cell_at : Addr} {od__law_cell_at an__law_cell_at : Option Addr} {sl__law_cell_at : Array (Option Value)} {oc__law_cell_at kV__law_cell_at dc__law_cell_at pm__law_cell_at cd__law_cell_at ct__law_cell_at : Value}
    (a__law_cell_at : PySem.W.nsIn K mainGlobals "_law_cell_at" = some (some (.ref f__law_cell_at))) (l__law_cell_at : K.lookup f__law_cell_at = some ⟨oc__law_cell_at, od__law_cell_at, .func (PySem.W.fnOf "_law_cell_at" "_law_cell_at" (defArgs s__law_cell_at) (defBody s__law_cell_at) (defScope s__law_cell_at) .none kV__law_cell_at dc__law_cell_at pm__law_cell_at an__law_cell_at cd__law_cell_at ct__law_cell_at), sl__law_cell_at⟩) (c__law_cell_at : PySem.W.codeIn K cd__law_cell_at "_law_cell_at" = true) (k__law_cell_at : PySem.W.keepIn K (.ref f__law_cell_at) = true)
    {f__law_whole : Addr} {od__law_whole an__law_whole : Option Addr} {sl__law_whole : Array (Option Value)} {oc__law_whole kV__law_whole dc__law_whole pm__law_whole cd__law_whole ct__law_whole : Value}
    (a__law_whole : PySem.W.nsIn K mainGlobals "_law_whole" = some (some (.ref f__law_whole))) (l__law_whole : K.lookup f__law_whole = some ⟨oc__law_whole, od__law_whole, .func (PySem.W.fnOf "_law_whole" "_law_whole" (defArgs s__law_whole) (defBody s__law_whole) (defScope s__law_whole) .none kV__law_whole dc__law_whole pm__law_whole an__law_whole cd__law_whole ct__law_whole), sl__law_whole⟩) (c__law_whole : PySem.W.codeIn K cd__law_whole "_law_whole" = true) (k__law_whole : PySem.W.keepIn K (.ref f__law_whole) = true)
    {f__law_mix : Addr} {od__law_mix an__law_mix : Option Addr} {sl__law_mix : Array (Option Value)} {oc__law_mix kV__law_mix dc__law_mix pm__law_mix cd__law_mix ct__law_mix : Value}
    (a__law_mix : PySem.W.nsIn K mainGlobals "_law_mix" = some (some (.ref f__law_mix))) (l__law_mix : K.lookup f__law_mix = some ⟨oc__law_mix, od__law_mix, .func (PySem.W.fnOf "_law_mix" "_law_mix" (defArgs s__law_mix) (defBody s__law_mix) (defScope s__law_mix) .none kV__law_mix dc__law_mix pm__law_mix an__law_mix cd__law_mix ct__law_mix), sl__law_mix⟩) (c__law_mix : PySem.W.codeIn K cd__law_mix "_law_mix" = true) (k__law_mix : PySem.W.keepIn K (.ref f__law_mix) = true)
    {f__law_begun : Addr} {od__law_begun an__law_begun : Option Addr} {sl__law_begun : Array (Option Value)} {oc__law_begun kV__law_begun dc__law_begun pm__law_begun cd__law_begun ct__law_begun : Value}
    (a__law_begun : PySem.W.nsIn K mainGlobals "_law_begun" = some (some (.ref f__law_begun))) (l__law_begun : K.lookup f__law_begun = some ⟨oc__law_begun, od__law_begun, .func (PySem.W.fnOf "_law_begun" "_law_begun" (defArgs s__law_begun) (defBody s__law_begun) (defScope s__law_begun) .none kV__law_begun dc__law_begun pm__law_begun an__law_begun cd__law_begun ct__law_begun), sl__law_begun⟩) (c__law_begun : PySem.W.codeIn K cd__law_begun "_law_begun" = true) (k__law_begun : PySem.W.keepIn K (.ref f__law_begun) = true)
    {f__law_take : Addr} {od__law_take an__law_take : Option Addr} {sl__law_take : Array (Option Value)} {oc__law_take kV__law_take dc__law_take pm__law_take cd__law_take ct__law_take : Value}
    (a__law_take : PySem.W.nsIn K mainGlobals "_law_take" = some (some (.ref f__law_take))) (l__law_take : K.lookup f__law_take = some ⟨oc__law_take, od__law_take, .func (PySem.W.fnOf "_law_take" "_law_take" (defArgs s__law_take) (defBody s__law_take) (defScope s__law_take) .none kV__law_take dc__law_take pm__law_take an__law_take cd__law_take ct__law_take), sl__law_take⟩) (c__law_take : PySem.W.codeIn K cd__law_take "_law_take" = true) (k__law_take : PySem.W.keepIn K (.ref f__law_take) = true)
    {f__law_tree : Addr} {od__law_tree an__law_tree : Option Addr} {sl__law_tree : Array (Option Value)} {oc__law_tree kV__law_tree dc__law_tree pm__law_tree cd__law_tree ct__law_tree : Value}
    (a__law_tree : PySem.W.nsIn K mainGlobals "_law_tree" = some (some (.ref f__law_tree))) (l__law_tree : K.lookup f__law_tree = some ⟨oc__law_tree, od__law_tree, .func (PySem.W.fnOf "_law_tree" "_law_tree" (defArgs s__law_tree) (defBody s__law_tree) (defScope s__law_tree) .none kV__law_tree dc__law_tree pm__law_tree an__law_tree cd__law_tree ct__law_tree), sl__law_tree⟩) (c__law_tree : PySem.W.codeIn K cd__law_tree "_law_tree" = true) (k__law_tree : PySem.W.keepIn K (.ref f__law_tree) = true)
    {f__law_term : Addr} {od__law_term an__law_term : Option Addr} {sl__law_term : Array (Option Value)} {oc__law_term kV__law_term dc__law_term pm__law_term cd__law_term ct__law_term : Value}
    (a__law_term : PySem.W.nsIn K mainGlobals "_law_term" = some (some (.ref f__law_term))) (l__law_term : K.lookup f__law_term = some ⟨oc__law_term, od__law_term, .func (PySem.W.fnOf "_law_term" "_law_term" (defArgs s__law_term) (defBody s__law_term) (defScope s__law_term) .none kV__law_term dc__law_term pm__law_term an__law_term cd__law_term ct__law_term), sl__law_term⟩) (c__law_term : PySem.W.codeIn K cd__law_term "_law_term" = true) (k__law_term : PySem.W.keepIn K (.ref f__law_term) = true)
    {f__law_copied : Addr} {od__law_copied an__law_copied : Option Addr} {sl__law_copied : Array (Option Value)} {oc__law_copied kV__law_copied dc__law_copied pm__law_copied cd__law_copied ct__law_copied : Value}
    (a__law_copied : PySem.W.nsIn K mainGlobals "_law_copied" = some (some (.ref f__law_copied))) (l__law_copied : K.lookup f__law_copied = some ⟨oc__law_copied, od__law_copied, .func (PySem.W.fnOf "_law_copied" "_law_copied" (defArgs s__law_copied) (defBody s__law_copied) (defScope s__law_copied) .none kV__law_copied dc__law_copied pm__law_copied an__law_copied cd__law_copied ct__law_copied), sl__law_copied⟩) (c__law_copied : PySem.W.codeIn K cd__law_copied "_law_copied" = true) (k__law_copied : PySem.W.keepIn K (.ref f__law_copied) = true)
    {f_law : Addr} {od_law an_law : Option Addr} {sl_law : Array (Option Value)} {oc_law kV_law dc_law pm_law cd_law ct_law : Value}
    (a_law : PySem.W.nsIn K mainGlobals "law" = some (some (.ref f_law))) (l_law : K.lookup f_law = some ⟨oc_law, od_law, .func (PySem.W.fnOf "law" "law" (defArgs s_law) (defBody s_law) (defScope s_law) .none kV_law dc_law pm_law an_law cd_law ct_law), sl_law⟩) (c_law : PySem.W.codeIn K cd_law "law" = true) (k_law : PySem.W.keepIn K (.ref f_law) = true)
    (z_bool : PySem.W.nsIn K mainGlobals "bool" = some none)
    (z_int : PySem.W.nsIn K mainGlobals "int" = some none)
    (z_isinstance : PySem.W.nsIn K mainGlobals "isinstance" = some none)
    (z_len : PySem.W.nsIn K mainGlobals "len" = some none)
    (z_range : PySem.W.nsIn K mainGlobals "range" = some none)
    (z_sum : PySem.W.nsIn K mainGlobals "sum" = some none)
    : ∃ fd : FuncData, (∀ (s : Shared) (v : Value), BindsTo s fd ⟨[v], []⟩ [("_law_script", v)]) ∧ ∀ base : Heap, K.In base → base.Ns mainGlobals mg → FnOk PySem.Challenge.rw_evenkin_k13_trees_as_terms.prog w K mg base CX0 33 fa fd ["_law_script"] (spLaw K) := by
  have e := hfa.symm.trans (PySem.W.mg_of X G a_law)
  rw [show fa = f_law by cases e; rfl]
  have F_term_of := fun_mk (st := s_term_of) l_term_of c_term_of k_term_of
  have F_knots_of := fun_mk (st := s_knots_of) l_knots_of c_knots_of k_knots_of
  have F__law_cell_at := fun_mk (st := s__law_cell_at) l__law_cell_at c__law_cell_at k__law_cell_at
  have F__law_whole := fun_mk (st := s__law_whole) l__law_whole c__law_whole k__law_whole
  have F__law_mix := fun_mk (st := s__law_mix) l__law_mix c__law_mix k__law_mix
  have F__law_begun := fun_mk (st := s__law_begun) l__law_begun c__law_begun k__law_begun
  have F__law_take := fun_mk (st := s__law_take) l__law_take c__law_take k__law_take
  have F__law_tree := fun_mk (st := s__law_tree) l__law_tree c__law_tree k__law_tree
  have F__law_term := fun_mk (st := s__law_term) l__law_term c__law_term k__law_term
  have F__law_copied := fun_mk (st := s__law_copied) l__law_copied c__law_copied k__law_copied
  have F_law := fun_mk (st := s_law) l_law c_law k_law
  have b_term_of := F_term_of.binds (ps := ["tree"]) fun _ _ _ _ _ _ us hl => match us, hl with | [_], _ => rfl
  have b_knots_of := F_knots_of.binds (ps := ["tree"]) fun _ _ _ _ _ _ us hl => match us, hl with | [_], _ => rfl
  have b__law_cell_at := F__law_cell_at.binds (ps := ["_law_script", "_law_k"]) fun _ _ _ _ _ _ us hl => match us, hl with | [_, _], _ => rfl
  have b__law_whole := F__law_whole.binds (ps := ["_law_found"]) fun _ _ _ _ _ _ us hl => match us, hl with | [_], _ => rfl
  have b__law_mix := F__law_mix.binds (ps := ["_law_cell", "_law_k"]) fun _ _ _ _ _ _ us hl => match us, hl with | [_, _], _ => rfl
  have b__law_begun := F__law_begun.binds (ps := ["_law_cell"]) fun _ _ _ _ _ _ us hl => match us, hl with | [_], _ => rfl
  have b__law_take := F__law_take.binds (ps := ["_law_draw", "_law_most"]) fun _ _ _ _ _ _ us hl => match us, hl with | [_, _], _ => rfl
  have b__law_tree := F__law_tree.binds (ps := ["_law_draw", "_law_many"]) fun _ _ _ _ _ _ us hl => match us, hl with | [_, _], _ => rfl
  have b__law_term := F__law_term.binds (ps := ["_law_tree_here"]) fun _ _ _ _ _ _ us hl => match us, hl with | [_], _ => rfl
  have b__law_copied := F__law_copied.binds (ps := ["_law_tree_here"]) fun _ _ _ _ _ _ us hl => match us, hl with | [_], _ => rfl
  have b_law := F_law.binds (ps := ["_law_script"]) fun _ _ _ _ _ _ us hl => match us, hl with | [_], _ => rfl
  have T : ∃ T : Txt K mg, T.a_law = f_law ∧ T.d_law = (PySem.W.fnOf "law" "law" (defArgs s_law) (defBody s_law) (defScope s_law) .none kV_law dc_law pm_law an_law cd_law ct_law) := ⟨{
    a_term_of := _, d_term_of := _, F_term_of := F_term_of, g_term_of := PySem.W.mg_of X G a_term_of, b_term_of := b_term_of,
    a_knots_of := _, d_knots_of := _, F_knots_of := F_knots_of, g_knots_of := PySem.W.mg_of X G a_knots_of, b_knots_of := b_knots_of,
    a__law_cell_at := _, d__law_cell_at := _, F__law_cell_at := F__law_cell_at, g__law_cell_at := PySem.W.mg_of X G a__law_cell_at, b__law_cell_at := b__law_cell_at,
    a__law_whole := _, d__law_whole := _, F__law_whole := F__law_whole, g__law_whole := PySem.W.mg_of X G a__law_whole, b__law_whole := b__law_whole,
    a__law_mix := _, d__law_mix := _, F__law_mix := F__law_mix, g__law_mix := PySem.W.mg_of X G a__law_mix, b__law_mix := b__law_mix,
    a__law_begun := _, d__law_begun := _, F__law_begun := F__law_begun, g__law_begun := PySem.W.mg_of X G a__law_begun, b__law_begun := b__law_begun,
    a__law_take := _, d__law_take := _, F__law_take := F__law_take, g__law_take := PySem.W.mg_of X G a__law_take, b__law_take := b__law_take,
    a__law_tree := _, d__law_tree := _, F__law_tree := F__law_tree, g__law_tree := PySem.W.mg_of X G a__law_tree, b__law_tree := b__law_tree,
    a__law_term := _, d__law_term := _, F__law_term := F__law_term, g__law_term := PySem.W.mg_of X G a__law_term, b__law_term := b__law_term,
    a__law_copied := _, d__law_copied := _, F__law_copied := F__law_copied, g__law_copied := PySem.W.mg_of X G a__law_copied, b__law_copied := b__law_copied,
    a_law := _, d_law := _, F_law := F_law, g_law := PySem.W.mg_of X G a_law, b_law := b_law,
    n_bool := PySem.W.mg_none_of X G z_bool,
    n_int := PySem.W.mg_none_of X G z_int,
    n_isinstance := PySem.W.mg_none_of X G z_isinstance,
    n_len := PySem.W.mg_none_of X G z_len,
    n_range := PySem.W.mg_none_of X G z_range,
    n_sum := PySem.W.mg_none_of X G z_sum
  }, rfl, rfl⟩
  obtain ⟨T, ea, ed⟩ := T
  rw [← ea]
  exact ⟨T.d_law, by rw [ed]; exact fun s v => .of_eq rfl, fun base _ _ => ok_law T⟩
end Ek
open PySem PySem.W PyProof.Rows
set_option maxHeartbeats 0 in
theorem PySem.Challenge.cw_evenkin_k13_trees_as_terms_holds : PySem.Challenge.rw_evenkin_k13_trees_as_terms.Holds := by
  w_on; o_law; k_head; (case hw => w_witness2)
  k_fill
  refine L2.walk_of (l := PySem.Challenge.rw_evenkin_k13_trees_as_terms) (n := 63) (k := 33) (x := "_law_script") (CX := fun _ => L2.CX0) (sp := fun w => Ek.spLaw _) rfl (by decide) rfl ⟨rfl, by decide, by decide⟩ (fun w h Y => PySem.W.kIn_of Y) ?F (fun w H a ns hl hO hS => Ek.law_begin hl hS) (fun _ _ _ _ _ h => h)
  case F =>
    intro w mg fa h KX G hmg
    refine' Ek.all_mk KX G hmg ?a_term_of ?l_term_of ?c_term_of ?k_term_of ?a_knots_of ?l_knots_of ?c_knots_of ?k_knots_of ?a__law_cell_at ?l__law_cell_at ?c__law_cell_at ?k__law_cell_at ?a__law_whole ?l__law_whole ?c__law_whole ?k__law_whole ?a__law_mix ?l__law_mix ?c__law_mix ?k__law_mix ?a__law_begun ?l__law_begun ?c__law_begun ?k__law_begun ?a__law_take ?l__law_take ?c__law_take ?k__law_take ?a__law_tree ?l__law_tree ?c__law_tree ?k__law_tree ?a__law_term ?l__law_term ?c__law_term ?k__law_term ?a__law_copied ?l__law_copied ?c__law_copied ?k__law_copied ?a_law ?l_law ?c_law ?k_law ?z_bool ?z_int ?z_isinstance ?z_len ?z_range ?z_sum
    (case a_term_of => k_is); (case l_term_of => k_is); (case c_term_of => k_is); (case k_term_of => k_is); (case a_knots_of => k_is); (case l_knots_of => k_is); (case c_knots_of => k_is); (case k_knots_of => k_is); (case a__law_cell_at => k_is); (case l__law_cell_at => k_is); (case c__law_cell_at => k_is); (case k__law_cell_at => k_is); (case a__law_whole => k_is); (case l__law_whole => k_is); (case c__law_whole => k_is); (case k__law_whole => k_is); (case a__law_mix => k_is); (case l__law_mix => k_is); (case c__law_mix => k_is); (case k__law_mix => k_is); (case a__law_begun => k_is); (case l__law_begun => k_is); (case c__law_begun => k_is); (case k__law_begun => k_is); (case a__law_take => k_is); (case l__law_take => k_is); (case c__law_take => k_is); (case k__law_take => k_is); (case a__law_tree => k_is); (case l__law_tree => k_is); (case c__law_tree => k_is); (case k__law_tree => k_is); (case a__law_term => k_is); (case l__law_term => k_is); (case c__law_term => k_is); (case k__law_term => k_is); (case a__law_copied => k_is); (case l__law_copied => k_is); (case c__law_copied => k_is); (case k__law_copied => k_is); (case a_law => k_is); (case l_law => k_is); (case c_law => k_is); (case k_law => k_is); (case z_bool => k_is); (case z_int => k_is); (case z_isinstance => k_is); (case z_len => k_is); (case z_range => k_is); (case z_sum => k_is)

