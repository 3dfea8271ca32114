import PyProof.Rows.All
import Wide.All
import OpenK.AllK
import Wide.FinOn
import HandS.ForMost
import HandS.Wide
import HandS.Deep
import HandS.IsInst
import HandS.Flow
import HandS.EndBits
import HandS.SortInts
import PySem.Challenge.RW_evenkin_k11_fractions
set_option Elab.async false
set_option linter.all false
set_option maxRecDepth 100000
/-! data by value over the hand layer: what is shared (G), what is one's own (cells), blocks by ghost states -/
namespace Ek
open PySem PySem.Spec PyProof.Rows L2
abbrev St := L2.St

mutual
inductive Dr (G : Hp) : V → PyData → Prop
  | non : Dr G .non .none
  | bl (b : Bool) : Dr G (.bl b) (.bool b)
  | int (i : Int) : Dr G (.int i) (.int i)
  | str (x : Str) : Dr G (.str x) (.str x)
  | lst {a : Addr} {vs : List V} {ds : List PyData} : G a = some (.lst vs) → DrAll G vs ds → Dr G (.ref a) (.list ds)
  | tup {a : Addr} {vs : List V} {ds : List PyData} : G a = some (.tup vs) → DrAll G vs ds → Dr G (.ref a) (.tuple ds)
inductive DrAll (G : Hp) : List V → List PyData → Prop
  | nil : DrAll G [] []
  | cons {v : V} {vs : List V} {d : PyData} {ds : List PyData} : Dr G v d → DrAll G vs ds → DrAll G (v :: vs) (d :: ds)
end

mutual
theorem Dr.mono {G G' : Hp} (e : Same G G') : ∀ {v : V} {d : PyData}, Dr G v d → Dr G' v d
  | _, _, .non => .non
  | _, _, .bl b => .bl b
  | _, _, .int i => .int i
  | _, _, .str x => .str x
  | _, _, .lst h ha => .lst (e _ _ h) (DrAll.mono e ha)
  | _, _, .tup h ha => .tup (e _ _ h) (DrAll.mono e ha)
theorem DrAll.mono {G G' : Hp} (e : Same G G') : ∀ {vs : List V} {ds : List PyData}, DrAll G vs ds → DrAll G' vs ds
  | _, _, .nil => .nil
  | _, _, .cons h ha => .cons (Dr.mono e h) (DrAll.mono e ha)
end
mutual
theorem Dr.dp {K : PySem.W.Frag} {G : Hp} : ∀ {v : V} {d : PyData}, Dr G v d → Dp K G v d
  | _, _, .non => .non
  | _, _, .bl b => .bl b
  | _, _, .int i => .int i
  | _, _, .str x => .str x
  | _, _, .lst h ha => .lst (.of h) (DrAll.dp ha)
  | _, _, .tup h ha => .tup (.of h) (DrAll.dp ha)
theorem DrAll.dp {K : PySem.W.Frag} {G : Hp} : ∀ {vs : List V} {ds : List PyData}, DrAll G vs ds → DpAll K G vs ds
  | _, _, .nil => .nil
  | _, _, .cons h ha => .cons (Dr.dp h) (DrAll.dp ha)
end
theorem DrAll.length {G : Hp} : ∀ {vs : List V} {ds : List PyData}, DrAll G vs ds → vs.length = ds.length
  | _, _, .nil => rfl
  | _, _, .cons _ h => by rw [List.length_cons, List.length_cons, h.length]
theorem DrAll.get {G : Hp} : ∀ {vs : List V} {ds : List PyData} {i : Nat} {v : V}, DrAll G vs ds → vs[i]? = some v → ∃ d, ds[i]? = some d ∧ Dr G v d
  | _, _, 0, v, .cons (d := d) h _, e => ⟨d, rfl, by cases e; exact h⟩
  | _, _, i + 1, v, .cons _ h, e => h.get (i := i) e
theorem DrAll.get' {G : Hp} : ∀ {vs : List V} {ds : List PyData} {i : Nat} {d : PyData}, DrAll G vs ds → ds[i]? = some d → ∃ v, vs[i]? = some v ∧ Dr G v d
  | _, _, 0, _, .cons (v := v) h _, e => ⟨v, rfl, by cases e; exact h⟩
  | _, _, i + 1, _, .cons _ h, e => h.get' (i := i) e
theorem DrAll.app {G : Hp} : ∀ {vs ws : List V} {ds es : List PyData}, DrAll G vs ds → DrAll G ws es → DrAll G (vs ++ ws) (ds ++ es)
  | _, _, _, _, .nil, h => h
  | _, _, _, _, .cons a b, h => .cons a (b.app h)
/-- a list of plain things: its values by its data -/
theorem DrAll.ints {G : Hp} : ∀ {vs : List V} {ns : List Int}, DrAll G vs (ns.map .int) → vs = ns.map V.int
  | [], [], _ => rfl
  | _ :: _, [], h => by cases h
  | [], _ :: _, h => by cases h
  | _ :: vs, n :: ns, .cons h t => by
    cases h
    rw [t.ints] <;> rfl
theorem DrAll.bls {G : Hp} : ∀ {vs : List V} {ns : List Bool}, DrAll G vs (ns.map .bool) → vs = ns.map V.bl
  | [], [], _ => rfl
  | _ :: _, [], h => by cases h
  | [], _ :: _, h => by cases h
  | _ :: vs, n :: ns, .cons h t => by
    cases h
    rw [t.bls] <;> rfl
theorem DrAll.strs {G : Hp} : ∀ {vs : List V} {ns : List Str}, DrAll G vs (ns.map .str) → vs = ns.map V.str
  | [], [], _ => rfl
  | _ :: _, [], h => by cases h
  | [], _ :: _, h => by cases h
  | _ :: vs, n :: ns, .cons h t => by
    cases h
    rw [t.strs] <;> rfl

/-! ### ghost values, ghost cells -/
inductive GV where
  /-- data -/
  | dt (d : PyData)
  /-- one's own object at p -/
  | rf (p : Addr)
  /-- the script -/
  | sc (ns : List Int)
  /-- a built-in class -/
  | ty (n : String)
inductive GO where
  | lst (xs : List GV) | tup (xs : List GV)
abbrev GE := List (Option GV)
/-- cells: where, whether made since the def began, what -/
abbrev GM := List (Addr × Bool × GO)

def RelG (K : PySem.W.Frag) (G : Hp) (v : V) : GV → Prop
  | .dt d => Dr G v d
  | .rf p => v = .ref p
  | .sc ns => ∃ a, v = .ref a ∧ SqL K G a (ns.map V.int)
  | .ty n => v = .ty n
abbrev RelGs (K : PySem.W.Frag) (G : Hp) : List V → List GV → Prop := Paired (RelG K G)
def RelO (K : PySem.W.Frag) (G : Hp) : HO → GO → Prop
  | .lst vs, .lst gs => RelGs K G vs gs
  | .tup vs, .tup gs => RelGs K G vs gs
  | _, _ => False
section
variable {K : PySem.W.Frag} {G G' H H' : Hp}
theorem Same.sql {a : Addr} {xs : List V} (e : Same G G') (h : SqL K G a xs) : SqL K G' a xs := e.seq h
theorem RelG.mono (e : Same G G') {v : V} : ∀ {g : GV}, RelG K G v g → RelG K G' v g
  | .dt _, h => Dr.mono e h
  | .rf _, h => h
  | .sc _, ⟨a, h1, h2⟩ => ⟨a, h1, e.seq h2⟩
  | .ty _, h => h
theorem RelGs.mono (e : Same G G') : ∀ {vs : List V} {gs : List GV}, RelGs K G vs gs → RelGs K G' vs gs
  | _, _, .nil => .nil
  | _, _, .cons h t => .cons (RelG.mono e h) (RelGs.mono e t)
theorem RelO.mono (e : Same G G') {o : HO} {g : GO} (h : RelO K G o g) : RelO K G' o g := by
  cases g with
  | lst gs => cases o <;> first | exact RelGs.mono e h | exact h.elim
  | tup gs => cases o <;> first | exact RelGs.mono e h | exact h.elim
theorem RelO.lst_inv {o : HO} {gs : List GV} (h : RelO K G o (.lst gs)) : ∃ vs, o = .lst vs ∧ RelGs K G vs gs := by
  cases o <;> first | exact ⟨_, rfl, h⟩ | exact h.elim
theorem RelO.tup_inv {o : HO} {gs : List GV} (h : RelO K G o (.tup gs)) : ∃ vs, o = .tup vs ∧ RelGs K G vs gs := by
  cases o <;> first | exact ⟨_, rfl, h⟩ | exact h.elim
theorem RelGs.length : ∀ {vs : List V} {gs : List GV}, RelGs K G vs gs → vs.length = gs.length
  | _, _, .nil => rfl
  | _, _, .cons _ t => by rw [List.length_cons, List.length_cons, t.length]
theorem RelGs.get' : ∀ {vs : List V} {gs : List GV} {i : Nat} {g : GV}, RelGs K G vs gs → gs[i]? = some g → ∃ v, vs[i]? = some v ∧ RelG K G v g
  | _, _, 0, _, .cons h _, e => ⟨_, rfl, by cases e; exact h⟩
  | _, _, i + 1, _, .cons _ t, e => RelGs.get' (i := i) t e
theorem RelGs.app : ∀ {vs ws : List V} {gs hs : List GV}, RelGs K G vs gs → RelGs K G ws hs → RelGs K G (vs ++ ws) (gs ++ hs)
  | _, _, _, _, .nil, h => h
  | _, _, _, _, .cons a b, h => .cons a (RelGs.app b h)
theorem RelGs.set : ∀ {vs : List V} {gs : List GV} {i : Nat} {v : V} {g : GV}, RelGs K G vs gs → RelG K G v g → RelGs K G (vs.set i v) (gs.set i g)
  | _, _, _, _, _, .nil, _ => .nil
  | _, _, 0, _, _, .cons _ t, h => .cons h t
  | _, _, i + 1, _, _, .cons a t, h => .cons a (RelGs.set t h)
theorem RelGs.data : ∀ {vs : List V} {ds : List PyData}, RelGs K G vs (ds.map .dt) → DrAll G vs ds
  | _, [], .nil => .nil
  | _, _ :: _, .cons a b => .cons a (RelGs.data b)
theorem RelGs.of_data : ∀ {vs : List V} {ds : List PyData}, DrAll G vs ds → RelGs K G vs (ds.map .dt)
  | _, _, .nil => .nil
  | _, _, .cons a b => .cons a (RelGs.of_data b)
end

/-! ### the state -/
/-- where a def began: the cells that were handed in, what was shared, the whole -/
structure Bs where
  F0 : Addr → Prop
  G0 : Hp
  H0 : Hp
structure Fr (B : Bs) (G H : Hp) : Prop where
  g : Same B.G0 G
  h : ∀ q o, ¬ B.F0 q → B.H0 q = some o → H q = some o
  k : ∀ q, B.H0 q ≠ none → H q ≠ none
  n : ∀ q, B.H0 q ≠ none → B.G0 q = none → G q = none
structure Cells (K : PySem.W.Frag) (B : Bs) (G H : Hp) (M : GM) : Prop where
  at_ : ∀ c ∈ M, G c.1 = none ∧ (∃ o, H c.1 = some o ∧ RelO K G o c.2.2) ∧ (c.2.1 = true → B.H0 c.1 = none) ∧ (c.2.1 = false → B.F0 c.1)
  nd : (M.map (·.1)).Nodup
structure SR (K : PySem.W.Frag) (B : Bs) (E : GE) (M : GM) (σ : St) (G H : Hp) : Prop where
  sub : Same G H
  len : σ.length = E.length
  slot : ∀ (i : Nat) g, E[i]? = some (some g) → ∃ v, σ[i]? = some (some v) ∧ RelG K G v g
  cells : Cells K B G H M
  fr : Fr B G H

section
variable {K : PySem.W.Frag} {B : Bs} {E E' : GE} {M M' : GM} {σ σ' : St} {G G' H H' : Hp}
theorem same_upd {p : Addr} {o : HO} (h : H p = none) : Same H (upd H p o) := fun b x e => by
  rw [upd_ne (ne_of_none e h)]
  exact e
theorem SR.gfree (S : SR K B E M σ G H) {p : Addr} (h : H p = none) : G p = none := S.sub.free h
theorem SR.bfree (S : SR K B E M σ G H) {p : Addr} (h : H p = none) : B.H0 p = none := by
  cases e : B.H0 p with
  | none => rfl
  | some o => exact absurd h (S.fr.k p (by rw [e]; intro z; cases z))
/-- a slot is stored -/
theorem SR.set (S : SR K B E M σ G H) {i : Nat} {v : V} {g : GV} (r : RelG K G v g) : SR K B (E.set i (some g)) M (σ.set i (some v)) G H where
  sub := S.sub
  len := by rw [List.length_set, List.length_set, S.len]
  slot := fun j g' e => by
    by_cases hj : i = j
    · subst hj
      by_cases hi : i < E.length
      · rw [List.getElem?_set_self hi] at e
        cases e
        exact ⟨v, by rw [List.getElem?_set_self (by rw [S.len]; exact hi)], r⟩
      · rw [List.getElem?_eq_none (by rw [List.length_set]; omega)] at e
        cases e
    · rw [List.getElem?_set_ne hj] at e
      obtain ⟨w, h1, h2⟩ := S.slot j g' e
      exact ⟨w, by rw [List.getElem?_set_ne hj]; exact h1, h2⟩
  cells := S.cells
  fr := S.fr
/-- slots are forgotten -/
theorem SR.weak (S : SR K B E M σ G H) (hl : E'.length = E.length) (h : ∀ (i : Nat) g, E'[i]? = some (some g) → E[i]? = some (some g)) : SR K B E' M σ G H :=
  ⟨S.sub, by rw [S.len, hl], fun i g e => S.slot i g (h i g e), S.cells, S.fr⟩
/-- cells are forgotten -/
theorem SR.sub_cells (S : SR K B E M σ G H) (h : M'.Sublist M) : SR K B E M' σ G H :=
  ⟨S.sub, S.len, S.slot, ⟨fun c hc => S.cells.at_ c (h.subset hc), S.cells.nd.sublist (h.map _)⟩, S.fr⟩
/-- another block's slots -/
theorem SR.slots (S : SR K B E M σ G H) (hl : σ'.length = E'.length) (h : ∀ (i : Nat) g, E'[i]? = some (some g) → ∃ v, σ'[i]? = some (some v) ∧ RelG K G v g) : SR K B E' M σ' G H :=
  ⟨S.sub, hl, h, S.cells, S.fr⟩
/-- a new object, shared at once -/
theorem SR.share (S : SR K B E M σ G H) {p : Addr} {o : HO} (h : H p = none) : SR K B E M σ (upd G p o) (upd H p o) := by
  have hg := S.gfree h
  refine ⟨fun b x e => ?_, S.len, fun i g e => ?_, ⟨fun c hc => ?_, S.cells.nd⟩, ⟨fun b x e => ?_, fun q x nf e => ?_, fun q e => ?_, fun q e n => ?_⟩⟩
  · by_cases hb : b = p
    · subst hb; rw [upd_same] at e ⊢; exact e
    · rw [upd_ne hb] at e ⊢; exact S.sub _ _ e
  · obtain ⟨v, h1, h2⟩ := S.slot i g e
    exact ⟨v, h1, RelG.mono (same_upd hg) h2⟩
  · obtain ⟨h1, ⟨ho, h2, h3⟩, h4⟩ := S.cells.at_ c hc
    have hp : c.1 ≠ p := ne_of_none h2 h
    exact ⟨by rw [upd_ne hp]; exact h1, ⟨ho, by rw [upd_ne hp]; exact h2, RelO.mono (same_upd hg) h3⟩, h4⟩
  · exact same_upd hg _ _ (S.fr.g _ _ e)
  · exact same_upd h _ _ (S.fr.h q x nf e)
  · intro z
    by_cases hq : q = p
    · subst hq; rw [upd_same] at z; cases z
    · rw [upd_ne hq] at z; exact S.fr.k q e z
  · have hq : q ≠ p := fun z => by subst z; exact S.fr.k q e h
    rw [upd_ne hq]; exact S.fr.n q e n
/-- a new object of one's own -/
theorem SR.own (S : SR K B E M σ G H) {p : Addr} {o : HO} {g : GO} (h : H p = none) (r : RelO K G o g) : SR K B E ((p, true, g) :: M) σ G (upd H p o) := by
  have hg := S.gfree h
  refine ⟨fun b x e => same_upd h _ _ (S.sub _ _ e), S.len, S.slot, ⟨fun c hc => ?_, ?_⟩, ⟨S.fr.g, fun q x nf e => same_upd h _ _ (S.fr.h q x nf e), fun q e z => ?_, S.fr.n⟩⟩
  · rcases List.mem_cons.mp hc with rfl | hc
    · exact ⟨hg, ⟨o, upd_same, r⟩, fun _ => S.bfree h, fun z => by cases z⟩
    · obtain ⟨h1, ⟨ho, h2, h3⟩, h4⟩ := S.cells.at_ c hc
      exact ⟨h1, ⟨ho, same_upd h _ _ h2, h3⟩, h4⟩
  · rw [List.map_cons, List.nodup_cons]
    refine ⟨fun hm => ?_, S.cells.nd⟩
    obtain ⟨c, hc, e⟩ := List.mem_map.mp hm
    obtain ⟨_, ⟨ho, h2, _⟩, _⟩ := S.cells.at_ c hc
    rw [e, h] at h2; cases h2
  · by_cases hq : q = p
    · subst hq; rw [upd_same] at z; cases z
    · rw [upd_ne hq] at z; exact S.fr.k q e z
/-- one's own object is written -/
theorem SR.write (S : SR K B E M σ G H) {j : Nat} {p : Addr} {fl : Bool} {g0 g : GO} {o : HO} (hj : M[j]? = some (p, fl, g0)) (r : RelO K G o g) : SR K B E (M.set j (p, fl, g)) σ G (upd H p o) := by
  have hm : (p, fl, g0) ∈ M := List.mem_of_getElem? hj
  obtain ⟨h1, ⟨o0, h2, h3⟩, h4⟩ := S.cells.at_ _ hm
  have hjl : j < M.length := (List.getElem?_eq_some_iff.mp hj).1
  have hmap : (M.set j (p, fl, g)).map (·.1) = M.map (·.1) := by
    rw [List.map_set]
    refine List.ext_getElem? fun i => ?_
    by_cases hi : j = i
    · subst hi
      rw [List.getElem?_set_self (by rw [List.length_map]; exact hjl), List.getElem?_map, hj]; rfl
    · rw [List.getElem?_set_ne hi]
  refine ⟨fun b x e => ?_, S.len, S.slot, ⟨fun c hc => ?_, by rw [hmap]; exact S.cells.nd⟩, ⟨S.fr.g, fun q x nf e => ?_, fun q e z => ?_, S.fr.n⟩⟩
  · rw [upd_ne (ne_of_none e h1)]; exact S.sub _ _ e
  · rcases List.mem_or_eq_of_mem_set hc with hc' | rfl
    · by_cases hp : c.1 = p
      · -- the same address: then it is the written one
        obtain ⟨i, hi⟩ := List.mem_iff_getElem?.mp hc
        by_cases hij : j = i
        · subst hij
          rw [List.getElem?_set_self hjl] at hi
          cases hi
          exact ⟨h1, ⟨o, upd_same, r⟩, h4⟩
        · rw [List.getElem?_set_ne hij] at hi
          exfalso
          have e1 : (M.map (·.1))[i]? = some p := by rw [List.getElem?_map, hi]; show some c.1 = some p; rw [hp]
          have e2 : (M.map (·.1))[j]? = some p := by rw [List.getElem?_map, hj]; rfl
          have hil : i < (M.map (·.1)).length := (List.getElem?_eq_some_iff.mp e1).1
          exact hij (((List.getElem?_inj hil S.cells.nd).mp (e1.trans e2.symm)).symm)
      · obtain ⟨k1, ⟨ho, k2, k3⟩, k4⟩ := S.cells.at_ c hc'
        exact ⟨k1, ⟨ho, by rw [upd_ne hp]; exact k2, k3⟩, k4⟩
    · exact ⟨h1, ⟨o, upd_same, r⟩, h4⟩
  · have hq : q ≠ p := fun z => by
      subst z
      cases hfl : fl with
      | true => rw [h4.1 hfl] at e; cases e
      | false => exact nf (h4.2 hfl)
    rw [upd_ne hq]; exact S.fr.h q x nf e
  · by_cases hq : q = p
    · subst hq; rw [upd_same] at z; cases z
    · rw [upd_ne hq] at z; exact S.fr.k q e z
/-- one's own list of data is shared from now on -/
theorem SR.freeze (S : SR K B E M σ G H) {j : Nat} {p : Addr} {ds : List PyData} (hj : M[j]? = some (p, true, .lst (ds.map .dt))) : ∃ G', Same G G' ∧ SR K B E (M.eraseIdx j) σ G' H ∧ Dr G' (.ref p) (.list ds) := by
  have hm := List.mem_of_getElem? hj
  obtain ⟨h1, ⟨o0, h2, h3⟩, h4⟩ := S.cells.at_ _ hm
  obtain ⟨vs, rfl, h5⟩ := RelO.lst_inv h3
  have sg : Same G (upd G p (.lst vs)) := same_upd h1
  have hjl : j < M.length := (List.getElem?_eq_some_iff.mp hj).1
  refine ⟨upd G p (.lst vs), sg, ⟨fun b x e => ?_, S.len, fun i g e => ?_, ⟨fun c hc => ?_, S.cells.nd.sublist ((List.eraseIdx_sublist _ _).map _)⟩, ⟨fun b x e => sg _ _ (S.fr.g _ _ e), S.fr.h, S.fr.k, fun q e n => ?_⟩⟩, .lst upd_same (DrAll.mono sg h5.data)⟩
  · by_cases hb : b = p
    · subst hb; rw [upd_same] at e; cases e; exact h2
    · rw [upd_ne hb] at e; exact S.sub _ _ e
  · obtain ⟨v, k1, k2⟩ := S.slot i g e
    exact ⟨v, k1, RelG.mono sg k2⟩
  · have hcm : c ∈ M := (List.eraseIdx_sublist _ _).subset hc
    have hp : c.1 ≠ p := by
      intro hp
      obtain ⟨i, hi⟩ := List.mem_iff_getElem?.mp hc
      have key : ∃ i', i' ≠ j ∧ M[i']? = some c := by
        rw [List.getElem?_eraseIdx] at hi
        split at hi
        · rename_i hlt
          exact ⟨i, by omega, hi⟩
        · rename_i hlt
          exact ⟨i + 1, by omega, hi⟩
      obtain ⟨i', hne, hi'⟩ := key
      have e1 : (M.map (·.1))[i']? = some p := by rw [List.getElem?_map, hi']; show some c.1 = some p; rw [hp]
      have e2 : (M.map (·.1))[j]? = some p := by rw [List.getElem?_map, hj]; rfl
      have hil : i' < (M.map (·.1)).length := (List.getElem?_eq_some_iff.mp e1).1
      exact hne ((List.getElem?_inj hil S.cells.nd).mp (e1.trans e2.symm))
    obtain ⟨k1, ⟨ho, k2, k3⟩, k4⟩ := S.cells.at_ c hcm
    exact ⟨by rw [upd_ne hp]; exact k1, ⟨ho, k2, RelO.mono sg k3⟩, k4⟩
  · by_cases hq : q = p
    · subst hq
      exact absurd (h4.1 rfl) e
    · rw [upd_ne hq]; exact S.fr.n q e n

/-! ### calls -/
/-- behind a call that changes none of the cells -/
theorem SR.called (S : SR K B E M σ G H) (f : Fr ⟨fun _ => False, G, H⟩ G' H') (sub : Same G' H') : SR K B E M σ G' H' where
  sub := sub
  len := S.len
  slot := fun i g e => by
    obtain ⟨v, h1, h2⟩ := S.slot i g e
    exact ⟨v, h1, RelG.mono f.g h2⟩
  cells := ⟨fun c hc => by
    obtain ⟨h1, ⟨ho, h2, h3⟩, h4⟩ := S.cells.at_ c hc
    exact ⟨f.n c.1 (by show H c.1 ≠ none; rw [h2]; intro z; cases z) h1, ⟨ho, f.h c.1 ho (fun z => z) h2, RelO.mono f.g h3⟩, h4⟩, S.cells.nd⟩
  fr := ⟨fun b o e => f.g _ _ (S.fr.g _ _ e), fun q o nf e => f.h q o (fun z => z) (S.fr.h q o nf e), fun q e => f.k q (S.fr.k q e), fun q e n => f.n q (S.fr.k q e) (S.fr.n q e n)⟩
/-- a new cell is noted -/
theorem SR.noted (S : SR K B E M σ G' H') {p : Addr} {o : HO} {g : GO} (hp : B.H0 p = none) (hM : ∀ c ∈ M, c.1 ≠ p) (hg : G' p = none) (ho : H' p = some o) (r : RelO K G' o g) : SR K B E ((p, true, g) :: M) σ G' H' :=
  ⟨S.sub, S.len, S.slot, ⟨fun c hc => by
    rcases List.mem_cons.mp hc with rfl | hc
    · exact ⟨hg, ⟨o, ho, r⟩, fun _ => hp, fun z => by cases z⟩
    · exact S.cells.at_ c hc, by
    rw [List.map_cons, List.nodup_cons]
    refine ⟨fun hm => ?_, S.cells.nd⟩
    obtain ⟨c, hc, e⟩ := List.mem_map.mp hm
    exact hM c hc e⟩, S.fr⟩
theorem SR.cell_ne (S : SR K B E M σ G H) {p : Addr} (h : H p = none) : ∀ c ∈ M, c.1 ≠ p := fun c hc => by
  obtain ⟨_, ⟨ho, h2, _⟩, _⟩ := S.cells.at_ c hc
  exact ne_of_none h2 h
/-- behind a call that changes the j-th cell -/
theorem SR.called1 (S : SR K B E M σ G H) {j : Nat} {p : Addr} {fl : Bool} {g0 g : GO} {o : HO} (hj : M[j]? = some (p, fl, g0)) (f : Fr ⟨fun q => q = p, G, H⟩ G' H') (sub : Same G' H') (ho : H' p = some o) (r : RelO K G' o g) :
    SR K B E (M.set j (p, fl, g)) σ G' H' := by
  have hm : (p, fl, g0) ∈ M := List.mem_of_getElem? hj
  obtain ⟨h1, ⟨o0, h2, h3⟩, h4⟩ := S.cells.at_ _ hm
  have hjl : j < M.length := (List.getElem?_eq_some_iff.mp hj).1
  have hmap : (M.set j (p, fl, g)).map (·.1) = M.map (·.1) := by
    rw [List.map_set]
    refine List.ext_getElem? fun i => ?_
    by_cases hi : j = i
    · subst hi
      rw [List.getElem?_set_self (by rw [List.length_map]; exact hjl), List.getElem?_map, hj]; rfl
    · rw [List.getElem?_set_ne hi]
  have hgp : G' p = none := f.n p (by show H p ≠ none; rw [h2]; intro z; cases z) h1
  refine ⟨sub, S.len, fun i g e => ?_, ⟨fun c hc => ?_, by rw [hmap]; exact S.cells.nd⟩, ⟨fun b o e => f.g _ _ (S.fr.g _ _ e), fun q x nf e => ?_, fun q e => f.k q (S.fr.k q e), fun q e n => f.n q (S.fr.k q e) (S.fr.n q e n)⟩⟩
  · obtain ⟨v, k1, k2⟩ := S.slot i g e
    exact ⟨v, k1, RelG.mono f.g k2⟩
  · rcases List.mem_or_eq_of_mem_set hc with hc' | rfl
    · by_cases hp : c.1 = p
      · obtain ⟨i, hi⟩ := List.mem_iff_getElem?.mp hc
        by_cases hij : j = i
        · subst hij
          rw [List.getElem?_set_self hjl] at hi
          cases hi
          exact ⟨hgp, ⟨o, ho, r⟩, h4⟩
        · rw [List.getElem?_set_ne hij] at hi
          exfalso
          have e1 : (M.map (·.1))[i]? = some p := by rw [List.getElem?_map, hi]; show some c.1 = some p; rw [hp]
          have e2 : (M.map (·.1))[j]? = some p := by rw [List.getElem?_map, hj]; rfl
          have hil : i < (M.map (·.1)).length := (List.getElem?_eq_some_iff.mp e1).1
          exact hij (((List.getElem?_inj hil S.cells.nd).mp (e1.trans e2.symm)).symm)
      · obtain ⟨k1, ⟨hq, k2, k3⟩, k4⟩ := S.cells.at_ c hc'
        exact ⟨f.n c.1 (by show H c.1 ≠ none; rw [k2]; intro z; cases z) k1, ⟨hq, f.h c.1 hq hp k2, RelO.mono f.g k3⟩, k4⟩
    · exact ⟨hgp, ⟨o, ho, r⟩, h4⟩
  · have hq : q ≠ p := fun z => by
      subst z
      cases hfl : fl with
      | true =>
        have z := S.fr.h q x nf e
        have z2 := h4.1 hfl
        rw [z2] at e; cases e
      | false => exact nf (h4.2 hfl)
    exact f.h q x hq (S.fr.h q x nf e)
end
end Ek

set_option Elab.async false
set_option linter.all false
set_option maxRecDepth 100000
/-! judgements over ghost states, and their rules -/
namespace Ek
open PySem PySem.Spec PyProof.Rows L2

/-- an expression has the ghost value g, and leaves the cells M' -/
def EE (K : PySem.W.Frag) (te : TE) (E : GE) (M : GM) (g : GV) (M' : GM) : Prop :=
  ∀ B σ G H, SR K B E M σ G H → ∀ Q : VK, (∀ v G' H', Same G G' → SR K B E M' σ G' H' → RelG K G' v g → Q v H') → te σ H Q
/-- an expression makes a new list -/
def EF (K : PySem.W.Frag) (te : TE) (E : GE) (M : GM) (xs : List GV) (M' : GM) : Prop :=
  ∀ B σ G H, SR K B E M σ G H → ∀ Q : VK, (∀ p G' H', Same G G' → SR K B E ((p, true, .lst xs) :: M') σ G' H' → Q (.ref p) H') → te σ H Q
/-- an expression makes a new tuple (of anything) -/
def EU (K : PySem.W.Frag) (te : TE) (E : GE) (M : GM) (xs : List GV) (M' : GM) : Prop :=
  ∀ B σ G H, SR K B E M σ G H → ∀ Q : VK, (∀ p G' H', Same G G' → SR K B E ((p, true, .tup xs) :: M') σ G' H' → Q (.ref p) H') → te σ H Q
def ET (K : PySem.W.Frag) (tt : TT) (E : GE) (M : GM) (b : Bool) (M' : GM) : Prop :=
  ∀ B σ G H, SR K B E M σ G H → ∀ Q : Bool → Hp → Prop, (∀ G' H', Same G G' → SR K B E M' σ G' H' → Q b H') → tt σ H Q
def EA (K : PySem.W.Frag) (ta : TA) (E : GE) (M : GM) (gs : List GV) (M' : GM) : Prop :=
  ∀ B σ G H, SR K B E M σ G H → ∀ Q : List V → Hp → Prop, (∀ vs G' H', Same G G' → SR K B E M' σ G' H' → RelGs K G' vs gs → Q vs H') → ta σ H Q
/-- an operation on two values -/
def R2E (K : PySem.W.Frag) (r : R2) (x y : GV) (M : GM) (g : GV) (M' : GM) : Prop :=
  ∀ B E σ G H, SR K B E M σ G H → ∀ v w, RelG K G v x → RelG K G w y → ∀ Q : VK, (∀ v G' H', Same G G' → SR K B E M' σ G' H' → RelG K G' v g → Q v H') → r v w H Q
def R2F (K : PySem.W.Frag) (r : R2) (x y : GV) (M : GM) (xs : List GV) (M' : GM) : Prop :=
  ∀ B E σ G H, SR K B E M σ G H → ∀ v w, RelG K G v x → RelG K G w y → ∀ Q : VK, (∀ p G' H', Same G G' → SR K B E ((p, true, .lst xs) :: M') σ G' H' → Q (.ref p) H') → r v w H Q
abbrev TR := List V → Hp → VK → Prop
def RCE (K : PySem.W.Frag) (r : TR) (gs : List GV) (M : GM) (g : GV) (M' : GM) : Prop :=
  ∀ B E σ G H, SR K B E M σ G H → ∀ vs, RelGs K G vs gs → ∀ Q : VK, (∀ v G' H', Same G G' → SR K B E M' σ G' H' → RelG K G' v g → Q v H') → r vs H Q
def RCF (K : PySem.W.Frag) (r : TR) (gs : List GV) (M : GM) (xs : List GV) (M' : GM) : Prop :=
  ∀ B E σ G H, SR K B E M σ G H → ∀ vs, RelGs K G vs gs → ∀ Q : VK, (∀ p G' H', Same G G' → SR K B E ((p, true, .lst xs) :: M') σ G' H' → Q (.ref p) H') → r vs H Q

theorem Same.rfl' {G : Hp} : Same G G := fun _ _ h => h

section
variable {K : PySem.W.Frag} {E : GE} {M M1 M2 M3 : GM} {g x y z : GV} {ta tb tc te : TE} {tt tu : TT} {b c : Bool} {xs ys : List GV}
/-! ### expressions -/
theorem ee_var {i : Nat} (h : E[i]? = some (some g)) : EE K (tVar i) E M g M := fun B σ G H S Q q => by
  obtain ⟨v, h1, h2⟩ := S.slot i g h
  exact ⟨v, h1, q v G H Same.rfl' S h2⟩
theorem ee_int {i : Int} : EE K (tC (.int i)) E M (.dt (.int i)) M := fun B σ G H S Q q => q _ G H Same.rfl' S (Dr.int i)
theorem ee_bl {i : Bool} : EE K (tC (.bl i)) E M (.dt (.bool i)) M := fun B σ G H S Q q => q _ G H Same.rfl' S (Dr.bl i)
theorem ee_str {i : Str} : EE K (tC (.str i)) E M (.dt (.str i)) M := fun B σ G H S Q q => q _ G H Same.rfl' S (Dr.str i)
theorem ee_non : EE K (tC .non) E M (.dt .none) M := fun B σ G H S Q q => q _ G H Same.rfl' S Dr.non
theorem ee_ty {n : String} : EE K (tC (.ty n)) E M (.ty n) M := fun B σ G H S Q q => q _ G H Same.rfl' S rfl
theorem EE.eq {g' : GV} (h : EE K te E M g M1) (e : g = g') : EE K te E M g' M1 := e ▸ h
theorem ET.eq {b' : Bool} (h : ET K tt E M b M1) (e : b = b') : ET K tt E M b' M1 := e ▸ h
theorem EF.eq {ys : List GV} (h : EF K te E M xs M1) (e : xs = ys) : EF K te E M ys M1 := e ▸ h
theorem ee_op {r : R2} (ha : EE K ta E M x M1) (hb : EE K tb E M1 y M2) (hr : R2E K r x y M2 g M3) : EE K (tOp r ta tb) E M g M3 := fun B σ G H S Q q =>
  ha B σ G H S _ fun v G1 H1 s1 S1 r1 => hb B σ G1 H1 S1 _ fun w G2 H2 s2 S2 r2 => hr B E σ G2 H2 S2 v w (RelG.mono s2 r1) r2 Q fun u G3 H3 s3 S3 r3 => q u G3 H3 (fun a o e => s3 _ _ (s2 _ _ (s1 _ _ e))) S3 r3
theorem ef_op {r : R2} (ha : EE K ta E M x M1) (hb : EE K tb E M1 y M2) (hr : R2F K r x y M2 xs M3) : EF K (tOp r ta tb) E M xs M3 := fun B σ G H S Q q =>
  ha B σ G H S _ fun v G1 H1 s1 S1 r1 => hb B σ G1 H1 S1 _ fun w G2 H2 s2 S2 r2 => hr B E σ G2 H2 S2 v w (RelG.mono s2 r1) r2 Q fun u G3 H3 s3 S3 => q u G3 H3 (fun a o e => s3 _ _ (s2 _ _ (s1 _ _ e))) S3
/-- a list of data that was just made -/
theorem ee_fz {ds : List PyData} (h : EF K te E M (ds.map .dt) M1) : EE K te E M (.dt (.list ds)) M1 := fun B σ G H S Q q =>
  h B σ G H S Q fun p G1 H1 s1 S1 => by
    obtain ⟨G2, s2, S2, d⟩ := S1.freeze (j := 0) rfl
    exact q (.ref p) G2 H1 (fun a o e => s2 _ _ (s1 _ _ e)) S2 d
theorem r2_int {g : Int → Int → V} {d : PyData} {i j : Int} (hg : ∀ G : Hp, Dr G (g i j) d) : R2E K (rI0 g) (.dt (.int i)) (.dt (.int j)) M (.dt d) M := fun B E σ G H S v w hv hw Q q => by
  cases hv; cases hw
  exact ⟨i, j, rfl, rfl, q _ G H Same.rfl' S (hg G)⟩
theorem r2_intC {C : Int → Int → Prop} {g : Int → Int → V} {d : PyData} {i j : Int} (hc : C i j) (hg : ∀ G : Hp, Dr G (g i j) d) : R2E K (rI C g) (.dt (.int i)) (.dt (.int j)) M (.dt d) M := fun B E σ G H S v w hv hw Q q => by
  cases hv; cases hw
  exact ⟨i, j, rfl, rfl, hc, q _ G H Same.rfl' S (hg G)⟩
section
variable {i j : Int}
theorem ee_add (ha : EE K ta E M (.dt (.int i)) M1) (hb : EE K tb E M1 (.dt (.int j)) M2) : EE K (tOp (rI0 fun i j => .int (i + j)) ta tb) E M (.dt (.int (i + j))) M2 := ee_op ha hb (r2_int fun _ => .int _)
theorem ee_sub (ha : EE K ta E M (.dt (.int i)) M1) (hb : EE K tb E M1 (.dt (.int j)) M2) : EE K (tOp (rI0 fun i j => .int (i - j)) ta tb) E M (.dt (.int (i - j))) M2 := ee_op ha hb (r2_int fun _ => .int _)
theorem ee_mul (ha : EE K ta E M (.dt (.int i)) M1) (hb : EE K tb E M1 (.dt (.int j)) M2) (hc : CMulW i j) : EE K (tOp (rI CMulW fun i j => .int (i * j)) ta tb) E M (.dt (.int (i * j))) M2 := ee_op ha hb (r2_intC hc fun _ => .int _)
theorem ee_div (ha : EE K ta E M (.dt (.int i)) M1) (hb : EE K tb E M1 (.dt (.int j)) M2) (hc : CDivW i j) : EE K (tOp (rI CDivW fun i j => .int (i / j)) ta tb) E M (.dt (.int (i / j))) M2 := ee_op ha hb (r2_intC hc fun _ => .int _)
theorem ee_mod (ha : EE K ta E M (.dt (.int i)) M1) (hb : EE K tb E M1 (.dt (.int j)) M2) (hc : 0 < j) : EE K (tOp (rI (fun _ j => 0 < j) fun i j => .int (i % j)) ta tb) E M (.dt (.int (i % j))) M2 := ee_op ha hb (r2_intC hc fun _ => .int _)
theorem ee_pow (ha : EE K ta E M (.dt (.int i)) M1) (hb : EE K tb E M1 (.dt (.int j)) M2) (hc : CPow i j) : EE K (tOp (rI CPow fun i j => .int (i ^ j.toNat)) ta tb) E M (.dt (.int (i ^ j.toNat))) M2 := ee_op ha hb (r2_intC hc fun _ => .int _)
theorem ee_lt (ha : EE K ta E M (.dt (.int i)) M1) (hb : EE K tb E M1 (.dt (.int j)) M2) : EE K (tOp (rI0 fun i j => .bl (decide (i < j))) ta tb) E M (.dt (.bool (decide (i < j)))) M2 := ee_op ha hb (r2_int fun _ => .bl _)
theorem ee_le (ha : EE K ta E M (.dt (.int i)) M1) (hb : EE K tb E M1 (.dt (.int j)) M2) : EE K (tOp (rI0 fun i j => .bl (decide (i ≤ j))) ta tb) E M (.dt (.bool (decide (i ≤ j)))) M2 := ee_op ha hb (r2_int fun _ => .bl _)
theorem ee_gt (ha : EE K ta E M (.dt (.int i)) M1) (hb : EE K tb E M1 (.dt (.int j)) M2) : EE K (tOp (rI0 fun i j => .bl (decide (j < i))) ta tb) E M (.dt (.bool (decide (j < i)))) M2 := ee_op ha hb (r2_int fun _ => .bl _)
theorem ee_ge (ha : EE K ta E M (.dt (.int i)) M1) (hb : EE K tb E M1 (.dt (.int j)) M2) : EE K (tOp (rI0 fun i j => .bl (decide (j ≤ i))) ta tb) E M (.dt (.bool (decide (j ≤ i)))) M2 := ee_op ha hb (r2_int fun _ => .bl _)
theorem ee_neg (ha : EE K ta E M (.dt (.int i)) M1) : EE K (tUn (rU fun i => .int (-i)) ta) E M (.dt (.int (-i))) M1 := fun B σ G H S Q q =>
  ha B σ G H S _ fun v G1 H1 s1 S1 r1 => by
    cases r1
    exact ⟨i, rfl, q _ G1 H1 s1 S1 (Dr.int _)⟩
end
/-! ### equality of data -/
theorem shaped_int (i : Int) : SeqAt.shaped (.int i) = true := rfl
theorem shaped_bool (i : Bool) : SeqAt.shaped (.bool i) = true := rfl
theorem r2_eqD {d e : PyData} (hd : SeqAt.shaped d = true) (he : SeqAt.shaped e = true) : R2E K (rEqD K) (.dt d) (.dt e) M (.dt (.bool (PyData.eqv d e))) M := fun B E σ G H S v w hv hw Q q =>
  ⟨d, e, (Dr.mono S.sub hv).dp, (Dr.mono S.sub hw).dp, hd, he, q _ G H Same.rfl' S (Dr.bl _)⟩
theorem r2_neD {d e : PyData} (hd : SeqAt.shaped d = true) (he : SeqAt.shaped e = true) : R2E K (rNeD K) (.dt d) (.dt e) M (.dt (.bool (!PyData.eqv d e))) M := fun B E σ G H S v w hv hw Q q =>
  ⟨d, e, (Dr.mono S.sub hv).dp, (Dr.mono S.sub hw).dp, hd, he, q _ G H Same.rfl' S (Dr.bl _)⟩
theorem ee_eqD {d e : PyData} (ha : EE K ta E M (.dt d) M1) (hb : EE K tb E M1 (.dt e) M2) (hd : SeqAt.shaped d = true) (he : SeqAt.shaped e = true) : EE K (tOp (rEqD K) ta tb) E M (.dt (.bool (PyData.eqv d e))) M2 := ee_op ha hb (r2_eqD hd he)
theorem ee_neD {d e : PyData} (ha : EE K ta E M (.dt d) M1) (hb : EE K tb E M1 (.dt e) M2) (hd : SeqAt.shaped d = true) (he : SeqAt.shaped e = true) : EE K (tOp (rNeD K) ta tb) E M (.dt (.bool (!PyData.eqv d e))) M2 := ee_op ha hb (r2_neD hd he)
theorem eqv_int (i j : Int) : PyData.eqv (.int i) (.int j) = decide (i = j) := by
  show (i == j) = _
  by_cases h : i = j <;> simp [h]
theorem ee_eqI {i j : Int} (ha : EE K ta E M (.dt (.int i)) M1) (hb : EE K tb E M1 (.dt (.int j)) M2) : EE K (tOp (rEqD K) ta tb) E M (.dt (.bool (decide (i = j)))) M2 := (ee_eqD ha hb rfl rfl).eq (by rw [eqv_int])
theorem ee_neI {i j : Int} (ha : EE K ta E M (.dt (.int i)) M1) (hb : EE K tb E M1 (.dt (.int j)) M2) : EE K (tOp (rNeD K) ta tb) E M (.dt (.bool (!decide (i = j)))) M2 := (ee_neD ha hb rfl rfl).eq (by rw [eqv_int])
/-! ### tests -/
theorem et_test (h : EE K te E M (.dt (.bool b)) M1) : ET K (tTest te) E M b M1 := fun B σ G H S Q q =>
  h B σ G H S _ fun v G1 H1 s1 S1 r1 => by
    cases r1
    exact ⟨b, rfl, q G1 H1 s1 S1⟩
theorem et_B (h : EE K te E M (.dt (.bool b)) M1) : ET K (tB te) E M b M1 := fun B σ G H S Q q =>
  h B σ G H S _ fun v G1 H1 s1 S1 r1 => by
    cases r1
    exact ⟨b, rfl, q G1 H1 s1 S1⟩
theorem et_not (h : ET K tt E M b M1) : ET K (tNot tt) E M (!b) M1 := fun B σ G H S Q q => h B σ G H S _ fun G1 H1 s1 S1 => q G1 H1 s1 S1
theorem et_and (h : ET K tt E M b M) (h2 : b = true → ET K tu E M c M) : ET K (tAnd tt tu) E M (b && c) M := fun B σ G H S Q q => h B σ G H S _ fun G1 H1 s1 S1 => by
  cases b with
  | true =>
    show tu σ H1 Q
    exact h2 rfl B σ G1 H1 S1 Q fun G2 H2 s2 S2 => q G2 H2 (fun a o e => s2 _ _ (s1 _ _ e)) S2
  | false => exact q G1 H1 s1 S1
theorem et_or (h : ET K tt E M b M) (h2 : b = false → ET K tu E M c M) : ET K (tOr tt tu) E M (b || c) M := fun B σ G H S Q q => h B σ G H S _ fun G1 H1 s1 S1 => by
  cases b with
  | false =>
    show tu σ H1 Q
    exact h2 rfl B σ G1 H1 S1 Q fun G2 H2 s2 S2 => q G2 H2 (fun a o e => s2 _ _ (s1 _ _ e)) S2
  | true => exact q G1 H1 s1 S1
theorem ee_andV (h : EE K ta E M (.dt (.bool b)) M) (h2 : b = true → EE K tb E M (.dt (.bool c)) M) : EE K (tAndV ta tb) E M (.dt (.bool (b && c))) M := fun B σ G H S Q q => h B σ G H S _ fun v G1 H1 s1 S1 r1 => by
  cases r1
  refine ⟨b, rfl, ?_⟩
  cases b with
  | true =>
    show tb σ H1 Q
    exact h2 rfl B σ G1 H1 S1 Q fun v G2 H2 s2 S2 r => q v G2 H2 (fun a o e => s2 _ _ (s1 _ _ e)) S2 r
  | false => exact q _ G1 H1 s1 S1 (Dr.bl _)
theorem ee_orV (h : EE K ta E M (.dt (.bool b)) M) (h2 : b = false → EE K tb E M (.dt (.bool c)) M) : EE K (tOrV ta tb) E M (.dt (.bool (b || c))) M := fun B σ G H S Q q => h B σ G H S _ fun v G1 H1 s1 S1 r1 => by
  cases r1
  refine ⟨b, rfl, ?_⟩
  cases b with
  | false =>
    show tb σ H1 Q
    exact h2 rfl B σ G1 H1 S1 Q fun v G2 H2 s2 S2 r => q v G2 H2 (fun a o e => s2 _ _ (s1 _ _ e)) S2 r
  | true => exact q _ G1 H1 s1 S1 (Dr.bl _)
theorem ee_notV (h : EE K ta E M (.dt (.bool b)) M1) : EE K (tNotV ta) E M (.dt (.bool (!b))) M1 := fun B σ G H S Q q => h B σ G H S _ fun v G1 H1 s1 S1 r1 => by
  cases r1
  exact ⟨b, rfl, q _ G1 H1 s1 S1 (Dr.bl _)⟩
theorem ee_if (h : ET K tt E M b M1) (h1 : b = true → EE K ta E M1 g M2) (h2 : b = false → EE K tb E M1 g M2) : EE K (tIf tt ta tb) E M g M2 := fun B σ G H S Q q => h B σ G H S _ fun G1 H1 s1 S1 => by
  cases b with
  | true =>
    show ta σ H1 Q
    exact h1 rfl B σ G1 H1 S1 Q fun v G2 H2 s2 S2 r => q v G2 H2 (fun a o e => s2 _ _ (s1 _ _ e)) S2 r
  | false =>
    show tb σ H1 Q
    exact h2 rfl B σ G1 H1 S1 Q fun v G2 H2 s2 S2 r => q v G2 H2 (fun a o e => s2 _ _ (s1 _ _ e)) S2 r
theorem ef_if (h : ET K tt E M b M1) (h1 : b = true → EF K ta E M1 xs M2) (h2 : b = false → EF K tb E M1 xs M2) : EF K (tIf tt ta tb) E M xs M2 := fun B σ G H S Q q => h B σ G H S _ fun G1 H1 s1 S1 => by
  cases b with
  | true =>
    show ta σ H1 Q
    exact h1 rfl B σ G1 H1 S1 Q fun p G2 H2 s2 S2 => q p G2 H2 (fun a o e => s2 _ _ (s1 _ _ e)) S2
  | false =>
    show tb σ H1 Q
    exact h2 rfl B σ G1 H1 S1 Q fun p G2 H2 s2 S2 => q p G2 H2 (fun a o e => s2 _ _ (s1 _ _ e)) S2
/-! ### arguments, displays -/
theorem ea_nil : EA K tNil E M [] M := fun B σ G H S Q q => q [] G H Same.rfl' S .nil
theorem ea_cons {tr : TA} {gs : List GV} (h : EE K te E M g M1) (hr : EA K tr E M1 gs M2) : EA K (tCons te tr) E M (g :: gs) M2 := fun B σ G H S Q q =>
  h B σ G H S _ fun v G1 H1 s1 S1 r1 => hr B σ G1 H1 S1 _ fun vs G2 H2 s2 S2 r2 => q (v :: vs) G2 H2 (fun a o e => s2 _ _ (s1 _ _ e)) S2 (.cons (RelG.mono s2 r1) r2)
theorem ef_lst {tr : TA} {gs : List GV} (h : EA K tr E M gs M1) (hl : gs.length ≤ sizeLine) : EF K (tLst tr) E M gs M1 := fun B σ G H S Q q =>
  h B σ G H S _ fun vs G1 H1 s1 S1 r1 => ⟨by rw [r1.length]; exact hl, fun p hp => q p G1 _ s1 (S1.own hp r1)⟩
theorem eu_tup {tr : TA} {gs : List GV} (h : EA K tr E M gs M1) (hl : gs.length ≤ sizeLine) : EU K (tTup tr) E M gs M1 := fun B σ G H S Q q =>
  h B σ G H S _ fun vs G1 H1 s1 S1 r1 => ⟨by rw [r1.length]; exact hl, fun p hp => q p G1 _ s1 (S1.own hp r1)⟩
theorem ee_tup {tr : TA} {ds : List PyData} (h : EA K tr E M (ds.map .dt) M1) (hl : ds.length ≤ sizeLine) : EE K (tTup tr) E M (.dt (.tuple ds)) M1 := fun B σ G H S Q q =>
  h B σ G H S _ fun vs G1 H1 s1 S1 r1 => ⟨by rw [r1.length, List.length_map]; exact hl, fun p hp => by
    have hg := S1.gfree hp
    exact q (.ref p) _ _ (fun a o e => same_upd hg _ _ (s1 _ _ e)) (S1.share hp) (.tup upd_same (DrAll.mono (same_upd hg) r1.data))⟩
theorem ee_tup2 {d e : PyData} (h : EE K ta E M (.dt d) M1) (h2 : EE K tb E M1 (.dt e) M2) : EE K (tTup (tCons ta (tCons tb tNil))) E M (.dt (.tuple [d, e])) M2 := ee_tup (ds := [d, e]) (ea_cons h (ea_cons h2 ea_nil)) (by show 2 ≤ sizeLine; decide)
theorem ee_tup1 {d : PyData} (h : EE K ta E M (.dt d) M1) : EE K (tTup (tCons ta tNil)) E M (.dt (.tuple [d])) M1 := ee_tup (ds := [d]) (ea_cons h ea_nil) (by show 1 ≤ sizeLine; decide)
theorem ee_tup3 {d e f : PyData} (h : EE K ta E M (.dt d) M1) (h2 : EE K tb E M1 (.dt e) M2) (h3 : EE K tc E M2 (.dt f) M3) : EE K (tTup (tCons ta (tCons tb (tCons tc tNil)))) E M (.dt (.tuple [d, e, f])) M3 := ee_tup (ds := [d, e, f]) (ea_cons h (ea_cons h2 (ea_cons h3 ea_nil))) (by show 3 ≤ sizeLine; decide)
/-! ### items -/
theorem atI_map {α β : Type} (f : α → β) {xs : List α} {i : Int} {x : α} (h : atI xs i = some x) : atI (xs.map f) i = some (f x) := by
  unfold atI at h ⊢
  rw [List.length_map]
  cases e : ixN xs.length i with
  | none => rw [e] at h; cases h
  | some j =>
    rw [e] at h
    show (xs.map f)[j]? = _
    rw [List.getElem?_map]
    have h' : xs[j]? = some x := h
    rw [h'] <;> rfl
theorem DrAll.atI {G : Hp} {vs : List V} {ds : List PyData} {i : Int} {d : PyData} (h : DrAll G vs ds) (e : L2.atI ds i = some d) : ∃ v, L2.atI vs i = some v ∧ Dr G v d := by
  unfold L2.atI at e ⊢
  rw [h.length]
  cases e1 : ixN ds.length i with
  | none => rw [e1] at e; cases e
  | some j =>
    rw [e1] at e
    exact h.get' e
theorem RelGs.atI {G : Hp} {vs : List V} {gs : List GV} {i : Int} {g : GV} (h : RelGs K G vs gs) (e : L2.atI gs i = some g) : ∃ v, L2.atI vs i = some v ∧ RelG K G v g := by
  unfold L2.atI at e ⊢
  rw [RelGs.length h]
  cases e1 : ixN gs.length i with
  | none => rw [e1] at e; cases e
  | some j =>
    rw [e1] at e
    exact RelGs.get' h e
theorem ee_ixL {ds : List PyData} {i : Int} {d : PyData} (ha : EE K ta E M (.dt (.list ds)) M1) (hb : EE K tb E M1 (.dt (.int i)) M2) (h : atI ds i = some d) : EE K (tOp (rIxL K) ta tb) E M (.dt d) M2 :=
  ee_op ha hb fun B E σ G H S v w hv hw Q q => by
    cases hv with
    | lst e a =>
      cases hw
      obtain ⟨u, h1, h2⟩ := a.atI h
      exact ⟨_, _, i, u, rfl, rfl, .of (S.sub _ _ e), h1, q u G H Same.rfl' S h2⟩
theorem ee_ixT {ds : List PyData} {i : Int} {d : PyData} (ha : EE K ta E M (.dt (.tuple ds)) M1) (hb : EE K tb E M1 (.dt (.int i)) M2) (h : atI ds i = some d) : EE K (tOp (rIxT K) ta tb) E M (.dt d) M2 :=
  ee_op ha hb fun B E σ G H S v w hv hw Q q => by
    cases hv with
    | tup e a =>
      cases hw
      obtain ⟨u, h1, h2⟩ := a.atI h
      exact ⟨_, _, i, u, rfl, rfl, .of (S.sub _ _ e), h1, q u G H Same.rfl' S h2⟩
/-- an item of the script -/
theorem ee_ixS {ns : List Int} {i k : Int} (ha : EE K ta E M (.sc ns) M1) (hb : EE K tb E M1 (.dt (.int i)) M2) (h : atI ns i = some k) : EE K (tOp (rIxL K) ta tb) E M (.dt (.int k)) M2 :=
  ee_op ha hb fun B E σ G H S v w hv hw Q q => by
    obtain ⟨a, rfl, hs⟩ := hv
    cases hw
    exact ⟨a, _, i, _, rfl, rfl, S.sub.seq hs, atI_map V.int h, q _ G H Same.rfl' S (Dr.int _)⟩
/-- an item of one's own list, tuple -/
theorem ee_ixO {p : Addr} {i : Int} {fl : Bool} (ha : EE K ta E M (.rf p) M1) (hb : EE K tb E M1 (.dt (.int i)) M2) (hm : (p, fl, GO.lst xs) ∈ M2) (h : atI xs i = some g) : EE K (tOp (rIxL K) ta tb) E M g M2 :=
  ee_op ha hb fun B E σ G H S v w hv hw Q q => by
    have hv' : v = .ref p := hv
    subst hv'
    cases hw
    obtain ⟨_, ⟨o, h1, h2⟩, _⟩ := S.cells.at_ _ hm
    obtain ⟨vs, rfl, r⟩ := RelO.lst_inv h2
    obtain ⟨u, k1, k2⟩ := RelGs.atI r h
    exact ⟨p, vs, i, u, rfl, rfl, .of h1, k1, q u G H Same.rfl' S k2⟩
theorem ee_ixOT {p : Addr} {i : Int} {fl : Bool} (ha : EE K ta E M (.rf p) M1) (hb : EE K tb E M1 (.dt (.int i)) M2) (hm : (p, fl, GO.tup xs) ∈ M2) (h : atI xs i = some g) : EE K (tOp (rIxT K) ta tb) E M g M2 :=
  ee_op ha hb fun B E σ G H S v w hv hw Q q => by
    have hv' : v = .ref p := hv
    subst hv'
    cases hw
    obtain ⟨_, ⟨o, h1, h2⟩, _⟩ := S.cells.at_ _ hm
    obtain ⟨vs, rfl, r⟩ := RelO.tup_inv h2
    obtain ⟨u, k1, k2⟩ := RelGs.atI r h
    exact ⟨p, vs, i, u, rfl, rfl, .of h1, k1, q u G H Same.rfl' S k2⟩
/-! ### built-ins by name -/
theorem ee_cb {r : TR} {tr : TA} {gs : List GV} (h : EA K tr E M gs M1) (hr : RCE K r gs M1 g M2) : EE K (tCB r tr) E M g M2 := fun B σ G H S Q q =>
  h B σ G H S _ fun vs G1 H1 s1 S1 r1 => hr B E σ G1 H1 S1 vs r1 Q fun u G3 H3 s3 S3 r3 => q u G3 H3 (fun a o e => s3 _ _ (s1 _ _ e)) S3 r3
theorem ef_cb {r : TR} {tr : TA} {gs : List GV} (h : EA K tr E M gs M1) (hr : RCF K r gs M1 xs M2) : EF K (tCB r tr) E M xs M2 := fun B σ G H S Q q =>
  h B σ G H S _ fun vs G1 H1 s1 S1 r1 => hr B E σ G1 H1 S1 vs r1 Q fun u G3 H3 s3 S3 => q u G3 H3 (fun a o e => s3 _ _ (s1 _ _ e)) S3
theorem one_inv {G : Hp} {vs : List V} {g : GV} (h : RelGs K G vs [g]) : ∃ v, vs = [v] ∧ RelG K G v g := by
  cases h with
  | cons a t => cases t; exact ⟨_, rfl, a⟩
theorem two_inv {G : Hp} {vs : List V} {g g' : GV} (h : RelGs K G vs [g, g']) : ∃ v w, vs = [v, w] ∧ RelG K G v g ∧ RelG K G w g' := by
  cases h with
  | cons a t =>
    obtain ⟨w, rfl, b⟩ := one_inv t
    exact ⟨_, _, rfl, a, b⟩
def rAbs : TR := fun xs H Q => ∃ i, xs = [.int i] ∧ Q (.int (if i < 0 then -i else i)) H
theorem ee_abs {i : Int} (h : EE K te E M (.dt (.int i)) M1) : EE K (tCB (fun xs H Q => ∃ i, xs = [.int i] ∧ Q (.int (if i < 0 then -i else i)) H) (tCons te tNil)) E M (.dt (.int (i.natAbs : Int))) M1 :=
  ee_cb (ea_cons h ea_nil) fun B E σ G H S vs r Q q => by
    obtain ⟨v, rfl, hv⟩ := one_inv r
    cases hv
    refine ⟨i, rfl, ?_⟩
    have e : (if i < 0 then -i else i) = (i.natAbs : Int) := by split <;> omega
    rw [e]
    exact q _ G H Same.rfl' S (Dr.int _)
theorem ee_max2 {i j : Int} (h : EE K ta E M (.dt (.int i)) M1) (h2 : EE K tb E M1 (.dt (.int j)) M2) : EE K (tCB (fun xs H Q => ∃ i j, xs = [.int i, .int j] ∧ Q (.int (if j > i then j else i)) H) (tCons ta (tCons tb tNil))) E M (.dt (.int (max i j))) M2 :=
  ee_cb (ea_cons h (ea_cons h2 ea_nil)) fun B E σ G H S vs r Q q => by
    obtain ⟨v, w, rfl, hv, hw⟩ := two_inv r
    cases hv; cases hw
    refine ⟨i, j, rfl, ?_⟩
    have e : (if j > i then j else i) = max i j := by split <;> omega
    rw [e]
    exact q _ G H Same.rfl' S (Dr.int _)
theorem ee_min2 {i j : Int} (h : EE K ta E M (.dt (.int i)) M1) (h2 : EE K tb E M1 (.dt (.int j)) M2) : EE K (tCB (fun xs H Q => ∃ i j, xs = [.int i, .int j] ∧ Q (.int (if j < i then j else i)) H) (tCons ta (tCons tb tNil))) E M (.dt (.int (min i j))) M2 :=
  ee_cb (ea_cons h (ea_cons h2 ea_nil)) fun B E σ G H S vs r Q q => by
    obtain ⟨v, w, rfl, hv, hw⟩ := two_inv r
    cases hv; cases hw
    refine ⟨i, j, rfl, ?_⟩
    have e : (if j < i then j else i) = min i j := by split <;> omega
    rw [e]
    exact q _ G H Same.rfl' S (Dr.int _)
def rLenQ (K : PySem.W.Frag) : TR := fun xs H Q => ∃ p ys, xs = [.ref p] ∧ (SqL K H p ys ∨ SqT K H p ys) ∧ Q (.int ys.length) H
theorem ee_lenL {ds : List PyData} (h : EE K te E M (.dt (.list ds)) M1) : EE K (tCB (rLenQ K) (tCons te tNil)) E M (.dt (.int (ds.length : Int))) M1 :=
  ee_cb (ea_cons h ea_nil) fun B E σ G H S vs r Q q => by
    obtain ⟨v, rfl, hv⟩ := one_inv r
    cases hv with
    | lst e a => exact ⟨_, _, rfl, .inl (.of (S.sub _ _ e)), by rw [a.length]; exact q _ G H Same.rfl' S (Dr.int _)⟩
theorem ee_lenT {ds : List PyData} (h : EE K te E M (.dt (.tuple ds)) M1) : EE K (tCB (rLenQ K) (tCons te tNil)) E M (.dt (.int (ds.length : Int))) M1 :=
  ee_cb (ea_cons h ea_nil) fun B E σ G H S vs r Q q => by
    obtain ⟨v, rfl, hv⟩ := one_inv r
    cases hv with
    | tup e a => exact ⟨_, _, rfl, .inr (.of (S.sub _ _ e)), by rw [a.length]; exact q _ G H Same.rfl' S (Dr.int _)⟩
theorem ee_lenS {ns : List Int} (h : EE K te E M (.sc ns) M1) : EE K (tCB (rLenQ K) (tCons te tNil)) E M (.dt (.int (ns.length : Int))) M1 :=
  ee_cb (ea_cons h ea_nil) fun B E σ G H S vs r Q q => by
    obtain ⟨v, rfl, hv⟩ := one_inv r
    obtain ⟨a, rfl, hs⟩ := hv
    exact ⟨_, _, rfl, .inl (S.sub.seq hs), by rw [List.length_map]; exact q _ G H Same.rfl' S (Dr.int _)⟩
theorem ee_lenO {p : Addr} {fl : Bool} (h : EE K te E M (.rf p) M1) (hm : (p, fl, GO.lst xs) ∈ M1) : EE K (tCB (rLenQ K) (tCons te tNil)) E M (.dt (.int (xs.length : Int))) M1 :=
  ee_cb (ea_cons h ea_nil) fun B E σ G H S vs r Q q => by
    obtain ⟨v, rfl, hv⟩ := one_inv r
    have hv' : v = .ref p := hv
    subst hv'
    obtain ⟨_, ⟨o, h1, h2⟩, _⟩ := S.cells.at_ _ hm
    obtain ⟨ws, rfl, r⟩ := RelO.lst_inv h2
    exact ⟨p, ws, rfl, .inl (.of h1), by rw [RelGs.length r]; exact q _ G H Same.rfl' S (Dr.int _)⟩
/-- isinstance(x, T), x data -/
def tyD : PyData → String
  | .none => "NoneType" | .bool _ => "bool" | .int _ => "int" | .str _ => "str" | .list _ => "list" | .tuple _ => "tuple" | .dict _ => "dict"
theorem ty_data {G H : Hp} (e : Same G H) : ∀ {v : V} {d : PyData}, Dr G v d → TyX K H v (.type (tyD d))
  | _, _, .non => .base .non
  | _, _, .bl b => .base (.bl b)
  | _, _, .int b => .base (.int b)
  | _, _, .str b => .base (.str b)
  | _, _, .lst h _ => .base (.lst (e _ _ h))
  | _, _, .tup h _ => .base (.tup (e _ _ h))
theorem ee_isi {d : PyData} {n : String} (ha : EE K ta E M (.dt d) M1) (hb : EE K tb E M1 (.ty n) M2) (hk : kitB (tyD d) n = some b) :
    EE K (tCB (rIsi K) (tCons ta (tCons tb tNil))) E M (.dt (.bool b)) M2 :=
  ee_cb (ea_cons ha (ea_cons hb ea_nil)) fun B E σ G H S vs r Q q => by
    obtain ⟨v, w, rfl, hv, hw⟩ := two_inv r
    have hw' : w = .ty n := hw
    subst hw'
    exact ⟨v, .ty n, _, _, b, rfl, .ty n, ty_data S.sub hv, kit_ty hk, q _ G H Same.rfl' S (Dr.bl _)⟩

/-! ### blocks -/
structure Kn where
  nx : GE → GM → Prop
  rt : GV → GM → Prop
  bk : GE → GM → Prop
  ct : GE → GM → Prop
def Blk (K : PySem.W.Frag) (t : TS) (E : GE) (M : GM) (P : Kn) : Prop :=
  ∀ B σ G H (D : Ends), SR K B E M σ G H →
    (∀ E' M' σ' G' H', P.nx E' M' → Same G G' → SR K B E' M' σ' G' H' → D.nx σ' H') →
    (∀ g M' v G' H', P.rt g M' → Same G G' → SR K B [] M' [] G' H' → RelG K G' v g → D.rt v H') →
    (∀ E' M' σ' G' H', P.bk E' M' → Same G G' → SR K B E' M' σ' G' H' → D.bk σ' H') →
    (∀ E' M' σ' G' H', P.ct E' M' → Same G G' → SR K B E' M' σ' G' H' → D.ct σ' H') → t D σ H
variable {P : Kn} {t u : TS}
theorem SR.bare {B : Bs} {σ : St} {G H : Hp} (S : SR K B E M σ G H) : SR K B [] M [] G H := S.slots rfl (fun i g e => by simp at e)
theorem blk_next (h : P.nx E M) : Blk K tNext E M P := fun B σ G H D S n _ _ _ => n E M σ G H h Same.rfl' S
/-- what follows from a later state follows from here -/
theorem Blk.from_ {B : Bs} {σ : St} {G G0 H : Hp} {D : Ends} (h : Blk K t E M P) (s : Same G0 G) (S : SR K B E M σ G H)
    (n : ∀ E' M' σ' G' H', P.nx E' M' → Same G0 G' → SR K B E' M' σ' G' H' → D.nx σ' H')
    (r : ∀ g M' v G' H', P.rt g M' → Same G0 G' → SR K B [] M' [] G' H' → RelG K G' v g → D.rt v H')
    (b : ∀ E' M' σ' G' H', P.bk E' M' → Same G0 G' → SR K B E' M' σ' G' H' → D.bk σ' H')
    (c : ∀ E' M' σ' G' H', P.ct E' M' → Same G0 G' → SR K B E' M' σ' G' H' → D.ct σ' H') : t D σ H :=
  h B σ G H D S (fun E' M' σ' G' H' q e S' => n E' M' σ' G' H' q (s.trans e) S') (fun g M' v G' H' q e S' rr => r g M' v G' H' q (s.trans e) S' rr) (fun E' M' σ' G' H' q e S' => b E' M' σ' G' H' q (s.trans e) S') (fun E' M' σ' G' H' q e S' => c E' M' σ' G' H' q (s.trans e) S')
theorem blk_seq (h : Blk K t E M { P with nx := fun E' M' => Blk K u E' M' P }) : Blk K (tSeq t u) E M P := fun B σ G H D S n r b c =>
  h B σ G H { D with nx := u D } S (fun E' M' σ' G' H' q e S' => Blk.from_ (D := D) q e S' n r b c) r b c
theorem blk_mid {Mid : GE → GM → Prop} (h : Blk K t E M { P with nx := Mid }) (k : ∀ E' M', Mid E' M' → Blk K u E' M' P) : Blk K (tSeq t u) E M P := fun B σ G H D S n r b c =>
  h B σ G H { D with nx := u D } S (fun E' M' σ' G' H' q e S' => Blk.from_ (D := D) (k E' M' q) e S' n r b c) r b c
theorem Blk.imp {P' : Kn} (h : Blk K t E M P) (hn : ∀ E' M', P.nx E' M' → P'.nx E' M') (hr : ∀ g M', P.rt g M' → P'.rt g M') (hb : ∀ E' M', P.bk E' M' → P'.bk E' M') (hc : ∀ E' M', P.ct E' M' → P'.ct E' M') : Blk K t E M P' := fun B σ G H D S n r b c =>
  h B σ G H D S (fun E' M' σ' G' H' q => n E' M' σ' G' H' (hn _ _ q)) (fun g M' v G' H' q => r g M' v G' H' (hr _ _ q)) (fun E' M' σ' G' H' q => b E' M' σ' G' H' (hb _ _ q)) (fun E' M' σ' G' H' q => c E' M' σ' G' H' (hc _ _ q))
/-- what is known is weakened -/
theorem blk_weak {E' : GE} (h : Blk K t E' M P) (hl : E'.length = E.length) (hw : ∀ (i : Nat) g, E'[i]? = some (some g) → E[i]? = some (some g)) : Blk K t E M P := fun B σ G H D S => h B σ G H D (S.weak hl hw)
theorem blk_forget {M' : GM} (h : Blk K t E M' P) (hs : M'.Sublist M) : Blk K t E M P := fun B σ G H D S => h B σ G H D (S.sub_cells hs)
theorem blk_freeze {j i : Nat} {p : Addr} {ds : List PyData} (hj : M[j]? = some (p, true, .lst (ds.map .dt))) (hi : E[i]? = some (some (.rf p))) (h : Blk K t (E.set i (some (.dt (.list ds)))) (M.eraseIdx j) P) : Blk K t E M P := fun B σ G H D S n r b c => by
  obtain ⟨G', s, S', d⟩ := S.freeze hj
  refine Blk.from_ h s ⟨S'.sub, by rw [List.length_set]; exact S'.len, fun k g e => ?_, S'.cells, S'.fr⟩ n r b c
  by_cases hk : i = k
  · subst hk
    have hl : i < E.length := (List.getElem?_eq_some_iff.mp hi).1
    rw [List.getElem?_set_self hl] at e
    cases e
    obtain ⟨v, h1, h2⟩ := S'.slot i _ hi
    have h2' : v = .ref p := h2
    subst h2'
    exact ⟨_, h1, d⟩
  · rw [List.getElem?_set_ne hk] at e
    exact S'.slot k g e
theorem blk_asg {i : Nat} (h : EE K te E M g M1) (k : P.nx (E.set i (some g)) M1) : Blk K (tAsg te (gName i)) E M P := fun B σ G H D S n _ _ _ =>
  h B σ G H S _ fun v G1 H1 s1 S1 r1 => n _ _ _ G1 _ k s1 (S1.set r1)
theorem blk_asgF {i : Nat} (h : EF K te E M xs M1) (k : ∀ p, P.nx (E.set i (some (.rf p))) ((p, true, .lst xs) :: M1)) : Blk K (tAsg te (gName i)) E M P := fun B σ G H D S n _ _ _ =>
  h B σ G H S _ fun p G1 H1 s1 S1 => n _ _ _ G1 _ (k p) s1 (S1.set (g := .rf p) rfl)
theorem blk_asgU {i : Nat} (h : EU K te E M xs M1) (k : ∀ p, P.nx (E.set i (some (.rf p))) ((p, true, .tup xs) :: M1)) : Blk K (tAsg te (gName i)) E M P := fun B σ G H D S n _ _ _ =>
  h B σ G H S _ fun p G1 H1 s1 S1 => n _ _ _ G1 _ (k p) s1 (S1.set (g := .rf p) rfl)
/-- x = e, then the rest -/
theorem bs_asg {i : Nat} {E' : GE} (h : EE K te E M g M1) (k : Blk K t E' M1 P) (e : E.set i (some g) = E' := by rfl) : Blk K (tSeq (tAsg te (gName i)) t) E M P := blk_seq (blk_asg h (by rw [e]; exact k))
theorem bs_asgF {i : Nat} {E' : Addr → GE} (h : EF K te E M xs M1) (k : ∀ p, Blk K t (E' p) ((p, true, .lst xs) :: M1) P) (e : ∀ p, E.set i (some (.rf p)) = E' p := by intro _; rfl) : Blk K (tSeq (tAsg te (gName i)) t) E M P :=
  blk_seq (blk_asgF h (fun p => by rw [e p]; exact k p))
theorem blk_if (h : ET K tt E M b M1) (h1 : b = true → Blk K t E M1 P) (h2 : b = false → Blk K u E M1 P) : Blk K (tIfS tt t u) E M P := fun B σ G H D S n r bb c =>
  h B σ G H S _ fun G1 H1 s1 S1 => by
    cases b with
    | true =>
      show t D σ H1
      exact Blk.from_ (h1 rfl) s1 S1 n r bb c
    | false =>
      show u D σ H1
      exact Blk.from_ (h2 rfl) s1 S1 n r bb c
/-- an if without else, then the rest -/
theorem bs_when {tr : TS} (h : ET K tt E M b M1) (h1 : b = true → Blk K t E M1 { P with nx := fun E' M' => Blk K tr E' M' P }) (h2 : b = false → Blk K tr E M1 P) : Blk K (tSeq (tIfS tt t tNext) tr) E M P :=
  blk_seq (blk_if h h1 fun hb => blk_next (h2 hb))
theorem blk_when (h : ET K tt E M b M1) (h1 : b = true → Blk K t E M1 P) (h2 : b = false → P.nx E M1) : Blk K (tIfS tt t tNext) E M P := blk_if h h1 fun hb => blk_next (h2 hb)
theorem blk_ret (h : EE K te E M g M1) (k : P.rt g M1) : Blk K (tRet te) E M P := fun B σ G H D S _ r _ _ => h B σ G H S _ fun v G1 H1 s1 S1 r1 => r g M1 v G1 H1 k s1 S1.bare r1
theorem blk_retF (h : EF K te E M xs M1) (k : ∀ p, P.rt (.rf p) ((p, true, .lst xs) :: M1)) : Blk K (tRet te) E M P := fun B σ G H D S _ r _ _ => h B σ G H S _ fun p G1 H1 s1 S1 => r _ _ _ G1 H1 (k p) s1 S1.bare rfl
theorem blk_retN (k : P.rt (.dt .none) M) : Blk K tRetN E M P := fun B σ G H D S _ r _ _ => r _ _ _ G H k Same.rfl' S.bare Dr.non
theorem blk_brk (k : P.bk E M) : Blk K tBreak E M P := fun B σ G H D S _ _ b _ => b E M σ G H k Same.rfl' S
theorem blk_cont (k : P.ct E M) : Blk K tCont E M P := fun B σ G H D S _ _ _ c => c E M σ G H k Same.rfl' S
theorem blk_drop (h : EE K te E M g M1) (k : P.nx E M1) : Blk K (tDrop te) E M P := fun B σ G H D S n _ _ _ => h B σ G H S _ fun v G1 H1 s1 S1 r1 => n _ _ _ G1 _ k s1 S1
theorem bs_drop (h : EE K te E M g M1) (k : Blk K t E M1 P) : Blk K (tSeq (tDrop te) t) E M P := blk_seq (blk_drop h k)
/-- a, b = e, e2 -/
theorem blk_par {i j : Nat} {ta : TA} {g g' : GV} (h : EA K ta E M [g, g'] M1) (k : P.nx ((E.set i (some g)).set j (some g')) M1) : Blk K (tPar i j ta) E M P := fun B σ G H D S n _ _ _ =>
  h B σ G H S _ fun vs G1 H1 s1 S1 r1 => by
    obtain ⟨v, w, rfl, h1, h2⟩ := two_inv r1
    exact ⟨v, w, rfl, n _ _ _ G1 _ k s1 ((S1.set h1).set h2)⟩
/-- x op= e, x an int -/
theorem blk_aug {i : Nat} {f : Int → Int → Int} {a c : Int} (hx : E[i]? = some (some (.dt (.int a)))) (h : EE K te E M (.dt (.int c)) M1) (k : P.nx (E.set i (some (.dt (.int (f a c))))) M1) : Blk K (tAug i te (ipI f)) E M P := fun B σ G H D S n _ _ _ => by
  obtain ⟨v, h1, h2⟩ := S.slot i _ hx
  cases h2
  refine ⟨_, h1, h B σ G H S _ fun w G1 H1 s1 S1 r1 => ?_⟩
  cases r1
  exact ⟨a, c, rfl, rfl, n _ _ _ G1 _ k s1 (S1.set (g := .dt (.int (f a c))) (Dr.int _))⟩
/-- xs.append(e), xs one's own -/
theorem blk_app {j : Nat} {p : Addr} {fl : Bool} (ho : EE K ta E M (.rf p) M) (h : EE K te E M g M1) (hm : M[j]? = some (p, fl, .lst xs)) (hm1 : M1[j]? = some (p, fl, .lst xs)) (hz : xs.length < sizeLine) (k : P.nx E (M1.set j (p, fl, .lst (xs ++ [g])))) :
    Blk K (tDrop (tBM K "list" rAppend ta (tCons te tNil))) E M P := fun B σ G H D S n _ _ _ =>
  ho B σ G H S _ fun v G1 H1 s1 S1 r1 => by
    have r1' : v = .ref p := r1
    subst r1'
    obtain ⟨_, ⟨o, k1, k2⟩, _⟩ := S1.cells.at_ _ (List.mem_of_getElem? hm)
    obtain ⟨vs, rfl, r⟩ := RelO.lst_inv k2
    refine ⟨.inl ⟨rfl, _, .of k1⟩, h B σ G1 H1 S1 _ fun w G2 H2 s2 S2 r2 => ?_⟩
    obtain ⟨_, ⟨o, k1, k2⟩, _⟩ := S2.cells.at_ _ (List.mem_of_getElem? hm1)
    obtain ⟨vs, rfl, r⟩ := RelO.lst_inv k2
    exact ⟨p, vs, w, rfl, rfl, k1, by rw [RelGs.length r]; exact hz, n _ _ _ G2 _ k (s1.trans s2) (S2.write (g := .lst (xs ++ [g])) hm1 (RelGs.app r (.cons r2 .nil)))⟩
/-- xs[i] = e, xs one's own -/
theorem blk_setL {j : Nat} {p : Addr} {fl : Bool} {i : Int} {n0 : Nat} (h : EE K te E M g M1) (ho : EE K ta E M1 (.rf p) M1) (hi : EE K tb E M1 (.dt (.int i)) M2) (hm : M2[j]? = some (p, fl, .lst xs)) (hn : ixN xs.length i = some n0) (k : P.nx E (M2.set j (p, fl, .lst (xs.set n0 g)))) :
    Blk K (tAsg te (gSub ta tb rSetL)) E M P := fun B σ G H D S n _ _ _ =>
  h B σ G H S _ fun v G1 H1 s1 S1 r1 => ho B σ G1 H1 S1 _ fun w G2 H2 s2 S2 r2 => hi B σ G2 H2 S2 _ fun x G3 H3 s3 S3 r3 => by
    have r2' : w = .ref p := r2
    subst r2'
    cases r3
    obtain ⟨_, ⟨o, k1, k2⟩, _⟩ := S3.cells.at_ _ (List.mem_of_getElem? hm)
    obtain ⟨vs, rfl, r⟩ := RelO.lst_inv k2
    exact ⟨p, vs, i, n0, rfl, rfl, k1, by rw [RelGs.length r]; exact hn, n _ _ _ G3 _ k (s1.trans (s2.trans s3)) (S3.write (g := .lst (xs.set n0 g)) hm (RelGs.set r (RelG.mono s3 (RelG.mono s2 r1))))⟩
/-! ### loops -/
/-- the body of a turn, from a state behind the loop's start -/
abbrev turnK (P : Kn) (N : GE → GM → Prop) : Kn := { nx := N, ct := N, bk := P.nx, rt := P.rt }
/-- for x in xs, xs data -/
theorem blk_forL {j : Nat} {ds : List PyData} {tl : TE} (h : EE K tl E M (.dt (.list ds)) M1) (Iv : Nat → GE → GM → Prop) (h0 : Iv 0 E M1)
    (hs : ∀ i d E1 N1, ds[i]? = some d → Iv i E1 N1 → Blk K t (E1.set j (some (.dt d))) N1 (turnK P (Iv (i + 1)))) (hd : ∀ E1 N1, Iv ds.length E1 N1 → P.nx E1 N1) :
    Blk K (tFor (iList K tl) (gName j) t) E M P := fun B σ G H D S n r bb c =>
  h B σ G H S _ fun v G1 H1 s1 S1 r1 => by
    cases r1 with
    | lst e a =>
      rename_i ad vs
      refine ⟨ad, rfl, ⟨vs, .of (S1.sub _ _ e)⟩, for_list (xs := vs) (fun i σ' H' => ∃ E1 N1 G2, Iv i E1 N1 ∧ SR K B E1 N1 σ' G2 H' ∧ Same G1 G2) ⟨E, M1, G1, h0, S1, Same.rfl'⟩ (fun i σ' H' _ ⟨E1, N1, G2, q1, S2, s2⟩ => .of (S2.sub _ _ (s2 _ _ e)))
        (fun i x σ' H' hx ⟨E1, N1, G2, q1, S2, s2⟩ => ?_) (fun σ' H' ⟨E1, N1, G2, q1, S2, s2⟩ => n E1 N1 σ' G2 H' (hd _ _ (by rw [← a.length]; exact q1)) (s1.trans s2) S2)⟩
      obtain ⟨d, hdi, rd⟩ := a.get hx
      have rd' : RelG K G2 x (.dt d) := Dr.mono s2 rd
      exact Blk.from_ (G0 := G1) (hs i d E1 N1 hdi q1) s2 (S2.set (i := j) rd') (fun E' M' σ3 G3 H3 q e3 S3 => ⟨E', M', G3, q, S3, e3⟩) (fun g M' v G3 H3 q e3 S3 rr => r g M' v G3 H3 q (s1.trans e3) S3 rr) (fun E' M' σ3 G3 H3 q e3 S3 => n E' M' σ3 G3 H3 q (s1.trans e3) S3) (fun E' M' σ3 G3 H3 q e3 S3 => ⟨E', M', G3, q, S3, e3⟩)
/-- for a, b in xs, xs data: pairs -/
theorem blk_forL2 {j1 j2 : Nat} {ds : List PyData} {tl : TE} (f : Nat → PyData × PyData) (h : EE K tl E M (.dt (.list ds)) M1) (Iv : Nat → GE → GM → Prop) (h0 : Iv 0 E M1) (hf : ∀ (i : Nat) (d : PyData), ds[i]? = some d → d = PyData.tuple [(f i).1, (f i).2])
    (hs : ∀ i E1 N1, i < ds.length → Iv i E1 N1 → Blk K t ((E1.set j1 (some (.dt (f i).1))).set j2 (some (.dt (f i).2))) N1 (turnK P (Iv (i + 1)))) (hd : ∀ E1 N1, Iv ds.length E1 N1 → P.nx E1 N1) :
    Blk K (tFor (iList K tl) (gTup K 2 (gCons (gName j1) (gCons (gName j2) gNil))) t) E M P := fun B σ G H D S n r bb c =>
  h B σ G H S _ fun v G1 H1 s1 S1 r1 => by
    cases r1 with
    | lst e a =>
      rename_i ad vs
      refine ⟨ad, rfl, ⟨vs, .of (S1.sub _ _ e)⟩, for_list (xs := vs) (fun i σ' H' => ∃ E1 N1 G2, Iv i E1 N1 ∧ SR K B E1 N1 σ' G2 H' ∧ Same G1 G2) ⟨E, M1, G1, h0, S1, Same.rfl'⟩ (fun i σ' H' _ ⟨E1, N1, G2, q1, S2, s2⟩ => .of (S2.sub _ _ (s2 _ _ e)))
        (fun i x σ' H' hx ⟨E1, N1, G2, q1, S2, s2⟩ => ?_) (fun σ' H' ⟨E1, N1, G2, q1, S2, s2⟩ => n E1 N1 σ' G2 H' (hd _ _ (by rw [← a.length]; exact q1)) (s1.trans s2) S2)⟩
      obtain ⟨d, hdi, rd⟩ := a.get hx
      have hdl : i < ds.length := (List.getElem?_eq_some_iff.mp hdi).1
      have hd2 := hf i d hdi
      subst hd2
      cases Dr.mono s2 rd with
      | tup et at_ =>
        cases at_ with
        | cons d1 t1 =>
          cases t1 with
          | cons d2 t2 =>
            cases t2
            refine ⟨_, _, rfl, .of (S2.sub _ _ et), rfl, _, _, rfl, _, _, rfl, rfl, ?_⟩
            exact Blk.from_ (G0 := G1) (hs i E1 N1 hdl q1) s2 ((S2.set (i := j1) (g := .dt (f i).1) d1).set (i := j2) (g := .dt (f i).2) d2) (fun E' M' σ3 G3 H3 q e3 S3 => ⟨E', M', G3, q, S3, e3⟩) (fun g M' v G3 H3 q e3 S3 rr => r g M' v G3 H3 q (s1.trans e3) S3 rr) (fun E' M' σ3 G3 H3 q e3 S3 => n E' M' σ3 G3 H3 q (s1.trans e3) S3) (fun E' M' σ3 G3 H3 q e3 S3 => ⟨E', M', G3, q, S3, e3⟩)
/-- for k in range(n) -/
theorem blk_forR1 {j : Nat} {m : Int} {tr : TA} (h : EA K tr E M [.dt (.int m)] M1) (hm : -(2 ^ 62) ≤ m ∧ m < 2 ^ 62) (Iv : Nat → GE → GM → Prop) (h0 : Iv 0 E M1)
    (hs : ∀ (i : Nat) E1 N1, (i : Int) < m → Iv i E1 N1 → Blk K t (E1.set j (some (.dt (.int (i : Int))))) N1 (turnK P (Iv (i + 1)))) (hd : ∀ E1 N1, Iv m.toNat E1 N1 → P.nx E1 N1) :
    Blk K (tFor (iRng1 tr) (gName j) t) E M P := fun B σ G H D S n r bb c =>
  h B σ G H S _ fun vs G1 H1 s1 S1 r1 => by
    obtain ⟨v, rfl, hv⟩ := one_inv r1
    cases hv
    refine ⟨m, rfl, hm.1, hm.2, for_range (lo := 0) (n := m.toNat) (fun i σ' H' => ∃ E1 N1 G2, Iv i E1 N1 ∧ SR K B E1 N1 σ' G2 H' ∧ Same G1 G2) ⟨E, M1, G1, h0, S1, Same.rfl'⟩
      (fun i σ' H' hi ⟨E1, N1, G2, q1, S2, s2⟩ => ?_) (fun σ' H' ⟨E1, N1, G2, q1, S2, s2⟩ => n E1 N1 σ' G2 H' (hd _ _ q1) (s1.trans s2) S2)⟩
    have e0 : (0 : Int) + (i : Int) = (i : Int) := Int.zero_add _
    rw [e0]
    exact Blk.from_ (G0 := G1) (hs i E1 N1 (by omega) q1) s2 (S2.set (i := j) (g := .dt (.int (i : Int))) (Dr.int _)) (fun E' M' σ3 G3 H3 q e3 S3 => ⟨E', M', G3, q, S3, e3⟩) (fun g M' v G3 H3 q e3 S3 rr => r g M' v G3 H3 q (s1.trans e3) S3 rr) (fun E' M' σ3 G3 H3 q e3 S3 => n E' M' σ3 G3 H3 q (s1.trans e3) S3) (fun E' M' σ3 G3 H3 q e3 S3 => ⟨E', M', G3, q, S3, e3⟩)
/-- for k in range(lo, m) -/
theorem blk_forR2 {j : Nat} {lo m : Int} {tr : TA} (h : EA K tr E M [.dt (.int lo), .dt (.int m)] M1) (hm : -(2 ^ 62) ≤ lo ∧ lo < 2 ^ 62 ∧ -(2 ^ 62) ≤ m ∧ m < 2 ^ 62) (Iv : Nat → GE → GM → Prop) (h0 : Iv 0 E M1)
    (hs : ∀ (i : Nat) E1 N1, lo + (i : Int) < m → Iv i E1 N1 → Blk K t (E1.set j (some (.dt (.int (lo + (i : Int)))))) N1 (turnK P (Iv (i + 1)))) (hd : ∀ E1 N1, Iv (m - lo).toNat E1 N1 → P.nx E1 N1) :
    Blk K (tFor (iRng2 tr) (gName j) t) E M P := fun B σ G H D S n r bb c =>
  h B σ G H S _ fun vs G1 H1 s1 S1 r1 => by
    obtain ⟨v, w, rfl, hv, hw⟩ := two_inv r1
    cases hv; cases hw
    refine ⟨lo, m, rfl, hm, for_range (lo := lo) (n := (m - lo).toNat) (fun i σ' H' => ∃ E1 N1 G2, Iv i E1 N1 ∧ SR K B E1 N1 σ' G2 H' ∧ Same G1 G2) ⟨E, M1, G1, h0, S1, Same.rfl'⟩
      (fun i σ' H' hi ⟨E1, N1, G2, q1, S2, s2⟩ => ?_) (fun σ' H' ⟨E1, N1, G2, q1, S2, s2⟩ => n E1 N1 σ' G2 H' (hd _ _ q1) (s1.trans s2) S2)⟩
    exact Blk.from_ (G0 := G1) (hs i E1 N1 (by omega) q1) s2 (S2.set (i := j) (g := .dt (.int (lo + (i : Int)))) (Dr.int _)) (fun E' M' σ3 G3 H3 q e3 S3 => ⟨E', M', G3, q, S3, e3⟩) (fun g M' v G3 H3 q e3 S3 rr => r g M' v G3 H3 q (s1.trans e3) S3 rr) (fun E' M' σ3 G3 H3 q e3 S3 => n E' M' σ3 G3 H3 q (s1.trans e3) S3) (fun E' M' σ3 G3 H3 q e3 S3 => ⟨E', M', G3, q, S3, e3⟩)
/-- while -/
theorem blk_while (W : Nat → GE → GM → Prop) (m0 : Nat) (h0 : W m0 E M)
    (hs : ∀ m E1 N1, W m E1 N1 → ∃ b N2, ET K tt E1 N1 b N2 ∧ (b = true → Blk K t E1 N2 (turnK P (fun E' M' => ∃ m', m' < m ∧ W m' E' M'))) ∧ (b = false → P.nx E1 N2)) :
    Blk K (tWhile tt t) E M P := fun B σ G H D S n r bb c => by
  refine ⟨fun m σ' H' => ∃ E1 N1 G2, W m E1 N1 ∧ SR K B E1 N1 σ' G2 H' ∧ Same G G2, ⟨m0, E, M, G, h0, S, Same.rfl'⟩, ?_⟩
  rintro m σ' H' ⟨E1, N1, G2, q1, S2, s2⟩
  obtain ⟨b, N2, h1, h2, h3⟩ := hs m E1 N1 q1
  refine h1 B σ' G2 H' S2 _ fun G3 H3 s3 S3 => ?_
  cases b with
  | true =>
    refine ⟨fun σ4 H4 => ∃ E' M' G4, (∃ m', m' < m ∧ W m' E' M') ∧ SR K B E' M' σ4 G4 H4 ∧ Same G G4, fun σ4 H4 ⟨E', M', G4, ⟨m', hl, w⟩, S4, s4⟩ => ⟨m', hl, E', M', G4, w, S4, s4⟩, ?_⟩
    exact Blk.from_ (G0 := G) (h2 rfl) (s2.trans s3) S3 (fun E' M' σ3 G3 H3 q e3 S3 => ⟨E', M', G3, q, S3, e3⟩) r n (fun E' M' σ3 G3 H3 q e3 S3 => ⟨E', M', G3, q, S3, e3⟩)
  | false => exact n E1 N2 σ' G3 H3 (h3 rfl) (s2.trans s3) S3
end
end Ek

set_option Elab.async false
set_option linter.all false
set_option maxRecDepth 100000
/-! frames, calls, promises, comprehensions -/
namespace Ek
open PySem PySem.Spec PyProof.Rows L2

/-! ### the frame: cells that a piece does not name stay -/
open Classical in
noncomputable def Bs.re (B : Bs) (M : GM) (G H : Hp) : Bs := ⟨fun q => B.F0 q ∧ ∃ c ∈ M, c.1 = q, G, fun q => if ∃ c ∈ M, c.2.1 = true ∧ c.1 = q then none else H q⟩
section
variable {K : PySem.W.Frag} {B : Bs} {E : GE} {M M' cs : GM} {σ σ' : St} {G G' H H' : Hp}
theorem re_h {q : Addr} {o : HO} (e : (B.re M G H).H0 q = some o) : H q = some o ∧ ¬ ∃ c ∈ M, c.2.1 = true ∧ c.1 = q := by
  unfold Bs.re at e
  simp only at e
  split at e
  · cases e
  · rename_i h; exact ⟨e, h⟩
theorem re_some {q : Addr} {o : HO} (e : H q = some o) (h : ¬ ∃ c ∈ M, c.2.1 = true ∧ c.1 = q) : (B.re M G H).H0 q = some o := by
  unfold Bs.re
  simp only
  rw [if_neg h]; exact e
theorem re_none {q : Addr} (e : (B.re M G H).H0 q = none) : H q = none ∨ ∃ c ∈ M, c.2.1 = true ∧ c.1 = q := by
  unfold Bs.re at e
  simp only at e
  split at e
  · rename_i h; exact .inr h
  · exact .inl e
theorem SR.frame_in (S : SR K B E (cs ++ M) σ G H) : SR K (B.re M G H) E M σ G H where
  sub := S.sub
  len := S.len
  slot := S.slot
  cells := ⟨fun c hc => by
    obtain ⟨h1, h2, h3, h4⟩ := S.cells.at_ c (List.mem_append_right _ hc)
    refine ⟨h1, h2, fun hf => ?_, fun hf => ⟨h4 hf, c, hc, rfl⟩⟩
    unfold Bs.re
    simp only
    exact if_pos ⟨c, hc, hf, rfl⟩, by
    have h := S.cells.nd
    rw [List.map_append] at h
    exact (List.nodup_append.mp h).2.1⟩
  fr := ⟨fun _ _ e => e, fun q o _ e => (re_h e).1, fun q e z => by
    cases e1 : (B.re M G H).H0 q with
    | none => exact e e1
    | some o => (rw [(re_h e1).1] at z; cases z), fun q e n => n⟩
theorem SR.frame_out (S : SR K B E (cs ++ M) σ G H) {E' : GE} (T : SR K (B.re M G H) E' M' σ' G' H') : SR K B E' (cs ++ M') σ' G' H' := by
  have hnd := S.cells.nd
  rw [List.map_append] at hnd
  have notM : ∀ c ∈ cs, ∀ d ∈ M, d.1 ≠ c.1 := fun c hc d hd e => (List.nodup_append.mp hnd).2.2 c.1 (List.mem_map.mpr ⟨c, hc, rfl⟩) d.1 (List.mem_map.mpr ⟨d, hd, rfl⟩) e.symm
  have keep : ∀ q o, H q = some o → (∀ d ∈ M, d.1 ≠ q) → H' q = some o := fun q o e hq =>
    T.fr.h q o (fun ⟨_, d, hd, ed⟩ => hq d hd ed) (re_some e fun ⟨d, hd, _, ed⟩ => hq d hd ed)
  have keepN : ∀ q, H q ≠ none → (∀ d ∈ M, d.1 ≠ q) → G q = none → G' q = none := fun q e hq n => by
    cases e1 : H q with
    | none => exact absurd e1 e
    | some o => exact T.fr.n q (by rw [re_some e1 fun ⟨d, hd, _, ed⟩ => hq d hd ed]; intro z; cases z) n
  refine ⟨T.sub, T.len, T.slot, ⟨fun c hc => ?_, ?_⟩, ⟨fun a o e => T.fr.g _ _ (S.fr.g _ _ e), fun q o nf e => ?_, fun q e => ?_, fun q e n => ?_⟩⟩
  · rcases List.mem_append.mp hc with hc | hc
    · obtain ⟨h1, ⟨o, h2, h3⟩, h4, h5⟩ := S.cells.at_ c (List.mem_append_left _ hc)
      have hq : ∀ d ∈ M, d.1 ≠ c.1 := fun d hd => notM c hc d hd
      exact ⟨keepN c.1 (by rw [h2]; intro z; cases z) hq h1, ⟨o, keep _ _ h2 hq, RelO.mono T.fr.g h3⟩, h4, h5⟩
    · obtain ⟨h1, h2, h4, h5⟩ := T.cells.at_ c hc
      refine ⟨h1, h2, fun hf => ?_, fun hf => (h5 hf).1⟩
      rcases re_none (h4 hf) with z | ⟨d, hd, hdf, ed⟩
      · exact S.bfree z
      · rw [← ed]; exact (S.cells.at_ d (List.mem_append_right _ hd)).2.2.1 hdf
  · rw [List.map_append]
    refine List.nodup_append.mpr ⟨(List.nodup_append.mp hnd).1, T.cells.nd, fun a ha b hb e => ?_⟩
    obtain ⟨c, hc, rfl⟩ := List.mem_map.mp ha
    obtain ⟨d, hd, rfl⟩ := List.mem_map.mp hb
    obtain ⟨_, ⟨o, h2, _⟩, _⟩ := S.cells.at_ c (List.mem_append_left _ hc)
    obtain ⟨_, _, k4, k5⟩ := T.cells.at_ d hd
    cases hf : d.2.1 with
    | true =>
      rcases re_none (k4 hf) with z | ⟨x, hx, _, ex⟩
      · rw [← e, h2] at z; cases z
      · exact notM c hc x hx (ex.trans e.symm)
    | false =>
      obtain ⟨_, x, hx, ex⟩ := k5 hf
      exact notM c hc x hx (ex.trans e.symm)
  · have e1 := S.fr.h q o nf e
    refine T.fr.h q o (fun z => nf z.1) (re_some e1 fun ⟨d, hd, hdf, ed⟩ => ?_)
    have z := (S.cells.at_ d (List.mem_append_right _ hd)).2.2.1 hdf
    rw [ed, e] at z; cases z
  · have e1 := S.fr.k q e
    cases e2 : H q with
    | none => exact absurd e2 e1
    | some o =>
      have hn : ¬ ∃ c ∈ M, c.2.1 = true ∧ c.1 = q := fun ⟨d, hd, hdf, ed⟩ => by
        have z := (S.cells.at_ d (List.mem_append_right _ hd)).2.2.1 hdf
        rw [ed] at z; exact e z
      refine T.fr.k q ?_
      rw [re_some e2 hn]
      intro z; cases z
  · have e1 := S.fr.k q e
    have n1 := S.fr.n q e n
    cases e2 : H q with
    | none => exact absurd e2 e1
    | some o =>
      have hn : ¬ ∃ c ∈ M, c.2.1 = true ∧ c.1 = q := fun ⟨d, hd, hdf, ed⟩ => by
        have z := (S.cells.at_ d (List.mem_append_right _ hd)).2.2.1 hdf
        rw [ed] at z; exact e z
      refine T.fr.n q ?_ n1
      rw [re_some e2 hn]
      intro z; cases z
end
section
variable {K : PySem.W.Frag} {E : GE} {M M1 M2 cs : GM} {g : GV} {te : TE} {tt : TT} {ta : TA} {b : Bool} {xs gs : List GV}
theorem EE.fr (h : EE K te E M g M1) : EE K te E (cs ++ M) g (cs ++ M1) := fun B σ G H S Q q => h _ σ G H S.frame_in Q fun v G' H' s T r => q v G' H' s (S.frame_out T) r
theorem ET.fr (h : ET K tt E M b M1) : ET K tt E (cs ++ M) b (cs ++ M1) := fun B σ G H S Q q => h _ σ G H S.frame_in Q fun G' H' s T => q G' H' s (S.frame_out T)
theorem EA.fr (h : EA K ta E M gs M1) : EA K ta E (cs ++ M) gs (cs ++ M1) := fun B σ G H S Q q => h _ σ G H S.frame_in Q fun v G' H' s T r => q v G' H' s (S.frame_out T) r
end

/-! ### promises -/
/-- a def that changes nothing: its value -/
def sp0 (K : PySem.W.Frag) {A : Type} (args : A → List GV) (pre : A → Prop) (res : A → GV) : Sp := fun vs H Q _ =>
  ∃ G i, Same G H ∧ RelGs K G vs (args i) ∧ pre i ∧ ∀ v G' H', Fr ⟨fun _ => False, G, H⟩ G' H' → Same G' H' → RelG K G' v (res i) → Q v H'
/-- .. its value a new list -/
def spF (K : PySem.W.Frag) {A : Type} (args : A → List GV) (pre : A → Prop) (xs : A → List GV) : Sp := fun vs H Q _ =>
  ∃ G i, Same G H ∧ RelGs K G vs (args i) ∧ pre i ∧ ∀ p o G' H', Fr ⟨fun _ => False, G, H⟩ G' H' → Same G' H' → H p = none → G' p = none → H' p = some o → RelO K G' o (.lst (xs i)) → Q (.ref p) H'
/-- a def that changes one object of the caller's -/
def sp1 (K : PySem.W.Frag) {A : Type} (args : A → List GV) (pa : A → Addr) (o0 : A → GO) (pre : A → Prop) (o1 : A → GO) (res : A → GV) : Sp := fun vs H Q _ =>
  ∃ G i, Same G H ∧ RelGs K G vs (args i) ∧ pre i ∧ G (pa i) = none ∧ (∃ o, H (pa i) = some o ∧ RelO K G o (o0 i)) ∧
    ∀ v o G' H', Fr ⟨fun q => q = pa i, G, H⟩ G' H' → Same G' H' → H' (pa i) = some o → RelO K G' o (o1 i) → RelG K G' v (res i) → Q v H'
section
variable {K : PySem.W.Frag} {E : GE} {M M1 : GM} {tr : TA} {X : XK} {A : Type} {args : A → List GV} {pre : A → Prop}
theorem ee_call0 {res : A → GV} {g : GV} (i : A) (h : EA K tr E M (args i) M1) (hp : pre i) (hg : res i = g := by rfl) : EE K (tCall (sp0 K args pre res) [] X tr) E M g M1 := fun B σ G H S Q q =>
  h B σ G H S _ fun vs G1 H1 s1 S1 r1 => by
    show sp0 K args pre res (vs ++ []) H1 Q X
    rw [List.append_nil]
    exact ⟨G1, i, S1.sub, r1, hp, fun v G' H' f sub r => q v G' H' (s1.trans f.g) (S1.called f sub) (by rw [← hg]; exact r)⟩
theorem ef_callF {xs : A → List GV} {ys : List GV} (i : A) (h : EA K tr E M (args i) M1) (hp : pre i) (hy : xs i = ys := by rfl) : EF K (tCall (spF K args pre xs) [] X tr) E M ys M1 := fun B σ G H S Q q =>
  h B σ G H S _ fun vs G1 H1 s1 S1 r1 => by
    show spF K args pre xs (vs ++ []) H1 Q X
    rw [List.append_nil]
    exact ⟨G1, i, S1.sub, r1, hp, fun p o G' H' f sub hp hg ho r => q p G' H' (s1.trans f.g) ((S1.called f sub).noted (S1.bfree hp) (S1.cell_ne hp) hg ho (by rw [← hy]; exact r))⟩
theorem ee_call1 {pa : A → Addr} {o0 o1 : A → GO} {res : A → GV} {g : GV} {j : Nat} {fl : Bool} {M2 : GM} (i : A) (h : EA K tr E M (args i) M1) (hp : pre i) (hj : M1[j]? = some (pa i, fl, o0 i)) (hg : res i = g := by rfl) (hM : M1.set j (pa i, fl, o1 i) = M2 := by rfl) :
    EE K (tCall (sp1 K args pa o0 pre o1 res) [] X tr) E M g M2 := fun B σ G H S Q q =>
  h B σ G H S _ fun vs G1 H1 s1 S1 r1 => by
    show sp1 K args pa o0 pre o1 res (vs ++ []) H1 Q X
    rw [List.append_nil]
    obtain ⟨k1, k2, _⟩ := S1.cells.at_ _ (List.mem_of_getElem? hj)
    exact ⟨G1, i, S1.sub, r1, hp, k1, k2, fun v o G' H' f sub ho ro r => q v G' H' (s1.trans f.g) (by rw [← hM]; exact S1.called1 hj f sub ho ro) (by rw [← hg]; exact r)⟩
end

/-! ### defs -/
def begin_ (N : List Str) (gs : List GV) : GE := gs.map some ++ List.replicate (N.length - gs.length) none
theorem relGs_get {K : PySem.W.Frag} {G : Hp} : ∀ {vs : List V} {gs : List GV} {n m : Nat} {i : Nat} {g : GV}, RelGs K G vs gs → (gs.map some ++ List.replicate n none)[i]? = some (some g) → ∃ v, (vs.map some ++ List.replicate m none)[i]? = some (some v) ∧ RelG K G v g
  | [], [], n, m, i, g, .nil, e => by
    have : (List.replicate n (none : Option GV))[i]? = some (some g) := e
    rw [List.getElem?_replicate] at this
    split at this <;> cases this
  | _ :: _, _ :: _, n, m, 0, g, .cons h _, e => by cases e; exact ⟨_, rfl, h⟩
  | _ :: _, _ :: _, n, m, i + 1, g, .cons _ t, e => relGs_get (i := i) t e
def rt0 (r : GV) : GV → GM → Prop := fun g M => g = r ∨ ∃ p ds, g = .rf p ∧ r = .dt (.list ds) ∧ (p, true, GO.lst (ds.map .dt)) ∈ M
def ends0 (r : GV) : Kn := ⟨fun _ _ => r = .dt .none, rt0 r, fun _ _ => False, fun _ _ => False⟩
def endsF (xs : List GV) : Kn := ⟨fun _ _ => False, fun g M => ∃ p, g = .rf p ∧ (p, true, GO.lst xs) ∈ M, fun _ _ => False, fun _ _ => False⟩
def ends1 (p : Addr) (o : GO) (r : GV) : Kn := ⟨fun _ M => r = .dt .none ∧ (p, false, o) ∈ M, fun g M => rt0 r g M ∧ (p, false, o) ∈ M, fun _ _ => False, fun _ _ => False⟩
section
variable {P : Program} {w : World} {K : PySem.W.Frag} {mg : Str → Option Value} {base : Heap} {x qual : Str} {st : Stmt} {f : Addr} {fd : FuncData} {N ps : List Str} {k : Nat} {A : Type} {args : A → List GV} {pre : A → Prop}
theorem start_sr {G H : Hp} {vs : List V} {gs : List GV} {F0 : Addr → Prop} (hs : Same G H) (r : RelGs K G vs gs) : SR K ⟨F0, G, H⟩ (begin_ N gs) [] (L2.start N vs) G H where
  sub := hs
  len := by unfold begin_ L2.start; rw [List.length_append, List.length_append, List.length_map, List.length_map, RelGs.length r]; rw [List.length_replicate, List.length_replicate]
  slot := fun i g e => relGs_get r e
  cells := ⟨fun c hc => (by cases hc), List.nodup_nil⟩
  fr := ⟨fun _ _ e => e, fun _ _ _ e => e, fun _ e => e, fun _ _ n => n⟩
/-- a return's value, shared where the promise wants data -/
theorem rt0_end {B : Bs} {M : GM} {G H : Hp} {r g : GV} {v : V} (h : rt0 r g M) (S : SR K B [] M [] G H) (rv : RelG K G v g) : ∃ G', Same G G' ∧ SR K B [] [] [] G' H ∧ RelG K G' v r ∧ ∀ c ∈ M, (∀ p ds, g = .rf p → r = .dt (.list ds) → c.1 ≠ p) → G' c.1 = none := by
  rcases h with rfl | ⟨p, ds, rfl, rfl, hm⟩
  · exact ⟨G, Same.rfl', S.sub_cells (List.nil_sublist _), rv, fun c hc _ => (S.cells.at_ c hc).1⟩
  · obtain ⟨j, hj⟩ := List.mem_iff_getElem?.mp hm
    obtain ⟨G', s, S', d⟩ := S.freeze hj
    have rv' : v = .ref p := rv
    subst rv'
    refine ⟨G', s, S'.sub_cells (List.nil_sublist _), d, fun c hc hne => ?_⟩
    have hp := hne p ds rfl rfl
    obtain ⟨i, hi⟩ := List.mem_iff_getElem?.mp hc
    have hij : i ≠ j := fun z => by subst z; rw [hi] at hj; cases hj; exact hp rfl
    have : c ∈ M.eraseIdx j := by
      rw [List.mem_iff_getElem?]
      by_cases hlt : i < j
      · exact ⟨i, by rw [List.getElem?_eraseIdx, if_pos hlt]; exact hi⟩
      · refine ⟨i - 1, ?_⟩
        rw [List.getElem?_eraseIdx, if_neg (by omega)]
        rw [show i - 1 + 1 = i by omega]; exact hi
    exact (S'.cells.at_ c this).1
theorem fn0 {res : A → GV} (F : Fun K x qual st f fd) (S : FnScope N ps (defScope st)) (ha : ∀ i, (args i).length = ps.length)
    (hb : ∀ (cdv : Value) (R : Around) (outer : List Env) (s : Shared) (H : Hp) (E : XK), Room k (R.deeper (envOfC qual (defScope st) s.heap.objs.size f cdv)) →
      ∃ t, PSs (cxOf CX0 P w K mg base N qual (defScope st) f cdv R outer s H E).nox (defBody st) t ∧ ∀ i, pre i → Blk K t (begin_ N (args i)) [] (ends0 (res i))) :
    FnOk P w K mg base CX0 (k + 1) f fd ps (sp0 K args pre res) := by
  refine F.ok S (fun vs H Q E h => ?_) (fun cdv R outer s H vs Q E hr h => ?_)
  · obtain ⟨G, i, _, r, _⟩ := h
    rw [RelGs.length r, ha]
  · obtain ⟨G, i, hs, r, hp, q⟩ := h
    obtain ⟨t, ht, hB⟩ := hb cdv R outer s H E hr
    refine ⟨t, ht, hB i hp ⟨fun _ => False, G, H⟩ (L2.start N vs) G H _ (start_sr hs r) (fun E' M' σ' G' H' e _ S' => ?_) (fun g M' v G' H' e _ S' rv => ?_) (fun _ _ _ _ _ e => e.elim) (fun _ _ _ _ _ e => e.elim)⟩
    · exact q .non G' H' S'.fr S'.sub (by have e' : res i = .dt .none := e; rw [e']; exact Dr.non)
    · obtain ⟨G2, _, S2, r2, _⟩ := rt0_end e S' rv
      exact q v G2 H' S2.fr S2.sub r2
theorem fnF {xs : A → List GV} (F : Fun K x qual st f fd) (S : FnScope N ps (defScope st)) (ha : ∀ i, (args i).length = ps.length)
    (hb : ∀ (cdv : Value) (R : Around) (outer : List Env) (s : Shared) (H : Hp) (E : XK), Room k (R.deeper (envOfC qual (defScope st) s.heap.objs.size f cdv)) →
      ∃ t, PSs (cxOf CX0 P w K mg base N qual (defScope st) f cdv R outer s H E).nox (defBody st) t ∧ ∀ i, pre i → Blk K t (begin_ N (args i)) [] (endsF (xs i))) :
    FnOk P w K mg base CX0 (k + 1) f fd ps (spF K args pre xs) := by
  refine F.ok S (fun vs H Q E h => ?_) (fun cdv R outer s H vs Q E hr h => ?_)
  · obtain ⟨G, i, _, r, _⟩ := h
    rw [RelGs.length r, ha]
  · obtain ⟨G, i, hs, r, hp, q⟩ := h
    obtain ⟨t, ht, hB⟩ := hb cdv R outer s H E hr
    refine ⟨t, ht, hB i hp ⟨fun _ => False, G, H⟩ (L2.start N vs) G H _ (start_sr hs r) (fun E' M' σ' G' H' e _ S' => e.elim) (fun g M' v G' H' e _ S' rv => ?_) (fun _ _ _ _ _ e => e.elim) (fun _ _ _ _ _ e => e.elim)⟩
    obtain ⟨p, rfl, hm⟩ := e
    have rv' : v = .ref p := rv
    subst rv'
    obtain ⟨h1, ⟨o, h2, h3⟩, h4, _⟩ := S'.cells.at_ _ hm
    exact q p o G' H' S'.fr S'.sub (h4 rfl) h1 h2 h3
theorem fn1 {pa : A → Addr} {o0 o1 : A → GO} {res : A → GV} (F : Fun K x qual st f fd) (S : FnScope N ps (defScope st)) (ha : ∀ i, (args i).length = ps.length)
    (hb : ∀ (cdv : Value) (R : Around) (outer : List Env) (s : Shared) (H : Hp) (E : XK), Room k (R.deeper (envOfC qual (defScope st) s.heap.objs.size f cdv)) →
      ∃ t, PSs (cxOf CX0 P w K mg base N qual (defScope st) f cdv R outer s H E).nox (defBody st) t ∧ ∀ i, pre i → Blk K t (begin_ N (args i)) [(pa i, false, o0 i)] (ends1 (pa i) (o1 i) (res i))) :
    FnOk P w K mg base CX0 (k + 1) f fd ps (sp1 K args pa o0 pre o1 res) := by
  refine F.ok S (fun vs H Q E h => ?_) (fun cdv R outer s H vs Q E hr h => ?_)
  · obtain ⟨G, i, _, r, _⟩ := h
    rw [RelGs.length r, ha]
  · obtain ⟨G, i, hs, r, hp, c1, c2, q⟩ := h
    obtain ⟨t, ht, hB⟩ := hb cdv R outer s H E hr
    have S0 : SR K ⟨fun q => q = pa i, G, H⟩ (begin_ N (args i)) [(pa i, false, o0 i)] (L2.start N vs) G H := by
      have Z := start_sr (N := N) (F0 := fun q => q = pa i) hs r
      have hc1 : ∀ c ∈ [(pa i, false, o0 i)], G c.1 = none ∧ (∃ o, H c.1 = some o ∧ RelO K G o c.2.2) ∧ (c.2.1 = true → H c.1 = none) ∧ (c.2.1 = false → c.1 = pa i) := fun c hc => by
        rcases List.mem_cons.mp hc with rfl | hc
        · exact ⟨c1, c2, fun z => (by cases z), fun _ => rfl⟩
        · cases hc
      exact ⟨Z.sub, Z.len, Z.slot, ⟨hc1, List.nodup_cons.mpr ⟨fun z => (by cases z), List.nodup_nil⟩⟩, Z.fr⟩
    refine ⟨t, ht, hB i hp _ (L2.start N vs) G H _ S0 (fun E' M' σ' G' H' e _ S' => ?_) (fun g M' v G' H' e _ S' rv => ?_) (fun _ _ _ _ _ e => e.elim) (fun _ _ _ _ _ e => e.elim)⟩
    · obtain ⟨e1, hm⟩ := e
      obtain ⟨_, ⟨o, h2, h3⟩, _⟩ := S'.cells.at_ _ hm
      exact q .non o G' H' S'.fr S'.sub h2 h3 (by rw [e1]; exact Dr.non)
    · obtain ⟨e1, hm⟩ := e
      obtain ⟨_, ⟨o, h2, h3⟩, _⟩ := S'.cells.at_ _ hm
      obtain ⟨G2, s2, S2, r2, _⟩ := rt0_end e1 S' rv
      exact q v o G2 H' S2.fr S2.sub h2 (RelO.mono s2 h3) r2
end
/-! ### comprehensions -/
def wipeE (E : GE) : List Nat → GE
  | [] => E
  | v :: vs => (wipeE E vs).set v none
section
variable {K : PySem.W.Frag} {E : GE} {M M1 : GM} {tl te : TE} {tt : TT}
theorem wipeE_length (E : GE) : ∀ vs : List Nat, (wipeE E vs).length = E.length
  | [] => rfl
  | v :: vs => by unfold wipeE; rw [List.length_set, wipeE_length E vs]
theorem SR.wiped {B : Bs} {σ : St} {G H : Hp} (S : SR K B E M σ G H) : ∀ vs : List Nat, SR K B (wipeE E vs) M (wipe σ vs) G H
  | [] => S
  | v :: vs => by
    have T := S.wiped vs
    refine ⟨T.sub, by unfold wipe wipeE; rw [List.length_set, List.length_set, T.len], fun i g e => ?_, T.cells, T.fr⟩
    unfold wipeE at e
    by_cases hi : v = i
    · subst hi
      by_cases hl : v < (wipeE E vs).length
      · rw [List.getElem?_set_self hl] at e; cases e
      · rw [List.getElem?_eq_none (by rw [List.length_set]; omega)] at e; cases e
    · rw [List.getElem?_set_ne hi] at e
      obtain ⟨w, h1, h2⟩ := T.slot i g e
      exact ⟨w, by unfold wipe; rw [List.getElem?_set_ne hi]; exact h1, h2⟩
theorem wipe_set (σ : St) (x : Option V) : ∀ (vs : List Nat) (j : Nat), j ∈ vs → wipe ((wipe σ vs).set j x) vs = wipe σ vs := by
  have key : ∀ (vs : List Nat) (τ : St) (i : Nat), (wipe τ vs)[i]? = if i ∈ vs ∧ i < τ.length then some none else τ[i]? := by
    intro vs
    induction vs with
    | nil => intro τ i; unfold wipe; rw [if_neg (by simp)]
    | cons v vs ih =>
      intro τ i
      unfold wipe
      by_cases hi : v = i
      · subst hi
        by_cases hl : v < τ.length
        · rw [List.getElem?_set_self (by rw [wipe_length]; exact hl), if_pos ⟨List.mem_cons_self, hl⟩]
        · rw [List.getElem?_eq_none (by rw [List.length_set, wipe_length]; omega), if_neg (by omega), List.getElem?_eq_none (by omega)]
      · rw [List.getElem?_set_ne hi, ih]
        by_cases hm : i ∈ vs
        · by_cases hl : i < τ.length
          · rw [if_pos ⟨hm, hl⟩, if_pos ⟨List.mem_cons_of_mem _ hm, hl⟩]
          · rw [if_neg (by omega), if_neg (by omega)]
        · rw [if_neg (by simp [hm]), if_neg (by simp [hm, Ne.symm hi])]
  intro vs j hj
  refine List.ext_getElem? fun i => ?_
  rw [key, key]
  rw [List.length_set, wipe_length]
  by_cases hm : i ∈ vs ∧ i < σ.length
  · rw [if_pos hm, if_pos hm]
  · rw [if_neg hm, if_neg hm]
    by_cases hij : j = i
    · subst hij
      have hl : ¬ j < σ.length := fun z => hm ⟨hj, z⟩
      rw [List.getElem?_eq_none (by rw [List.length_set, wipe_length]; omega), List.getElem?_eq_none (by omega)]
    · rw [List.getElem?_set_ne hij, key, if_neg hm]
/-- what a comprehension with tests has made behind i turns -/
def made (f : Nat → GV) (p : Nat → Bool) (i : Nat) : List GV := ((List.range i).filter p).map f
theorem made_zero (f : Nat → GV) (p : Nat → Bool) : made f p 0 = [] := rfl
theorem made_yes {f : Nat → GV} {p : Nat → Bool} {i : Nat} (h : p i = true) : made f p (i + 1) = made f p i ++ [f i] := by
  unfold made
  rw [List.range_succ, List.filter_append, List.map_append, List.filter_cons, if_pos h] <;> rfl
theorem made_no {f : Nat → GV} {p : Nat → Bool} {i : Nat} (h : p i = false) : made f p (i + 1) = made f p i := by
  unfold made
  rw [List.range_succ, List.filter_append, List.map_append, List.filter_cons, if_neg (by rw [h]; decide)]
  show _ ++ [] = _
  rw [List.append_nil]
theorem made_len (f : Nat → GV) (p : Nat → Bool) (n : Nat) : (made f p n).length ≤ n := by
  unfold made
  rw [List.length_map]
  have h := List.length_filter_le p (List.range n)
  rw [List.length_range] at h
  exact h
/-- [e for x in xs if t] over data; the cells may change from turn to turn -/
theorem ef_lcL {j : Nat} {vs : List Nat} {ds : List PyData} (Ms : Nat → GM) (p : Nat → Bool) (f : Nat → GV) (h : EE K tl E M (.dt (.list ds)) (Ms 0)) (hj : j ∈ vs) (hz : ds.length ≤ 1000000)
    (ht : ∀ i d, ds[i]? = some d → ET K tt ((wipeE E vs).set j (some (.dt d))) (Ms i) (p i) (Ms i)) (hno : ∀ i d, ds[i]? = some d → p i = false → Ms (i + 1) = Ms i)
    (he : ∀ i d, ds[i]? = some d → p i = true → EE K te ((wipeE E vs).set j (some (.dt d))) (Ms i) (f i) (Ms (i + 1))) :
    EF K (tLc (iList K tl) (gName j) tt te vs) E M (made f p ds.length) (Ms ds.length) := fun B σ G H S Q q =>
  h B σ G H S _ fun v G1 H1 s1 S1 r1 => by
    cases r1 with
    | lst e a =>
      rename_i ad ws
      refine ⟨ad, rfl, ⟨ws, .of (S1.sub _ _ e)⟩, fun D hD => lc_list (xs := ws) (fun i H' => ∃ G2, SR K B E ((D, true, .lst (made f p i)) :: Ms i) σ G2 H' ∧ Same G1 G2) ⟨G1, S1.own (o := .lst []) hD .nil, Same.rfl'⟩ (fun i H' _ ⟨G2, S2, s2⟩ => .of (S2.sub _ _ (s2 _ _ e)))
        (fun i x H' hx ⟨G2, S2, s2⟩ => ?_) (fun H' ⟨G2, S2, s2⟩ => by rw [a.length] at S2; exact q D G2 H' (s1.trans s2) S2)⟩
      obtain ⟨d, hdi, rd⟩ := a.get hx
      have rd' : RelG K G2 x (.dt d) := Dr.mono s2 rd
      have hil : i < ds.length := (List.getElem?_eq_some_iff.mp hdi).1
      have S3 := (S2.wiped vs).set (i := j) rd'
      refine ⟨wipe_set σ (some x) vs j hj, ?_⟩
      refine (ht i d hdi).fr (cs := [(D, true, .lst (made f p i))]) B _ G2 H' S3 _ fun G3 H3 e3 S4 => ?_
      have back : ∀ {N : GM} {G4 H4 : Hp}, SR K B ((wipeE E vs).set j (some (.dt d))) N ((wipe σ vs).set j (some x)) G4 H4 → Same G2 G4 → SR K B E N σ G4 H4 := fun {N G4 H4} T s4 =>
        T.slots (S2.len) fun k g ek => by
          obtain ⟨w, k1, k2⟩ := S2.slot k g ek
          exact ⟨w, k1, RelG.mono s4 k2⟩
      cases hp : p i with
      | true =>
        rw [if_pos rfl]
        refine (he i d hdi hp).fr (cs := [(D, true, .lst (made f p i))]) B _ G3 H3 S4 _ fun y G4 H4 e4 S5 r5 => ?_
        obtain ⟨_, ⟨o, k1, k2⟩, _⟩ := S5.cells.at_ (D, true, .lst (made f p i)) List.mem_cons_self
        obtain ⟨us, rfl, ru⟩ := RelO.lst_inv k2
        refine ⟨us, k1, ?_, G4, ?_, s2.trans (e3.trans e4)⟩
        · rw [RelGs.length ru]
          have := made_len f p i
          rw [sizeLine_eq]; omega
        · have S6 := S5.write (j := 0) (p := D) (fl := true) (g := .lst (made f p i ++ [f i])) (o := .lst (us ++ [y])) rfl (RelGs.app ru (.cons r5 .nil))
          rw [← made_yes hp] at S6
          exact back S6 (e3.trans e4)
      | false =>
        rw [if_neg Bool.false_ne_true]
        refine ⟨G3, ?_, s2.trans e3⟩
        have S6 := back S4 e3
        rw [made_no hp, hno i d hdi hp]
        exact S6
end
end Ek

set_option Elab.async false
set_option linter.all false
set_option maxRecDepth 100000
/-! operators that stand for several kinds at once; their rules by the ghost values -/
namespace Ek
open PySem PySem.Spec PyProof.Rows L2

/-! ### one reading for each sign of the language -/
section
variable {X : Cx}
theorem OpR.both {f : Value → Value → Sem Value} {r r' : R2} (h : OpR X f r) (h' : OpR X f r') : OpR X f (fun x y H Q => r x y H Q ∨ r' x y H Q) := by
  intro pins s σ H x y v u Q I rx ry q
  rcases q with q | q
  · exact h pins s σ H x y v u Q I rx ry q
  · exact h' pins s σ H x y v u Q I rx ry q
theorem CallR.both {f : Value} {r r' : TR} (h : CallR X f r) (h' : CallR X f r') : CallR X f (fun x H Q => r x H Q ∨ r' x H Q) := by
  intro pins s σ H xs us Q I rx q
  rcases q with q | q
  · exact h pins s σ H xs us Q I rx q
  · exact h' pins s σ H xs us Q I rx q
def rCatS2 : R2 := fun x y H Q => ∃ i j, x = .str i ∧ y = .str j ∧ i.length + j.length ≤ sizeLine ∧ Q (.str (i ++ j)) H
def rPlus : R2 := fun x y H Q => rI0 (fun i j => .int (i + j)) x y H Q ∨ rCat x y H Q ∨ rCatS2 x y H Q
theorem o_plus : OpR X (binaryOp .Add) rPlus := OpR.both op_add (OpR.both op_cat op_add_str)
def rTimes : R2 := fun x y H Q => rI CMulW (fun i j => .int (i * j)) x y H Q ∨ rRep x y H Q
theorem o_times : OpR X (binaryOp .Mult) rTimes := OpR.both op_mulW op_rep
def rLenU (K : PySem.W.Frag) : TR := fun xs H Q => rLenQ K xs H Q ∨ ∃ z, xs = [.str z] ∧ z.length ≤ sizeLine ∧ Q (.int z.length) H
theorem o_len : CallR X (.builtin "len") (rLenU X.K) := CallR.both call_len_seq call_len_str
def rSlU (K : PySem.W.Frag) : V → Option Int → Option Int → Hp → VK → Prop := fun x lo hi H Q => rSlL K x lo hi H Q ∨ rSlS x lo hi H Q
theorem o_slice : SlR X (rSlU X.K) := SlR.or sl_list sl_str
def rLtU : R2 := rI0 fun i j => .bl (decide (i < j))
def rSorted0 (K : PySem.W.Frag) : TR := rSortedI K
end
section
variable {K : PySem.W.Frag} {E : GE} {M M1 M2 M3 : GM} {g x y z : GV} {ta tb tc te : TE} {tt tu : TT} {b c : Bool} {xs ys : List GV}
theorem R2E.inl {r r' : R2} (h : R2E K r x y M g M1) : R2E K (fun x y H Q => r x y H Q ∨ r' x y H Q) x y M g M1 := fun B E σ G H S v w hv hw Q q => .inl (h B E σ G H S v w hv hw Q q)
theorem R2E.inr {r r' : R2} (h : R2E K r' x y M g M1) : R2E K (fun x y H Q => r x y H Q ∨ r' x y H Q) x y M g M1 := fun B E σ G H S v w hv hw Q q => .inr (h B E σ G H S v w hv hw Q q)
theorem R2F.inl {r r' : R2} (h : R2F K r x y M xs M1) : R2F K (fun x y H Q => r x y H Q ∨ r' x y H Q) x y M xs M1 := fun B E σ G H S v w hv hw Q q => .inl (h B E σ G H S v w hv hw Q q)
theorem R2F.inr {r r' : R2} (h : R2F K r' x y M xs M1) : R2F K (fun x y H Q => r x y H Q ∨ r' x y H Q) x y M xs M1 := fun B E σ G H S v w hv hw Q q => .inr (h B E σ G H S v w hv hw Q q)
theorem R2F.fz {r : R2} {ds : List PyData} (h : R2F K r x y M (ds.map .dt) M1) : R2E K r x y M (.dt (.list ds)) M1 := fun B E σ G H S v w hv hw Q q =>
  h B E σ G H S v w hv hw Q fun p G1 H1 s1 S1 => by
    obtain ⟨G2, s2, S2, d⟩ := S1.freeze (j := 0) rfl
    exact q (.ref p) G2 H1 (fun a o e => s2 _ _ (s1 _ _ e)) S2 d
theorem RCE.inl {r r' : TR} {gs : List GV} (h : RCE K r gs M g M1) : RCE K (fun x H Q => r x H Q ∨ r' x H Q) gs M g M1 := fun B E σ G H S v hv Q q => .inl (h B E σ G H S v hv Q q)
theorem RCE.inr {r r' : TR} {gs : List GV} (h : RCE K r' gs M g M1) : RCE K (fun x H Q => r x H Q ∨ r' x H Q) gs M g M1 := fun B E σ G H S v hv Q q => .inr (h B E σ G H S v hv Q q)
/-! ### + and * -/
theorem p_int {i j : Int} : R2E K rPlus (.dt (.int i)) (.dt (.int j)) M (.dt (.int (i + j))) M := R2E.inl (r2_int fun _ => .int _)
theorem p_str {i j : Str} (h : i.length + j.length ≤ sizeLine) : R2E K rPlus (.dt (.str i)) (.dt (.str j)) M (.dt (.str (i ++ j))) M := R2E.inr (R2E.inr fun B E σ G H S v w hv hw Q q => by
  cases hv; cases hw
  exact ⟨i, j, rfl, rfl, h, q _ G H Same.rfl' S (Dr.str _)⟩)
theorem p_listF {ds es : List PyData} (h : ds.length + es.length ≤ sizeLine) : R2F K rPlus (.dt (.list ds)) (.dt (.list es)) M ((ds ++ es).map .dt) M := R2F.inr (R2F.inl fun B E σ G H S v w hv hw Q q => by
  cases hv with
  | lst e a =>
    cases hw with
    | lst e2 a2 => exact ⟨_, _, _, _, rfl, rfl, S.sub _ _ e, S.sub _ _ e2, by rw [a.length, a2.length]; exact h, fun p hp => q p G _ Same.rfl' (S.own hp (RelGs.of_data (a.app a2)))⟩)
theorem p_list {ds es : List PyData} (h : ds.length + es.length ≤ sizeLine) : R2E K rPlus (.dt (.list ds)) (.dt (.list es)) M (.dt (.list (ds ++ es))) M := R2F.fz (p_listF h)
theorem t_int {i j : Int} (h : CMulW i j) : R2E K rTimes (.dt (.int i)) (.dt (.int j)) M (.dt (.int (i * j))) M := R2E.inl (r2_intC h fun _ => .int _)
theorem DrAll.rep {G : Hp} {vs : List V} {ds : List PyData} (h : DrAll G vs ds) : ∀ n : Nat, DrAll G (List.replicate n vs).flatten (List.replicate n ds).flatten
  | 0 => .nil
  | n + 1 => by
    rw [List.replicate_succ, List.replicate_succ, List.flatten_cons, List.flatten_cons]
    exact h.app (h.rep n)
theorem t_listF {ds : List PyData} {k : Int} (h : ds.length * k.toNat ≤ sizeLine) (h1 : -(2 ^ 63) ≤ k) (h2 : k < 2 ^ 63) : R2F K rTimes (.dt (.list ds)) (.dt (.int k)) M ((List.replicate k.toNat ds).flatten.map .dt) M := R2F.inr fun B E σ G H S v w hv hw Q q => by
  cases hv with
  | lst e a =>
    cases hw
    exact ⟨_, k, _, rfl, rfl, S.sub _ _ e, h1, h2, by rw [a.length]; exact h, fun p hp => q p G _ Same.rfl' (S.own hp (RelGs.of_data (a.rep _)))⟩
theorem t_list {ds : List PyData} {k : Int} (h : ds.length * k.toNat ≤ sizeLine) (h1 : -(2 ^ 63) ≤ k) (h2 : k < 2 ^ 63) : R2E K rTimes (.dt (.list ds)) (.dt (.int k)) M (.dt (.list (List.replicate k.toNat ds).flatten)) M := R2F.fz (t_listF h h1 h2)
theorem t_oneF {d : PyData} {k : Int} (h : k.toNat ≤ 1000000) (h1 : -(2 ^ 63) ≤ k) (h2 : k < 2 ^ 63) : R2F K rTimes (.dt (.list [d])) (.dt (.int k)) M ((List.replicate k.toNat d).map .dt) M := by
  have e : (List.replicate k.toNat [d]).flatten = List.replicate k.toNat d := by
    generalize k.toNat = n
    induction n with
    | zero => rfl
    | succ n ih => rw [List.replicate_succ, List.flatten_cons, ih, List.replicate_succ]; rfl
  rw [← e]
  exact t_listF (by show 1 * k.toNat ≤ sizeLine; rw [sizeLine_eq]; omega) h1 h2
theorem t_one {d : PyData} {k : Int} (h : k.toNat ≤ 1000000) (h1 : -(2 ^ 63) ≤ k) (h2 : k < 2 ^ 63) : R2E K rTimes (.dt (.list [d])) (.dt (.int k)) M (.dt (.list (List.replicate k.toNat d))) M := R2F.fz (t_oneF h h1 h2)
theorem m_int {i j : Int} (h : 0 < j) : R2E K (rI (fun _ j => 0 < j) fun i j => .int (i % j)) (.dt (.int i)) (.dt (.int j)) M (.dt (.int (i % j))) M := r2_intC h fun _ => .int _
theorem d_int {i j : Int} (h : CDivW i j) : R2E K (rI CDivW fun i j => .int (i / j)) (.dt (.int i)) (.dt (.int j)) M (.dt (.int (i / j))) M := r2_intC h fun _ => .int _
theorem s_int {i j : Int} : R2E K (rI0 fun i j => .int (i - j)) (.dt (.int i)) (.dt (.int j)) M (.dt (.int (i - j))) M := r2_int fun _ => .int _
theorem w_int {i j : Int} (h : CPow i j) : R2E K (rI CPow fun i j => .int (i ^ j.toNat)) (.dt (.int i)) (.dt (.int j)) M (.dt (.int (i ^ j.toNat))) M := r2_intC h fun _ => .int _
theorem lt_int' {i j : Int} : R2E K (rI0 fun i j => .bl (decide (i < j))) (.dt (.int i)) (.dt (.int j)) M (.dt (.bool (decide (i < j)))) M := r2_int fun _ => .bl _
theorem le_int' {i j : Int} : R2E K (rI0 fun i j => .bl (decide (i ≤ j))) (.dt (.int i)) (.dt (.int j)) M (.dt (.bool (decide (i ≤ j)))) M := r2_int fun _ => .bl _
theorem gt_int' {i j : Int} : R2E K (rI0 fun i j => .bl (decide (j < i))) (.dt (.int i)) (.dt (.int j)) M (.dt (.bool (decide (j < i)))) M := r2_int fun _ => .bl _
theorem ge_int' {i j : Int} : R2E K (rI0 fun i j => .bl (decide (j ≤ i))) (.dt (.int i)) (.dt (.int j)) M (.dt (.bool (decide (j ≤ i)))) M := r2_int fun _ => .bl _
theorem eq_int' {i j : Int} : R2E K (rEqD K) (.dt (.int i)) (.dt (.int j)) M (.dt (.bool (decide (i = j)))) M := by rw [← eqv_int]; exact r2_eqD rfl rfl
theorem ne_int' {i j : Int} : R2E K (rNeD K) (.dt (.int i)) (.dt (.int j)) M (.dt (.bool (!decide (i = j)))) M := by rw [← eqv_int]; exact r2_neD rfl rfl
theorem eqv_str (i j : Str) : PyData.eqv (.str i) (.str j) = decide (i = j) := by
  show (i == j) = _
  by_cases h : i = j <;> simp [h]
theorem eq_str' {i j : Str} (h : SeqAt.shaped (.str i) = true) (h2 : SeqAt.shaped (.str j) = true) : R2E K (rEqD K) (.dt (.str i)) (.dt (.str j)) M (.dt (.bool (decide (i = j)))) M := by rw [← eqv_str]; exact r2_eqD h h2
theorem ne_str' {i j : Str} (h : SeqAt.shaped (.str i) = true) (h2 : SeqAt.shaped (.str j) = true) : R2E K (rNeD K) (.dt (.str i)) (.dt (.str j)) M (.dt (.bool (!decide (i = j)))) M := by rw [← eqv_str]; exact r2_neD h h2
def isNon : PyData → Bool | .none => true | _ => false
theorem is_none' {d : PyData} : R2E K (fun x y H Q => y = .non ∧ Q (.bl (decide (x = .non))) H) (.dt d) (.dt .none) M (.dt (.bool (isNon d))) M := fun B E σ G H S v w hv hw Q q => by
  cases hw
  refine ⟨rfl, q _ G H Same.rfl' S ?_⟩
  cases hv <;> exact Dr.bl _
theorem isnt_none' {d : PyData} : R2E K (fun x y H Q => y = .non ∧ Q (.bl (!decide (x = .non))) H) (.dt d) (.dt .none) M (.dt (.bool (!isNon d))) M := fun B E σ G H S v w hv hw Q q => by
  cases hw
  refine ⟨rfl, q _ G H Same.rfl' S ?_⟩
  cases hv <;> exact Dr.bl _
/-! ### items -/
theorem x_list {ds : List PyData} {i : Int} {d : PyData} (h : atI ds i = some d) : R2E K (rIx K) (.dt (.list ds)) (.dt (.int i)) M (.dt d) M := R2E.inl fun B E σ G H S v w hv hw Q q => by
  cases hv with
  | lst e a =>
    cases hw
    obtain ⟨u, h1, h2⟩ := a.atI h
    exact ⟨_, _, i, u, rfl, rfl, .of (S.sub _ _ e), h1, q u G H Same.rfl' S h2⟩
theorem x_tup {ds : List PyData} {i : Int} {d : PyData} (h : atI ds i = some d) : R2E K (rIx K) (.dt (.tuple ds)) (.dt (.int i)) M (.dt d) M := R2E.inr (R2E.inl fun B E σ G H S v w hv hw Q q => by
  cases hv with
  | tup e a =>
    cases hw
    obtain ⟨u, h1, h2⟩ := a.atI h
    exact ⟨_, _, i, u, rfl, rfl, .of (S.sub _ _ e), h1, q u G H Same.rfl' S h2⟩)
theorem x_scr {ns : List Int} {i k : Int} (h : atI ns i = some k) : R2E K (rIx K) (.sc ns) (.dt (.int i)) M (.dt (.int k)) M := R2E.inl fun B E σ G H S v w hv hw Q q => by
  obtain ⟨a, rfl, hs⟩ := hv
  cases hw
  exact ⟨a, _, i, _, rfl, rfl, S.sub.seq hs, atI_map V.int h, q _ G H Same.rfl' S (Dr.int _)⟩
theorem x_own {p : Addr} {i : Int} {fl : Bool} (hm : (p, fl, GO.lst xs) ∈ M) (h : atI xs i = some g) : R2E K (rIx K) (.rf p) (.dt (.int i)) M g M := R2E.inl fun B E σ G H S v w hv hw Q q => by
  have hv' : v = .ref p := hv
  subst hv'
  cases hw
  obtain ⟨_, ⟨o, h1, h2⟩, _⟩ := S.cells.at_ _ hm
  obtain ⟨vs, rfl, r⟩ := RelO.lst_inv h2
  obtain ⟨u, k1, k2⟩ := RelGs.atI r h
  exact ⟨p, vs, i, u, rfl, rfl, .of h1, k1, q u G H Same.rfl' S k2⟩
theorem x_ownT {p : Addr} {i : Int} {fl : Bool} (hm : (p, fl, GO.tup xs) ∈ M) (h : atI xs i = some g) : R2E K (rIx K) (.rf p) (.dt (.int i)) M g M := R2E.inr (R2E.inl fun B E σ G H S v w hv hw Q q => by
  have hv' : v = .ref p := hv
  subst hv'
  cases hw
  obtain ⟨_, ⟨o, h1, h2⟩, _⟩ := S.cells.at_ _ hm
  obtain ⟨vs, rfl, r⟩ := RelO.tup_inv h2
  obtain ⟨u, k1, k2⟩ := RelGs.atI r h
  exact ⟨p, vs, i, u, rfl, rfl, .of h1, k1, q u G H Same.rfl' S k2⟩)
theorem x_str {z : Str} {i : Int} {c : Nat} (hz : z.length ≤ sizeLine) (h : atI z.cps.toList i = some c) : R2E K (rIx K) (.dt (.str z)) (.dt (.int i)) M (.dt (.str ⟨#[c]⟩)) M := R2E.inr (R2E.inr fun B E σ G H S v w hv hw Q q => by
  cases hv; cases hw
  exact ⟨z, i, c, rfl, rfl, hz, h, q _ G H Same.rfl' S (Dr.str _)⟩)
/-! ### slices -/
def EO (K : PySem.W.Frag) (to : TO) (E : GE) (M : GM) (o : Option Int) : Prop :=
  ∀ B σ G H, SR K B E M σ G H → ∀ Q : Option Int → Hp → Prop, (∀ G' H', Same G G' → SR K B E M σ G' H' → Q o H') → to σ H Q
theorem eo_none : EO K tNoPart E M none := fun B σ G H S Q q => q G H Same.rfl' S
theorem eo_int {i : Int} (h : EE K te E M (.dt (.int i)) M) : EO K (tPart te) E M (some i) := fun B σ G H S Q q => h B σ G H S _ fun v G1 H1 s1 S1 r1 => by
  cases r1
  exact ⟨i, rfl, q G1 H1 s1 S1⟩
def cutD {α : Type} (xs : List α) (lo hi : Option Int) : List α := (xs.drop (HT.sIx xs.length 0 lo)).take (HT.sIx xs.length xs.length hi - HT.sIx xs.length 0 lo)
theorem DrAll.drop {G : Hp} : ∀ {vs : List V} {ds : List PyData} (n : Nat), DrAll G vs ds → DrAll G (vs.drop n) (ds.drop n)
  | _, _, 0, h => h
  | _, _, _ + 1, .nil => .nil
  | _, _, n + 1, .cons _ t => t.drop n
theorem DrAll.take {G : Hp} : ∀ {vs : List V} {ds : List PyData} (n : Nat), DrAll G vs ds → DrAll G (vs.take n) (ds.take n)
  | _, _, 0, h => .nil
  | _, _, _ + 1, .nil => .nil
  | _, _, n + 1, .cons h t => .cons h (t.take n)
theorem DrAll.of_ints {G : Hp} : ∀ ns : List Int, DrAll G (ns.map V.int) (ns.map .int)
  | [] => .nil
  | _ :: ns => .cons (.int _) (DrAll.of_ints ns)
theorem ef_cut {tl th : TO} {ds : List PyData} {lo hi : Option Int} (h : EE K te E M (.dt (.list ds)) M1) (hl : EO K tl E M1 lo) (hh : EO K th E M1 hi) : EF K (tSl (rSlU K) te tl th) E M ((cutD ds lo hi).map .dt) M1 := fun B σ G H S Q q =>
  h B σ G H S _ fun v G1 H1 s1 S1 r1 => hl B σ G1 H1 S1 _ fun G2 H2 s2 S2 => hh B σ G2 H2 S2 _ fun G3 H3 s3 S3 => by
    cases Dr.mono (s2.trans s3) r1 with
    | lst e a =>
      refine .inl ⟨_, _, rfl, .of (S3.sub _ _ e), fun p hp => q p G3 _ (s1.trans (s2.trans s3)) (S3.own hp ?_)⟩
      unfold cutV cutD
      rw [a.length]
      exact RelGs.of_data ((a.drop _).take _)
theorem ef_cutS {tl th : TO} {ns : List Int} {lo hi : Option Int} (h : EE K te E M (.sc ns) M1) (hl : EO K tl E M1 lo) (hh : EO K th E M1 hi) : EF K (tSl (rSlU K) te tl th) E M (((cutD ns lo hi).map PyData.int).map .dt) M1 := fun B σ G H S Q q =>
  h B σ G H S _ fun v G1 H1 s1 S1 r1 => hl B σ G1 H1 S1 _ fun G2 H2 s2 S2 => hh B σ G2 H2 S2 _ fun G3 H3 s3 S3 => by
    obtain ⟨a, rfl, hs⟩ := r1
    refine .inl ⟨_, _, rfl, S3.sub.seq (s3.seq (s2.seq hs)), fun p hp => q p G3 _ (s1.trans (s2.trans s3)) (S3.own hp ?_)⟩
    unfold cutV cutD
    rw [List.length_map, ← List.map_drop, ← List.map_take]
    exact RelGs.of_data (DrAll.of_ints _)
theorem ee_cutT {tl th : TO} {z : Str} {lo hi : Option Int} (h : EE K te E M (.dt (.str z)) M1) (hl : EO K tl E M1 lo) (hh : EO K th E M1 hi) (hz : z.length ≤ sizeLine) : EE K (tSl (rSlU K) te tl th) E M (.dt (.str (cutS z lo hi))) M1 := fun B σ G H S Q q =>
  h B σ G H S _ fun v G1 H1 s1 S1 r1 => hl B σ G1 H1 S1 _ fun G2 H2 s2 S2 => hh B σ G2 H2 S2 _ fun G3 H3 s3 S3 => by
    cases r1
    exact .inr ⟨z, rfl, hz, q _ G3 H3 (s1.trans (s2.trans s3)) S3 (Dr.str _)⟩
/-! ### len -/
theorem l_list {ds : List PyData} : RCE K (rLenU K) [.dt (.list ds)] M (.dt (.int (ds.length : Int))) M := RCE.inl fun B E σ G H S vs r Q q => by
  obtain ⟨v, rfl, hv⟩ := one_inv r
  cases hv with
  | lst e a => exact ⟨_, _, rfl, .inl (.of (S.sub _ _ e)), by rw [a.length]; exact q _ G H Same.rfl' S (Dr.int _)⟩
theorem l_tup {ds : List PyData} : RCE K (rLenU K) [.dt (.tuple ds)] M (.dt (.int (ds.length : Int))) M := RCE.inl fun B E σ G H S vs r Q q => by
  obtain ⟨v, rfl, hv⟩ := one_inv r
  cases hv with
  | tup e a => exact ⟨_, _, rfl, .inr (.of (S.sub _ _ e)), by rw [a.length]; exact q _ G H Same.rfl' S (Dr.int _)⟩
theorem l_scr {ns : List Int} : RCE K (rLenU K) [.sc ns] M (.dt (.int (ns.length : Int))) M := RCE.inl fun B E σ G H S vs r Q q => by
  obtain ⟨v, rfl, hv⟩ := one_inv r
  obtain ⟨a, rfl, hs⟩ := hv
  exact ⟨_, _, rfl, .inl (S.sub.seq hs), by rw [List.length_map]; exact q _ G H Same.rfl' S (Dr.int _)⟩
theorem l_own {p : Addr} {fl : Bool} (hm : (p, fl, GO.lst xs) ∈ M) : RCE K (rLenU K) [.rf p] M (.dt (.int (xs.length : Int))) M := RCE.inl fun B E σ G H S vs r Q q => by
  obtain ⟨v, rfl, hv⟩ := one_inv r
  have hv' : v = .ref p := hv
  subst hv'
  obtain ⟨_, ⟨o, h1, h2⟩, _⟩ := S.cells.at_ _ hm
  obtain ⟨ws, rfl, r⟩ := RelO.lst_inv h2
  exact ⟨p, ws, rfl, .inl (.of h1), by rw [RelGs.length r]; exact q _ G H Same.rfl' S (Dr.int _)⟩
theorem l_str {z : Str} (hz : z.length ≤ sizeLine) : RCE K (rLenU K) [.dt (.str z)] M (.dt (.int (z.length : Int))) M := RCE.inr fun B E σ G H S vs r Q q => by
  obtain ⟨v, rfl, hv⟩ := one_inv r
  cases hv
  exact ⟨z, rfl, hz, q _ G H Same.rfl' S (Dr.int _)⟩
def rAbs1 : TR := fun xs H Q => ∃ i, xs = [.int i] ∧ Q (.int (if i < 0 then -i else i)) H
theorem o_abs {X : Cx} : CallR X (.builtin "abs") rAbs1 := call_abs
theorem l_abs {i : Int} : RCE K rAbs1 [.dt (.int i)] M (.dt (.int (i.natAbs : Int))) M := fun B E σ G H S vs r Q q => by
  obtain ⟨v, rfl, hv⟩ := one_inv r
  cases hv
  refine ⟨i, rfl, ?_⟩
  have e : (if i < 0 then -i else i) = (i.natAbs : Int) := by split <;> omega
  rw [e]
  exact q _ G H Same.rfl' S (Dr.int _)
def rMax2' : TR := fun xs H Q => ∃ i j, xs = [.int i, .int j] ∧ Q (.int (if j > i then j else i)) H
theorem o_max2 {X : Cx} (hc : X.calm = true) : CallR X (.builtin "max") rMax2' := call_max2 hc
theorem l_max2 {i j : Int} : RCE K rMax2' [.dt (.int i), .dt (.int j)] M (.dt (.int (max i j))) M := fun B E σ G H S vs r Q q => by
  obtain ⟨v, w, rfl, hv, hw⟩ := two_inv r
  cases hv; cases hw
  refine ⟨i, j, rfl, ?_⟩
  have e : (if j > i then j else i) = max i j := by split <;> omega
  rw [e]
  exact q _ G H Same.rfl' S (Dr.int _)
def rMin2' : TR := fun xs H Q => ∃ i j, xs = [.int i, .int j] ∧ Q (.int (if j < i then j else i)) H
theorem o_min2 {X : Cx} (hc : X.calm = true) : CallR X (.builtin "min") rMin2' := call_min2 hc
theorem l_min2 {i j : Int} : RCE K rMin2' [.dt (.int i), .dt (.int j)] M (.dt (.int (min i j))) M := fun B E σ G H S vs r Q q => by
  obtain ⟨v, w, rfl, hv, hw⟩ := two_inv r
  cases hv; cases hw
  refine ⟨i, j, rfl, ?_⟩
  have e : (if j < i then j else i) = min i j := by split <;> omega
  rw [e]
  exact q _ G H Same.rfl' S (Dr.int _)
def rInt1 : TR := fun xs H Q => (∃ i, xs = [.int i] ∧ Q (.int i) H) ∨ ∃ k, xs = [.bl k] ∧ Q (.int (if k then 1 else 0)) H
theorem o_int {X : Cx} : CallR X (.type "int") rInt1 := call_int1
theorem l_intB {k : Bool} : RCE K rInt1 [.dt (.bool k)] M (.dt (.int (if k then 1 else 0))) M := fun B E σ G H S vs r Q q => by
  obtain ⟨v, rfl, hv⟩ := one_inv r
  cases hv
  exact .inr ⟨k, rfl, q _ G H Same.rfl' S (Dr.int _)⟩
theorem l_isi {d : PyData} {n : String} (hk : kitB (tyD d) n = some b) : RCE K (rIsi K) [.dt d, .ty n] M (.dt (.bool b)) M := fun B E σ G H S vs r Q q => by
  obtain ⟨v, w, rfl, hv, hw⟩ := two_inv r
  have hw' : w = .ty n := hw
  subst hw'
  exact ⟨v, .ty n, _, _, b, rfl, .ty n, ty_data S.sub hv, kit_ty hk, q _ G H Same.rfl' S (Dr.bl _)⟩
theorem l_sum {ns : List Int} : RCE K (rSum K) [.dt (.list (ns.map .int))] M (.dt (.int ns.sum)) M := fun B E σ G H S vs r Q q => by
  obtain ⟨v, rfl, hv⟩ := one_inv r
  cases hv with
  | lst e a =>
    rw [a.ints] at e
    exact ⟨_, ns, rfl, .of (S.sub _ _ e), q _ G H Same.rfl' S (Dr.int _)⟩
/-! ### in -/
theorem i_data {d : PyData} {ds : List PyData} (h1 : SeqAt.shaped d = true) (h2 : SeqAt.shaped (.list ds) = true) : R2E K (rInD K) (.dt d) (.dt (.list ds)) M (.dt (.bool (ds.any fun z => PyData.eqv z d))) M := fun B E σ G H S v w hv hw Q q =>
  ⟨d, ds, (Dr.mono S.sub hv).dp, (Dr.mono S.sub hw).dp, h1, h2, q _ G H Same.rfl' S (Dr.bl _)⟩
theorem ni_data {d : PyData} {ds : List PyData} (h1 : SeqAt.shaped d = true) (h2 : SeqAt.shaped (.list ds) = true) : R2E K (rNotInD K) (.dt d) (.dt (.list ds)) M (.dt (.bool (!ds.any fun z => PyData.eqv z d))) M := fun B E σ G H S v w hv hw Q q =>
  ⟨d, ds, (Dr.mono S.sub hv).dp, (Dr.mono S.sub hw).dp, h1, h2, q _ G H Same.rfl' S (Dr.bl _)⟩
/-- one's own list read as data where it stands -/
theorem SR.own_dp {B : Bs} {σ : L2.St} {G H : Hp} {p : Addr} {fl : Bool} {ds : List PyData} (S : SR K B E M σ G H) (hm : (p, fl, GO.lst (ds.map .dt)) ∈ M) : Dp K H (.ref p) (.list ds) := by
  obtain ⟨_, ⟨o, h1, h2⟩, _⟩ := S.cells.at_ _ hm
  obtain ⟨vs, rfl, r⟩ := RelO.lst_inv h2
  exact .lst (.of h1) (DrAll.mono S.sub r.data).dp
theorem i_own {d : PyData} {p : Addr} {fl : Bool} {ds : List PyData} (hm : (p, fl, GO.lst (ds.map .dt)) ∈ M) (h1 : SeqAt.shaped d = true) (h2 : SeqAt.shaped (.list ds) = true) : R2E K (rInD K) (.dt d) (.rf p) M (.dt (.bool (ds.any fun z => PyData.eqv z d))) M := fun B E σ G H S v w hv hw Q q => by
  have hw' : w = .ref p := hw
  subst hw'
  exact ⟨d, ds, (Dr.mono S.sub hv).dp, S.own_dp hm, h1, h2, q _ G H Same.rfl' S (Dr.bl _)⟩
theorem ni_own {d : PyData} {p : Addr} {fl : Bool} {ds : List PyData} (hm : (p, fl, GO.lst (ds.map .dt)) ∈ M) (h1 : SeqAt.shaped d = true) (h2 : SeqAt.shaped (.list ds) = true) : R2E K (rNotInD K) (.dt d) (.rf p) M (.dt (.bool (!ds.any fun z => PyData.eqv z d))) M := fun B E σ G H S v w hv hw Q q => by
  have hw' : w = .ref p := hw
  subst hw'
  exact ⟨d, ds, (Dr.mono S.sub hv).dp, S.own_dp hm, h1, h2, q _ G H Same.rfl' S (Dr.bl _)⟩
/-! ### data of ghost lists -/
def undt : List GV → Option (List PyData)
  | [] => some []
  | .dt d :: r => (undt r).map (d :: ·)
  | _ :: _ => none
theorem undt_eq : ∀ {xs : List GV} {ds : List PyData}, undt xs = some ds → xs = ds.map .dt
  | [], ds, h => by cases h; rfl
  | .dt d :: r, ds, h => by
    unfold undt at h
    cases e : undt r with
    | none => rw [e] at h; cases h
    | some es =>
      rw [e] at h
      cases h
      rw [undt_eq e] <;> rfl
  | .rf _ :: _, _, h => by cases h
  | .sc _ :: _, _, h => by cases h
  | .ty _ :: _, _, h => by cases h
theorem ee_fzU {ds : List PyData} (h : EF K te E M xs M1) (e : undt xs = some ds) : EE K te E M (.dt (.list ds)) M1 := by
  rw [undt_eq e] at h
  exact ee_fz h
theorem ee_tupU {tr : TA} {gs : List GV} {ds : List PyData} (h : EA K tr E M gs M1) (e : undt gs = some ds) (hl : ds.length ≤ sizeLine) : EE K (tTup tr) E M (.dt (.tuple ds)) M1 := by
  rw [undt_eq e] at h
  exact ee_tup h hl
end
end Ek

set_option Elab.async false
set_option linter.all false
set_option maxRecDepth 100000
/-! zip, enumerate, ranges, comprehensions over them; in, list(..); the law's begin -/
namespace Ek
open PySem PySem.Spec PyProof.Rows L2

theorem hu64 {A : Around} {k : Nat} (hr : Room k A) : A.units + 64 < cLine := by have := hr.un; omega
theorem hu65 {A : Around} {k : Nat} (hr : Room k A) : A.units + 65 < cLine := by have := hr.un; omega
section
variable {X : Cx}
def rInStr : R2 := fun x y H Q => ∃ i j, x = .str i ∧ y = .str j ∧ Q (.bl (!(Builtin.Str.occurrences j i 0 j.length 1).isEmpty)) H
def rNotInStr : R2 := fun x y H Q => ∃ i j, x = .str i ∧ y = .str j ∧ Q (.bl (!(!(Builtin.Str.occurrences j i 0 j.length 1).isEmpty))) H
def rInU (K : PySem.W.Frag) : R2 := fun x y H Q => rInD K x y H Q ∨ rIn K false x y H Q ∨ rInStr x y H Q
def rNotInU (K : PySem.W.Frag) : R2 := fun x y H Q => rNotInD K x y H Q ∨ rIn K true x y H Q ∨ rNotInStr x y H Q
theorem o_in (hu : X.A.units + 65 < cLine) : OpR X (compareOp .In) (rInU X.K) := OpR.both (op_inD hu) (OpR.both op_in_seq op_in_str)
theorem o_notin (hu : X.A.units + 65 < cLine) : OpR X (compareOp .NotIn) (rNotInU X.K) := OpR.both (op_notInD hu) (OpR.both op_notIn_seq op_notin_str)
def rListOf (K : PySem.W.Frag) : TR := fun xs H Q => ∃ p ys, xs = [.ref p] ∧ (SqL K H p ys ∨ SqT K H p ys) ∧ ∀ l, H l = none → Q (.ref l) (upd H l (.lst ys))
theorem o_list : CallR X (.type "list") (rListOf X.K) := call_list_of
end
/-! ### one structure of walk -/
theorem for_it {J : It} {g : TG} {tb : TS} {D : Ends} {σ : L2.St} {H : Hp} (n : Nat) (Pv : Nat → L2.St → Hp → Prop) (h0 : Pv 0 σ H) (hgo : ∀ i σ H, i < n → Pv i σ H → J.go i H) (hstop : ∀ σ H, Pv n σ H → J.stop n H)
    (hs : ∀ i σ H x H', i < n → Pv i σ H → J.yld i H x H' → g x σ H' fun σ2 H2 => tb { D with nx := Pv (i + 1), ct := Pv (i + 1), bk := D.nx } σ2 H2) (hd : ∀ σ H, Pv n σ H → D.nx σ H) :
    ∃ W : Nat → Nat → L2.St → Hp → Prop, (∃ m, W 0 m σ H) ∧ ∀ i m σ H, W i m σ H →
      (J.stop i H ∧ D.nx σ H) ∨ (J.go i H ∧ ∃ N : L2.St → Hp → Prop, (∀ σ' H', N σ' H' → ∃ m', m' < m ∧ W (i + 1) m' σ' H') ∧ ∀ v H', J.yld i H v H' → g v σ H' fun σ2 H2 => tb { D with nx := N, ct := N, bk := D.nx } σ2 H2) := by
  refine ⟨fun i m σ H => m = n - i ∧ i ≤ n ∧ Pv i σ H, ⟨n, rfl, Nat.zero_le _, h0⟩, ?_⟩
  rintro i m σ H ⟨rfl, hi, p⟩
  by_cases hlt : i < n
  · exact .inr ⟨hgo i σ H hlt p, Pv (i + 1), fun σ' H' p' => ⟨n - (i + 1), by omega, rfl, hlt, p'⟩, fun v H' y => hs i σ H v H' hlt p y⟩
  · have e : i = n := by omega
    subst e
    exact .inl ⟨hstop σ H p, hd σ H p⟩
theorem lc_it {J : It} {g : TG} {tt : TT} {te : TE} {vs : List Nat} {σ : L2.St} {H1 : Hp} {D : Addr} {Qd : Hp → Prop} (n : Nat) (Pv : Nat → Hp → Prop) (h0 : Pv 0 (upd H1 D (.lst []))) (hgo : ∀ i H, i < n → Pv i H → J.go i H) (hstop : ∀ H, Pv n H → J.stop n H)
    (hs : ∀ i H x H', i < n → Pv i H → J.yld i H x H' → g x (wipe σ vs) H' fun σ2 H2 => wipe σ2 vs = wipe σ vs ∧ tt σ2 H2 fun b H3 =>
      if b = true then te σ2 H3 fun y H4 => ∃ acc, H4 D = some (.lst acc) ∧ acc.length < sizeLine ∧ Pv (i + 1) (upd H4 D (.lst (acc ++ [y]))) else Pv (i + 1) H3) (hd : ∀ H, Pv n H → Qd H) :
    ∃ W : Nat → Nat → Hp → Prop, (∃ m, W 0 m (upd H1 D (.lst []))) ∧ ∀ i m H, W i m H →
      (J.stop i H ∧ Qd H) ∨ (J.go i H ∧ ∃ Nx : Hp → Prop, (∀ H', Nx H' → ∃ m', m' < m ∧ W (i + 1) m' H') ∧ ∀ x H', J.yld i H x H' → g x (wipe σ vs) H' fun σ2 H2 => wipe σ2 vs = wipe σ vs ∧ tt σ2 H2 fun b H3 =>
        if b = true then te σ2 H3 fun y H4 => ∃ acc, H4 D = some (.lst acc) ∧ acc.length < sizeLine ∧ Nx (upd H4 D (.lst (acc ++ [y]))) else Nx H3) := by
  refine ⟨fun i m H => m = n - i ∧ i ≤ n ∧ Pv i H, ⟨n, rfl, Nat.zero_le _, h0⟩, ?_⟩
  rintro i m H ⟨rfl, hi, p⟩
  by_cases hlt : i < n
  · exact .inr ⟨hgo i H hlt p, Pv (i + 1), fun H' p' => ⟨n - (i + 1), by omega, rfl, hlt, p'⟩, fun v H' y => hs i H v H' hlt p y⟩
  · have e : i = n := by omega
    subst e
    exact .inl ⟨hstop H p, hd H p⟩
section
variable {K : PySem.W.Frag} {E : GE} {M M1 M2 : GM} {P : Kn} {t : TS} {te tl tl2 : TE} {tt : TT}
def setL (E : GE) : List Nat → List GV → GE
  | j :: js, g :: gs => setL (E.set j (some g)) js gs
  | _, _ => E
/-- what a walk gives to its target's slots, turn by turn, from the shared data G1 on -/
structure Wk (K : PySem.W.Frag) (J : It) (g : TG) (G1 : Hp) (n : Nat) (js : List Nat) (f : Nat → List GV) : Prop where
  go : ∀ i H G2, i < n → Same G1 G2 → Same G2 H → J.go i H
  stop : ∀ H G2, Same G1 G2 → Same G2 H → J.stop n H
  turn : ∀ (i : Nat) (B : Bs) (E : GE) (M : GM) (σ : L2.St) (G2 H : Hp) (x : V) (H' : Hp) (R : L2.St → Hp → Prop), i < n → SR K B E M σ G2 H → Same G1 G2 → J.yld i H x H' →
    (∀ σ3 G3, Same G2 G3 → SR K B (setL E js (f i)) M σ3 G3 H' → (∀ vs, (∀ j ∈ js, j ∈ vs) → wipe σ3 vs = wipe σ vs) → R σ3 H') → g x σ H' R
/-- an iterable -/
def EI (K : PySem.W.Frag) (wi : TI) (g : TG) (E : GE) (M : GM) (M1 : GM) (n : Nat) (js : List Nat) (f : Nat → List GV) : Prop :=
  ∀ B σ G H, SR K B E M σ G H → ∀ R : It → Hp → Prop, (∀ J G' H', Same G G' → SR K B E M1 σ G' H' → Wk K J g G' n js f → R J H') → wi σ H R
theorem wipe_at (vs : List Nat) (τ : L2.St) (i : Nat) : (wipe τ vs)[i]? = if i ∈ vs ∧ i < τ.length then some none else τ[i]? := by
  induction vs with
  | nil => unfold wipe; rw [if_neg (by simp)]
  | cons v vs ih =>
    unfold wipe
    by_cases hi : v = i
    · subst hi
      by_cases hl : v < τ.length
      · rw [List.getElem?_set_self (by rw [wipe_length]; exact hl), if_pos ⟨List.mem_cons_self, hl⟩]
      · rw [List.getElem?_eq_none (by rw [List.length_set, wipe_length]; omega), if_neg (by omega), List.getElem?_eq_none (by omega)]
    · rw [List.getElem?_set_ne hi, ih]
      by_cases hm : i ∈ vs
      · by_cases hl : i < τ.length
        · rw [if_pos ⟨hm, hl⟩, if_pos ⟨List.mem_cons_of_mem _ hm, hl⟩]
        · rw [if_neg (by omega), if_neg (by omega)]
      · rw [if_neg (by simp [hm]), if_neg (by simp [hm, Ne.symm hi])]
theorem wipe_of_set {σ : L2.St} {x : Option V} {j : Nat} {vs : List Nat} (hj : j ∈ vs) : wipe (σ.set j x) vs = wipe σ vs := by
  refine List.ext_getElem? fun i => ?_
  rw [wipe_at, wipe_at, List.length_set]
  by_cases hm : i ∈ vs ∧ i < σ.length
  · rw [if_pos hm, if_pos hm]
  · rw [if_neg hm, if_neg hm]
    by_cases hij : j = i
    · subst hij
      have hl : ¬ j < σ.length := fun z => hm ⟨hj, z⟩
      rw [List.getElem?_eq_none (by rw [List.length_set]; omega), List.getElem?_eq_none (by omega)]
    · rw [List.getElem?_set_ne hij]
theorem wipe_wipe (σ : L2.St) (vs : List Nat) : wipe (wipe σ vs) vs = wipe σ vs := by
  refine List.ext_getElem? fun i => ?_
  rw [wipe_at, wipe_length, wipe_at]
  by_cases hm : i ∈ vs ∧ i < σ.length
  · rw [if_pos hm]
    exact (if_pos hm).symm
  · rw [if_neg hm]
/-- a pair handed to two names -/
theorem turn_pair {B : Bs} {M : GM} {σ : L2.St} {G2 H : Hp} {T : Addr} {x y : V} {gx gy : GV} {j1 j2 : Nat} {R : L2.St → Hp → Prop} (S : SR K B E M σ G2 H) (hT : SqT K H T [x, y]) (hx : RelG K G2 x gx) (hy : RelG K G2 y gy)
    (q : ∀ σ3 G3, Same G2 G3 → SR K B (setL E [j1, j2] [gx, gy]) M σ3 G3 H → (∀ vs, (∀ j ∈ [j1, j2], j ∈ vs) → wipe σ3 vs = wipe σ vs) → R σ3 H) :
    gTup K 2 (gCons (gName j1) (gCons (gName j2) gNil)) (.ref T) σ H R := by
  refine ⟨T, [x, y], rfl, hT, rfl, x, [y], rfl, y, [], rfl, rfl, ?_⟩
  refine q _ G2 Same.rfl' ((S.set hx).set hy) fun vs hv => ?_
  rw [wipe_of_set (hv j2 (by simp)), wipe_of_set (hv j1 (by simp))]
theorem wk_list {G1 : Hp} {a : Addr} {vs : List V} {ds : List PyData} {j : Nat} (e : G1 a = some (.lst vs)) (ha : DrAll G1 vs ds) : Wk K (Itl K a) (gName j) G1 ds.length [j] (fun i => [.dt (ds.getD i .none)]) where
  go := fun i H G2 hi s1 s2 => ⟨vs, vs[i]'(by rw [ha.length]; exact hi), .of (s2 _ _ (s1 _ _ e)), by simp⟩
  stop := fun H G2 s1 s2 => ⟨vs, .of (s2 _ _ (s1 _ _ e)), by rw [ha.length]; exact Nat.le_refl _⟩
  turn := fun i B E M σ G2 H x H' R hi S s1 y q => by
    obtain ⟨rfl, y⟩ := y
    obtain ⟨d, hd, rd⟩ := ha.get (y vs (.of (S.sub _ _ (s1 _ _ e))))
    have e2 : ds.getD i .none = d := by rw [List.getD_eq_getElem?_getD, hd] <;> rfl
    refine q _ G2 Same.rfl' (S.set (i := j) (g := .dt (ds.getD i .none)) (by rw [e2]; exact Dr.mono s1 rd)) fun vs hv => wipe_of_set (hv j (by simp))
theorem ei_list {j : Nat} {ds : List PyData} (h : EE K tl E M (.dt (.list ds)) M1) : EI K (iList K tl) (gName j) E M M1 ds.length [j] (fun i => [.dt (ds.getD i .none)]) := fun B σ G H S R q =>
  h B σ G H S _ fun v G1 H1 s1 S1 r1 => by
    cases r1 with
    | lst e a => exact ⟨_, rfl, ⟨_, .of (S1.sub _ _ e)⟩, q _ G1 H1 s1 S1 (wk_list e a)⟩
/-- the script itself -/
theorem ei_scr {j : Nat} {ns : List Int} (h : EE K tl E M (.sc ns) M1) : EI K (iList K tl) (gName j) E M M1 ns.length [j] (fun i => [.dt (.int (ns.getD i 0))]) := fun B σ G H S R q =>
  h B σ G H S _ fun v G1 H1 s1 S1 r1 => by
    obtain ⟨a, rfl, hs⟩ := r1
    refine ⟨_, rfl, ⟨_, S1.sub.seq hs⟩, q _ G1 H1 s1 S1 ⟨fun i H G2 hi s1 s2 => ⟨_, .int (ns.getD i 0), s2.seq (s1.seq hs), ?_⟩, fun H G2 s1 s2 => ⟨_, s2.seq (s1.seq hs), by rw [List.length_map]; exact Nat.le_refl _⟩, fun i B E M σ G2 H x H' R hi S s1 y q => ?_⟩⟩
    · rw [List.getElem?_map, List.getElem?_eq_getElem hi, List.getD_eq_getElem?_getD, List.getElem?_eq_getElem hi] <;> rfl
    · obtain ⟨rfl, y⟩ := y
      have hx := y _ (S.sub.seq (s1.seq hs))
      rw [List.getElem?_map, List.getElem?_eq_getElem hi] at hx
      have hx' : x = .int (ns.getD i 0) := by
        rw [List.getD_eq_getElem?_getD, List.getElem?_eq_getElem hi]
        exact (Option.some.inj hx).symm
      subst hx'
      exact q _ G2 Same.rfl' (S.set (i := j) (g := .dt (.int (ns.getD i 0))) (Dr.int _)) fun vs hv => wipe_of_set (hv j (by simp))
/-- for a, b in a list of pairs -/
theorem ei_list2 {j1 j2 : Nat} {ds : List PyData} (fa fb : Nat → PyData) (h : EE K tl E M (.dt (.list ds)) M1) (hf : ∀ (i : Nat) (d : PyData), ds[i]? = some d → d = PyData.tuple [fa i, fb i]) :
    EI K (iList K tl) (gTup K 2 (gCons (gName j1) (gCons (gName j2) gNil))) E M M1 ds.length [j1, j2] (fun i => [.dt (fa i), .dt (fb i)]) := fun B σ G H S R q =>
  h B σ G H S _ fun v G1 H1 s1 S1 r1 => by
    cases r1 with
    | lst e a =>
      rename_i ad vs
      refine ⟨_, rfl, ⟨_, .of (S1.sub _ _ e)⟩, q _ G1 H1 s1 S1 ⟨fun i H G2 hi s1 s2 => ⟨vs, vs[i]'(by rw [a.length]; exact hi), .of (s2 _ _ (s1 _ _ e)), by simp⟩, fun H G2 s1 s2 => ⟨vs, .of (s2 _ _ (s1 _ _ e)), by rw [a.length]; exact Nat.le_refl _⟩, fun i B E M σ G2 H x H' R hi S s1 y q => ?_⟩⟩
      obtain ⟨rfl, y⟩ := y
      obtain ⟨d, hd, rd⟩ := a.get (y vs (.of (S.sub _ _ (s1 _ _ e))))
      have hd2 := hf i d hd
      subst hd2
      cases Dr.mono s1 rd with
      | tup et at_ =>
        cases at_ with
        | cons d1 t1 =>
          cases t1 with
          | cons d2 t2 =>
            cases t2
            exact turn_pair S (.of (S.sub _ _ et)) (gx := .dt (fa i)) (gy := .dt (fb i)) d1 d2 q
/-- enumerate -/
theorem ei_enum {j1 j2 : Nat} {ds : List PyData} (h : EE K tl E M (.dt (.list ds)) M1) :
    EI K (iEnum K (tCons tl tNil)) (gTup K 2 (gCons (gName j1) (gCons (gName j2) gNil))) E M M1 ds.length [j1, j2] (fun i => [.dt (.int (i : Int)), .dt (ds.getD i .none)]) := fun B σ G H S R q =>
  h B σ G H S _ fun v G1 H1 s1 S1 r1 => by
    cases r1 with
    | lst e a =>
      rename_i ad vs
      refine ⟨ad, vs, rfl, .of (S1.sub _ _ e), q _ G1 H1 s1 S1 ⟨fun i H G2 hi s1 s2 => ⟨vs, vs[i]'(by rw [a.length]; exact hi), .of (s2 _ _ (s1 _ _ e)), by simp⟩, fun H G2 s1 s2 => ⟨vs, .of (s2 _ _ (s1 _ _ e)), by rw [a.length]; exact Nat.le_refl _⟩, fun i B E M σ G2 H x H' R hi S s1 y q => ?_⟩⟩
      obtain ⟨T, w, rfl, hT, rfl, y⟩ := y
      obtain ⟨d, hd, rd⟩ := a.get (y vs (.of (S.sub _ _ (s1 _ _ e))))
      have e2 : ds.getD i .none = d := by rw [List.getD_eq_getElem?_getD, hd] <;> rfl
      have hg := S.gfree hT
      refine turn_pair (S.share hT) (.of upd_same) (gx := .dt (.int (i : Int))) (gy := .dt (ds.getD i .none)) (Dr.int _) (by rw [e2]; exact Dr.mono (same_upd hg) (Dr.mono s1 rd)) fun σ3 G3 s3 S3 hw => ?_
      exact q σ3 G3 ((same_upd hg).trans s3) S3 hw
/-- zip of two lists -/
theorem ei_zip {j1 j2 : Nat} {ds es : List PyData} (h : EE K tl E M (.dt (.list ds)) M1) (h2 : EE K tl2 E M1 (.dt (.list es)) M2) :
    EI K (iZip K (tCons tl (tCons tl2 tNil))) (gTup K 2 (gCons (gName j1) (gCons (gName j2) gNil))) E M M2 (min ds.length es.length) [j1, j2] (fun i => [.dt (ds.getD i .none), .dt (es.getD i .none)]) := fun B σ G H S R q =>
  h B σ G H S _ fun v G1 H1 s1 S1 r1 => h2 B σ G1 H1 S1 _ fun v2 G2 H2 s2 S2 r2 => by
    cases Dr.mono s2 r1 with
    | lst e a =>
      cases r2 with
      | lst e2 a2 =>
        rename_i ad vs ad2 vs2
        refine ⟨ad, ad2, vs, vs2, rfl, .of (S2.sub _ _ e), .of (S2.sub _ _ e2), q _ G2 H2 (s1.trans s2) S2 ⟨fun i H G3 hi s1 s2 => ⟨vs, vs2, vs[i]'(by rw [a.length]; omega), vs2[i]'(by rw [a2.length]; omega), .of (s2 _ _ (s1 _ _ e)), .of (s2 _ _ (s1 _ _ e2)), by simp, by simp⟩,
          fun H G2 s1 s2 => ⟨vs, vs2, .of (s2 _ _ (s1 _ _ e)), .of (s2 _ _ (s1 _ _ e2)), by rw [a.length, a2.length]; omega⟩, fun i B E M σ G3 H x H' R hi S s1 y q => ?_⟩⟩
        obtain ⟨T, w, w2, rfl, hT, rfl, y, y2⟩ := y
        obtain ⟨d, hd, rd⟩ := a.get (y vs (.of (S.sub _ _ (s1 _ _ e))))
        obtain ⟨d2, hd2, rd2⟩ := a2.get (y2 vs2 (.of (S.sub _ _ (s1 _ _ e2))))
        have k1 : ds.getD i .none = d := by rw [List.getD_eq_getElem?_getD, hd] <;> rfl
        have k2 : es.getD i .none = d2 := by rw [List.getD_eq_getElem?_getD, hd2] <;> rfl
        have hg := S.gfree hT
        refine turn_pair (S.share hT) (.of upd_same) (gx := .dt (ds.getD i .none)) (gy := .dt (es.getD i .none)) (by rw [k1]; exact Dr.mono (same_upd hg) (Dr.mono s1 rd)) (by rw [k2]; exact Dr.mono (same_upd hg) (Dr.mono s1 rd2)) fun σ3 G3 s3 S3 hw => ?_
        exact q σ3 G3 ((same_upd hg).trans s3) S3 hw
theorem ei_range1 {j : Nat} {m : Int} {tr : TA} (h : EA K tr E M [.dt (.int m)] M1) (h1 : -(2 ^ 62) ≤ m) (h2 : m < 2 ^ 62) : EI K (iRng1 tr) (gName j) E M M1 m.toNat [j] (fun i => [.dt (.int (i : Int))]) := fun B σ G H S R q =>
  h B σ G H S _ fun vs G1 H1 s1 S1 r1 => by
    obtain ⟨v, rfl, hv⟩ := one_inv r1
    cases hv
    refine ⟨m, rfl, h1, h2, q _ G1 H1 s1 S1 ⟨fun i H G2 hi s1 s2 => hi, fun H G2 s1 s2 => Nat.le_refl _, fun i B E M σ G2 H x H' R hi S s1 y q => ?_⟩⟩
    obtain ⟨rfl, rfl⟩ := y
    have e0 : (0 : Int) + (i : Int) = (i : Int) := Int.zero_add _
    rw [e0]
    exact q _ G2 Same.rfl' (S.set (i := j) (g := .dt (.int (i : Int))) (Dr.int _)) fun vs hv => wipe_of_set (hv j (by simp))
theorem ei_range2 {j : Nat} {lo m : Int} {tr : TA} (h : EA K tr E M [.dt (.int lo), .dt (.int m)] M1) (hm : -(2 ^ 62) ≤ lo ∧ lo < 2 ^ 62 ∧ -(2 ^ 62) ≤ m ∧ m < 2 ^ 62) : EI K (iRng2 tr) (gName j) E M M1 (m - lo).toNat [j] (fun i => [.dt (.int (lo + (i : Int)))]) := fun B σ G H S R q =>
  h B σ G H S _ fun vs G1 H1 s1 S1 r1 => by
    obtain ⟨v, w, rfl, hv, hw⟩ := two_inv r1
    cases hv; cases hw
    refine ⟨lo, m, rfl, hm, q _ G1 H1 s1 S1 ⟨fun i H G2 hi s1 s2 => hi, fun H G2 s1 s2 => Nat.le_refl _, fun i B E M σ G2 H x H' R hi S s1 y q => ?_⟩⟩
    obtain ⟨rfl, rfl⟩ := y
    exact q _ G2 Same.rfl' (S.set (i := j) (g := .dt (.int (lo + (i : Int)))) (Dr.int _)) fun vs hv => wipe_of_set (hv j (by simp))
theorem three_inv {G : Hp} {vs : List V} {g g' g2 : GV} (h : RelGs K G vs [g, g', g2]) : ∃ v w u, vs = [v, w, u] ∧ RelG K G v g ∧ RelG K G w g' ∧ RelG K G u g2 := by
  cases h with
  | cons a t =>
    obtain ⟨w, u, rfl, b, c⟩ := two_inv t
    exact ⟨_, _, _, rfl, a, b, c⟩
theorem ei_range3 {j : Nat} {lo m c : Int} {n : Nat} {tr : TA} (h : EA K tr E M [.dt (.int lo), .dt (.int m), .dt (.int c)] M1) (hm : RgC lo m c n) : EI K (iRng3 tr) (gName j) E M M1 n [j] (fun i => [.dt (.int (lo + (i : Int) * c))]) := fun B σ G H S R q =>
  h B σ G H S _ fun vs G1 H1 s1 S1 r1 => by
    obtain ⟨v, w, u, rfl, hv, hw, hu⟩ := three_inv r1
    cases hv; cases hw; cases hu
    refine ⟨lo, m, c, n, rfl, hm, q _ G1 H1 s1 S1 ⟨fun i H G2 hi s1 s2 => hi, fun H G2 s1 s2 => Nat.le_refl _, fun i B E M σ G2 H x H' R hi S s1 y q => ?_⟩⟩
    obtain ⟨rfl, rfl⟩ := y
    exact q _ G2 Same.rfl' (S.set (i := j) (g := .dt (.int (lo + (i : Int) * c))) (Dr.int _)) fun vs hv => wipe_of_set (hv j (by simp))
/-- for .. in .. -/
theorem blk_for {wi : TI} {g : TG} {n : Nat} {js : List Nat} {f : Nat → List GV} (h : EI K wi g E M M1 n js f) (Iv : Nat → GE → GM → Prop) (h0 : Iv 0 E M1)
    (hs : ∀ i E1 N1, i < n → Iv i E1 N1 → Blk K t (setL E1 js (f i)) N1 (turnK P (Iv (i + 1)))) (hd : ∀ E1 N1, Iv n E1 N1 → P.nx E1 N1) : Blk K (tFor wi g t) E M P := fun B σ G H D S nn r bb c =>
  h B σ G H S _ fun J G1 H1 s1 S1 wk => for_it n (fun i σ' H' => ∃ E1 N1 G2, Iv i E1 N1 ∧ SR K B E1 N1 σ' G2 H' ∧ Same G1 G2) ⟨E, M1, G1, h0, S1, Same.rfl'⟩
    (fun i σ' H' hi ⟨E1, N1, G2, q1, S2, s2⟩ => wk.go i H' G2 hi s2 S2.sub) (fun σ' H' ⟨E1, N1, G2, q1, S2, s2⟩ => wk.stop H' G2 s2 S2.sub)
    (fun i σ' H' x H'' hi ⟨E1, N1, G2, q1, S2, s2⟩ y => wk.turn i B E1 N1 σ' G2 H' x H'' _ hi S2 s2 y fun σ3 G3 s3 S3 _ =>
      Blk.from_ (G0 := G1) (hs i E1 N1 hi q1) (s2.trans s3) S3 (fun E' M' σ3 G3 H3 q e3 S3 => ⟨E', M', G3, q, S3, e3⟩) (fun g M' v G3 H3 q e3 S3 rr => r g M' v G3 H3 q (s1.trans e3) S3 rr) (fun E' M' σ3 G3 H3 q e3 S3 => nn E' M' σ3 G3 H3 q (s1.trans e3) S3) (fun E' M' σ3 G3 H3 q e3 S3 => ⟨E', M', G3, q, S3, e3⟩))
    fun σ' H' ⟨E1, N1, G2, q1, S2, s2⟩ => nn E1 N1 σ' G2 H' (hd _ _ q1) (s1.trans s2) S2
/-- [e for .. in .. if ..]; the cells may change from turn to turn -/
theorem ef_lc {wi : TI} {g : TG} {n : Nat} {js : List Nat} {f : Nat → List GV} {vs : List Nat} (Ms : Nat → GM) (p : Nat → Bool) (fv : Nat → GV) (h : EI K wi g E M (Ms 0) n js f) (hj : ∀ j ∈ js, j ∈ vs) (hz : n ≤ 1000000)
    (ht : ∀ i, i < n → ET K tt (setL (wipeE E vs) js (f i)) (Ms i) (p i) (Ms i)) (hno : ∀ i, i < n → p i = false → Ms (i + 1) = Ms i)
    (he : ∀ i, i < n → p i = true → EE K te (setL (wipeE E vs) js (f i)) (Ms i) (fv i) (Ms (i + 1))) :
    EF K (tLc wi g tt te vs) E M (made fv p n) (Ms n) := fun B σ G H S Q q =>
  h B σ G H S _ fun J G1 H1 s1 S1 wk => by
    refine fun D hD => lc_it n (fun i H' => ∃ G2, SR K B E ((D, true, .lst (made fv p i)) :: Ms i) σ G2 H' ∧ Same G1 G2) ⟨G1, S1.own (o := .lst []) hD .nil, Same.rfl'⟩ (fun i H' hi ⟨G2, S2, s2⟩ => wk.go i H' G2 hi s2 S2.sub) (fun H' ⟨G2, S2, s2⟩ => wk.stop H' G2 s2 S2.sub)
        (fun i H' x H'' hi ⟨G2, S2, s2⟩ y => ?_) (fun H' ⟨G2, S2, s2⟩ => q D G2 H' (s1.trans s2) S2)
    refine wk.turn i B (wipeE E vs) _ (wipe σ vs) G2 H' x H'' _ hi (S2.wiped vs) s2 y fun σ3 G3 s3 S3 hw => ⟨by rw [hw vs hj, wipe_wipe], ?_⟩
    refine (ht i hi).fr (cs := [(D, true, .lst (made fv p i))]) B _ G3 H'' S3 _ fun G4 H4 e4 S4 => ?_
    have back : ∀ {N : GM} {G5 H5 : Hp}, SR K B (setL (wipeE E vs) js (f i)) N σ3 G5 H5 → Same G2 G5 → SR K B E N σ G5 H5 := fun {N G5 H5} T s5 =>
      T.slots (S2.len) fun k g ek => by
        obtain ⟨w, k1, k2⟩ := S2.slot k g ek
        exact ⟨w, k1, RelG.mono s5 k2⟩
    cases hp : p i with
    | true =>
      rw [if_pos rfl]
      refine (he i hi hp).fr (cs := [(D, true, .lst (made fv p i))]) B _ G4 H4 S4 _ fun y G5 H5 e5 S5 r5 => ?_
      obtain ⟨_, ⟨o, k1, k2⟩, _⟩ := S5.cells.at_ (D, true, .lst (made fv p i)) List.mem_cons_self
      obtain ⟨us, rfl, ru⟩ := RelO.lst_inv k2
      refine ⟨us, k1, ?_, G5, ?_, s2.trans (s3.trans (e4.trans e5))⟩
      · rw [RelGs.length ru]
        have := made_len fv p i
        rw [sizeLine_eq]; omega
      · have S6 := S5.write (j := 0) (p := D) (fl := true) (g := .lst (made fv p i ++ [fv i])) (o := .lst (us ++ [y])) rfl (RelGs.app ru (.cons r5 .nil))
        rw [← made_yes hp] at S6
        exact back S6 (s3.trans (e4.trans e5))
    | false =>
      rw [if_neg Bool.false_ne_true]
      refine ⟨G4, ?_, s2.trans (s3.trans e4)⟩
      have S6 := back S4 (s3.trans e4)
      rw [made_no hp, hno i hi hp]
      exact S6
theorem et_yes : ET K tYes E M true M := fun B σ G H S Q q => q G H Same.rfl' S
theorem made_all {f : Nat → GV} {n : Nat} : made f (fun _ => true) n = (List.range n).map f := by
  unfold made
  rw [List.filter_eq_self.mpr (fun _ _ => rfl)]
/-- [e for .. in ..], nothing changes -/
theorem ef_map {wi : TI} {g : TG} {n : Nat} {js : List Nat} {f : Nat → List GV} {vs : List Nat} (fv : Nat → GV) {xs : List GV} (h : EI K wi g E M M1 n js f) (he : ∀ i, i < n → EE K te (setL (wipeE E vs) js (f i)) M1 (fv i) M1) (hx : (List.range n).map fv = xs) (hj : ∀ j ∈ js, j ∈ vs := by decide) (hz : n ≤ 1000000) :
    EF K (tLc wi g tYes te vs) E M xs M1 := by
  rw [← hx, ← made_all]
  exact ef_lc (fun _ => M1) (fun _ => true) fv h hj hz (fun _ _ => et_yes) (fun _ _ h => by cases h) fun i hi _ => he i hi
/-- [e for .. in .. if ..], nothing changes -/
theorem ef_filter {wi : TI} {g : TG} {n : Nat} {js : List Nat} {f : Nat → List GV} {vs : List Nat} (p : Nat → Bool) (fv : Nat → GV) (h : EI K wi g E M M1 n js f) (ht : ∀ i, i < n → ET K tt (setL (wipeE E vs) js (f i)) M1 (p i) M1) (he : ∀ i, i < n → p i = true → EE K te (setL (wipeE E vs) js (f i)) M1 (fv i) M1) (hj : ∀ j ∈ js, j ∈ vs := by decide) (hz : n ≤ 1000000) :
    EF K (tLc wi g tt te vs) E M (made fv p n) M1 := ef_lc (fun _ => M1) p fv h hj hz ht (fun _ _ _ => rfl) he
/-! ### tuples handed to names; list(..) -/
theorem blk_asgT2 {i j : Nat} {d e : PyData} (h : EE K te E M (.dt (.tuple [d, e])) M1) (k : P.nx ((E.set i (some (.dt d))).set j (some (.dt e))) M1) : Blk K (tAsg te (gTup K 2 (gCons (gName i) (gCons (gName j) gNil)))) E M P := fun B σ G H D S n _ _ _ =>
  h B σ G H S _ fun v G1 H1 s1 S1 r1 => by
    cases r1 with
    | tup et at_ =>
      cases at_ with
      | cons d1 t1 =>
        cases t1 with
        | cons d2 t2 =>
          cases t2
          exact ⟨_, _, rfl, .of (S1.sub _ _ et), rfl, _, _, rfl, _, _, rfl, rfl, n _ _ _ G1 _ k s1 ((S1.set (g := .dt d) d1).set (g := .dt e) d2)⟩
theorem blk_asgT3 {i j l : Nat} {d e f : PyData} (h : EE K te E M (.dt (.tuple [d, e, f])) M1) (k : P.nx (((E.set i (some (.dt d))).set j (some (.dt e))).set l (some (.dt f))) M1) : Blk K (tAsg te (gTup K 3 (gCons (gName i) (gCons (gName j) (gCons (gName l) gNil))))) E M P := fun B σ G H D S n _ _ _ =>
  h B σ G H S _ fun v G1 H1 s1 S1 r1 => by
    cases r1 with
    | tup et at_ =>
      cases at_ with
      | cons d1 t1 =>
        cases t1 with
        | cons d2 t2 =>
          cases t2 with
          | cons d3 t3 =>
            cases t3
            exact ⟨_, _, rfl, .of (S1.sub _ _ et), rfl, _, _, rfl, _, _, rfl, _, _, rfl, rfl, n _ _ _ G1 _ k s1 (((S1.set (g := .dt d) d1).set (g := .dt e) d2).set (g := .dt f) d3)⟩
theorem li_list {ds : List PyData} : RCF K (rListOf K) [.dt (.list ds)] M (ds.map .dt) M := fun B E σ G H S vs r Q q => by
  obtain ⟨v, rfl, hv⟩ := one_inv r
  cases hv with
  | lst e a => exact ⟨_, _, rfl, .inl (.of (S.sub _ _ e)), fun l hl => q l G _ Same.rfl' (S.own hl (RelGs.of_data a))⟩
theorem RCF.fz {r : TR} {gs : List GV} {ds : List PyData} (h : RCF K r gs M (ds.map .dt) M1) : RCE K r gs M (.dt (.list ds)) M1 := fun B E σ G H S vs hv Q q =>
  h B E σ G H S vs hv Q fun p G1 H1 s1 S1 => by
    obtain ⟨G2, s2, S2, d⟩ := S1.freeze (j := 0) rfl
    exact q (.ref p) G2 H1 (fun a o e => s2 _ _ (s1 _ _ e)) S2 d
end
/-! ### the law's begin -/
abbrev spLaw (K : PySem.W.Frag) : Sp := sp0 K (fun ns : List Int => [.sc ns]) (fun ns => ns.length ≤ 63) (fun _ => .dt (.bool true))
theorem law_begin {K : PySem.W.Frag} {H : Hp} {a : Addr} {ns : List Int} (hl : ns.length ≤ 63) (hS : SqL K H a (ns.map V.int)) : spLaw K [.ref a] H (fun v _ => v = .bl true) fun _ _ _ => False :=
  ⟨H, ns, Same.rfl', .cons ⟨a, rfl, hS⟩ .nil, hl, fun v G' H' f s r => by cases r; rfl⟩
end Ek
namespace Ek
open PySem PySem.Spec PyProof.Rows L2
/-- // by any divisor below 2 ^ 9000, not 0 -/
def CDivX (_ j : Int) : Prop := j ≠ 0 ∧ j.natAbs.log2 < 9000
theorem o_fdiv {X : Cx} : OpR X (binaryOp .FloorDiv) (rI CDivX fun i j => .int (i.fdiv j)) := opI fun i j _ _ _ _ _ hc q => floordiv_int hc.1 q (.inl (PyProof.noPylong_of_log2 hc.2))
section
variable {K : PySem.W.Frag} {M : GM} {i j : Int}
theorem d_any (h : CDivX i j) : R2E K (rI CDivX fun i j => .int (i.fdiv j)) (.dt (.int i)) (.dt (.int j)) M (.dt (.int (i.fdiv j))) M := r2_intC h fun _ => .int _
theorem d_pos (h : 0 < j ∧ j.natAbs.log2 < 9000) : R2E K (rI CDivX fun i j => .int (i.fdiv j)) (.dt (.int i)) (.dt (.int j)) M (.dt (.int (i / j))) M := by
  have e : i / j = i.fdiv j := (Int.fdiv_eq_ediv_of_nonneg i (by omega)).symm
  rw [e]
  exact r2_intC (C := CDivX) ⟨by omega, h.2⟩ fun _ => .int _
end
theorem lenz0 : ([] : List PyData).length ≤ sizeLine := Nat.zero_le _
theorem lenz1 {a : PyData} : [a].length ≤ sizeLine := by show 1 ≤ sizeLine; decide
theorem lenz2 {a b : PyData} : [a, b].length ≤ sizeLine := by show 2 ≤ sizeLine; decide
theorem lenz3 {a b c : PyData} : [a, b, c].length ≤ sizeLine := by show 3 ≤ sizeLine; decide
theorem lenz4 {a b c d : PyData} : [a, b, c, d].length ≤ sizeLine := by show 4 ≤ sizeLine; decide
end Ek
namespace Ek
open PySem PySem.Spec PyProof.Rows L2
section
variable {K : PySem.W.Frag} {E : GE} {M : GM} {ta tb tc td : TE} {g g2 g3 g4 : GV}
theorem ea_p1 (h : EE K ta E M g M) : EA K (tCons ta tNil) E M [g] M := ea_cons h ea_nil
theorem ea_p2 (h : EE K ta E M g M) (h2 : EE K tb E M g2 M) : EA K (tCons ta (tCons tb tNil)) E M [g, g2] M := ea_cons h (ea_p1 h2)
theorem ea_p3 (h : EE K ta E M g M) (h2 : EE K tb E M g2 M) (h3 : EE K tc E M g3 M) : EA K (tCons ta (tCons tb (tCons tc tNil))) E M [g, g2, g3] M := ea_cons h (ea_p2 h2 h3)
theorem ea_p4 (h : EE K ta E M g M) (h2 : EE K tb E M g2 M) (h3 : EE K tc E M g3 M) (h4 : EE K td E M g4 M) : EA K (tCons ta (tCons tb (tCons tc (tCons td tNil)))) E M [g, g2, g3, g4] M := ea_cons h (ea_p3 h2 h3 h4)
end
end Ek

set_option Elab.async false
set_option linter.all false
set_option maxRecDepth 100000
/-! fractions: a tuple of top and bottom is a Rat's num and den -/
namespace Ek
open PySem PySem.Spec PyProof.Rows L2
abbrev eRat (q : Rat) : PyData := .tuple [.int q.num, .int (q.den : Int)]
/-- the divisor with the bottom's sign -/
def byOf (a b : Int) : Int := if b < 0 then -(Int.gcd a b : Int) else (Int.gcd a b : Int)
theorem byOf_ne {a b : Int} (hb : b ≠ 0) : byOf a b ≠ 0 := by
  have h : Int.gcd a b ≠ 0 := fun z => hb (Int.gcd_eq_zero_iff.mp z).2
  unfold byOf; split <;> omega
theorem byOf_abs (a b : Int) : (byOf a b).natAbs = Int.gcd a b := by
  unfold byOf; split <;> omega
theorem byOf_dvd_left (a b : Int) : byOf a b ∣ a := by
  unfold byOf
  split
  · exact Int.neg_dvd.mpr (Int.gcd_dvd_left _ _)
  · exact Int.gcd_dvd_left _ _
theorem byOf_dvd_right (a b : Int) : byOf a b ∣ b := by
  unfold byOf
  split
  · exact Int.neg_dvd.mpr (Int.gcd_dvd_right _ _)
  · exact Int.gcd_dvd_right _ _
theorem gcd_le_right {a b : Int} (hb : b ≠ 0) : Int.gcd a b ≤ b.natAbs := Nat.le_of_dvd (by omega) (Int.gcd_dvd_natAbs_right a b)
theorem fr_num {a b : Int} (hb : b ≠ 0) : a.fdiv (byOf a b) = (Rat.divInt a b).num := by
  rw [Rat.num_divInt, Int.fdiv_eq_ediv_of_dvd (byOf_dvd_left a b)]
  unfold byOf
  rw [Int.gcd_comm b a]
  split
  · rename_i h
    rw [Int.sign_eq_neg_one_of_neg h, Int.ediv_neg, Int.neg_one_mul, Int.neg_ediv_of_dvd (Int.gcd_dvd_left _ _)]
  · rename_i h
    rw [Int.sign_eq_one_of_pos (by omega), Int.one_mul]
theorem fr_den {a b : Int} (hb : b ≠ 0) : b.fdiv (byOf a b) = ((Rat.divInt a b).den : Int) := by
  rw [Rat.den_divInt, if_neg hb, Int.fdiv_eq_ediv_of_dvd (byOf_dvd_right a b)]
  unfold byOf
  rw [Int.gcd_comm b a, Int.natCast_ediv]
  split
  · rename_i h
    rw [Int.ediv_neg, show ((b.natAbs : Int)) = -b by omega, Int.neg_ediv_of_dvd (Int.gcd_dvd_right _ _)]
  · rename_i h
    rw [show ((b.natAbs : Int)) = b by omega]
theorem gcd_step (x y : Nat) (h : 0 < y) : Nat.gcd y (x % y) = Nat.gcd x y := by
  rw [Nat.gcd_comm x y, Nat.gcd_rec y x, Nat.gcd_comm]
theorem rat_sum (p q : Rat) : Rat.divInt (p.num * q.den + q.num * p.den) ((p.den : Int) * q.den) = p + q := by
  rw [Rat.add_def', ← Int.natCast_mul, Rat.divInt_ofNat]
theorem rat_mul (p q : Rat) : Rat.divInt (p.num * q.num) ((p.den : Int) * q.den) = p * q := by
  rw [Rat.mul_def', ← Int.natCast_mul, Rat.divInt_ofNat]
theorem rat_ext_den1 {p : Rat} (h : p.den = 1) : p = (p.num : Rat) := Rat.ext rfl h
theorem sum_den1 {p q : Rat} (h : p.den = 1) (h2 : q.den = 1) : eRat (p + q) = .tuple [.int (p.num + q.num), .int 1] := by
  rw [rat_ext_den1 h, rat_ext_den1 h2, ← Rat.intCast_add]
  rfl
theorem mul_den1 {p q : Rat} (h : p.den = 1) (h2 : q.den = 1) : eRat (p * q) = .tuple [.int (p.num * q.num), .int 1] := by
  rw [rat_ext_den1 h, rat_ext_den1 h2, ← Rat.intCast_mul]
  rfl
/-- so many bits at most -/
def Bd (n : Nat) (q : Rat) : Prop := q.num.natAbs < 2 ^ n ∧ q.den < 2 ^ n
theorem Bd.mono {n m : Nat} {q : Rat} (h : Bd n q) (hm : n ≤ m) : Bd m q := ⟨Nat.lt_of_lt_of_le h.1 (Nat.pow_le_pow_right (by decide) hm), Nat.lt_of_lt_of_le h.2 (Nat.pow_le_pow_right (by decide) hm)⟩
theorem log2_bd {x n m : Nat} (h : x < 2 ^ n) (hm : n ≤ m) (h0 : 0 < m) : x.log2 < m := PySem.Flt.log2_lt_of h0 (Nat.lt_of_lt_of_le h (Nat.pow_le_pow_right (by decide) hm))
theorem mulW {i j : Int} {n m : Nat} (hi : i.natAbs < 2 ^ n) (hj : j.natAbs < 2 ^ m) (h : n + m ≤ 900000) : CMulW i j := by
  have h1 : i.natAbs < 2 ^ (n + 1) := Nat.lt_of_lt_of_le hi (Nat.pow_le_pow_right (by decide) (by omega))
  have h2 : j.natAbs < 2 ^ (m + 1) := Nat.lt_of_lt_of_le hj (Nat.pow_le_pow_right (by decide) (by omega))
  exact wide_mul h1 h2 (by omega) (by omega) (by omega)
theorem natAbs_mul_lt {i j : Int} {n m : Nat} (hi : i.natAbs < 2 ^ n) (hj : j.natAbs < 2 ^ m) : (i * j).natAbs < 2 ^ (n + m) := wide_lt hi hj
theorem natAbs_add_lt {i j : Int} {n : Nat} (hi : i.natAbs < 2 ^ n) (hj : j.natAbs < 2 ^ n) : (i + j).natAbs < 2 ^ (n + 1) := by
  have := Int.natAbs_add_le i j
  rw [Nat.pow_succ]; omega
theorem natAbs_mono {i : Int} {n m : Nat} (h : i.natAbs < 2 ^ n) (hm : n ≤ m) : i.natAbs < 2 ^ m := Nat.lt_of_lt_of_le h (Nat.pow_le_pow_right (by decide) hm)
theorem den_natAbs (q : Rat) : ((q.den : Int)).natAbs = q.den := rfl
theorem dvd_le_natAbs {x y : Int} (hy : y ≠ 0) (h : x ∣ y) : x.natAbs ≤ y.natAbs := Nat.le_of_dvd (by omega) (Int.natAbs_dvd_natAbs.mpr h)
theorem bd_divInt {a b : Int} {n : Nat} (hb : b ≠ 0) (h1 : a.natAbs < 2 ^ n) (h2 : b.natAbs < 2 ^ n) : Bd n (Rat.divInt a b) := by
  constructor
  · rw [← fr_num hb]
    rw [Int.fdiv_eq_ediv_of_dvd (byOf_dvd_left a b), Int.natAbs_ediv_of_dvd (byOf_dvd_left a b)]
    exact Nat.lt_of_le_of_lt (Nat.div_le_self _ _) h1
  · have e := fr_den (a := a) hb
    rw [Int.fdiv_eq_ediv_of_dvd (byOf_dvd_right a b)] at e
    have e2 : (Rat.divInt a b).den = (b / byOf a b).natAbs := by rw [e]; rfl
    rw [e2, Int.natAbs_ediv_of_dvd (byOf_dvd_right a b)]
    exact Nat.lt_of_le_of_lt (Nat.div_le_self _ _) h2
theorem Bd.add {p q : Rat} {n m : Nat} (hp : Bd n p) (hq : Bd n q) (h : 2 * n + 1 ≤ m) : Bd m (p + q) := by
  rw [← rat_sum]
  have hz : (p.den : Int) * q.den ≠ 0 := by
    rw [← Int.natCast_mul]
    have := Nat.mul_pos p.den_pos q.den_pos
    omega
  have k1 := natAbs_mul_lt hp.1 (show ((q.den : Int)).natAbs < 2 ^ n from hq.2)
  have k2 := natAbs_mul_lt hq.1 (show ((p.den : Int)).natAbs < 2 ^ n from hp.2)
  have k3 := natAbs_mul_lt (show ((p.den : Int)).natAbs < 2 ^ n from hp.2) (show ((q.den : Int)).natAbs < 2 ^ n from hq.2)
  exact bd_divInt hz (natAbs_mono (natAbs_add_lt k1 k2) (by omega)) (natAbs_mono k3 (by omega))
theorem Bd.mul {p q : Rat} {n k m : Nat} (hp : Bd n p) (hq : Bd k q) (h : n + k ≤ m) : Bd m (p * q) := by
  rw [← rat_mul]
  have hz : (p.den : Int) * q.den ≠ 0 := by
    rw [← Int.natCast_mul]
    have := Nat.mul_pos p.den_pos q.den_pos
    omega
  have k1 := natAbs_mul_lt hp.1 hq.1
  have k3 := natAbs_mul_lt (show ((p.den : Int)).natAbs < 2 ^ n from hp.2) (show ((q.den : Int)).natAbs < 2 ^ k from hq.2)
  exact bd_divInt hz (natAbs_mono k1 h) (natAbs_mono k3 h)
theorem den_ne (p q : Rat) : (p.den : Int) * q.den ≠ 0 := by
  rw [← Int.natCast_mul]
  have := Nat.mul_pos p.den_pos q.den_pos
  omega
theorem eRat_int (n : Int) : eRat (n : Rat) = .tuple [.int n, .int 1] := rfl
mutual
theorem eqv_self : ∀ d : PyData, d.canLay0 = true → PyData.eqv d d = true
  | .none, _ => by unfold PyData.eqv; rfl
  | .bool b, _ => by unfold PyData.eqv; simp
  | .int i, _ => by unfold PyData.eqv; simp
  | .str x, _ => by unfold PyData.eqv; simp
  | .list xs, h => by unfold PyData.eqv; exact eqvAll_self xs (by unfold PyData.canLay0 at h; exact h)
  | .tuple xs, h => by unfold PyData.eqv; exact eqvAll_self xs (by unfold PyData.canLay0 at h; exact h)
  | .dict _, h => by unfold PyData.canLay0 at h; cases h
theorem eqvAll_self : ∀ ds : List PyData, PyData.canLayAll0 ds = true → PyData.eqvAll ds ds = true
  | [], _ => by unfold PyData.eqvAll; rfl
  | d :: ds, h => by
    unfold PyData.canLayAll0 at h
    rw [Bool.and_eq_true] at h
    unfold PyData.eqvAll
    rw [eqv_self d h.1, eqvAll_self ds h.2]; rfl
end
theorem shaped_lay {d : PyData} (h : SeqAt.shaped d = true) : d.canLay0 = true := SeqAt.canLay_of_shaped h
theorem eqv_refl' {d : PyData} (h : SeqAt.shaped d = true) : PyData.eqv d d = true := eqv_self d (shaped_lay h)
theorem shaped_rat (q : Rat) : SeqAt.shaped (eRat q) = true := rfl
theorem eqv_rat (p q : Rat) : PyData.eqv (eRat p) (eRat q) = decide (p = q) := by
  have e : PyData.eqv (eRat p) (eRat q) = ((p.num == q.num) && (((p.den : Int) == q.den) && true)) := by
    show PyData.eqv _ _ = _
    unfold eRat
    rw [PyData.eqv, PyData.eqvAll, PyData.eqvAll, PyData.eqvAll, PyData.eqv, PyData.eqv]
  rw [e]
  by_cases h : p = q
  · subst h; simp
  · rw [decide_eq_false h]
    have : ¬ (p.num = q.num ∧ p.den = q.den) := fun ⟨a, b⟩ => h (Rat.ext a b)
    by_cases h1 : p.num = q.num
    · have h2 : ¬ p.den = q.den := fun z => this ⟨h1, z⟩
      simp [h1]; omega
    · simp [h1]
end Ek
namespace Ek
open PySem PySem.Spec PyProof.Rows L2
theorem mulS {i j : Int} (h : i.natAbs < 18446744073709551616) (h2 : j.natAbs < 18446744073709551616) : CMulW i j := mulW (n := 64) (m := 64) h h2 (by decide)
/-- a cell of the script, 0 beyond -/
def cellZ (ns : List Int) (k : Int) : Int := ns.getD k.toNat 0
theorem atI_getD {α : Type} {xs : List α} {i : Int} {d : α} (h0 : 0 ≤ i) (h : i < xs.length) : atI xs i = some (xs.getD i.toNat d) := by
  have hl : i.toNat < xs.length := by omega
  have e : (i.toNat : Int) = i := by omega
  rw [← e]
  rw [atI_nat (j := i.toNat) (v := xs.getD i.toNat d)]
  · rw [Int.toNat_natCast]
  · rw [List.getD_eq_getElem?_getD, List.getElem?_eq_getElem hl] <;> rfl
theorem divInt_cross {a b : Int} (hb : b ≠ 0) : (Rat.divInt a b).num * b = a * (Rat.divInt a b).den := by
  have h := Rat.num_divInt_den (Rat.divInt a b)
  have hd : ((Rat.divInt a b).den : Int) ≠ 0 := by have := (Rat.divInt a b).den_pos; omega
  rw [Rat.divInt_eq_divInt_iff hd hb] at h
  exact h
theorem rat_gcd (q : Rat) : Int.gcd q.num (q.den : Int) = 1 := q.reduced
theorem rgC_of {m c : Int} (hc : 0 < c) (hc2 : c < 1000000) (h1 : 0 ≤ m) (h2 : m < 1000000) : RgC 0 m c (Builtin.Range.rangeSize 0 m c).toNat := by
  have k0 : 0 ≤ (m - 0 - 1) / c ∨ m ≤ 0 := by
    by_cases h : m ≤ 0
    · exact .inr h
    · exact .inl (Int.ediv_nonneg (by omega) (by omega))
  have k1 : (m - 0 - 1) / c ≤ m ∨ m ≤ 0 := by
    by_cases h : m ≤ 0
    · exact .inr h
    · exact .inl (Int.le_trans (Int.ediv_le_self _ (by omega)) (by omega))
  refine ⟨by omega, by omega, ?_, ?_⟩
  · unfold Builtin.Range.small
    simp only [Builtin.Range.rangeSize, Builtin.Range.rangeFitsLong, Bool.and_eq_true, Bool.or_eq_true, decide_eq_true_eq, beq_iff_eq, if_pos hc]
    generalize (m - 0 - 1) / c = d at k0 k1 ⊢
    refine ⟨?_, ?_⟩ <;> (try split) <;> (try omega) <;> (repeat' constructor) <;> omega
  · unfold Builtin.Range.rangeSize
    rw [if_pos (by omega)]
    split <;> omega
end Ek
namespace Ek
open PySem PySem.Spec PyProof.Rows L2
section
variable {K : PySem.W.Frag} {M : GM}
theorem is_ii {i : Int} : RCE K (rIsi K) [.dt (.int i), .ty "int"] M (.dt (.bool true)) M := l_isi (show kitB "int" "int" = some true by decide +kernel)
theorem is_ib {i : Int} : RCE K (rIsi K) [.dt (.int i), .ty "bool"] M (.dt (.bool false)) M := l_isi (show kitB "int" "bool" = some false by decide +kernel)
theorem is_tt {ds : List PyData} : RCE K (rIsi K) [.dt (.tuple ds), .ty "tuple"] M (.dt (.bool true)) M := l_isi (show kitB "tuple" "tuple" = some true by decide +kernel)
theorem is_ll {ds : List PyData} : RCE K (rIsi K) [.dt (.list ds), .ty "list"] M (.dt (.bool true)) M := l_isi (show kitB "list" "list" = some true by decide +kernel)
theorem is_ss {x : Str} : RCE K (rIsi K) [.dt (.str x), .ty "str"] M (.dt (.bool true)) M := l_isi (show kitB "str" "str" = some true by decide +kernel)
theorem is_bi {x : Bool} : RCE K (rIsi K) [.dt (.bool x), .ty "int"] M (.dt (.bool true)) M := l_isi (show kitB "bool" "int" = some true by decide +kernel)
theorem is_bb {x : Bool} : RCE K (rIsi K) [.dt (.bool x), .ty "bool"] M (.dt (.bool true)) M := l_isi (show kitB "bool" "bool" = some true by decide +kernel)
theorem is_ti {ds : List PyData} : RCE K (rIsi K) [.dt (.tuple ds), .ty "int"] M (.dt (.bool false)) M := l_isi (show kitB "tuple" "int" = some false by decide +kernel)
theorem w_1060 : R2E K (rI CPow fun i j => .int (i ^ j.toNat)) (.dt (.int 10)) (.dt (.int 60)) M (.dt (.int 1000000000000000000000000000000000000000000000000000000000000)) M := by
  have e : (10 : Int) ^ (60 : Int).toNat = 1000000000000000000000000000000000000000000000000000000000000 := by decide +kernel
  have h := w_int (K := K) (M := M) (i := 10) (j := 60) ⟨by decide, by decide, by decide⟩
  rw [e] at h
  exact h
end
theorem lenB {A : Type} {xs : List A} (h : Nat.ble xs.length 1000 = true) : xs.length ≤ sizeLine := by
  have := Nat.le_of_ble_eq_true h
  rw [sizeLine_eq]; omega
end Ek
namespace Ek
open PySem PySem.Spec PyProof.Rows L2
theorem tw_lit {K : PySem.W.Frag} {M : GM} : R2E K rTimes (.dt (.int 2)) (.dt (.int 1000000000000000000000000000000000000000000000000000000000000)) M (.dt (.int 2000000000000000000000000000000000000000000000000000000000000)) M := by
  have e : (2 : Int) * 1000000000000000000000000000000000000000000000000000000000000 = 2000000000000000000000000000000000000000000000000000000000000 := by decide +kernel
  rw [← e]
  exact t_int (by unfold CMulW; decide +kernel)
end Ek

set_option Elab.async false
set_option linter.all false
set_option maxRecDepth 100000
set_option maxHeartbeats 4000000
namespace Ek
open PySem PySem.Spec PyProof.Rows L2
/-! ### short words for the readings -/
local macro_rules | `(tactic| walk_at "eks") => `(tactic| first | assumption | omega | exact rfl | decide)
local macro_rules | `(tactic| walk_at "ekq") => `(tactic| first | assumption | (refine mulS ?_ ?_ <;> omega))
local macro_rules | `(tactic| walk_at "ekx") => `(tactic| first | exact rfl | walk_at "eks")
local macro_rules | `(tactic| walk_at "ekm") => `(tactic| first | exact .head _ | exact .tail _ (.head _) | exact .tail _ (.tail _ (.head _)) | exact .tail _ (.tail _ (.tail _ (.head _))))
local macro_rules | `(tactic| walk_at "ekr") => `(tactic| first
  | exact p_int | exact s_int | exact eq_int' | exact ne_int' | exact lt_int' | exact gt_int' | exact le_int' | exact ge_int' | exact is_none' | exact isnt_none'
  | (refine' x_tup ?e1; (case e1 => walk_at "ekx")) | (refine' x_list ?e1; (case e1 => walk_at "ekx")) | (refine' x_scr ?e1; (case e1 => walk_at "ekx")) | (refine' x_own ?e1 ?e2; (case e1 => walk_at "ekm"); (case e2 => walk_at "ekx")) | (refine' x_ownT ?e1 ?e2; (case e1 => walk_at "ekm"); (case e2 => walk_at "ekx"))
  | exact tw_lit | (refine t_int ?_; walk_at "ekq") | (refine m_int ?_; first | assumption | omega) | (refine d_pos ⟨?_, ?_⟩ <;> first | assumption | omega | decide) | (refine d_any ?_; assumption) | exact w_1060 | (refine w_int ?_; exact ⟨by decide, by decide, by decide⟩)
  | (refine p_list ?_; walk_at "eks") | (refine t_one ?_ ?_ ?_ <;> walk_at "eks") | (refine p_str ?_; walk_at "eks") | (refine eq_str' ?_ ?_ <;> walk_at "eks") | (refine ne_str' ?_ ?_ <;> walk_at "eks")
  | (refine r2_eqD ?_ ?_ <;> walk_at "eks") | (refine r2_neD ?_ ?_ <;> walk_at "eks"))
local macro_rules | `(tactic| walk_at "ekl") => `(tactic| first
  | exact l_list | exact l_tup | exact l_scr | (refine' l_own ?e1; (case e1 => walk_at "ekm")) | (refine l_str ?_; walk_at "eks") | exact l_abs | exact l_max2 | exact l_min2 | exact l_intB | exact l_sum | exact is_ii | exact is_ib | exact is_tt | exact is_ll | exact is_ss | exact is_bi | exact is_bb | exact is_ti)
local macro_rules | `(tactic| walk_at "eka") => `(tactic| first | exact ea_nil | (refine' ea_cons ?e1 ?e2; (case e1 => walk_at "ek"); (case e2 => walk_at "eka")))
local macro_rules | `(tactic| walk_at "ekf") => `(tactic| first
  | (refine' ef_lst ?e1 ?e2; (case e1 => walk_at "eka"); (case e2 => exact lenB rfl))
  | (refine' ef_cut ?e1 ?e2 ?e3; (case e1 => walk_at "ek"); (case e2 => walk_at "eko"); (case e3 => walk_at "eko"))
  | (refine' ef_cutS ?e1 ?e2 ?e3; (case e1 => walk_at "ek"); (case e2 => walk_at "eko"); (case e3 => walk_at "eko"))
  | (refine' ef_op ?e1 ?e2 ?e3; (case e1 => walk_at "ek"); (case e2 => walk_at "ek"); (case e3 => first | (refine p_listF ?_; walk_at "eks") | (refine t_oneF ?_ ?_ ?_ <;> walk_at "eks")))
  | (refine' ef_cb ?e1 ?e2; (case e1 => walk_at "eka"); (case e2 => exact li_list))
  | walk_at "ekcF")
local macro_rules | `(tactic| walk_at "eko") => `(tactic| first | exact eo_none | (refine' eo_int ?e1; (case e1 => walk_at "ek")))
local macro_rules | `(tactic| walk_at "ek") => `(tactic| first
  | exact ee_var rfl | exact ee_int | exact ee_bl | exact ee_str | exact ee_non | exact ee_ty
  | (refine' ee_op ?e1 ?e2 ?e3; (case e1 => walk_at "ek"); (case e2 => walk_at "ek"); (case e3 => walk_at "ekr"))
  | (refine' ee_neg ?e1; (case e1 => walk_at "ek"))
  | (refine' ee_cb ?e1 ?e2; (case e1 => walk_at "eka"); (case e2 => walk_at "ekl"))
  | (refine' ee_tupU ?e1 ?e2 ?e3; (case e1 => walk_at "eka"); (case e2 => exact rfl); (case e3 => walk_at "ekz"))
  | walk_at "ekc"
  | (refine' ee_andV ?e1 ?e2; (case e1 => walk_at "ek"); (case e2 => (intro _; walk_at "ek")))
  | (refine' ee_orV ?e1 ?e2; (case e1 => walk_at "ek"); (case e2 => (intro _; walk_at "ek")))
  | (refine' ee_notV ?e1; (case e1 => walk_at "ek"))
  | (refine' ee_fz ?e1; (case e1 => walk_at "ekf"))
  | (refine' ee_fzU ?e1 ?e2; (case e1 => walk_at "ekf"); (case e2 => exact rfl)))
local macro_rules | `(tactic| walk_at "ekz") => `(tactic| first | exact lenB rfl)
local macro_rules | `(tactic| walk_at "ekt") => `(tactic| first
  | (refine' et_not ?e1; (case e1 => walk_at "ekt"))
  | (refine' et_and ?e1 ?e2; (case e1 => walk_at "ekt"); (case e2 => (intro _; walk_at "ekt")))
  | (refine' et_or ?e1 ?e2; (case e1 => walk_at "ekt"); (case e2 => (intro _; walk_at "ekt")))
  | (refine' et_test ?e1; (case e1 => walk_at "ek")) | (refine' et_B ?e1; (case e1 => walk_at "ek")))
def topS (i : Nat) : Stmt := PySem.Challenge.pw_evenkin_k11_fractions.main.body.getD i (.Pass ⟨0, 0, 0, 0⟩)
abbrev s_divisor_of : Stmt := topS 1
theorem sc_divisor_of : FnScope ["one", "other", "rest"] ["one", "other"] (defScope s_divisor_of) := ⟨rfl, rfl, rfl, by decide +kernel, rfl, by decide +kernel, by decide +kernel⟩
abbrev s_fraction_of : Stmt := topS 2
theorem sc_fraction_of : FnScope ["top", "bottom", "by"] ["top", "bottom"] (defScope s_fraction_of) := ⟨rfl, rfl, rfl, by decide +kernel, rfl, by decide +kernel, by decide +kernel⟩
abbrev s_sum_of_two : Stmt := topS 3
theorem sc_sum_of_two : FnScope ["f", "g"] ["f", "g"] (defScope s_sum_of_two) := ⟨rfl, rfl, rfl, by decide +kernel, rfl, by decide +kernel, by decide +kernel⟩
abbrev s_product_of : Stmt := topS 4
theorem sc_product_of : FnScope ["f", "g"] ["f", "g"] (defScope s_product_of) := ⟨rfl, rfl, rfl, by decide +kernel, rfl, by decide +kernel, by decide +kernel⟩
abbrev s__law_cell_at : Stmt := topS 6
theorem sc__law_cell_at : FnScope ["_law_script", "_law_k"] ["_law_script", "_law_k"] (defScope s__law_cell_at) := ⟨rfl, rfl, rfl, by decide +kernel, rfl, by decide +kernel, by decide +kernel⟩
abbrev s__law_whole : Stmt := topS 7
theorem sc__law_whole : FnScope ["_law_found"] ["_law_found"] (defScope s__law_whole) := ⟨rfl, rfl, rfl, by decide +kernel, rfl, by decide +kernel, by decide +kernel⟩
abbrev s__law_divisor : Stmt := topS 8
theorem sc__law_divisor : FnScope ["_law_one", "_law_other", "_law_left", "_law_right"] ["_law_one", "_law_other"] (defScope s__law_divisor) := ⟨rfl, rfl, rfl, by decide +kernel, rfl, by decide +kernel, by decide +kernel⟩
abbrev s__law_is_fraction : Stmt := topS 9
theorem sc__law_is_fraction : FnScope ["_law_found"] ["_law_found"] (defScope s__law_is_fraction) := ⟨rfl, rfl, rfl, by decide +kernel, rfl, by decide +kernel, by decide +kernel⟩
abbrev s__law_lowest : Stmt := topS 10
theorem sc__law_lowest : FnScope ["_law_top", "_law_bottom", "_law_by"] ["_law_top", "_law_bottom"] (defScope s__law_lowest) := ⟨rfl, rfl, rfl, by decide +kernel, rfl, by decide +kernel, by decide +kernel⟩
abbrev s__law_plus : Stmt := topS 11
theorem sc__law_plus : FnScope ["_law_f", "_law_g"] ["_law_f", "_law_g"] (defScope s__law_plus) := ⟨rfl, rfl, rfl, by decide +kernel, rfl, by decide +kernel, by decide +kernel⟩
abbrev s__law_times : Stmt := topS 12
theorem sc__law_times : FnScope ["_law_f", "_law_g"] ["_law_f", "_law_g"] (defScope s__law_times) := ⟨rfl, rfl, rfl, by decide +kernel, rfl, by decide +kernel, by decide +kernel⟩
abbrev s__law_two : Stmt := topS 13
theorem sc__law_two : FnScope ["_law_one", "_law_other", "_law_way"] ["_law_one", "_law_other"] (defScope s__law_two) := ⟨rfl, rfl, rfl, by decide +kernel, rfl, by decide +kernel, by decide +kernel⟩
abbrev s__law_made : Stmt := topS 14
theorem sc__law_made : FnScope ["_law_top", "_law_bottom", "_law_found"] ["_law_top", "_law_bottom"] (defScope s__law_made) := ⟨rfl, rfl, rfl, by decide +kernel, rfl, by decide +kernel, by decide +kernel⟩
abbrev s__law_holds : Stmt := topS 15
theorem sc__law_holds : FnScope ["_law_f", "_law_g", "_law_both", "_law_found"] ["_law_f", "_law_g"] (defScope s__law_holds) := ⟨rfl, rfl, rfl, by decide +kernel, rfl, by decide +kernel, by decide +kernel⟩
abbrev s_law : Stmt := topS 16
theorem sc_law : FnScope ["_law_script", "_law_ahead", "_law_k", "_law_top", "_law_bottom", "_law_one", "_law_other"] ["_law_script"] (defScope s_law) := ⟨rfl, rfl, rfl, by decide +kernel, rfl, by decide +kernel, by decide +kernel⟩
/-- what the top has left -/
structure Txt (K : PySem.W.Frag) (mg : Str → Option Value) where
  a_divisor_of : Addr
  d_divisor_of : FuncData
  F_divisor_of : Fun K "divisor_of" "divisor_of" s_divisor_of a_divisor_of d_divisor_of
  g_divisor_of : mg "divisor_of" = some (.ref a_divisor_of)
  b_divisor_of : Binds K d_divisor_of ["one", "other"] []
  a_fraction_of : Addr
  d_fraction_of : FuncData
  F_fraction_of : Fun K "fraction_of" "fraction_of" s_fraction_of a_fraction_of d_fraction_of
  g_fraction_of : mg "fraction_of" = some (.ref a_fraction_of)
  b_fraction_of : Binds K d_fraction_of ["top", "bottom"] []
  a_sum_of_two : Addr
  d_sum_of_two : FuncData
  F_sum_of_two : Fun K "sum_of_two" "sum_of_two" s_sum_of_two a_sum_of_two d_sum_of_two
  g_sum_of_two : mg "sum_of_two" = some (.ref a_sum_of_two)
  b_sum_of_two : Binds K d_sum_of_two ["f", "g"] []
  a_product_of : Addr
  d_product_of : FuncData
  F_product_of : Fun K "product_of" "product_of" s_product_of a_product_of d_product_of
  g_product_of : mg "product_of" = some (.ref a_product_of)
  b_product_of : Binds K d_product_of ["f", "g"] []
  a__law_cell_at : Addr
  d__law_cell_at : FuncData
  F__law_cell_at : Fun K "_law_cell_at" "_law_cell_at" s__law_cell_at a__law_cell_at d__law_cell_at
  g__law_cell_at : mg "_law_cell_at" = some (.ref a__law_cell_at)
  b__law_cell_at : Binds K d__law_cell_at ["_law_script", "_law_k"] []
  a__law_whole : Addr
  d__law_whole : FuncData
  F__law_whole : Fun K "_law_whole" "_law_whole" s__law_whole a__law_whole d__law_whole
  g__law_whole : mg "_law_whole" = some (.ref a__law_whole)
  b__law_whole : Binds K d__law_whole ["_law_found"] []
  a__law_divisor : Addr
  d__law_divisor : FuncData
  F__law_divisor : Fun K "_law_divisor" "_law_divisor" s__law_divisor a__law_divisor d__law_divisor
  g__law_divisor : mg "_law_divisor" = some (.ref a__law_divisor)
  b__law_divisor : Binds K d__law_divisor ["_law_one", "_law_other"] []
  a__law_is_fraction : Addr
  d__law_is_fraction : FuncData
  F__law_is_fraction : Fun K "_law_is_fraction" "_law_is_fraction" s__law_is_fraction a__law_is_fraction d__law_is_fraction
  g__law_is_fraction : mg "_law_is_fraction" = some (.ref a__law_is_fraction)
  b__law_is_fraction : Binds K d__law_is_fraction ["_law_found"] []
  a__law_lowest : Addr
  d__law_lowest : FuncData
  F__law_lowest : Fun K "_law_lowest" "_law_lowest" s__law_lowest a__law_lowest d__law_lowest
  g__law_lowest : mg "_law_lowest" = some (.ref a__law_lowest)
  b__law_lowest : Binds K d__law_lowest ["_law_top", "_law_bottom"] []
  a__law_plus : Addr
  d__law_plus : FuncData
  F__law_plus : Fun K "_law_plus" "_law_plus" s__law_plus a__law_plus d__law_plus
  g__law_plus : mg "_law_plus" = some (.ref a__law_plus)
  b__law_plus : Binds K d__law_plus ["_law_f", "_law_g"] []
  a__law_times : Addr
  d__law_times : FuncData
  F__law_times : Fun K "_law_times" "_law_times" s__law_times a__law_times d__law_times
  g__law_times : mg "_law_times" = some (.ref a__law_times)
  b__law_times : Binds K d__law_times ["_law_f", "_law_g"] []
  a__law_two : Addr
  d__law_two : FuncData
  F__law_two : Fun K "_law_two" "_law_two" s__law_two a__law_two d__law_two
  g__law_two : mg "_law_two" = some (.ref a__law_two)
  b__law_two : Binds K d__law_two ["_law_one", "_law_other"] []
  a__law_made : Addr
  d__law_made : FuncData
  F__law_made : Fun K "_law_made" "_law_made" s__law_made a__law_made d__law_made
  g__law_made : mg "_law_made" = some (.ref a__law_made)
  b__law_made : Binds K d__law_made ["_law_top", "_law_bottom"] []
  a__law_holds : Addr
  d__law_holds : FuncData
  F__law_holds : Fun K "_law_holds" "_law_holds" s__law_holds a__law_holds d__law_holds
  g__law_holds : mg "_law_holds" = some (.ref a__law_holds)
  b__law_holds : Binds K d__law_holds ["_law_f", "_law_g"] []
  a_law : Addr
  d_law : FuncData
  F_law : Fun K "law" "law" s_law a_law d_law
  g_law : mg "law" = some (.ref a_law)
  b_law : Binds K d_law ["_law_script"] []
  n_abs : mg "abs" = none
  n_bool : mg "bool" = none
  n_int : mg "int" = none
  n_isinstance : mg "isinstance" = none
  n_len : mg "len" = none
  n_max : mg "max" = none
  n_min : mg "min" = none
  n_range : mg "range" = none
  n_tuple : mg "tuple" = none
section
variable {P : Program} {w : World} {K : PySem.W.Frag} {mg : Str → Option Value} {base : Heap}
/-! ### fractions -/
theorem ok_divisor_of (T : Txt K mg) : FnOk P w K mg base CX0 1 T.a_divisor_of T.d_divisor_of ["one", "other"] (sp0 K (fun p : Int × Int => [.dt (.int p.1), .dt (.int p.2)]) (fun _ => True) (fun p => .dt (.int (Int.gcd p.1 p.2)))) :=
  fn0 T.F_divisor_of sc_divisor_of (fun _ => rfl) fun cdv R outer s H E hr => ⟨_, (pss_cons (ps_set (i := 0) sc_divisor_of.nd rfl (Or.inl rfl) (pe_callB o_abs (by rfl) T.n_abs (by decide +kernel) (pa_cons (pv 0) pa_nil)))
  (pss_cons (ps_set (i := 1) sc_divisor_of.nd rfl (Or.inl rfl) (pe_callB o_abs (by rfl) T.n_abs (by decide +kernel) (pa_cons (pv 1) pa_nil)))
  (pss_cons (ps_while PassesOwn.never (pt_cmpR op_gt (pv 1) pe_int (nomark _)) (pss_cons (ps_set (i := 2) sc_divisor_of.nd rfl (Or.inl rfl) (pe_op op_mod (pv 0) (pv 1)))
  (pss_cons (ps_set (i := 0) sc_divisor_of.nd rfl (Or.inl rfl) (pv 1))
  (pss_one (ps_set (i := 1) sc_divisor_of.nd rfl (Or.inl rfl) (pv 2))))))
  (pss_one (ps_ret (pv 0)))))), fun (a, b) _ => by
    refine bs_asg (by walk_at "ek") ?_
    refine bs_asg (by walk_at "ek") ?_
    refine blk_mid (Mid := fun E' M' => ∃ y r, E' = [some (.dt (.int (Int.gcd a b))), y, r] ∧ M' = []) ?_ ?_
    · refine blk_while (fun m E' M' => ∃ (x : Nat) (r : Option GV), E' = [some (.dt (.int (x : Int))), some (.dt (.int (m : Int))), r] ∧ M' = [] ∧ Nat.gcd x m = Int.gcd a b) b.natAbs ⟨a.natAbs, none, rfl, rfl, rfl⟩ ?_
      rintro m E1 N1 ⟨x, r, rfl, rfl, hg⟩
      refine ⟨_, _, by walk_at "ekt", fun hb => ?_, fun hb => ?_⟩
      · have hm : 0 < m := by have := of_decide_eq_true hb; omega
        have hmi : (0 : Int) < (m : Int) := by omega
        refine bs_asg (by walk_at "ek") ?_
        refine bs_asg (by walk_at "ek") ?_
        refine blk_asg (by walk_at "ek") ⟨x % m, Nat.mod_lt _ hm, m, _, rfl, rfl, ?_⟩
        rw [← hg]; exact gcd_step x m hm
      · have hm : m = 0 := by have := of_decide_eq_false hb; omega
        subst hm
        rw [Nat.gcd_zero_right] at hg
        subst hg
        exact ⟨_, _, rfl, rfl⟩
    · rintro E1 N1 ⟨y, r, rfl, rfl⟩
      exact blk_ret (by walk_at "ek") (.inl rfl)⟩
theorem use_divisor_of {E : GE} {M M1 : GM} {tr : TA} {X : XK} {a b : Int} (h : EA K tr E M [.dt (.int a), .dt (.int b)] M1) : EE K (tCall (sp0 K (fun p : Int × Int => [.dt (.int p.1), .dt (.int p.2)]) (fun _ => True) (fun p => .dt (.int (Int.gcd p.1 p.2)))) [] X tr) E M (.dt (.int (Int.gcd a b))) M1 := ee_call0 (a, b) h trivial
local macro_rules | `(tactic| walk_at "ekc") => `(tactic| (refine' use_divisor_of ?e1; (case e1 => walk_at "eka")))
abbrev spFraction (K : PySem.W.Frag) : Sp := sp0 K (fun p : Int × Int => [.dt (.int p.1), .dt (.int p.2)]) (fun p => p.2 ≠ 0 ∧ p.2.natAbs < 2 ^ 8999) (fun p => .dt (eRat (Rat.divInt p.1 p.2)))
theorem by_ok {a b : Int} (hb : b ≠ 0) (hz : b.natAbs < 2 ^ 8999) : CDivX a (byOf a b) := by
  refine ⟨byOf_ne hb, ?_⟩
  rw [byOf_abs]
  exact log2_bd (Nat.lt_of_le_of_lt (gcd_le_right hb) hz) (by decide) (by decide)
theorem by_ok' {a b c : Int} (hb : b ≠ 0) (hz : b.natAbs < 2 ^ 8999) : CDivX c (byOf a b) := by_ok (a := a) hb hz
theorem ok_fraction_of (T : Txt K mg) : FnOk P w K mg base CX0 2 T.a_fraction_of T.d_fraction_of ["top", "bottom"] (spFraction K) :=
  fn0 T.F_fraction_of sc_fraction_of (fun _ => rfl) fun cdv R outer s H E hr => ⟨_, (pss_cons (ps_set (i := 2) sc_fraction_of.nd rfl (Or.inl rfl) (pe_call (ok_divisor_of T) (hr.mono (by decide)) (by rfl) T.g_divisor_of T.F_divisor_of.kp T.b_divisor_of .nil pass0 (pa_cons (pv 0) (pa_cons (pv 1) pa_nil))))
  (pss_cons (ps_if (pt_cmpR op_lt (pv 1) pe_int (nomark _)) (pss_one (ps_set (i := 2) sc_fraction_of.nd rfl (Or.inl rfl) (pe_un un_neg (pv 2)))) pss_nil)
  (pss_one (ps_ret (pe_tup (pa_cons (pe_op o_fdiv (pv 0) (pv 2)) (pa_cons (pe_op o_fdiv (pv 1) (pv 2)) pa_nil))))))), fun (a, b) ⟨hb, hz⟩ => by
    have hb : b ≠ 0 := hb
    have hz : b.natAbs < 2 ^ 8999 := hz
    refine bs_asg (by walk_at "ek") ?_
    refine blk_mid (Mid := fun E' M' => E' = [some (.dt (.int a)), some (.dt (.int b)), some (.dt (.int (byOf a b)))] ∧ M' = []) ?_ ?_
    · refine blk_when (by walk_at "ekt") (fun h => blk_asg (by walk_at "ek") ⟨?_, rfl⟩) (fun h => ⟨?_, rfl⟩)
      · have h2 : b < 0 := of_decide_eq_true h
        unfold byOf; rw [if_pos h2]; rfl
      · have h2 : ¬ b < 0 := of_decide_eq_false h
        unfold byOf; rw [if_neg h2]; rfl
    · rintro E1 N1 ⟨rfl, rfl⟩
      have e : PyData.tuple [.int (a.fdiv (byOf a b)), .int (b.fdiv (byOf a b))] = eRat (Rat.divInt a b) := by rw [fr_num hb, fr_den hb]
      refine blk_ret (g := .dt (eRat (Rat.divInt a b))) (M1 := []) ?_ (.inl rfl)
      rw [← e]
      exact ee_tup2 (ee_op (ee_var rfl) (ee_var rfl) (d_any (by_ok' hb hz))) (ee_op (ee_var rfl) (ee_var rfl) (d_any (by_ok' hb hz)))⟩
theorem use_fraction_of {E : GE} {M M1 : GM} {tr : TA} {X : XK} {a b : Int} (h : EA K tr E M [.dt (.int a), .dt (.int b)] M1) (h1 : b ≠ 0) (h2 : b.natAbs < 2 ^ 8999) : EE K (tCall (spFraction K) [] X tr) E M (.dt (eRat (Rat.divInt a b))) M1 := ee_call0 (a, b) h ⟨h1, h2⟩
abbrev spRat2 (K : PySem.W.Frag) (f : Rat → Rat → Rat) : Sp := sp0 K (fun p : Rat × Rat => [.dt (eRat p.1), .dt (eRat p.2)]) (fun p => Bd 4400 p.1 ∧ Bd 4400 p.2) (fun p => .dt (eRat (f p.1 p.2)))
theorem den_one {p : Rat} (h : ((p.den : Int)) = 1) : p.den = 1 := by omega
theorem cW {i j : Int} {n m : Nat} (hi : i.natAbs < 2 ^ n) (hj : j.natAbs < 2 ^ m) (h : n + m ≤ 900000 := by decide) : CMulW i j := mulW hi hj h
theorem dd_bd {p q : Rat} (hp : Bd 4400 p) (hq : Bd 4400 q) : ((p.den : Int) * q.den).natAbs < 2 ^ 8999 := natAbs_mono (natAbs_mul_lt (show ((p.den : Int)).natAbs < 2 ^ 4400 from hp.2) (show ((q.den : Int)).natAbs < 2 ^ 4400 from hq.2)) (by decide)
theorem ok_sum_of_two (T : Txt K mg) : FnOk P w K mg base CX0 3 T.a_sum_of_two T.d_sum_of_two ["f", "g"] (spRat2 K fun p q => p + q) :=
  fn0 T.F_sum_of_two sc_sum_of_two (fun _ => rfl) fun cdv R outer s H E hr => ⟨_, (pss_cons (ps_if (PW.pt (pw_and (pt_cmpR (op_eqD (hu64 hr)) (pe_ix ix_seq (pv 0) pe_int (fun _ _ => rfl)) pe_int (nomark _)) (pw_and1 (pt_cmpR (op_eqD (hu64 hr)) (pe_ix ix_seq (pv 1) pe_int (fun _ _ => rfl)) pe_int (nomark _))))) (pss_one (ps_ret (pe_tup (pa_cons (pe_op o_plus (pe_ix ix_seq (pv 0) pe_int (fun _ _ => rfl)) (pe_ix ix_seq (pv 1) pe_int (fun _ _ => rfl))) (pa_cons pe_int pa_nil))))) pss_nil)
  (pss_one (ps_ret (pe_call (ok_fraction_of T) (hr.mono (by decide)) (by rfl) T.g_fraction_of T.F_fraction_of.kp T.b_fraction_of .nil pass0 (pa_cons (pe_op o_plus (pe_op o_times (pe_ix ix_seq (pv 0) pe_int (fun _ _ => rfl)) (pe_ix ix_seq (pv 1) pe_int (fun _ _ => rfl))) (pe_op o_times (pe_ix ix_seq (pv 1) pe_int (fun _ _ => rfl)) (pe_ix ix_seq (pv 0) pe_int (fun _ _ => rfl)))) (pa_cons (pe_op o_times (pe_ix ix_seq (pv 0) pe_int (fun _ _ => rfl)) (pe_ix ix_seq (pv 1) pe_int (fun _ _ => rfl))) pa_nil)))))), fun (p, q) ⟨hp, hq⟩ => by
    have hp : Bd 4400 p := hp
    have hq : Bd 4400 q := hq
    refine bs_when (by walk_at "ekt") (fun h => ?_) (fun h => ?_)
    · rw [Bool.and_eq_true] at h
      have h1 := den_one (of_decide_eq_true h.1)
      have h2 := den_one (of_decide_eq_true h.2)
      refine blk_ret (g := .dt (eRat (p + q))) (M1 := []) ?_ (.inl rfl)
      rw [sum_den1 h1 h2]
      walk_at "ek"
    · refine blk_ret (g := .dt (eRat (p + q))) (M1 := []) ?_ (.inl rfl)
      rw [← rat_sum]
      refine use_fraction_of (ea_p2 ?_ ?_) (den_ne p q) (dd_bd hp hq)
      · refine ee_op (ee_op (ee_op (ee_var rfl) ee_int (x_tup rfl)) (ee_op (ee_var rfl) ee_int (x_tup rfl)) (t_int (cW hp.1 hq.2))) (ee_op (ee_op (ee_var rfl) ee_int (x_tup rfl)) (ee_op (ee_var rfl) ee_int (x_tup rfl)) (t_int (cW hq.1 hp.2))) p_int
      · exact ee_op (ee_op (ee_var rfl) ee_int (x_tup rfl)) (ee_op (ee_var rfl) ee_int (x_tup rfl)) (t_int (cW hp.2 hq.2))⟩
theorem ok_product_of (T : Txt K mg) : FnOk P w K mg base CX0 3 T.a_product_of T.d_product_of ["f", "g"] (spRat2 K fun p q => p * q) :=
  fn0 T.F_product_of sc_product_of (fun _ => rfl) fun cdv R outer s H E hr => ⟨_, (pss_cons (ps_if (PW.pt (pw_and (pt_cmpR (op_eqD (hu64 hr)) (pe_ix ix_seq (pv 0) pe_int (fun _ _ => rfl)) pe_int (nomark _)) (pw_and1 (pt_cmpR (op_eqD (hu64 hr)) (pe_ix ix_seq (pv 1) pe_int (fun _ _ => rfl)) pe_int (nomark _))))) (pss_one (ps_ret (pe_tup (pa_cons (pe_op o_times (pe_ix ix_seq (pv 0) pe_int (fun _ _ => rfl)) (pe_ix ix_seq (pv 1) pe_int (fun _ _ => rfl))) (pa_cons pe_int pa_nil))))) pss_nil)
  (pss_one (ps_ret (pe_call (ok_fraction_of T) (hr.mono (by decide)) (by rfl) T.g_fraction_of T.F_fraction_of.kp T.b_fraction_of .nil pass0 (pa_cons (pe_op o_times (pe_ix ix_seq (pv 0) pe_int (fun _ _ => rfl)) (pe_ix ix_seq (pv 1) pe_int (fun _ _ => rfl))) (pa_cons (pe_op o_times (pe_ix ix_seq (pv 0) pe_int (fun _ _ => rfl)) (pe_ix ix_seq (pv 1) pe_int (fun _ _ => rfl))) pa_nil)))))), fun (p, q) ⟨hp, hq⟩ => by
    have hp : Bd 4400 p := hp
    have hq : Bd 4400 q := hq
    refine bs_when (by walk_at "ekt") (fun h => ?_) (fun h => ?_)
    · rw [Bool.and_eq_true] at h
      have h1 := den_one (of_decide_eq_true h.1)
      have h2 := den_one (of_decide_eq_true h.2)
      refine blk_ret (g := .dt (eRat (p * q))) (M1 := []) ?_ (.inl rfl)
      rw [mul_den1 h1 h2]
      exact ee_tup2 (ee_op (ee_op (ee_var rfl) ee_int (x_tup rfl)) (ee_op (ee_var rfl) ee_int (x_tup rfl)) (t_int (cW hp.1 hq.1))) ee_int
    · refine blk_ret (g := .dt (eRat (p * q))) (M1 := []) ?_ (.inl rfl)
      rw [← rat_mul]
      refine use_fraction_of (ea_p2 ?_ ?_) (den_ne p q) (dd_bd hp hq)
      · exact ee_op (ee_op (ee_var rfl) ee_int (x_tup rfl)) (ee_op (ee_var rfl) ee_int (x_tup rfl)) (t_int (cW hp.1 hq.1))
      · exact ee_op (ee_op (ee_var rfl) ee_int (x_tup rfl)) (ee_op (ee_var rfl) ee_int (x_tup rfl)) (t_int (cW hp.2 hq.2))⟩
theorem use_rat2 {f : Rat → Rat → Rat} {E : GE} {M M1 : GM} {tr : TA} {X : XK} {p q : Rat} (h : EA K tr E M [.dt (eRat p), .dt (eRat q)] M1) (h1 : Bd 4400 p) (h2 : Bd 4400 q) : EE K (tCall (spRat2 K f) [] X tr) E M (.dt (eRat (f p q))) M1 := ee_call0 (p, q) h ⟨h1, h2⟩
/-! ### the script's cells -/
abbrev spCellAt (K : PySem.W.Frag) : Sp := sp0 K (fun p : List Int × Int => [.sc p.1, .dt (.int p.2)]) (fun p => 0 ≤ p.2) (fun p => .dt (.int (cellZ p.1 p.2)))
theorem ok__law_cell_at (T : Txt K mg) : FnOk P w K mg base CX0 1 T.a__law_cell_at T.d__law_cell_at ["_law_script", "_law_k"] (spCellAt K) :=
  fn0 T.F__law_cell_at sc__law_cell_at (fun _ => rfl) fun cdv R outer s H E hr => ⟨_, (pss_cons (ps_if (pt_cmpR op_lt (pv 1) (pe_callB o_len (by rfl) T.n_len PySem.boot_len (pa_cons (pv 0) pa_nil)) (nomark _)) (pss_one (ps_ret (pe_ix ix_seq (pv 0) (pv 1) (fun _ _ => rfl)))) pss_nil)
  (pss_one (ps_ret pe_int))), fun (ns, k) hk => by
    have hk : 0 ≤ k := hk
    refine bs_when (by walk_at "ekt") (fun h => ?_) (fun h => ?_)
    · have h1 : k < ns.length := of_decide_eq_true h
      exact blk_ret (ee_op (ee_var rfl) (ee_var rfl) (x_scr (atI_getD (d := 0) hk h1))) (.inl rfl)
    · have h1 : ¬ k < ns.length := of_decide_eq_false h
      refine blk_ret (by walk_at "ek") (.inl ?_)
      show GV.dt (.int 0) = .dt (.int (cellZ ns k))
      unfold cellZ
      rw [List.getD_eq_getElem?_getD, List.getElem?_eq_none (by omega)] <;> rfl⟩
theorem use_cell_at {E : GE} {M M1 : GM} {tr : TA} {X : XK} {ns : List Int} {k : Int} (h : EA K tr E M [.sc ns, .dt (.int k)] M1) (hk : 0 ≤ k) : EE K (tCall (spCellAt K) [] X tr) E M (.dt (.int (cellZ ns k))) M1 := ee_call0 (ns, k) h hk
local macro_rules | `(tactic| walk_at "ekc") => `(tactic| (refine' use_cell_at ?e1 ?e2; (case e1 => walk_at "eka"); (case e2 => walk_at "eks")))
abbrev spWhole (K : PySem.W.Frag) : Sp := sp0 K (fun i : Int => [.dt (.int i)]) (fun _ => True) (fun _ => .dt (.bool true))
theorem ok__law_whole (T : Txt K mg) : FnOk P w K mg base CX0 1 T.a__law_whole T.d__law_whole ["_law_found"] (spWhole K) :=
  fn0 T.F__law_whole sc__law_whole (fun _ => rfl) fun cdv R outer s H E hr => ⟨_, (pss_one (ps_ret (pe_and (pe_callB call_isi (by rfl) T.n_isinstance (by decide +kernel) (pa_cons (pv 0) (pa_cons (pe_bltn (v := .ty "int") (u := .type "int") (by rfl) T.n_int (by decide +kernel) rfl) pa_nil))) (pe_one (pe_not (pe_callB call_isi (by rfl) T.n_isinstance (by decide +kernel) (pa_cons (pv 0) (pa_cons (pe_bltn (v := .ty "bool") (u := .type "bool") (by rfl) T.n_bool (by decide +kernel) rfl) pa_nil)))))))), fun i _ => by
    refine blk_ret (EE.eq (by walk_at "ek") ?_) (.inl rfl)
    rfl⟩
theorem use_whole {E : GE} {M M1 : GM} {tr : TA} {X : XK} {i : Int} (h : EA K tr E M [.dt (.int i)] M1) : EE K (tCall (spWhole K) [] X tr) E M (.dt (.bool true)) M1 := ee_call0 i h trivial
local macro_rules | `(tactic| walk_at "ekc") => `(tactic| (refine' use_whole ?e1; (case e1 => walk_at "eka")))
/-! ### the law's own fractions -/
abbrev spGcd (K : PySem.W.Frag) : Sp := sp0 K (fun p : Int × Int => [.dt (.int p.1), .dt (.int p.2)]) (fun _ => True) (fun p => .dt (.int (Int.gcd p.1 p.2)))
theorem ok__law_divisor (T : Txt K mg) : FnOk P w K mg base CX0 1 T.a__law_divisor T.d__law_divisor ["_law_one", "_law_other"] (spGcd K) :=
  fn0 T.F__law_divisor sc__law_divisor (fun _ => rfl) fun cdv R outer s H E hr => ⟨_, (pss_cons (ps_set (i := 2) sc__law_divisor.nd rfl (Or.inl rfl) (pe_callB o_abs (by rfl) T.n_abs (by decide +kernel) (pa_cons (pv 0) pa_nil)))
  (pss_cons (ps_set (i := 3) sc__law_divisor.nd rfl (Or.inl rfl) (pe_callB o_abs (by rfl) T.n_abs (by decide +kernel) (pa_cons (pv 1) pa_nil)))
  (pss_cons (ps_while PassesOwn.never (pt_cmpR op_gt (pv 2) pe_int (nomark _)) (pss_one (ps_par (i := 2) (j := 3) rfl sc__law_divisor.nd rfl rfl (by decide) rfl rfl (pa_cons (pe_op op_mod (pv 3) (pv 2)) (pa_cons (pv 2) pa_nil)) (by rfl))))
  (pss_one (ps_ret (pv 3)))))), fun (a, b) _ => by
    refine bs_asg (by walk_at "ek") ?_
    refine bs_asg (by walk_at "ek") ?_
    refine blk_mid (Mid := fun E' M' => ∃ x y z, E' = [x, y, z, some (.dt (.int (Int.gcd a b)))] ∧ M' = []) ?_ ?_
    · refine blk_while (fun m E' M' => ∃ (y : Nat) (r s : Option GV), E' = [r, s, some (.dt (.int (m : Int))), some (.dt (.int (y : Int)))] ∧ M' = [] ∧ Nat.gcd m y = Int.gcd a b) a.natAbs ⟨b.natAbs, _, _, rfl, rfl, rfl⟩ ?_
      rintro m E1 N1 ⟨y, r, s, rfl, rfl, hg⟩
      refine ⟨_, _, by walk_at "ekt", fun hb => ?_, fun hb => ?_⟩
      · have hm : 0 < m := by have := of_decide_eq_true hb; omega
        have hmi : (0 : Int) < (m : Int) := by omega
        refine blk_par (M1 := []) (by walk_at "eka") ⟨y % m, Nat.mod_lt _ hm, m, _, _, rfl, rfl, ?_⟩
        rw [← hg]; exact (Nat.gcd_rec m y).symm
      · have hm : m = 0 := by have := of_decide_eq_false hb; omega
        subst hm
        rw [Nat.gcd_zero_left] at hg
        subst hg
        exact ⟨_, _, _, rfl, rfl⟩
    · rintro E1 N1 ⟨x, y, z, rfl, rfl⟩
      exact blk_ret (by walk_at "ek") (.inl rfl)⟩
theorem use_gcd {E : GE} {M M1 : GM} {tr : TA} {X : XK} {a b : Int} (h : EA K tr E M [.dt (.int a), .dt (.int b)] M1) : EE K (tCall (spGcd K) [] X tr) E M (.dt (.int (Int.gcd a b))) M1 := ee_call0 (a, b) h trivial
local macro_rules | `(tactic| walk_at "ekc") => `(tactic| (refine' use_gcd ?e1; (case e1 => walk_at "eka")))
theorem ok__law_is_fraction (T : Txt K mg) : FnOk P w K mg base CX0 2 T.a__law_is_fraction T.d__law_is_fraction ["_law_found"] (sp0 K (fun q : Rat => [.dt (eRat q)]) (fun _ => True) (fun _ => .dt (.bool true))) :=
  fn0 T.F__law_is_fraction sc__law_is_fraction (fun _ => rfl) fun cdv R outer s H E hr => ⟨_, (pss_cons (ps_if (PW.pt (pw_or (pt_not (pt_val (pe_callB call_isi (by rfl) T.n_isinstance (by decide +kernel) (pa_cons (pv 0) (pa_cons (pe_bltn (v := .ty "tuple") (u := .type "tuple") (by rfl) T.n_tuple (by decide +kernel) rfl) pa_nil))))) (pw_or (pt_cmpR (op_neD (hu64 hr)) (pe_callB o_len (by rfl) T.n_len PySem.boot_len (pa_cons (pv 0) pa_nil)) pe_int (nomark _)) (pw_or (pt_not (pt_val (pe_call (ok__law_whole T) (hr.mono (by decide)) (by rfl) T.g__law_whole T.F__law_whole.kp T.b__law_whole .nil pass0 (pa_cons (pe_ix ix_seq (pv 0) pe_int (fun _ _ => rfl)) pa_nil)))) (pw_or1 (pt_not (pt_val (pe_call (ok__law_whole T) (hr.mono (by decide)) (by rfl) T.g__law_whole T.F__law_whole.kp T.b__law_whole .nil pass0 (pa_cons (pe_ix ix_seq (pv 0) pe_int (fun _ _ => rfl)) pa_nil))))))))) (pss_one (ps_ret pe_bl)) pss_nil)
  (pss_one (ps_ret (pe_and (pe_cmpR op_gt (pe_ix ix_seq (pv 0) pe_int (fun _ _ => rfl)) pe_int (nomark _)) (pe_one (pe_cmpR (op_eqD (hu64 hr)) (pe_call (ok__law_divisor T) (hr.mono (by decide)) (by rfl) T.g__law_divisor T.F__law_divisor.kp T.b__law_divisor .nil pass0 (pa_cons (pe_ix ix_seq (pv 0) pe_int (fun _ _ => rfl)) (pa_cons (pe_ix ix_seq (pv 0) pe_int (fun _ _ => rfl)) pa_nil))) pe_int (nomark _))))))), fun q _ => by
    refine bs_when (b := false) (ET.eq (by walk_at "ekt") ?_) (fun h => by cases h) (fun h => ?_)
    · rfl
    refine blk_ret (EE.eq (by walk_at "ek") ?_) (.inl rfl)
    rw [rat_gcd]
    have := q.den_pos
    simp; omega⟩
theorem use_is_fraction {E : GE} {M M1 : GM} {tr : TA} {X : XK} {q : Rat} (h : EA K tr E M [.dt (eRat q)] M1) : EE K (tCall (sp0 K (fun q : Rat => [.dt (eRat q)]) (fun _ => True) (fun _ => .dt (.bool true))) [] X tr) E M (.dt (.bool true)) M1 := ee_call0 q h trivial
theorem ok__law_lowest (T : Txt K mg) : FnOk P w K mg base CX0 2 T.a__law_lowest T.d__law_lowest ["_law_top", "_law_bottom"] (spFraction K) :=
  fn0 T.F__law_lowest sc__law_lowest (fun _ => rfl) fun cdv R outer s H E hr => ⟨_, (pss_cons (ps_set (i := 2) sc__law_lowest.nd rfl (Or.inl rfl) (pe_call (ok__law_divisor T) (hr.mono (by decide)) (by rfl) T.g__law_divisor T.F__law_divisor.kp T.b__law_divisor .nil pass0 (pa_cons (pv 0) (pa_cons (pv 1) pa_nil))))
  (pss_cons (ps_if (pt_cmpR op_lt (pv 1) pe_int (nomark _)) (pss_one (ps_set (i := 2) sc__law_lowest.nd rfl (Or.inl rfl) (pe_un un_neg (pv 2)))) pss_nil)
  (pss_one (ps_ret (pe_tup (pa_cons (pe_op o_fdiv (pv 0) (pv 2)) (pa_cons (pe_op o_fdiv (pv 1) (pv 2)) pa_nil))))))), fun (a, b) ⟨hb, hz⟩ => by
    have hb : b ≠ 0 := hb
    have hz : b.natAbs < 2 ^ 8999 := hz
    refine bs_asg (by walk_at "ek") ?_
    refine blk_mid (Mid := fun E' M' => E' = [some (.dt (.int a)), some (.dt (.int b)), some (.dt (.int (byOf a b)))] ∧ M' = []) ?_ ?_
    · refine blk_when (by walk_at "ekt") (fun h => blk_asg (by walk_at "ek") ⟨?_, rfl⟩) (fun h => ⟨?_, rfl⟩)
      · have h2 : b < 0 := of_decide_eq_true h
        unfold byOf; rw [if_pos h2]; rfl
      · have h2 : ¬ b < 0 := of_decide_eq_false h
        unfold byOf; rw [if_neg h2]; rfl
    · rintro E1 N1 ⟨rfl, rfl⟩
      have e : PyData.tuple [.int (a.fdiv (byOf a b)), .int (b.fdiv (byOf a b))] = eRat (Rat.divInt a b) := by rw [fr_num hb, fr_den hb]
      refine blk_ret (g := .dt (eRat (Rat.divInt a b))) (M1 := []) ?_ (.inl rfl)
      rw [← e]
      exact ee_tup2 (ee_op (ee_var rfl) (ee_var rfl) (d_any (by_ok' hb hz))) (ee_op (ee_var rfl) (ee_var rfl) (d_any (by_ok' hb hz)))⟩
theorem ok__law_plus (T : Txt K mg) : FnOk P w K mg base CX0 3 T.a__law_plus T.d__law_plus ["_law_f", "_law_g"] (spRat2 K fun p q => p + q) :=
  fn0 T.F__law_plus sc__law_plus (fun _ => rfl) fun cdv R outer s H E hr => ⟨_, (pss_one (ps_ret (pe_call (ok__law_lowest T) (hr.mono (by decide)) (by rfl) T.g__law_lowest T.F__law_lowest.kp T.b__law_lowest .nil pass0 (pa_cons (pe_op o_plus (pe_op o_times (pe_ix ix_seq (pv 0) pe_int (fun _ _ => rfl)) (pe_ix ix_seq (pv 1) pe_int (fun _ _ => rfl))) (pe_op o_times (pe_ix ix_seq (pv 1) pe_int (fun _ _ => rfl)) (pe_ix ix_seq (pv 0) pe_int (fun _ _ => rfl)))) (pa_cons (pe_op o_times (pe_ix ix_seq (pv 0) pe_int (fun _ _ => rfl)) (pe_ix ix_seq (pv 1) pe_int (fun _ _ => rfl))) pa_nil))))), fun (p, q) ⟨hp, hq⟩ => by
    have hp : Bd 4400 p := hp
    have hq : Bd 4400 q := hq
    refine blk_ret (g := .dt (eRat (p + q))) (M1 := []) ?_ (.inl rfl)
    rw [← rat_sum]
    refine use_fraction_of (ea_p2 ?_ ?_) (den_ne p q) (dd_bd hp hq)
    · refine ee_op (ee_op (ee_op (ee_var rfl) ee_int (x_tup rfl)) (ee_op (ee_var rfl) ee_int (x_tup rfl)) (t_int (cW hp.1 hq.2))) (ee_op (ee_op (ee_var rfl) ee_int (x_tup rfl)) (ee_op (ee_var rfl) ee_int (x_tup rfl)) (t_int (cW hq.1 hp.2))) p_int
    · exact ee_op (ee_op (ee_var rfl) ee_int (x_tup rfl)) (ee_op (ee_var rfl) ee_int (x_tup rfl)) (t_int (cW hp.2 hq.2))⟩
theorem ok__law_times (T : Txt K mg) : FnOk P w K mg base CX0 3 T.a__law_times T.d__law_times ["_law_f", "_law_g"] (spRat2 K fun p q => p * q) :=
  fn0 T.F__law_times sc__law_times (fun _ => rfl) fun cdv R outer s H E hr => ⟨_, (pss_one (ps_ret (pe_call (ok__law_lowest T) (hr.mono (by decide)) (by rfl) T.g__law_lowest T.F__law_lowest.kp T.b__law_lowest .nil pass0 (pa_cons (pe_op o_times (pe_ix ix_seq (pv 0) pe_int (fun _ _ => rfl)) (pe_ix ix_seq (pv 1) pe_int (fun _ _ => rfl))) (pa_cons (pe_op o_times (pe_ix ix_seq (pv 0) pe_int (fun _ _ => rfl)) (pe_ix ix_seq (pv 1) pe_int (fun _ _ => rfl))) pa_nil))))), fun (p, q) ⟨hp, hq⟩ => by
    have hp : Bd 4400 p := hp
    have hq : Bd 4400 q := hq
    refine blk_ret (g := .dt (eRat (p * q))) (M1 := []) ?_ (.inl rfl)
    rw [← rat_mul]
    refine use_fraction_of (ea_p2 ?_ ?_) (den_ne p q) (dd_bd hp hq)
    · exact ee_op (ee_op (ee_var rfl) ee_int (x_tup rfl)) (ee_op (ee_var rfl) ee_int (x_tup rfl)) (t_int (cW hp.1 hq.1))
    · exact ee_op (ee_op (ee_var rfl) ee_int (x_tup rfl)) (ee_op (ee_var rfl) ee_int (x_tup rfl)) (t_int (cW hp.2 hq.2))⟩
/-! ### the law -/
def twoM (c d : Int) : Int × Int :=
  if c % 4 = 0 then (c / 4 % (2000000000000000000000000000000000000000000000000000000000000 - 1) - 1000000000000000000000000000000000000000000000000000000000000 + 1, 1 + d % (1000000000000000000000000000000000000000000000000000000000000 - 1))
  else if c % 4 = 1 then (c / 4 % 41 - 20, 1 + d % 12)
  else if c % 4 = 2 then (d % (2000000000000000000000000000000000000000000000000000000000000 - 1) - 1000000000000000000000000000000000000000000000000000000000000 + 1, 1)
  else (c / 4 % 1000 * (d % 97), 1 + d % 97 * 12)
theorem twoM_bd (c d : Int) : (twoM c d).1.natAbs < 2 ^ 201 ∧ 0 < (twoM c d).2 ∧ (twoM c d).2.natAbs < 2 ^ 201 := by
  unfold twoM
  split
  · simp only [Nat.reducePow]; omega
  · split
    · simp only [Nat.reducePow]; omega
    · split
      · simp only [Nat.reducePow]; omega
      · have h1 : (c / 4 % 1000).natAbs < 2 ^ 10 := by omega
        have h2 : (d % 97).natAbs < 2 ^ 7 := by omega
        have h3 := natAbs_mul_lt h1 h2
        refine ⟨Nat.lt_of_lt_of_le h3 (Nat.pow_le_pow_right (by decide) (by decide)), by show 0 < 1 + d % 97 * 12; omega, ?_⟩
        have : (1 + d % 97 * 12).natAbs < 2 ^ 11 := by omega
        exact Nat.lt_of_lt_of_le this (Nat.pow_le_pow_right (by decide) (by decide))
abbrev spTwo (K : PySem.W.Frag) : Sp := sp0 K (fun p : Int × Int => [.dt (.int p.1), .dt (.int p.2)]) (fun _ => True) (fun p => .dt (.tuple [.int (twoM p.1 p.2).1, .int (twoM p.1 p.2).2]))
theorem ok__law_two (T : Txt K mg) : FnOk P w K mg base CX0 1 T.a__law_two T.d__law_two ["_law_one", "_law_other"] (spTwo K) :=
  fn0 T.F__law_two sc__law_two (fun _ => rfl) fun cdv R outer s H E hr => ⟨_, (pss_cons (ps_set (i := 2) sc__law_two.nd rfl (Or.inl rfl) (pe_op op_mod (pv 0) pe_int))
  (pss_cons (ps_set (i := 0) sc__law_two.nd rfl (Or.inl rfl) (pe_op o_fdiv (pv 0) pe_int))
  (pss_cons (ps_if (pt_cmpR (op_eqD (hu64 hr)) (pv 2) pe_int (nomark _)) (pss_one (ps_ret (pe_tup (pa_cons (pe_op o_plus (pe_op op_sub (pe_op op_mod (pv 0) (pe_op op_sub (pe_op o_times pe_int (pe_op op_pow pe_int pe_int)) pe_int)) (pe_op op_pow pe_int pe_int)) pe_int) (pa_cons (pe_op o_plus pe_int (pe_op op_mod (pv 1) (pe_op op_sub (pe_op op_pow pe_int pe_int) pe_int))) pa_nil))))) pss_nil)
  (pss_cons (ps_if (pt_cmpR (op_eqD (hu64 hr)) (pv 2) pe_int (nomark _)) (pss_one (ps_ret (pe_tup (pa_cons (pe_op op_sub (pe_op op_mod (pv 0) pe_int) pe_int) (pa_cons (pe_op o_plus pe_int (pe_op op_mod (pv 1) pe_int)) pa_nil))))) pss_nil)
  (pss_cons (ps_if (pt_cmpR (op_eqD (hu64 hr)) (pv 2) pe_int (nomark _)) (pss_one (ps_ret (pe_tup (pa_cons (pe_op o_plus (pe_op op_sub (pe_op op_mod (pv 1) (pe_op op_sub (pe_op o_times pe_int (pe_op op_pow pe_int pe_int)) pe_int)) (pe_op op_pow pe_int pe_int)) pe_int) (pa_cons pe_int pa_nil))))) pss_nil)
  (pss_one (ps_ret (pe_tup (pa_cons (pe_op o_times (pe_op op_mod (pv 0) pe_int) (pe_op op_mod (pv 1) pe_int)) (pa_cons (pe_op o_plus pe_int (pe_op o_times (pe_op op_mod (pv 1) pe_int) pe_int)) pa_nil)))))))))), fun (c, d) _ => by
    refine bs_asg (by walk_at "ek") ?_
    refine bs_asg (by walk_at "ek") ?_
    refine bs_when (by walk_at "ekt") (fun h => ?_) (fun h => ?_)
    · have h0 : c % 4 = 0 := of_decide_eq_true h
      refine blk_ret (by walk_at "ek") (.inl ?_)
      show _ = GV.dt (.tuple [.int (twoM c d).1, .int (twoM c d).2])
      unfold twoM; rw [if_pos h0]
    have h0 : ¬ c % 4 = 0 := of_decide_eq_false h
    refine bs_when (by walk_at "ekt") (fun h => ?_) (fun h => ?_)
    · have h1 : c % 4 = 1 := of_decide_eq_true h
      refine blk_ret (by walk_at "ek") (.inl ?_)
      show _ = GV.dt (.tuple [.int (twoM c d).1, .int (twoM c d).2])
      unfold twoM; rw [if_neg h0, if_pos h1]
    have h1 : ¬ c % 4 = 1 := of_decide_eq_false h
    refine bs_when (by walk_at "ekt") (fun h => ?_) (fun h => ?_)
    · have h2 : c % 4 = 2 := of_decide_eq_true h
      refine blk_ret (by walk_at "ek") (.inl ?_)
      show _ = GV.dt (.tuple [.int (twoM c d).1, .int (twoM c d).2])
      unfold twoM; rw [if_neg h0, if_neg h1, if_pos h2]
    · have h2 : ¬ c % 4 = 2 := of_decide_eq_false h
      refine blk_ret (by walk_at "ek") (.inl ?_)
      show _ = GV.dt (.tuple [.int (twoM c d).1, .int (twoM c d).2])
      unfold twoM; rw [if_neg h0, if_neg h1, if_neg h2]⟩
theorem use_two {E : GE} {M M1 : GM} {tr : TA} {X : XK} {a b : Int} (h : EA K tr E M [.dt (.int a), .dt (.int b)] M1) : EE K (tCall (spTwo K) [] X tr) E M (.dt (.tuple [.int (twoM a b).1, .int (twoM a b).2])) M1 := ee_call0 (a, b) h trivial
abbrev spMade (K : PySem.W.Frag) : Sp := sp0 K (fun p : Int × Int => [.dt (.int p.1), .dt (.int p.2)]) (fun p => p.2 ≠ 0 ∧ p.1.natAbs < 2 ^ 300 ∧ p.2.natAbs < 2 ^ 300) (fun _ => .dt (.bool true))
theorem ok__law_made (T : Txt K mg) : FnOk P w K mg base CX0 3 T.a__law_made T.d__law_made ["_law_top", "_law_bottom"] (spMade K) :=
  fn0 T.F__law_made sc__law_made (fun _ => rfl) fun cdv R outer s H E hr => ⟨_, (pss_cons (ps_set (i := 2) sc__law_made.nd rfl (Or.inl rfl) (pe_call (ok_fraction_of T) (hr.mono (by decide)) (by rfl) T.g_fraction_of T.F_fraction_of.kp T.b_fraction_of .nil pass0 (pa_cons (pv 0) (pa_cons (pv 1) pa_nil))))
  (pss_one (ps_ret (pe_and (pe_call (ok__law_is_fraction T) (hr.mono (by decide)) (by rfl) T.g__law_is_fraction T.F__law_is_fraction.kp T.b__law_is_fraction .nil pass0 (pa_cons (pv 2) pa_nil)) (pe_one (pe_cmpR (op_eqD (hu64 hr)) (pe_op o_times (pe_ix ix_seq (pv 2) pe_int (fun _ _ => rfl)) (pv 1)) (pe_op o_times (pv 0) (pe_ix ix_seq (pv 2) pe_int (fun _ _ => rfl))) (nomark _))))))), fun (a, b) ⟨hb, h1, h2⟩ => by
    have hb : b ≠ 0 := hb
    have h1 : a.natAbs < 2 ^ 300 := h1
    have h2 : b.natAbs < 2 ^ 300 := h2
    have hq := bd_divInt hb h1 h2
    refine bs_asg (use_fraction_of (by walk_at "eka") hb (natAbs_mono h2 (by decide))) ?_
    refine blk_ret (EE.eq (ee_andV (use_is_fraction (by walk_at "eka")) fun _ => ee_op (ee_op (ee_op (ee_var rfl) ee_int (x_tup rfl)) (ee_var rfl) (t_int (cW hq.1 h2))) (ee_op (ee_var rfl) (ee_op (ee_var rfl) ee_int (x_tup rfl)) (t_int (cW h1 hq.2))) eq_int') ?_) (.inl rfl)
    rw [divInt_cross hb]
    simp⟩
theorem use_made {E : GE} {M M1 : GM} {tr : TA} {X : XK} {a b : Int} (h : EA K tr E M [.dt (.int a), .dt (.int b)] M1) (hb : b ≠ 0) (h1 : a.natAbs < 2 ^ 300) (h2 : b.natAbs < 2 ^ 300) : EE K (tCall (spMade K) [] X tr) E M (.dt (.bool true)) M1 := ee_call0 (a, b) h ⟨hb, h1, h2⟩
abbrev spHolds (K : PySem.W.Frag) : Sp := sp0 K (fun p : Rat × Rat => [.dt (eRat p.1), .dt (eRat p.2)]) (fun p => Bd 300 p.1 ∧ Bd 300 p.2) (fun _ => .dt (.bool true))
theorem ok__law_holds (T : Txt K mg) : FnOk P w K mg base CX0 4 T.a__law_holds T.d__law_holds ["_law_f", "_law_g"] (spHolds K) :=
  fn0 T.F__law_holds sc__law_holds (fun _ => rfl) fun cdv R outer s H E hr => ⟨_, (pss_cons (ps_set (i := 2) sc__law_holds.nd rfl (Or.inl rfl) (pe_lst (pa_cons (pe_call (ok_sum_of_two T) (hr.mono (by decide)) (by rfl) T.g_sum_of_two T.F_sum_of_two.kp T.b_sum_of_two .nil pass0 (pa_cons (pv 0) (pa_cons (pv 1) pa_nil))) (pa_cons (pe_call (ok_sum_of_two T) (hr.mono (by decide)) (by rfl) T.g_sum_of_two T.F_sum_of_two.kp T.b_sum_of_two .nil pass0 (pa_cons (pv 1) (pa_cons (pv 0) pa_nil))) (pa_cons (pe_call (ok_product_of T) (hr.mono (by decide)) (by rfl) T.g_product_of T.F_product_of.kp T.b_product_of .nil pass0 (pa_cons (pv 0) (pa_cons (pv 1) pa_nil))) (pa_cons (pe_call (ok_product_of T) (hr.mono (by decide)) (by rfl) T.g_product_of T.F_product_of.kp T.b_product_of .nil pass0 (pa_cons (pv 1) (pa_cons (pv 0) pa_nil))) pa_nil))))))
  (pss_cons (ps_for PassesOwn.never rfl (pi_list (pv 2)) (pg_name (i := 3) sc__law_holds.nd rfl (Or.inl rfl)) (pss_one (ps_if (pt_not (pt_val (pe_call (ok__law_is_fraction T) (hr.mono (by decide)) (by rfl) T.g__law_is_fraction T.F__law_is_fraction.kp T.b__law_is_fraction .nil pass0 (pa_cons (pv 3) pa_nil)))) (pss_one (ps_ret pe_bl)) pss_nil)))
  (pss_one (ps_ret (pe_cmpR (op_eqD (hu64 hr)) (pv 2) (pe_op o_plus (pe_op o_times (pe_lst (pa_cons (pe_call (ok__law_plus T) (hr.mono (by decide)) (by rfl) T.g__law_plus T.F__law_plus.kp T.b__law_plus .nil pass0 (pa_cons (pv 0) (pa_cons (pv 1) pa_nil))) pa_nil)) pe_int) (pe_op o_times (pe_lst (pa_cons (pe_call (ok__law_times T) (hr.mono (by decide)) (by rfl) T.g__law_times T.F__law_times.kp T.b__law_times .nil pass0 (pa_cons (pv 0) (pa_cons (pv 1) pa_nil))) pa_nil)) pe_int)) (nomark _)))))), fun (p, q) ⟨hp, hq⟩ => by
    have hp : Bd 4400 p := Bd.mono hp (by decide)
    have hq : Bd 4400 q := Bd.mono hq (by decide)
    refine bs_asg (g := .dt (.list [eRat (p + q), eRat (q + p), eRat (p * q), eRat (q * p)])) (M1 := []) ?_ ?_
    · exact ee_fzU (ef_lst (ea_p4 (use_rat2 (by walk_at "eka") hp hq) (use_rat2 (by walk_at "eka") hq hp) (use_rat2 (by walk_at "eka") hp hq) (use_rat2 (by walk_at "eka") hq hp)) (by show 4 ≤ sizeLine; decide)) rfl
    refine blk_mid (Mid := fun E' M' => ∃ x, E' = [some (.dt (eRat p)), some (.dt (eRat q)), some (.dt (.list [eRat (p + q), eRat (q + p), eRat (p * q), eRat (q * p)])), x] ∧ M' = []) ?_ ?_
    · refine blk_for (ei_list (ee_var rfl)) (fun i E' M' => ∃ x, E' = [some (.dt (eRat p)), some (.dt (eRat q)), some (.dt (.list [eRat (p + q), eRat (q + p), eRat (p * q), eRat (q * p)])), x] ∧ M' = []) ⟨_, rfl, rfl⟩ ?_ ?_
      · rintro i E1 N1 hi ⟨x, rfl, rfl⟩
        have hd : ∃ r : Rat, [eRat (p + q), eRat (q + p), eRat (p * q), eRat (q * p)].getD i .none = eRat r := by
          match i, hi with
          | 0, _ => exact ⟨_, rfl⟩
          | 1, _ => exact ⟨_, rfl⟩
          | 2, _ => exact ⟨_, rfl⟩
          | 3, _ => exact ⟨_, rfl⟩
        obtain ⟨r, hr'⟩ := hd
        rw [hr']
        exact blk_when (b := false) (et_not (et_B (use_is_fraction (ea_p1 (ee_var rfl))))) (fun h => by cases h) (fun _ => ⟨_, rfl, rfl⟩)
      · rintro E1 N1 ⟨x, rfl, rfl⟩
        exact ⟨x, rfl, rfl⟩
    · rintro E1 N1 ⟨x, rfl, rfl⟩
      refine blk_ret (EE.eq (ee_op (y := .dt (.list [eRat (p + q), eRat (p + q), eRat (p * q), eRat (p * q)])) (ee_var rfl) (M2 := []) ?_ (r2_eqD rfl rfl)) ?_) (.inl rfl)
      · exact ee_op (ee_op (ee_fzU (ef_lst (ea_p1 (use_rat2 (by walk_at "eka") hp hq)) (by show 1 ≤ sizeLine; decide)) rfl) ee_int (t_one (by decide) (by decide) (by decide))) (ee_op (ee_fzU (ef_lst (ea_p1 (use_rat2 (by walk_at "eka") hp hq)) (by show 1 ≤ sizeLine; decide)) rfl) ee_int (t_one (by decide) (by decide) (by decide))) (p_list (by show 4 ≤ sizeLine; decide))
      · rw [Rat.add_comm q p, Rat.mul_comm q p, eqv_refl' rfl]⟩
theorem use_holds {E : GE} {M M1 : GM} {tr : TA} {X : XK} {p q : Rat} (h : EA K tr E M [.dt (eRat p), .dt (eRat q)] M1) (h1 : Bd 300 p) (h2 : Bd 300 q) : EE K (tCall (spHolds K) [] X tr) E M (.dt (.bool true)) M1 := ee_call0 (p, q) h ⟨h1, h2⟩
theorem bd_small : Bd 300 0 ∧ Bd 300 1 := ⟨⟨by decide +kernel, by decide +kernel⟩, ⟨by decide +kernel, by decide +kernel⟩⟩
theorem ok_law (T : Txt K mg) : FnOk P w K mg base CX0 5 T.a_law T.d_law ["_law_script"] (spLaw K) :=
  fn0 T.F_law sc_law (fun _ => rfl) fun cdv R outer s H E hr => ⟨_, (pss_cons (ps_set (i := 1) sc_law.nd rfl (Or.inl rfl) (pe_tup (pa_cons pe_int (pa_cons pe_int pa_nil))))
  (pss_cons (ps_for PassesOwn.never rfl (pi_range3 (by rfl) T.n_range (pa_cons pe_int (pa_cons (pe_callB (o_max2 rfl) (by rfl) T.n_max (by decide +kernel) (pa_cons (pe_callB (o_min2 rfl) (by rfl) T.n_min (by decide +kernel) (pa_cons (pe_callB o_len (by rfl) T.n_len PySem.boot_len (pa_cons (pv 0) pa_nil)) (pa_cons pe_int pa_nil))) (pa_cons pe_int pa_nil))) (pa_cons pe_int pa_nil)))) (pg_name (i := 2) sc_law.nd rfl (Or.inl rfl)) (pss_cons (ps_asg (pe_call (ok__law_two T) (hr.mono (by decide)) (by rfl) T.g__law_two T.F__law_two.kp T.b__law_two .nil pass0 (pa_cons (pe_call (ok__law_cell_at T) (hr.mono (by decide)) (by rfl) T.g__law_cell_at T.F__law_cell_at.kp T.b__law_cell_at .nil pass0 (pa_cons (pv 0) (pa_cons (pv 2) pa_nil))) (pa_cons (pe_call (ok__law_cell_at T) (hr.mono (by decide)) (by rfl) T.g__law_cell_at T.F__law_cell_at.kp T.b__law_cell_at .nil pass0 (pa_cons (pv 0) (pa_cons (pe_op o_plus (pv 2) pe_int) pa_nil))) pa_nil))) (pg_tup rfl (pgs_cons (pg_name (i := 3) sc_law.nd rfl (Or.inl rfl)) (pgs_cons (pg_name (i := 4) sc_law.nd rfl (Or.inl rfl)) pgs_nil))))
  (pss_cons (ps_if (PW.pt (pw_or (pt_not (pt_val (pe_call (ok__law_made T) (hr.mono (by decide)) (by rfl) T.g__law_made T.F__law_made.kp T.b__law_made .nil pass0 (pa_cons (pv 3) (pa_cons (pv 4) pa_nil))))) (pw_or (pt_not (pt_val (pe_call (ok__law_made T) (hr.mono (by decide)) (by rfl) T.g__law_made T.F__law_made.kp T.b__law_made .nil pass0 (pa_cons (pv 3) (pa_cons (pe_un un_neg (pv 4)) pa_nil))))) (pw_or1 (pt_not (pt_val (pe_call (ok__law_made T) (hr.mono (by decide)) (by rfl) T.g__law_made T.F__law_made.kp T.b__law_made .nil pass0 (pa_cons pe_int (pa_cons (pv 4) pa_nil))))))))) (pss_one (ps_ret pe_bl)) pss_nil)
  (pss_cons (ps_set (i := 5) sc_law.nd rfl (Or.inl rfl) (pe_call (ok__law_lowest T) (hr.mono (by decide)) (by rfl) T.g__law_lowest T.F__law_lowest.kp T.b__law_lowest .nil pass0 (pa_cons (pv 3) (pa_cons (pv 4) pa_nil))))
  (pss_cons (ps_for PassesOwn.never rfl (pi_list (pe_lst (pa_cons (pv 1) (pa_cons (pe_tup (pa_cons pe_int (pa_cons pe_int pa_nil))) (pa_cons (pe_tup (pa_cons pe_int (pa_cons pe_int pa_nil))) (pa_cons (pe_tup (pa_cons (pe_un un_neg (pe_ix ix_seq (pv 5) pe_int (fun _ _ => rfl))) (pa_cons (pe_ix ix_seq (pv 5) pe_int (fun _ _ => rfl)) pa_nil))) (pa_cons (pv 5) pa_nil))))))) (pg_name (i := 6) sc_law.nd rfl (Or.inl rfl)) (pss_one (ps_if (pt_not (pt_val (pe_call (ok__law_holds T) (hr.mono (by decide)) (by rfl) T.g__law_holds T.F__law_holds.kp T.b__law_holds .nil pass0 (pa_cons (pv 5) (pa_cons (pv 6) pa_nil))))) (pss_one (ps_ret pe_bl)) pss_nil)))
  (pss_one (ps_set (i := 1) sc_law.nd rfl (Or.inl rfl) (pv 5))))))))
  (pss_one (ps_ret pe_bl)))), fun ns hl => by
    have hl : ns.length ≤ 63 := hl
    refine bs_asg (g := .dt (eRat 0)) (by walk_at "ek") ?_
    refine blk_mid (Mid := fun E' M' => True) ?_ ?_
    · refine blk_for (n := (Builtin.Range.rangeSize 0 (max (min (ns.length : Int) 60) 1) 2).toNat) (ei_range3 (by walk_at "eka") (rgC_of (by decide) (by decide) (by omega) (by omega))) (fun i E' M' => ∃ q x2 x3 x4 x5 x6, Bd 300 q ∧ E' = [some (.sc ns), some (.dt (eRat q)), x2, x3, x4, x5, x6] ∧ M' = []) ⟨0, _, _, _, _, _, bd_small.1, rfl, rfl⟩ ?_ (fun _ _ _ => trivial)
      rintro i E1 N1 hi ⟨q, x2, x3, x4, x5, x6, hq, rfl, rfl⟩
      have hi0 : (0 : Int) ≤ 0 + (i : Int) * 2 := by omega
      have hi1 : (0 : Int) ≤ 0 + (i : Int) * 2 + 1 := by omega
      refine blk_seq (blk_asgT2 (use_two (by walk_at "eka")) ?_)
      obtain ⟨b1, b2, b3⟩ := twoM_bd (cellZ ns (0 + (i : Int) * 2)) (cellZ ns (0 + (i : Int) * 2 + 1))
      generalize twoM (cellZ ns (0 + (i : Int) * 2)) (cellZ ns (0 + (i : Int) * 2 + 1)) = ab at b1 b2 b3 ⊢
      obtain ⟨a, b⟩ := ab
      have b1 : a.natAbs < 2 ^ 300 := natAbs_mono b1 (by decide)
      have b2 : 0 < b := b2
      have b3 : b.natAbs < 2 ^ 300 := natAbs_mono b3 (by decide)
      have hb : b ≠ 0 := by omega
      refine bs_when (b := false) (et_or (b := false) (c := false) (et_not (b := true) (et_B (use_made (by walk_at "eka") hb b1 b3))) fun _ => et_or (b := false) (c := false) (et_not (b := true) (et_B (use_made (by walk_at "eka") (by omega) b1 (by omega)))) fun _ => et_not (b := true) (et_B (use_made (by walk_at "eka") hb (by decide) b3))) (fun h => by cases h) (fun _ => ?_)
      refine bs_asg (use_fraction_of (by walk_at "eka") hb (natAbs_mono b3 (by decide))) ?_
      have hr0 := bd_divInt hb b1 b3
      generalize Rat.divInt a b = r at hr0 ⊢
      refine blk_mid (Mid := fun E' M' => ∃ x2 x3 x4 x6, E' = [some (.sc ns), some (.dt (eRat q)), x2, x3, x4, some (.dt (eRat r)), x6] ∧ M' = []) ?_ ?_
      · refine blk_for (ei_list (ds := [eRat q, eRat 0, eRat 1, eRat (-r), eRat r]) (M1 := []) (by walk_at "ek")) (fun i E' M' => ∃ x2 x3 x4 x6, E' = [some (.sc ns), some (.dt (eRat q)), x2, x3, x4, some (.dt (eRat r)), x6] ∧ M' = []) ⟨_, _, _, _, rfl, rfl⟩ ?_ ?_
        · rintro i E1 N1 hi ⟨x2, x3, x4, x6, rfl, rfl⟩
          have hd : ∃ u : Rat, [eRat q, eRat 0, eRat 1, eRat (-r), eRat r].getD i .none = eRat u ∧ Bd 300 u := by
            match i, hi with
            | 0, _ => exact ⟨_, rfl, hq⟩
            | 1, _ => exact ⟨_, rfl, bd_small.1⟩
            | 2, _ => exact ⟨_, rfl, bd_small.2⟩
            | 3, _ => exact ⟨_, rfl, by refine ⟨?_, hr0.2⟩; rw [Rat.neg_num, Int.natAbs_neg]; exact hr0.1⟩
            | 4, _ => exact ⟨_, rfl, hr0⟩
          obtain ⟨u, hu, hub⟩ := hd
          rw [hu]
          exact blk_when (b := false) (et_not (b := true) (et_B (use_holds (by walk_at "eka") hr0 hub))) (fun h => by cases h) (fun _ => ⟨_, _, _, _, rfl, rfl⟩)
        · rintro E1 N1 ⟨x2, x3, x4, x6, rfl, rfl⟩
          exact ⟨_, _, _, _, rfl, rfl⟩
      · rintro E1 N1 ⟨x2, x3, x4, x6, rfl, rfl⟩
        exact blk_asg (by walk_at "ek") ⟨r, _, _, _, _, _, hr0, rfl, rfl⟩
    · rintro E1 N1 -
      exact blk_ret (by walk_at "ek") (.inl rfl)⟩
end
theorem all_mk {w : World} {K : PySem.W.Frag} {h : Heap} {mg : Str → Option Value} {fa : Addr} (X : K.In h) (G : h.Ns mainGlobals mg) (hfa : mg "law" = some (.ref fa))
    {f_divisor_of : Addr} {od_divisor_of an_divisor_of : Option Addr} {sl_divisor_of : Array (Option Value)} {oc_divisor_of kV_divisor_of dc_divisor_of pm_divisor_of cd_divisor_of ct_divisor_of : Value}
    (a_divisor_of : PySem.W.nsIn K mainGlobals "divisor_of" = some (some (.ref f_divisor_of))) (l_divisor_of : K.lookup f_divisor_of = some ⟨oc_divisor_of, od_divisor_of, .func (PySem.W.fnOf "divisor_of" "divisor_of" (defArgs s_divisor_of) (defBody s_divisor_of) (defScope s_divisor_of) .none kV_divisor_of dc_divisor_of pm_divisor_of an_divisor_of cd_divisor_of ct_divisor_of), sl_divisor_of⟩) (c_divisor_of : PySem.W.codeIn K cd_divisor_of "divisor_of" = true) (k_divisor_of : PySem.W.keepIn K (.ref f_divisor_of) = true)
    {f_fraction_of : Addr} {od_fraction_of an_fraction_of : Option Addr} {sl_fraction_of : Array (Option Value)} {oc_fraction_of kV_fraction_of dc_fraction_of pm_fraction_of cd_fraction_of ct_fraction_of : Value}
    (a_fraction_of : PySem.W.nsIn K mainGlobals "fraction_of" = some (some (.ref f_fraction_of))) (l_fraction_of : K.lookup f_fraction_of = some ⟨oc_fraction_of, od_fraction_of, .func (PySem.W.fnOf "fraction_of" "fraction_of" (defArgs s_fraction_of) (defBody s_fraction_of) (defScope s_fraction_of) .none kV_fraction_of dc_fraction_of pm_fraction_of an_fraction_of cd_fraction_of ct_fraction_of), sl_fraction_of⟩) (c_fraction_of : PySem.W.codeIn K cd_fraction_of "fraction_of" = true) (k_fraction_of : PySem.W.keepIn K (.ref f_fraction_of) = true)
    {f_sum_of_two : Addr} {od_sum_of_two an_sum_of_two : Option Addr} {sl_sum_of_two : Array (Option Value)} {oc_sum_of_two kV_sum_of_two dc_sum_of_two pm_sum_of_two cd_sum_of_two ct_sum_of_two : Value}
    (a_sum_of_two : PySem.W.nsIn K mainGlobals "sum_of_two" = some (some (.ref f_sum_of_two))) (l_sum_of_two : K.lookup f_sum_of_two = some ⟨oc_sum_of_two, od_sum_of_two, .func (PySem.W.fnOf "sum_of_two" "sum_of_two" (defArgs s_sum_of_two) (defBody s_sum_of_two) (defScope s_sum_of_two) .none kV_sum_of_two dc_sum_of_two pm_sum_of_two an_sum_of_two cd_sum_of_two ct_sum_of_two), sl_sum_of_two⟩) (c_sum_of_two : PySem.W.codeIn K cd_sum_of_two "sum_of_two" = true) (k_sum_of_two : PySem.W.keepIn K (.ref f_sum_of_two) = true)
    {f_product_of : Addr} {od_product_of an_product_of : Option Addr} {sl_product_of : Array (Option Value)} {oc_product_of kV_product_of dc_product_of pm_product_of cd_product_of ct_product_of : Value}
    (a_product_of : PySem.W.nsIn K mainGlobals "product_of" = some (some (.ref f_product_of))) (l_product_of : K.lookup f_product_of = some ⟨oc_product_of, od_product_of, .func (PySem.W.fnOf "product_of" "product_of" (defArgs s_product_of) (defBody s_product_of) (defScope s_product_of) .none kV_product_of dc_product_of pm_product_of an_product_of cd_product_of ct_product_of), sl_product_of⟩) (c_product_of : PySem.W.codeIn K cd_product_of "product_of" = true) (k_product_of : PySem.W.keepIn K (.ref f_product_of) = true)
    {f__law_cell_at : Addr} {od__law_cell_at an__law_cell_at : Option Addr} {sl__law_cell_at : Array (Option Value)} {oc__law_cell_at kV__law_cell_at dc__law_cell_at pm__law_cell_at cd__law_cell_at ct__law_cell_at : Value}
    (a__law_cell_at : PySem.W.nsIn K mainGlobals "_law_cell_at" = some (some (.ref f__law_cell_at))) (l__law_cell_at : K.lookup f__law_cell_at = some ⟨oc__law_cell_at, od__law_cell_at, .func (PySem.W.fnOf "_law_cell_at" "_law_cell_at" (defArgs s__law_cell_at) (defBody s__law_cell_at) (defScope s__law_cell_at) .none kV__law_cell_at dc__law_cell_at pm__law_cell_at an__law_cell_at cd__law_cell_at ct__law_cell_at), sl__law_cell_at⟩) (c__law_cell_at : PySem.W.codeIn K cd__law_cell_at "_law_cell_at" = true) (k__law_cell_at : PySem.W.keepIn K (.ref f__law_cell_at) = true)
    {f__law_whole : Addr} {od__law_whole an__law_whole : Option Addr} {sl__law_whole : Array (Option Value)} {oc__law_whole kV__law_whole dc__law_whole pm__law_whole cd__law_whole ct__law_whole : Value}
    (a__law_whole : PySem.W.nsIn K mainGlobals "_law_whole" = some (some (.ref f__law_whole))) (l__law_whole : K.lookup f__law_whole = some ⟨oc__law_whole, od__law_whole, .func (PySem.W.fnOf "_law_whole" "_law_whole" (defArgs s__law_whole) (defBody s__law_whole) (defScope s__law_whole) .none kV__law_whole dc__law_whole pm__law_whole an__law_whole cd__law_whole ct__law_whole), sl__law_whole⟩) (c__law_whole : PySem.W.codeIn K cd__law_whole "_law_whole" = true) (k__law_whole : PySem.W.keepIn K (.ref f__law_whole) = true)
    {f__law_divisor : Addr} {od__law_divisor an__law_divisor : Option Addr} {sl__law_divisor : Array (Option Value)} {oc__law_divisor kV__law_divisor dc__law_divisor pm__law_divisor cd__law_divisor ct__law_divisor : Value}
    (a__law_divisor : PySem.W.nsIn K mainGlobals "_law_divisor" = some (some (.ref f__law_divisor))) (l__law_divisor : K.lookup f__law_divisor = some ⟨oc__law_divisor, od__law_divisor, .func (PySem.W.fnOf "_law_divisor" "_law_divisor" (defArgs s__law_divisor) (defBody s__law_divisor) (defScope s__law_divisor) .none kV__law_divisor dc__law_divisor pm__law_divisor an__law_divisor cd__law_divisor ct__law_divisor), sl__law_divisor⟩) (c__law_divisor : PySem.W.codeIn K cd__law_divisor "_law_divisor" = true) (k__law_divisor : PySem.W.keepIn K (.ref f__law_divisor) = true)
    {f__law_is_fraction : Addr} {od__law_is_fraction an__law_is_fraction : Option Addr} {sl__law_is_fraction : Array (Option Value)} {oc__law_is_fraction kV__law_is_fraction dc__law_is_fraction pm__law_is_fraction cd__law_is_fraction ct__law_is_fraction : Value}
    (a__law_is_fraction : PySem.W.nsIn K mainGlobals "_law_is_fraction" = some (some (.ref f__law_is_fraction))) (l__law_is_fraction : K.lookup f__law_is_fraction = some ⟨oc__law_is_fraction, od__law_is_fraction, .func (PySem.W.fnOf "_law_is_fraction" "_law_is_fraction" (defArgs s__law_is_fraction) (defBody s__law_is_fraction) (defScope s__law_is_fraction) .none kV__law_is_fraction dc__law_is_fraction pm__law_is_fraction an__law_is_fraction cd__law_is_fraction ct__law_is_fraction), sl__law_is_fraction⟩) (c__law_is_fraction : PySem.W.codeIn K cd__law_is_fraction "_law_is_fraction" = true) (k__law_is_fraction : PySem.W.keepIn K (.ref f__law_is_fraction) = true)
    {f__law_lowest : Addr} {od__law_lowest an__law_lowest : Option Addr} {sl__law_lowest : Array (Option Value)} {oc__law_lowest kV__law_lowest dc__law_lowest pm__law_lowest cd__law_lowest ct__law_lowest : Value}
    (a__law_lowest : PySem.W.nsIn K mainGlobals "_law_lowest" = some (some (.ref f__law_lowest))) (l__law_lowest : K.lookup f__law_lowest = some ⟨oc__law_lowest, od__law_lowest, .func (PySem.W.fnOf "_law_lowest" "_law_lowest" (defArgs s__law_lowest) (defBody s__law_lowest) (defScope s__law_lowest) .none kV__law_lowest dc__law_lowest pm__law_lowest an__law_lowest cd__law_lowest ct__law_lowest), sl__law_lowest⟩) (c__law_lowest : PySem.W.codeIn K cd__law_lowest "_law_lowest" = true) (k__law_lowest : PySem.W.keepIn K (.ref f__law_lowest) = true)
    {f__law_plus : Addr} {od__law_plus an__law_plus : Option Addr} {sl__law_plus : Array (Option Value)} {oc__law_plus kV__law_plus dc__law_plus pm__law_plus cd__law_plus ct__law_plus : Value}
    (a__law_plus : PySem.W.nsIn K mainGlobals "_law_plus" = some (some (.ref f__law_plus))) (l__law_plus : K.lookup f__law_plus = some ⟨oc__law_plus, od__law_plus, .func (PySem.W.fnOf "_law_plus" "_law_plus" (defArgs s__law_plus) (defBody s__law_plus) (defScope s__law_plus) .none kV__law_plus dc__law_plus pm__law_plus an__law_plus cd__law_plus ct__law_plus), sl__law_plus⟩) (c__law_plus : PySem.W.codeIn K cd__law_plus "_law_plus" = true) (k__law_plus : PySem.W.keepIn K (.ref f__law_plus) = true)
    {f__law_times : Addr} {od__law_times an__law_times : Option Addr} {sl__law_times : Array (Option Value)} {oc__law_times kV__law_times dc__law_times pm__law_times cd__law_times ct__law_times : Value}
    (a__law_times : PySem.W.nsIn K mainGlobals "_law_times" = some (some (.ref f__law_times))) (l__law_times : K.lookup f__law_times = some ⟨oc__law_times, od__law_times, .func (PySem.W.fnOf "_law_times" "_law_times" (defArgs s__law_times) (defBody s__law_times) (defScope s__law_times) .none kV__law_times dc__law_times pm__law_times an__law_times cd__law_times ct__law_times), sl__law_times⟩) (c__law_times : PySem.W.codeIn K cd__law_times "_law_times" = true) (k__law_times : PySem.W.keepIn K (.ref f__law_times) = true)
    {f__law_two : Addr} {od__law_two an__law_two : Option Addr} {sl__law_two : Array (Option Value)} {oc__law_two kV__law_two dc__law_two pm__law_two cd__law_two ct__law_two : Value}
    (a__law_two : PySem.W.nsIn K mainGlobals "_law_two" = some (some (.ref f__law_two))) (l__law_two : K.lookup f__law_two = some ⟨oc__law_two, od__law_two, .func (PySem.W.fnOf "_law_two" "_law_two" (defArgs s__law_two) (defBody s__law_two) (defScope s__law_two) .none kV__law_two dc__law_two pm__law_two an__law_two cd__law_two ct__law_two), sl__law_two⟩) (c__law_two : PySem.W.codeIn K cd__law_two "_law_two" = true) (k__law_two : PySem.W.keepIn K (.ref f__law_two) = true)
    {f__law_made : Addr} {od__law_made an__law_made : Option Addr} {sl__law_made : Array (Option Value)} {oc__law_made kV__law_made dc__law_made pm__law_made cd__law_made ct__law_made : Value}
    (a__law_made : PySem.W.nsIn K mainGlobals "_law_made" = some (some (.ref f__law_made))) (l__law_made : K.lookup f__law_made = some ⟨oc__law_made, od__law_made, .func (PySem.W.fnOf "_law_made" "_law_made" (defArgs s__law_made) (defBody s__law_made) (defScope s__law_made) .none kV__law_made dc__law_made pm__law_made an__law_made cd__law_made ct__law_made), sl__law_made⟩) (c__law_made : PySem.W.codeIn K cd__law_made "_law_made" = true) (k__law_made : PySem.W.keepIn K (.ref f__law_made) = true)
    {f__law_holds : Addr} {od__law_holds an__law_holds : Option Addr} {sl__law_holds : Array (Option Value)} {oc__law_holds kV__law_holds dc__law_holds pm__law_holds cd__law_holds ct__law_holds : Value}
    (a__law_holds : PySem.W.nsIn K mainGlobals "_law_holds" = some (some (.ref f__law_holds))) (l__law_holds : K.lookup f__law_holds = some ⟨oc__law_holds, od__law_holds, .func (PySem.W.fnOf "_law_holds" "_law_holds" (defArgs s__law_holds) (defBody s__law_holds) (defScope s__law_holds) .none kV__law_holds dc__law_holds pm__law_holds an__law_holds cd__law_holds ct__law_holds), sl__law_holds⟩) (c__law_holds : PySem.W.codeIn K cd__law_holds "_law_holds" = true) (k__law_holds : PySem.W.keepIn K (.ref f__law_holds) = true)
    {f_law : Addr} {od_law an_law : Option Addr} {sl_law : Array (Option Value)} {oc_law kV_law dc_law pm_law cd_law ct_law : Value}
    (a_law : PySem.W.nsIn K mainGlobals "law" = some (some (.ref f_law))) (l_law : K.lookup f_law = some ⟨oc_law, od_law, .func (PySem.W.fnOf "law" "law" (defArgs s_law) (defBody s_law) (defScope s_law) .none kV_law dc_law pm_law an_law cd_law ct_law), sl_law⟩) (c_law : PySem.W.codeIn K cd_law "law" = true) (k_law : PySem.W.keepIn K (.ref f_law) = true)
    (z_abs : PySem.W.nsIn K mainGlobals "abs" = some none)
    (z_bool : PySem.W.nsIn K mainGlobals "bool" = some none)
    (z_int : PySem.W.nsIn K mainGlobals "int" = some none)
    (z_isinstance : PySem.W.nsIn K mainGlobals "isinstance" = some none)
    (z_len : PySem.W.nsIn K mainGlobals "len" = some none)
    (z_max : PySem.W.nsIn K mainGlobals "max" = some none)
    (z_min : PySem.W.nsIn K mainGlobals "min" = some none)
    (z_range : PySem.W.nsIn K mainGlobals "range" = some none)
    (z_tuple : PySem.W.nsIn K mainGlobals "tuple" = some none)
    : ∃ fd : FuncData, (∀ (s : Shared) (v : Value), BindsTo s fd ⟨[v], []⟩ [("_law_script", v)]) ∧ ∀ base : Heap, K.In base → base.Ns mainGlobals mg → FnOk PySem.Challenge.rw_evenkin_k11_fractions.prog w K mg base CX0 5 fa fd ["_law_script"] (spLaw K) := by
  have e := hfa.symm.trans (PySem.W.mg_of X G a_law)
  rw [show fa = f_law by cases e; rfl]
  have F_divisor_of := fun_mk (st := s_divisor_of) l_divisor_of c_divisor_of k_divisor_of
  have F_fraction_of := fun_mk (st := s_fraction_of) l_fraction_of c_fraction_of k_fraction_of
  have F_sum_of_two := fun_mk (st := s_sum_of_two) l_sum_of_two c_sum_of_two k_sum_of_two
  have F_product_of := fun_mk (st := s_product_of) l_product_of c_product_of k_product_of
  have F__law_cell_at := fun_mk (st := s__law_cell_at) l__law_cell_at c__law_cell_at k__law_cell_at
  have F__law_whole := fun_mk (st := s__law_whole) l__law_whole c__law_whole k__law_whole
  have F__law_divisor := fun_mk (st := s__law_divisor) l__law_divisor c__law_divisor k__law_divisor
  have F__law_is_fraction := fun_mk (st := s__law_is_fraction) l__law_is_fraction c__law_is_fraction k__law_is_fraction
  have F__law_lowest := fun_mk (st := s__law_lowest) l__law_lowest c__law_lowest k__law_lowest
  have F__law_plus := fun_mk (st := s__law_plus) l__law_plus c__law_plus k__law_plus
  have F__law_times := fun_mk (st := s__law_times) l__law_times c__law_times k__law_times
  have F__law_two := fun_mk (st := s__law_two) l__law_two c__law_two k__law_two
  have F__law_made := fun_mk (st := s__law_made) l__law_made c__law_made k__law_made
  have F__law_holds := fun_mk (st := s__law_holds) l__law_holds c__law_holds k__law_holds
  have F_law := fun_mk (st := s_law) l_law c_law k_law
  have b_divisor_of := F_divisor_of.binds (ps := ["one", "other"]) fun _ _ _ _ _ _ us hl => match us, hl with | [_, _], _ => rfl
  have b_fraction_of := F_fraction_of.binds (ps := ["top", "bottom"]) fun _ _ _ _ _ _ us hl => match us, hl with | [_, _], _ => rfl
  have b_sum_of_two := F_sum_of_two.binds (ps := ["f", "g"]) fun _ _ _ _ _ _ us hl => match us, hl with | [_, _], _ => rfl
  have b_product_of := F_product_of.binds (ps := ["f", "g"]) fun _ _ _ _ _ _ us hl => match us, hl with | [_, _], _ => rfl
  have b__law_cell_at := F__law_cell_at.binds (ps := ["_law_script", "_law_k"]) fun _ _ _ _ _ _ us hl => match us, hl with | [_, _], _ => rfl
  have b__law_whole := F__law_whole.binds (ps := ["_law_found"]) fun _ _ _ _ _ _ us hl => match us, hl with | [_], _ => rfl
  have b__law_divisor := F__law_divisor.binds (ps := ["_law_one", "_law_other"]) fun _ _ _ _ _ _ us hl => match us, hl with | [_, _], _ => rfl
  have b__law_is_fraction := F__law_is_fraction.binds (ps := ["_law_found"]) fun _ _ _ _ _ _ us hl => match us, hl with | [_], _ => rfl
  have b__law_lowest := F__law_lowest.binds (ps := ["_law_top", "_law_bottom"]) fun _ _ _ _ _ _ us hl => match us, hl with | [_, _], _ => rfl
  have b__law_plus := F__law_plus.binds (ps := ["_law_f", "_law_g"]) fun _ _ _ _ _ _ us hl => match us, hl with | [_, _], _ => rfl
  have b__law_times := F__law_times.binds (ps := ["_law_f", "_law_g"]) fun _ _ _ _ _ _ us hl => match us, hl with | [_, _], _ => rfl
  have b__law_two := F__law_two.binds (ps := ["_law_one", "_law_other"]) fun _ _ _ _ _ _ us hl => match us, hl with | [_, _], _ => rfl
  have b__law_made := F__law_made.binds (ps := ["_law_top", "_law_bottom"]) fun _ _ _ _ _ _ us hl => match us, hl with | [_, _], _ => rfl
  have b__law_holds := F__law_holds.binds (ps := ["_law_f", "_law_g"]) fun _ _ _ _ _ _ us hl => match us, hl with | [_, _], _ => rfl
  have b_law := F_law.binds (ps := ["_law_script"]) fun _ _ _ _ _ _ us hl => match us, hl with | [_], _ => rfl
  have T : ∃ T : Txt K mg, T.a_law = f_law ∧ T.d_law = (PySem.W.fnOf "law" "law" (defArgs s_law) (defBody s_law) (defScope s_law) .none kV_law dc_law pm_law an_law cd_law ct_law) := ⟨{
    a_divisor_of := _, d_divisor_of := _, F_divisor_of := F_divisor_of, g_divisor_of := PySem.W.mg_of X G a_divisor_of, b_divisor_of := b_divisor_of,
    a_fraction_of := _, d_fraction_of := _, F_fraction_of := F_fraction_of, g_fraction_of := PySem.W.mg_of X G a_fraction_of, b_fraction_of := b_fraction_of,
    a_sum_of_two := _, d_sum_of_two := _, F_sum_of_two := F_sum_of_two, g_sum_of_two := PySem.W.mg_of X G a_sum_of_two, b_sum_of_two := b_sum_of_two,
    a_product_of := _, d_product_of := _, F_product_of := F_product_of, g_product_of := PySem.W.mg_of X G a_product_of, b_product_of := b_product_of,
    a__law_cell_at := _, d__law_cell_at := _, F__law_cell_at := F__law_cell_at, g__law_cell_at := PySem.W.mg_of X G a__law_cell_at, b__law_cell_at := b__law_cell_at,
    a__law_whole := _, d__law_whole := _, F__law_whole := F__law_whole, g__law_whole := PySem.W.mg_of X G a__law_whole, b__law_whole := b__law_whole,
    a__law_divisor := _, d__law_divisor := _, F__law_divisor := F__law_divisor, g__law_divisor := PySem.W.mg_of X G a__law_divisor, b__law_divisor := b__law_divisor,
    a__law_is_fraction := _, d__law_is_fraction := _, F__law_is_fraction := F__law_is_fraction, g__law_is_fraction := PySem.W.mg_of X G a__law_is_fraction, b__law_is_fraction := b__law_is_fraction,
    a__law_lowest := _, d__law_lowest := _, F__law_lowest := F__law_lowest, g__law_lowest := PySem.W.mg_of X G a__law_lowest, b__law_lowest := b__law_lowest,
    a__law_plus := _, d__law_plus := _, F__law_plus := F__law_plus, g__law_plus := PySem.W.mg_of X G a__law_plus, b__law_plus := b__law_plus,
    a__law_times := _, d__law_times := _, F__law_times := F__law_times, g__law_times := PySem.W.mg_of X G a__law_times, b__law_times := b__law_times,
    a__law_two := _, d__law_two := _, F__law_two := F__law_two, g__law_two := PySem.W.mg_of X G a__law_two, b__law_two := b__law_two,
    a__law_made := _, d__law_made := _, F__law_made := F__law_made, g__law_made := PySem.W.mg_of X G a__law_made, b__law_made := b__law_made,
    a__law_holds := _, d__law_holds := _, F__law_holds := F__law_holds, g__law_holds := PySem.W.mg_of X G a__law_holds, b__law_holds := b__law_holds,
    a_law := _, d_law := _, F_law := F_law, g_law := PySem.W.mg_of X G a_law, b_law := b_law,
    n_abs := PySem.W.mg_none_of X G z_abs,
    n_bool := PySem.W.mg_none_of X G z_bool,
    n_int := PySem.W.mg_none_of X G z_int,
    n_isinstance := PySem.W.mg_none_of X G z_isinstance,
    n_len := PySem.W.mg_none_of X G z_len,
    n_max := PySem.W.mg_none_of X G z_max,
    n_min := PySem.W.mg_none_of X G z_min,
    n_range := PySem.W.mg_none_of X G z_range,
    n_tuple := PySem.W.mg_none_of X G z_tuple
  }, rfl, rfl⟩
  obtain ⟨T, ea, ed⟩ := T
  rw [← ea]
  exact ⟨T.d_law, by rw [ed]; exact fun s v => .of_eq rfl, fun base _ _ => ok_law T⟩
end Ek
open PySem PySem.W PyProof.Rows
set_option maxHeartbeats 0 in
theorem PySem.Challenge.cw_evenkin_k11_fractions_holds : PySem.Challenge.rw_evenkin_k11_fractions.Holds := by
  w_on; o_law; k_head; (case hw => w_witness2)
  k_fill
  refine L2.walk_of (l := PySem.Challenge.rw_evenkin_k11_fractions) (n := 63) (k := 5) (x := "_law_script") (CX := fun _ => L2.CX0) (sp := fun w => Ek.spLaw _) rfl (by decide) rfl ⟨rfl, by decide, by decide⟩ (fun w h Y => PySem.W.kIn_of Y) ?F (fun w H a ns hl hO hS => Ek.law_begin hl hS) (fun _ _ _ _ _ h => h)
  case F =>
    intro w mg fa h KX G hmg
    refine' Ek.all_mk KX G hmg ?a_divisor_of ?l_divisor_of ?c_divisor_of ?k_divisor_of ?a_fraction_of ?l_fraction_of ?c_fraction_of ?k_fraction_of ?a_sum_of_two ?l_sum_of_two ?c_sum_of_two ?k_sum_of_two ?a_product_of ?l_product_of ?c_product_of ?k_product_of ?a__law_cell_at ?l__law_cell_at ?c__law_cell_at ?k__law_cell_at ?a__law_whole ?l__law_whole ?c__law_whole ?k__law_whole ?a__law_divisor ?l__law_divisor ?c__law_divisor ?k__law_divisor ?a__law_is_fraction ?l__law_is_fraction ?c__law_is_fraction ?k__law_is_fraction ?a__law_lowest ?l__law_lowest ?c__law_lowest ?k__law_lowest ?a__law_plus ?l__law_plus ?c__law_plus ?k__law_plus ?a__law_times ?l__law_times ?c__law_times ?k__law_times ?a__law_two ?l__law_two ?c__law_two ?k__law_two ?a__law_made ?l__law_made ?c__law_made ?k__law_made ?a__law_holds ?l__law_holds ?c__law_holds ?k__law_holds ?a_law ?l_law ?c_law ?k_law ?z_abs ?z_bool ?z_int ?z_isinstance ?z_len ?z_max ?z_min ?z_range ?z_tuple
    (case a_divisor_of => k_is); (case l_divisor_of => k_is); (case c_divisor_of => k_is); (case k_divisor_of => k_is); (case a_fraction_of => k_is); (case l_fraction_of => k_is); (case c_fraction_of => k_is); (case k_fraction_of => k_is); (case a_sum_of_two => k_is); (case l_sum_of_two => k_is); (case c_sum_of_two => k_is); (case k_sum_of_two => k_is); (case a_product_of => k_is); (case l_product_of => k_is); (case c_product_of => k_is); (case k_product_of => k_is); (case a__law_cell_at => k_is); (case l__law_cell_at => k_is); (case c__law_cell_at => k_is); (case k__law_cell_at => k_is); (case a__law_whole => k_is); (case l__law_whole => k_is); (case c__law_whole => k_is); (case k__law_whole => k_is); (case a__law_divisor => k_is); (case l__law_divisor => k_is); (case c__law_divisor => k_is); (case k__law_divisor => k_is); (case a__law_is_fraction => k_is); (case l__law_is_fraction => k_is); (case c__law_is_fraction => k_is); (case k__law_is_fraction => k_is); (case a__law_lowest => k_is); (case l__law_lowest => k_is); (case c__law_lowest => k_is); (case k__law_lowest => k_is); (case a__law_plus => k_is); (case l__law_plus => k_is); (case c__law_plus => k_is); (case k__law_plus => k_is); (case a__law_times => k_is); (case l__law_times => k_is); (case c__law_times => k_is); (case k__law_times => k_is); (case a__law_two => k_is); (case l__law_two => k_is); (case c__law_two => k_is); (case k__law_two => k_is); (case a__law_made => k_is); (case l__law_made => k_is); (case c__law_made => k_is); (case k__law_made => k_is); (case a__law_holds => k_is); (case l__law_holds => k_is); (case c__law_holds => k_is); (case k__law_holds => k_is); (case a_law => k_is); (case l_law => k_is); (case c_law => k_is); (case k_law => k_is); (case z_abs => k_is); (case z_bool => k_is); (case z_int => k_is); (case z_isinstance => k_is); (case z_len => k_is); (case z_max => k_is); (case z_min => k_is); (case z_range => k_is); (case z_tuple => k_is)

