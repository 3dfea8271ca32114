import PyProof.Rows.All
import Wide.All
import OpenK.AllK
import Wide.FinOn
import HandS.ForMost
import HandS.Wide
import HandS.Deep
import HandS.IsInst
import HandS.Flow
import HandS.EndBits
import HandS.SortInts
import HandS.SetFor
import HandS.More
import HandS.Evl
import HandS.Conv
import PySem.Challenge.RW_evenkin_k22_whole_coarsest_parting
set_option Elab.async false
set_option linter.all false
set_option maxRecDepth 100000
/-! data by value over the hand layer: what is shared (G), what is one's own (cells), blocks by ghost states -/
namespace Ek
open PySem PySem.Spec PyProof.Rows L2
abbrev St := L2.St

mutual
inductive Dr (G : Hp) : V → PyData → Prop
  | non : Dr G .non .none
  | bl (b : Bool) : Dr G (.bl b) (.bool b)
  | int (i : Int) : Dr G (.int i) (.int i)
  | str (x : Str) : Dr G (.str x) (.str x)
  | lst {a : Addr} {vs : List V} {ds : List PyData} : G a = some (.lst vs) → DrAll G vs ds → Dr G (.ref a) (.list ds)
  | tup {a : Addr} {vs : List V} {ds : List PyData} : G a = some (.tup vs) → DrAll G vs ds → Dr G (.ref a) (.tuple ds)
inductive DrAll (G : Hp) : List V → List PyData → Prop
  | nil : DrAll G [] []
  | cons {v : V} {vs : List V} {d : PyData} {ds : List PyData} : Dr G v d → DrAll G vs ds → DrAll G (v :: vs) (d :: ds)
end

mutual
theorem Dr.mono {G G' : Hp} (e : Same G G') : ∀ {v : V} {d : PyData}, Dr G v d → Dr G' v d
  | _, _, .non => .non
  | _, _, .bl b => .bl b
  | _, _, .int i => .int i
  | _, _, .str x => .str x
  | _, _, .lst h ha => .lst (e _ _ h) (DrAll.mono e ha)
  | _, _, .tup h ha => .tup (e _ _ h) (DrAll.mono e ha)
theorem DrAll.mono {G G' : Hp} (e : Same G G') : ∀ {vs : List V} {ds : List PyData}, DrAll G vs ds → DrAll G' vs ds
  | _, _, .nil => .nil
  | _, _, .cons h ha => .cons (Dr.mono e h) (DrAll.mono e ha)
end
mutual
theorem Dr.dp {K : PySem.W.Frag} {G : Hp} : ∀ {v : V} {d : PyData}, Dr G v d → Dp K G v d
  | _, _, .non => .non
  | _, _, .bl b => .bl b
  | _, _, .int i => .int i
  | _, _, .str x => .str x
  | _, _, .lst h ha => .lst (.of h) (DrAll.dp ha)
  | _, _, .tup h ha => .tup (.of h) (DrAll.dp ha)
theorem DrAll.dp {K : PySem.W.Frag} {G : Hp} : ∀ {vs : List V} {ds : List PyData}, DrAll G vs ds → DpAll K G vs ds
  | _, _, .nil => .nil
  | _, _, .cons h ha => .cons (Dr.dp h) (DrAll.dp ha)
end
theorem DrAll.length {G : Hp} : ∀ {vs : List V} {ds : List PyData}, DrAll G vs ds → vs.length = ds.length
  | _, _, .nil => rfl
  | _, _, .cons _ h => by rw [List.length_cons, List.length_cons, h.length]
theorem DrAll.get {G : Hp} : ∀ {vs : List V} {ds : List PyData} {i : Nat} {v : V}, DrAll G vs ds → vs[i]? = some v → ∃ d, ds[i]? = some d ∧ Dr G v d
  | _, _, 0, v, .cons (d := d) h _, e => ⟨d, rfl, by cases e; exact h⟩
  | _, _, i + 1, v, .cons _ h, e => h.get (i := i) e
theorem DrAll.get' {G : Hp} : ∀ {vs : List V} {ds : List PyData} {i : Nat} {d : PyData}, DrAll G vs ds → ds[i]? = some d → ∃ v, vs[i]? = some v ∧ Dr G v d
  | _, _, 0, _, .cons (v := v) h _, e => ⟨v, rfl, by cases e; exact h⟩
  | _, _, i + 1, _, .cons _ h, e => h.get' (i := i) e
theorem DrAll.app {G : Hp} : ∀ {vs ws : List V} {ds es : List PyData}, DrAll G vs ds → DrAll G ws es → DrAll G (vs ++ ws) (ds ++ es)
  | _, _, _, _, .nil, h => h
  | _, _, _, _, .cons a b, h => .cons a (b.app h)
/-- a list of plain things: its values by its data -/
theorem DrAll.ints {G : Hp} : ∀ {vs : List V} {ns : List Int}, DrAll G vs (ns.map .int) → vs = ns.map V.int
  | [], [], _ => rfl
  | _ :: _, [], h => by cases h
  | [], _ :: _, h => by cases h
  | _ :: vs, n :: ns, .cons h t => by
    cases h
    rw [t.ints] <;> rfl
theorem DrAll.bls {G : Hp} : ∀ {vs : List V} {ns : List Bool}, DrAll G vs (ns.map .bool) → vs = ns.map V.bl
  | [], [], _ => rfl
  | _ :: _, [], h => by cases h
  | [], _ :: _, h => by cases h
  | _ :: vs, n :: ns, .cons h t => by
    cases h
    rw [t.bls] <;> rfl
theorem DrAll.strs {G : Hp} : ∀ {vs : List V} {ns : List Str}, DrAll G vs (ns.map .str) → vs = ns.map V.str
  | [], [], _ => rfl
  | _ :: _, [], h => by cases h
  | [], _ :: _, h => by cases h
  | _ :: vs, n :: ns, .cons h t => by
    cases h
    rw [t.strs] <;> rfl

/-! ### ghost values, ghost cells -/
inductive GV where
  /-- data -/
  | dt (d : PyData)
  /-- one's own object at p -/
  | rf (p : Addr)
  /-- the script -/
  | sc (ns : List Int)
  /-- a built-in class -/
  | ty (n : String)
inductive GO where
  | lst (xs : List GV) | tup (xs : List GV)
  /-- dicts: by ints and texts; by tuples of such -/
  | dk (kvs : List (Key × GV)) | dq (kvs : List (List Key × GV))
abbrev GE := List (Option GV)
/-- cells: where, whether made since the def began, what -/
abbrev GM := List (Addr × Bool × GO)

def RelG (K : PySem.W.Frag) (G : Hp) (v : V) : GV → Prop
  | .dt d => Dr G v d
  | .rf p => v = .ref p
  | .sc ns => ∃ a, v = .ref a ∧ SqL K G a (ns.map V.int)
  | .ty n => v = .ty n
abbrev RelGs (K : PySem.W.Frag) (G : Hp) : List V → List GV → Prop := Paired (RelG K G)
abbrev RelKV (K : PySem.W.Frag) (G : Hp) {κ : Type} : List (κ × V) → List (κ × GV) → Prop := Paired fun p q => p.1 = q.1 ∧ RelG K G p.2 q.2
def RelO (K : PySem.W.Frag) (G : Hp) : HO → GO → Prop
  | .lst vs, .lst gs => RelGs K G vs gs
  | .tup vs, .tup gs => RelGs K G vs gs
  | .dK vs, .dk gs => RelKV K G vs gs
  | .dT vs, .dq gs => RelKV K G vs gs
  | _, _ => False
section
variable {K : PySem.W.Frag} {G G' H H' : Hp}
theorem Same.sql {a : Addr} {xs : List V} (e : Same G G') (h : SqL K G a xs) : SqL K G' a xs := e.seq h
theorem RelG.mono (e : Same G G') {v : V} : ∀ {g : GV}, RelG K G v g → RelG K G' v g
  | .dt _, h => Dr.mono e h
  | .rf _, h => h
  | .sc _, ⟨a, h1, h2⟩ => ⟨a, h1, e.seq h2⟩
  | .ty _, h => h
theorem RelGs.mono (e : Same G G') : ∀ {vs : List V} {gs : List GV}, RelGs K G vs gs → RelGs K G' vs gs
  | _, _, .nil => .nil
  | _, _, .cons h t => .cons (RelG.mono e h) (RelGs.mono e t)
theorem RelKV.mono {κ : Type} (e : Same G G') : ∀ {vs : List (κ × V)} {gs : List (κ × GV)}, RelKV K G vs gs → RelKV K G' vs gs
  | _, _, .nil => .nil
  | _, _, .cons h t => .cons ⟨h.1, RelG.mono e h.2⟩ (RelKV.mono e t)
theorem RelO.mono (e : Same G G') {o : HO} {g : GO} (h : RelO K G o g) : RelO K G' o g := by
  cases g with
  | lst gs => cases o <;> first | exact RelGs.mono e h | exact h.elim
  | tup gs => cases o <;> first | exact RelGs.mono e h | exact h.elim
  | dk gs => cases o <;> first | exact RelKV.mono e h | exact h.elim
  | dq gs => cases o <;> first | exact RelKV.mono e h | exact h.elim
theorem RelO.lst_inv {o : HO} {gs : List GV} (h : RelO K G o (.lst gs)) : ∃ vs, o = .lst vs ∧ RelGs K G vs gs := by
  cases o <;> first | exact ⟨_, rfl, h⟩ | exact h.elim
theorem RelO.tup_inv {o : HO} {gs : List GV} (h : RelO K G o (.tup gs)) : ∃ vs, o = .tup vs ∧ RelGs K G vs gs := by
  cases o <;> first | exact ⟨_, rfl, h⟩ | exact h.elim
theorem RelO.dk_inv {o : HO} {gs : List (Key × GV)} (h : RelO K G o (.dk gs)) : ∃ vs, o = .dK vs ∧ RelKV K G vs gs := by
  cases o <;> first | exact ⟨_, rfl, h⟩ | exact h.elim
theorem RelO.dq_inv {o : HO} {gs : List (List Key × GV)} (h : RelO K G o (.dq gs)) : ∃ vs, o = .dT vs ∧ RelKV K G vs gs := by
  cases o <;> first | exact ⟨_, rfl, h⟩ | exact h.elim
theorem RelGs.length : ∀ {vs : List V} {gs : List GV}, RelGs K G vs gs → vs.length = gs.length
  | _, _, .nil => rfl
  | _, _, .cons _ t => by rw [List.length_cons, List.length_cons, t.length]
theorem RelGs.get' : ∀ {vs : List V} {gs : List GV} {i : Nat} {g : GV}, RelGs K G vs gs → gs[i]? = some g → ∃ v, vs[i]? = some v ∧ RelG K G v g
  | _, _, 0, _, .cons h _, e => ⟨_, rfl, by cases e; exact h⟩
  | _, _, i + 1, _, .cons _ t, e => RelGs.get' (i := i) t e
theorem RelGs.app : ∀ {vs ws : List V} {gs hs : List GV}, RelGs K G vs gs → RelGs K G ws hs → RelGs K G (vs ++ ws) (gs ++ hs)
  | _, _, _, _, .nil, h => h
  | _, _, _, _, .cons a b, h => .cons a (RelGs.app b h)
theorem RelGs.set : ∀ {vs : List V} {gs : List GV} {i : Nat} {v : V} {g : GV}, RelGs K G vs gs → RelG K G v g → RelGs K G (vs.set i v) (gs.set i g)
  | _, _, _, _, _, .nil, _ => .nil
  | _, _, 0, _, _, .cons _ t, h => .cons h t
  | _, _, i + 1, _, _, .cons a t, h => .cons a (RelGs.set t h)
theorem RelGs.data : ∀ {vs : List V} {ds : List PyData}, RelGs K G vs (ds.map .dt) → DrAll G vs ds
  | _, [], .nil => .nil
  | _, _ :: _, .cons a b => .cons a (RelGs.data b)
theorem RelGs.of_data : ∀ {vs : List V} {ds : List PyData}, DrAll G vs ds → RelGs K G vs (ds.map .dt)
  | _, _, .nil => .nil
  | _, _, .cons a b => .cons a (RelGs.of_data b)
end

/-! ### the state -/
/-- where a def began: the cells that were handed in, what was shared, the whole -/
structure Bs where
  F0 : Addr → Prop
  G0 : Hp
  H0 : Hp
structure Fr (B : Bs) (G H : Hp) : Prop where
  g : Same B.G0 G
  h : ∀ q o, ¬ B.F0 q → B.H0 q = some o → H q = some o
  k : ∀ q, B.H0 q ≠ none → H q ≠ none
  n : ∀ q, B.H0 q ≠ none → B.G0 q = none → G q = none
structure Cells (K : PySem.W.Frag) (B : Bs) (G H : Hp) (M : GM) : Prop where
  at_ : ∀ c ∈ M, G c.1 = none ∧ (∃ o, H c.1 = some o ∧ RelO K G o c.2.2) ∧ (c.2.1 = true → B.H0 c.1 = none) ∧ (c.2.1 = false → B.F0 c.1)
  nd : (M.map (·.1)).Nodup
structure SR (K : PySem.W.Frag) (B : Bs) (E : GE) (M : GM) (σ : St) (G H : Hp) : Prop where
  sub : Same G H
  len : σ.length = E.length
  slot : ∀ (i : Nat) g, E[i]? = some (some g) → ∃ v, σ[i]? = some (some v) ∧ RelG K G v g
  cells : Cells K B G H M
  fr : Fr B G H

section
variable {K : PySem.W.Frag} {B : Bs} {E E' : GE} {M M' : GM} {σ σ' : St} {G G' H H' : Hp}
theorem same_upd {p : Addr} {o : HO} (h : H p = none) : Same H (upd H p o) := fun b x e => by
  rw [upd_ne (ne_of_none e h)]
  exact e
theorem SR.gfree (S : SR K B E M σ G H) {p : Addr} (h : H p = none) : G p = none := S.sub.free h
theorem SR.bfree (S : SR K B E M σ G H) {p : Addr} (h : H p = none) : B.H0 p = none := by
  cases e : B.H0 p with
  | none => rfl
  | some o => exact absurd h (S.fr.k p (by rw [e]; intro z; cases z))
/-- a slot is stored -/
theorem SR.set (S : SR K B E M σ G H) {i : Nat} {v : V} {g : GV} (r : RelG K G v g) : SR K B (E.set i (some g)) M (σ.set i (some v)) G H where
  sub := S.sub
  len := by rw [List.length_set, List.length_set, S.len]
  slot := fun j g' e => by
    by_cases hj : i = j
    · subst hj
      by_cases hi : i < E.length
      · rw [List.getElem?_set_self hi] at e
        cases e
        exact ⟨v, by rw [List.getElem?_set_self (by rw [S.len]; exact hi)], r⟩
      · rw [List.getElem?_eq_none (by rw [List.length_set]; omega)] at e
        cases e
    · rw [List.getElem?_set_ne hj] at e
      obtain ⟨w, h1, h2⟩ := S.slot j g' e
      exact ⟨w, by rw [List.getElem?_set_ne hj]; exact h1, h2⟩
  cells := S.cells
  fr := S.fr
/-- slots are forgotten -/
theorem SR.weak (S : SR K B E M σ G H) (hl : E'.length = E.length) (h : ∀ (i : Nat) g, E'[i]? = some (some g) → E[i]? = some (some g)) : SR K B E' M σ G H :=
  ⟨S.sub, by rw [S.len, hl], fun i g e => S.slot i g (h i g e), S.cells, S.fr⟩
/-- cells are forgotten -/
theorem SR.sub_cells (S : SR K B E M σ G H) (h : M'.Sublist M) : SR K B E M' σ G H :=
  ⟨S.sub, S.len, S.slot, ⟨fun c hc => S.cells.at_ c (h.subset hc), S.cells.nd.sublist (h.map _)⟩, S.fr⟩
/-- another block's slots -/
theorem SR.slots (S : SR K B E M σ G H) (hl : σ'.length = E'.length) (h : ∀ (i : Nat) g, E'[i]? = some (some g) → ∃ v, σ'[i]? = some (some v) ∧ RelG K G v g) : SR K B E' M σ' G H :=
  ⟨S.sub, hl, h, S.cells, S.fr⟩
/-- a new object, shared at once -/
theorem SR.share (S : SR K B E M σ G H) {p : Addr} {o : HO} (h : H p = none) : SR K B E M σ (upd G p o) (upd H p o) := by
  have hg := S.gfree h
  refine ⟨fun b x e => ?_, S.len, fun i g e => ?_, ⟨fun c hc => ?_, S.cells.nd⟩, ⟨fun b x e => ?_, fun q x nf e => ?_, fun q e => ?_, fun q e n => ?_⟩⟩
  · by_cases hb : b = p
    · subst hb; rw [upd_same] at e ⊢; exact e
    · rw [upd_ne hb] at e ⊢; exact S.sub _ _ e
  · obtain ⟨v, h1, h2⟩ := S.slot i g e
    exact ⟨v, h1, RelG.mono (same_upd hg) h2⟩
  · obtain ⟨h1, ⟨ho, h2, h3⟩, h4⟩ := S.cells.at_ c hc
    have hp : c.1 ≠ p := ne_of_none h2 h
    exact ⟨by rw [upd_ne hp]; exact h1, ⟨ho, by rw [upd_ne hp]; exact h2, RelO.mono (same_upd hg) h3⟩, h4⟩
  · exact same_upd hg _ _ (S.fr.g _ _ e)
  · exact same_upd h _ _ (S.fr.h q x nf e)
  · intro z
    by_cases hq : q = p
    · subst hq; rw [upd_same] at z; cases z
    · rw [upd_ne hq] at z; exact S.fr.k q e z
  · have hq : q ≠ p := fun z => by subst z; exact S.fr.k q e h
    rw [upd_ne hq]; exact S.fr.n q e n
/-- a new object of one's own -/
theorem SR.own (S : SR K B E M σ G H) {p : Addr} {o : HO} {g : GO} (h : H p = none) (r : RelO K G o g) : SR K B E ((p, true, g) :: M) σ G (upd H p o) := by
  have hg := S.gfree h
  refine ⟨fun b x e => same_upd h _ _ (S.sub _ _ e), S.len, S.slot, ⟨fun c hc => ?_, ?_⟩, ⟨S.fr.g, fun q x nf e => same_upd h _ _ (S.fr.h q x nf e), fun q e z => ?_, S.fr.n⟩⟩
  · rcases List.mem_cons.mp hc with rfl | hc
    · exact ⟨hg, ⟨o, upd_same, r⟩, fun _ => S.bfree h, fun z => by cases z⟩
    · obtain ⟨h1, ⟨ho, h2, h3⟩, h4⟩ := S.cells.at_ c hc
      exact ⟨h1, ⟨ho, same_upd h _ _ h2, h3⟩, h4⟩
  · rw [List.map_cons, List.nodup_cons]
    refine ⟨fun hm => ?_, S.cells.nd⟩
    obtain ⟨c, hc, e⟩ := List.mem_map.mp hm
    obtain ⟨_, ⟨ho, h2, _⟩, _⟩ := S.cells.at_ c hc
    rw [e, h] at h2; cases h2
  · by_cases hq : q = p
    · subst hq; rw [upd_same] at z; cases z
    · rw [upd_ne hq] at z; exact S.fr.k q e z
/-- one's own object is written -/
theorem SR.write (S : SR K B E M σ G H) {j : Nat} {p : Addr} {fl : Bool} {g0 g : GO} {o : HO} (hj : M[j]? = some (p, fl, g0)) (r : RelO K G o g) : SR K B E (M.set j (p, fl, g)) σ G (upd H p o) := by
  have hm : (p, fl, g0) ∈ M := List.mem_of_getElem? hj
  obtain ⟨h1, ⟨o0, h2, h3⟩, h4⟩ := S.cells.at_ _ hm
  have hjl : j < M.length := (List.getElem?_eq_some_iff.mp hj).1
  have hmap : (M.set j (p, fl, g)).map (·.1) = M.map (·.1) := by
    rw [List.map_set]
    refine List.ext_getElem? fun i => ?_
    by_cases hi : j = i
    · subst hi
      rw [List.getElem?_set_self (by rw [List.length_map]; exact hjl), List.getElem?_map, hj]; rfl
    · rw [List.getElem?_set_ne hi]
  refine ⟨fun b x e => ?_, S.len, S.slot, ⟨fun c hc => ?_, by rw [hmap]; exact S.cells.nd⟩, ⟨S.fr.g, fun q x nf e => ?_, fun q e z => ?_, S.fr.n⟩⟩
  · rw [upd_ne (ne_of_none e h1)]; exact S.sub _ _ e
  · rcases List.mem_or_eq_of_mem_set hc with hc' | rfl
    · by_cases hp : c.1 = p
      · -- the same address: then it is the written one
        obtain ⟨i, hi⟩ := List.mem_iff_getElem?.mp hc
        by_cases hij : j = i
        · subst hij
          rw [List.getElem?_set_self hjl] at hi
          cases hi
          exact ⟨h1, ⟨o, upd_same, r⟩, h4⟩
        · rw [List.getElem?_set_ne hij] at hi
          exfalso
          have e1 : (M.map (·.1))[i]? = some p := by rw [List.getElem?_map, hi]; show some c.1 = some p; rw [hp]
          have e2 : (M.map (·.1))[j]? = some p := by rw [List.getElem?_map, hj]; rfl
          have hil : i < (M.map (·.1)).length := (List.getElem?_eq_some_iff.mp e1).1
          exact hij (((List.getElem?_inj hil S.cells.nd).mp (e1.trans e2.symm)).symm)
      · obtain ⟨k1, ⟨ho, k2, k3⟩, k4⟩ := S.cells.at_ c hc'
        exact ⟨k1, ⟨ho, by rw [upd_ne hp]; exact k2, k3⟩, k4⟩
    · exact ⟨h1, ⟨o, upd_same, r⟩, h4⟩
  · have hq : q ≠ p := fun z => by
      subst z
      cases hfl : fl with
      | true => rw [h4.1 hfl] at e; cases e
      | false => exact nf (h4.2 hfl)
    rw [upd_ne hq]; exact S.fr.h q x nf e
  · by_cases hq : q = p
    · subst hq; rw [upd_same] at z; cases z
    · rw [upd_ne hq] at z; exact S.fr.k q e z
/-- one's own list of data is shared from now on -/
theorem SR.freeze (S : SR K B E M σ G H) {j : Nat} {p : Addr} {ds : List PyData} (hj : M[j]? = some (p, true, .lst (ds.map .dt))) : ∃ G', Same G G' ∧ SR K B E (M.eraseIdx j) σ G' H ∧ Dr G' (.ref p) (.list ds) := by
  have hm := List.mem_of_getElem? hj
  obtain ⟨h1, ⟨o0, h2, h3⟩, h4⟩ := S.cells.at_ _ hm
  obtain ⟨vs, rfl, h5⟩ := RelO.lst_inv h3
  have sg : Same G (upd G p (.lst vs)) := same_upd h1
  have hjl : j < M.length := (List.getElem?_eq_some_iff.mp hj).1
  refine ⟨upd G p (.lst vs), sg, ⟨fun b x e => ?_, S.len, fun i g e => ?_, ⟨fun c hc => ?_, S.cells.nd.sublist ((List.eraseIdx_sublist _ _).map _)⟩, ⟨fun b x e => sg _ _ (S.fr.g _ _ e), S.fr.h, S.fr.k, fun q e n => ?_⟩⟩, .lst upd_same (DrAll.mono sg h5.data)⟩
  · by_cases hb : b = p
    · subst hb; rw [upd_same] at e; cases e; exact h2
    · rw [upd_ne hb] at e; exact S.sub _ _ e
  · obtain ⟨v, k1, k2⟩ := S.slot i g e
    exact ⟨v, k1, RelG.mono sg k2⟩
  · have hcm : c ∈ M := (List.eraseIdx_sublist _ _).subset hc
    have hp : c.1 ≠ p := by
      intro hp
      obtain ⟨i, hi⟩ := List.mem_iff_getElem?.mp hc
      have key : ∃ i', i' ≠ j ∧ M[i']? = some c := by
        rw [List.getElem?_eraseIdx] at hi
        split at hi
        · rename_i hlt
          exact ⟨i, by omega, hi⟩
        · rename_i hlt
          exact ⟨i + 1, by omega, hi⟩
      obtain ⟨i', hne, hi'⟩ := key
      have e1 : (M.map (·.1))[i']? = some p := by rw [List.getElem?_map, hi']; show some c.1 = some p; rw [hp]
      have e2 : (M.map (·.1))[j]? = some p := by rw [List.getElem?_map, hj]; rfl
      have hil : i' < (M.map (·.1)).length := (List.getElem?_eq_some_iff.mp e1).1
      exact hne ((List.getElem?_inj hil S.cells.nd).mp (e1.trans e2.symm))
    obtain ⟨k1, ⟨ho, k2, k3⟩, k4⟩ := S.cells.at_ c hcm
    exact ⟨by rw [upd_ne hp]; exact k1, ⟨ho, k2, RelO.mono sg k3⟩, k4⟩
  · by_cases hq : q = p
    · subst hq
      exact absurd (h4.1 rfl) e
    · rw [upd_ne hq]; exact S.fr.n q e n

/-! ### calls -/
/-- behind a call that changes none of the cells -/
theorem SR.called (S : SR K B E M σ G H) (f : Fr ⟨fun _ => False, G, H⟩ G' H') (sub : Same G' H') : SR K B E M σ G' H' where
  sub := sub
  len := S.len
  slot := fun i g e => by
    obtain ⟨v, h1, h2⟩ := S.slot i g e
    exact ⟨v, h1, RelG.mono f.g h2⟩
  cells := ⟨fun c hc => by
    obtain ⟨h1, ⟨ho, h2, h3⟩, h4⟩ := S.cells.at_ c hc
    exact ⟨f.n c.1 (by show H c.1 ≠ none; rw [h2]; intro z; cases z) h1, ⟨ho, f.h c.1 ho (fun z => z) h2, RelO.mono f.g h3⟩, h4⟩, S.cells.nd⟩
  fr := ⟨fun b o e => f.g _ _ (S.fr.g _ _ e), fun q o nf e => f.h q o (fun z => z) (S.fr.h q o nf e), fun q e => f.k q (S.fr.k q e), fun q e n => f.n q (S.fr.k q e) (S.fr.n q e n)⟩
/-- a new cell is noted -/
theorem SR.noted (S : SR K B E M σ G' H') {p : Addr} {o : HO} {g : GO} (hp : B.H0 p = none) (hM : ∀ c ∈ M, c.1 ≠ p) (hg : G' p = none) (ho : H' p = some o) (r : RelO K G' o g) : SR K B E ((p, true, g) :: M) σ G' H' :=
  ⟨S.sub, S.len, S.slot, ⟨fun c hc => by
    rcases List.mem_cons.mp hc with rfl | hc
    · exact ⟨hg, ⟨o, ho, r⟩, fun _ => hp, fun z => by cases z⟩
    · exact S.cells.at_ c hc, by
    rw [List.map_cons, List.nodup_cons]
    refine ⟨fun hm => ?_, S.cells.nd⟩
    obtain ⟨c, hc, e⟩ := List.mem_map.mp hm
    exact hM c hc e⟩, S.fr⟩
theorem SR.cell_ne (S : SR K B E M σ G H) {p : Addr} (h : H p = none) : ∀ c ∈ M, c.1 ≠ p := fun c hc => by
  obtain ⟨_, ⟨ho, h2, _⟩, _⟩ := S.cells.at_ c hc
  exact ne_of_none h2 h
/-- behind a call that changes the j-th cell -/
theorem SR.called1 (S : SR K B E M σ G H) {j : Nat} {p : Addr} {fl : Bool} {g0 g : GO} {o : HO} (hj : M[j]? = some (p, fl, g0)) (f : Fr ⟨fun q => q = p, G, H⟩ G' H') (sub : Same G' H') (ho : H' p = some o) (r : RelO K G' o g) :
    SR K B E (M.set j (p, fl, g)) σ G' H' := by
  have hm : (p, fl, g0) ∈ M := List.mem_of_getElem? hj
  obtain ⟨h1, ⟨o0, h2, h3⟩, h4⟩ := S.cells.at_ _ hm
  have hjl : j < M.length := (List.getElem?_eq_some_iff.mp hj).1
  have hmap : (M.set j (p, fl, g)).map (·.1) = M.map (·.1) := by
    rw [List.map_set]
    refine List.ext_getElem? fun i => ?_
    by_cases hi : j = i
    · subst hi
      rw [List.getElem?_set_self (by rw [List.length_map]; exact hjl), List.getElem?_map, hj]; rfl
    · rw [List.getElem?_set_ne hi]
  have hgp : G' p = none := f.n p (by show H p ≠ none; rw [h2]; intro z; cases z) h1
  refine ⟨sub, S.len, fun i g e => ?_, ⟨fun c hc => ?_, by rw [hmap]; exact S.cells.nd⟩, ⟨fun b o e => f.g _ _ (S.fr.g _ _ e), fun q x nf e => ?_, fun q e => f.k q (S.fr.k q e), fun q e n => f.n q (S.fr.k q e) (S.fr.n q e n)⟩⟩
  · obtain ⟨v, k1, k2⟩ := S.slot i g e
    exact ⟨v, k1, RelG.mono f.g k2⟩
  · rcases List.mem_or_eq_of_mem_set hc with hc' | rfl
    · by_cases hp : c.1 = p
      · obtain ⟨i, hi⟩ := List.mem_iff_getElem?.mp hc
        by_cases hij : j = i
        · subst hij
          rw [List.getElem?_set_self hjl] at hi
          cases hi
          exact ⟨hgp, ⟨o, ho, r⟩, h4⟩
        · rw [List.getElem?_set_ne hij] at hi
          exfalso
          have e1 : (M.map (·.1))[i]? = some p := by rw [List.getElem?_map, hi]; show some c.1 = some p; rw [hp]
          have e2 : (M.map (·.1))[j]? = some p := by rw [List.getElem?_map, hj]; rfl
          have hil : i < (M.map (·.1)).length := (List.getElem?_eq_some_iff.mp e1).1
          exact hij (((List.getElem?_inj hil S.cells.nd).mp (e1.trans e2.symm)).symm)
      · obtain ⟨k1, ⟨hq, k2, k3⟩, k4⟩ := S.cells.at_ c hc'
        exact ⟨f.n c.1 (by show H c.1 ≠ none; rw [k2]; intro z; cases z) k1, ⟨hq, f.h c.1 hq hp k2, RelO.mono f.g k3⟩, k4⟩
    · exact ⟨hgp, ⟨o, ho, r⟩, h4⟩
  · have hq : q ≠ p := fun z => by
      subst z
      cases hfl : fl with
      | true =>
        have z := S.fr.h q x nf e
        have z2 := h4.1 hfl
        rw [z2] at e; cases e
      | false => exact nf (h4.2 hfl)
    exact f.h q x hq (S.fr.h q x nf e)
end
end Ek

set_option Elab.async false
set_option linter.all false
set_option maxRecDepth 100000
/-! judgements over ghost states, and their rules -/
namespace Ek
open PySem PySem.Spec PyProof.Rows L2

/-- an expression has the ghost value g, and leaves the cells M' -/
def EE (K : PySem.W.Frag) (te : TE) (E : GE) (M : GM) (g : GV) (M' : GM) : Prop :=
  ∀ B σ G H, SR K B E M σ G H → ∀ Q : VK, (∀ v G' H', Same G G' → SR K B E M' σ G' H' → RelG K G' v g → Q v H') → te σ H Q
/-- an expression makes a new list -/
def EF (K : PySem.W.Frag) (te : TE) (E : GE) (M : GM) (xs : List GV) (M' : GM) : Prop :=
  ∀ B σ G H, SR K B E M σ G H → ∀ Q : VK, (∀ p G' H', Same G G' → SR K B E ((p, true, .lst xs) :: M') σ G' H' → Q (.ref p) H') → te σ H Q
/-- an expression makes a new tuple (of anything) -/
def EU (K : PySem.W.Frag) (te : TE) (E : GE) (M : GM) (xs : List GV) (M' : GM) : Prop :=
  ∀ B σ G H, SR K B E M σ G H → ∀ Q : VK, (∀ p G' H', Same G G' → SR K B E ((p, true, .tup xs) :: M') σ G' H' → Q (.ref p) H') → te σ H Q
def ET (K : PySem.W.Frag) (tt : TT) (E : GE) (M : GM) (b : Bool) (M' : GM) : Prop :=
  ∀ B σ G H, SR K B E M σ G H → ∀ Q : Bool → Hp → Prop, (∀ G' H', Same G G' → SR K B E M' σ G' H' → Q b H') → tt σ H Q
def EA (K : PySem.W.Frag) (ta : TA) (E : GE) (M : GM) (gs : List GV) (M' : GM) : Prop :=
  ∀ B σ G H, SR K B E M σ G H → ∀ Q : List V → Hp → Prop, (∀ vs G' H', Same G G' → SR K B E M' σ G' H' → RelGs K G' vs gs → Q vs H') → ta σ H Q
/-- an operation on two values -/
def R2E (K : PySem.W.Frag) (r : R2) (x y : GV) (M : GM) (g : GV) (M' : GM) : Prop :=
  ∀ B E σ G H, SR K B E M σ G H → ∀ v w, RelG K G v x → RelG K G w y → ∀ Q : VK, (∀ v G' H', Same G G' → SR K B E M' σ G' H' → RelG K G' v g → Q v H') → r v w H Q
def R2F (K : PySem.W.Frag) (r : R2) (x y : GV) (M : GM) (xs : List GV) (M' : GM) : Prop :=
  ∀ B E σ G H, SR K B E M σ G H → ∀ v w, RelG K G v x → RelG K G w y → ∀ Q : VK, (∀ p G' H', Same G G' → SR K B E ((p, true, .lst xs) :: M') σ G' H' → Q (.ref p) H') → r v w H Q
abbrev TR := List V → Hp → VK → Prop
def RCE (K : PySem.W.Frag) (r : TR) (gs : List GV) (M : GM) (g : GV) (M' : GM) : Prop :=
  ∀ B E σ G H, SR K B E M σ G H → ∀ vs, RelGs K G vs gs → ∀ Q : VK, (∀ v G' H', Same G G' → SR K B E M' σ G' H' → RelG K G' v g → Q v H') → r vs H Q
def RCF (K : PySem.W.Frag) (r : TR) (gs : List GV) (M : GM) (xs : List GV) (M' : GM) : Prop :=
  ∀ B E σ G H, SR K B E M σ G H → ∀ vs, RelGs K G vs gs → ∀ Q : VK, (∀ p G' H', Same G G' → SR K B E ((p, true, .lst xs) :: M') σ G' H' → Q (.ref p) H') → r vs H Q

theorem Same.rfl' {G : Hp} : Same G G := fun _ _ h => h

section
variable {K : PySem.W.Frag} {E : GE} {M M1 M2 M3 : GM} {g x y z : GV} {ta tb tc te : TE} {tt tu : TT} {b c : Bool} {xs ys : List GV}
/-! ### expressions -/
theorem ee_var {i : Nat} (h : E[i]? = some (some g)) : EE K (tVar i) E M g M := fun B σ G H S Q q => by
  obtain ⟨v, h1, h2⟩ := S.slot i g h
  exact ⟨v, h1, q v G H Same.rfl' S h2⟩
theorem ee_int {i : Int} : EE K (tC (.int i)) E M (.dt (.int i)) M := fun B σ G H S Q q => q _ G H Same.rfl' S (Dr.int i)
theorem ee_bl {i : Bool} : EE K (tC (.bl i)) E M (.dt (.bool i)) M := fun B σ G H S Q q => q _ G H Same.rfl' S (Dr.bl i)
theorem ee_str {i : Str} : EE K (tC (.str i)) E M (.dt (.str i)) M := fun B σ G H S Q q => q _ G H Same.rfl' S (Dr.str i)
theorem ee_non : EE K (tC .non) E M (.dt .none) M := fun B σ G H S Q q => q _ G H Same.rfl' S Dr.non
theorem ee_ty {n : String} : EE K (tC (.ty n)) E M (.ty n) M := fun B σ G H S Q q => q _ G H Same.rfl' S rfl
theorem EE.eq {g' : GV} (h : EE K te E M g M1) (e : g = g') : EE K te E M g' M1 := e ▸ h
theorem ET.eq {b' : Bool} (h : ET K tt E M b M1) (e : b = b') : ET K tt E M b' M1 := e ▸ h
theorem EF.eq {ys : List GV} (h : EF K te E M xs M1) (e : xs = ys) : EF K te E M ys M1 := e ▸ h
theorem ee_op {r : R2} (ha : EE K ta E M x M1) (hb : EE K tb E M1 y M2) (hr : R2E K r x y M2 g M3) : EE K (tOp r ta tb) E M g M3 := fun B σ G H S Q q =>
  ha B σ G H S _ fun v G1 H1 s1 S1 r1 => hb B σ G1 H1 S1 _ fun w G2 H2 s2 S2 r2 => hr B E σ G2 H2 S2 v w (RelG.mono s2 r1) r2 Q fun u G3 H3 s3 S3 r3 => q u G3 H3 (fun a o e => s3 _ _ (s2 _ _ (s1 _ _ e))) S3 r3
theorem ef_op {r : R2} (ha : EE K ta E M x M1) (hb : EE K tb E M1 y M2) (hr : R2F K r x y M2 xs M3) : EF K (tOp r ta tb) E M xs M3 := fun B σ G H S Q q =>
  ha B σ G H S _ fun v G1 H1 s1 S1 r1 => hb B σ G1 H1 S1 _ fun w G2 H2 s2 S2 r2 => hr B E σ G2 H2 S2 v w (RelG.mono s2 r1) r2 Q fun u G3 H3 s3 S3 => q u G3 H3 (fun a o e => s3 _ _ (s2 _ _ (s1 _ _ e))) S3
/-- a list of data that was just made -/
theorem ee_fz {ds : List PyData} (h : EF K te E M (ds.map .dt) M1) : EE K te E M (.dt (.list ds)) M1 := fun B σ G H S Q q =>
  h B σ G H S Q fun p G1 H1 s1 S1 => by
    obtain ⟨G2, s2, S2, d⟩ := S1.freeze (j := 0) rfl
    exact q (.ref p) G2 H1 (fun a o e => s2 _ _ (s1 _ _ e)) S2 d
theorem r2_int {g : Int → Int → V} {d : PyData} {i j : Int} (hg : ∀ G : Hp, Dr G (g i j) d) : R2E K (rI0 g) (.dt (.int i)) (.dt (.int j)) M (.dt d) M := fun B E σ G H S v w hv hw Q q => by
  cases hv; cases hw
  exact ⟨i, j, rfl, rfl, q _ G H Same.rfl' S (hg G)⟩
theorem r2_intC {C : Int → Int → Prop} {g : Int → Int → V} {d : PyData} {i j : Int} (hc : C i j) (hg : ∀ G : Hp, Dr G (g i j) d) : R2E K (rI C g) (.dt (.int i)) (.dt (.int j)) M (.dt d) M := fun B E σ G H S v w hv hw Q q => by
  cases hv; cases hw
  exact ⟨i, j, rfl, rfl, hc, q _ G H Same.rfl' S (hg G)⟩
section
variable {i j : Int}
theorem ee_add (ha : EE K ta E M (.dt (.int i)) M1) (hb : EE K tb E M1 (.dt (.int j)) M2) : EE K (tOp (rI0 fun i j => .int (i + j)) ta tb) E M (.dt (.int (i + j))) M2 := ee_op ha hb (r2_int fun _ => .int _)
theorem ee_sub (ha : EE K ta E M (.dt (.int i)) M1) (hb : EE K tb E M1 (.dt (.int j)) M2) : EE K (tOp (rI0 fun i j => .int (i - j)) ta tb) E M (.dt (.int (i - j))) M2 := ee_op ha hb (r2_int fun _ => .int _)
theorem ee_mul (ha : EE K ta E M (.dt (.int i)) M1) (hb : EE K tb E M1 (.dt (.int j)) M2) (hc : CMulW i j) : EE K (tOp (rI CMulW fun i j => .int (i * j)) ta tb) E M (.dt (.int (i * j))) M2 := ee_op ha hb (r2_intC hc fun _ => .int _)
theorem ee_div (ha : EE K ta E M (.dt (.int i)) M1) (hb : EE K tb E M1 (.dt (.int j)) M2) (hc : CDivW i j) : EE K (tOp (rI CDivW fun i j => .int (i / j)) ta tb) E M (.dt (.int (i / j))) M2 := ee_op ha hb (r2_intC hc fun _ => .int _)
theorem ee_mod (ha : EE K ta E M (.dt (.int i)) M1) (hb : EE K tb E M1 (.dt (.int j)) M2) (hc : 0 < j) : EE K (tOp (rI (fun _ j => 0 < j) fun i j => .int (i % j)) ta tb) E M (.dt (.int (i % j))) M2 := ee_op ha hb (r2_intC hc fun _ => .int _)
theorem ee_pow (ha : EE K ta E M (.dt (.int i)) M1) (hb : EE K tb E M1 (.dt (.int j)) M2) (hc : CPow i j) : EE K (tOp (rI CPow fun i j => .int (i ^ j.toNat)) ta tb) E M (.dt (.int (i ^ j.toNat))) M2 := ee_op ha hb (r2_intC hc fun _ => .int _)
theorem ee_lt (ha : EE K ta E M (.dt (.int i)) M1) (hb : EE K tb E M1 (.dt (.int j)) M2) : EE K (tOp (rI0 fun i j => .bl (decide (i < j))) ta tb) E M (.dt (.bool (decide (i < j)))) M2 := ee_op ha hb (r2_int fun _ => .bl _)
theorem ee_le (ha : EE K ta E M (.dt (.int i)) M1) (hb : EE K tb E M1 (.dt (.int j)) M2) : EE K (tOp (rI0 fun i j => .bl (decide (i ≤ j))) ta tb) E M (.dt (.bool (decide (i ≤ j)))) M2 := ee_op ha hb (r2_int fun _ => .bl _)
theorem ee_gt (ha : EE K ta E M (.dt (.int i)) M1) (hb : EE K tb E M1 (.dt (.int j)) M2) : EE K (tOp (rI0 fun i j => .bl (decide (j < i))) ta tb) E M (.dt (.bool (decide (j < i)))) M2 := ee_op ha hb (r2_int fun _ => .bl _)
theorem ee_ge (ha : EE K ta E M (.dt (.int i)) M1) (hb : EE K tb E M1 (.dt (.int j)) M2) : EE K (tOp (rI0 fun i j => .bl (decide (j ≤ i))) ta tb) E M (.dt (.bool (decide (j ≤ i)))) M2 := ee_op ha hb (r2_int fun _ => .bl _)
theorem ee_neg (ha : EE K ta E M (.dt (.int i)) M1) : EE K (tUn (rU fun i => .int (-i)) ta) E M (.dt (.int (-i))) M1 := fun B σ G H S Q q =>
  ha B σ G H S _ fun v G1 H1 s1 S1 r1 => by
    cases r1
    exact ⟨i, rfl, q _ G1 H1 s1 S1 (Dr.int _)⟩
end
/-! ### equality of data -/
theorem shaped_int (i : Int) : SeqAt.shaped (.int i) = true := rfl
theorem shaped_bool (i : Bool) : SeqAt.shaped (.bool i) = true := rfl
theorem r2_eqD {d e : PyData} (hd : SeqAt.shaped d = true) (he : SeqAt.shaped e = true) : R2E K (rEqD K) (.dt d) (.dt e) M (.dt (.bool (PyData.eqv d e))) M := fun B E σ G H S v w hv hw Q q =>
  ⟨d, e, (Dr.mono S.sub hv).dp, (Dr.mono S.sub hw).dp, hd, he, q _ G H Same.rfl' S (Dr.bl _)⟩
theorem r2_neD {d e : PyData} (hd : SeqAt.shaped d = true) (he : SeqAt.shaped e = true) : R2E K (rNeD K) (.dt d) (.dt e) M (.dt (.bool (!PyData.eqv d e))) M := fun B E σ G H S v w hv hw Q q =>
  ⟨d, e, (Dr.mono S.sub hv).dp, (Dr.mono S.sub hw).dp, hd, he, q _ G H Same.rfl' S (Dr.bl _)⟩
theorem ee_eqD {d e : PyData} (ha : EE K ta E M (.dt d) M1) (hb : EE K tb E M1 (.dt e) M2) (hd : SeqAt.shaped d = true) (he : SeqAt.shaped e = true) : EE K (tOp (rEqD K) ta tb) E M (.dt (.bool (PyData.eqv d e))) M2 := ee_op ha hb (r2_eqD hd he)
theorem ee_neD {d e : PyData} (ha : EE K ta E M (.dt d) M1) (hb : EE K tb E M1 (.dt e) M2) (hd : SeqAt.shaped d = true) (he : SeqAt.shaped e = true) : EE K (tOp (rNeD K) ta tb) E M (.dt (.bool (!PyData.eqv d e))) M2 := ee_op ha hb (r2_neD hd he)
theorem eqv_int (i j : Int) : PyData.eqv (.int i) (.int j) = decide (i = j) := by
  show (i == j) = _
  by_cases h : i = j <;> simp [h]
theorem ee_eqI {i j : Int} (ha : EE K ta E M (.dt (.int i)) M1) (hb : EE K tb E M1 (.dt (.int j)) M2) : EE K (tOp (rEqD K) ta tb) E M (.dt (.bool (decide (i = j)))) M2 := (ee_eqD ha hb rfl rfl).eq (by rw [eqv_int])
theorem ee_neI {i j : Int} (ha : EE K ta E M (.dt (.int i)) M1) (hb : EE K tb E M1 (.dt (.int j)) M2) : EE K (tOp (rNeD K) ta tb) E M (.dt (.bool (!decide (i = j)))) M2 := (ee_neD ha hb rfl rfl).eq (by rw [eqv_int])
/-! ### tests -/
theorem et_test (h : EE K te E M (.dt (.bool b)) M1) : ET K (tTest te) E M b M1 := fun B σ G H S Q q =>
  h B σ G H S _ fun v G1 H1 s1 S1 r1 => by
    cases r1
    exact ⟨b, rfl, q G1 H1 s1 S1⟩
theorem et_B (h : EE K te E M (.dt (.bool b)) M1) : ET K (tB te) E M b M1 := fun B σ G H S Q q =>
  h B σ G H S _ fun v G1 H1 s1 S1 r1 => by
    cases r1
    exact ⟨b, rfl, q G1 H1 s1 S1⟩
theorem et_not (h : ET K tt E M b M1) : ET K (tNot tt) E M (!b) M1 := fun B σ G H S Q q => h B σ G H S _ fun G1 H1 s1 S1 => q G1 H1 s1 S1
theorem et_and (h : ET K tt E M b M) (h2 : b = true → ET K tu E M c M) : ET K (tAnd tt tu) E M (b && c) M := fun B σ G H S Q q => h B σ G H S _ fun G1 H1 s1 S1 => by
  cases b with
  | true =>
    show tu σ H1 Q
    exact h2 rfl B σ G1 H1 S1 Q fun G2 H2 s2 S2 => q G2 H2 (fun a o e => s2 _ _ (s1 _ _ e)) S2
  | false => exact q G1 H1 s1 S1
theorem et_or (h : ET K tt E M b M) (h2 : b = false → ET K tu E M c M) : ET K (tOr tt tu) E M (b || c) M := fun B σ G H S Q q => h B σ G H S _ fun G1 H1 s1 S1 => by
  cases b with
  | false =>
    show tu σ H1 Q
    exact h2 rfl B σ G1 H1 S1 Q fun G2 H2 s2 S2 => q G2 H2 (fun a o e => s2 _ _ (s1 _ _ e)) S2
  | true => exact q G1 H1 s1 S1
theorem ee_andV (h : EE K ta E M (.dt (.bool b)) M) (h2 : b = true → EE K tb E M (.dt (.bool c)) M) : EE K (tAndV ta tb) E M (.dt (.bool (b && c))) M := fun B σ G H S Q q => h B σ G H S _ fun v G1 H1 s1 S1 r1 => by
  cases r1
  refine ⟨b, rfl, ?_⟩
  cases b with
  | true =>
    show tb σ H1 Q
    exact h2 rfl B σ G1 H1 S1 Q fun v G2 H2 s2 S2 r => q v G2 H2 (fun a o e => s2 _ _ (s1 _ _ e)) S2 r
  | false => exact q _ G1 H1 s1 S1 (Dr.bl _)
theorem ee_orV (h : EE K ta E M (.dt (.bool b)) M) (h2 : b = false → EE K tb E M (.dt (.bool c)) M) : EE K (tOrV ta tb) E M (.dt (.bool (b || c))) M := fun B σ G H S Q q => h B σ G H S _ fun v G1 H1 s1 S1 r1 => by
  cases r1
  refine ⟨b, rfl, ?_⟩
  cases b with
  | false =>
    show tb σ H1 Q
    exact h2 rfl B σ G1 H1 S1 Q fun v G2 H2 s2 S2 r => q v G2 H2 (fun a o e => s2 _ _ (s1 _ _ e)) S2 r
  | true => exact q _ G1 H1 s1 S1 (Dr.bl _)
theorem ee_notV (h : EE K ta E M (.dt (.bool b)) M1) : EE K (tNotV ta) E M (.dt (.bool (!b))) M1 := fun B σ G H S Q q => h B σ G H S _ fun v G1 H1 s1 S1 r1 => by
  cases r1
  exact ⟨b, rfl, q _ G1 H1 s1 S1 (Dr.bl _)⟩
theorem ee_if (h : ET K tt E M b M1) (h1 : b = true → EE K ta E M1 g M2) (h2 : b = false → EE K tb E M1 g M2) : EE K (tIf tt ta tb) E M g M2 := fun B σ G H S Q q => h B σ G H S _ fun G1 H1 s1 S1 => by
  cases b with
  | true =>
    show ta σ H1 Q
    exact h1 rfl B σ G1 H1 S1 Q fun v G2 H2 s2 S2 r => q v G2 H2 (fun a o e => s2 _ _ (s1 _ _ e)) S2 r
  | false =>
    show tb σ H1 Q
    exact h2 rfl B σ G1 H1 S1 Q fun v G2 H2 s2 S2 r => q v G2 H2 (fun a o e => s2 _ _ (s1 _ _ e)) S2 r
theorem ef_if (h : ET K tt E M b M1) (h1 : b = true → EF K ta E M1 xs M2) (h2 : b = false → EF K tb E M1 xs M2) : EF K (tIf tt ta tb) E M xs M2 := fun B σ G H S Q q => h B σ G H S _ fun G1 H1 s1 S1 => by
  cases b with
  | true =>
    show ta σ H1 Q
    exact h1 rfl B σ G1 H1 S1 Q fun p G2 H2 s2 S2 => q p G2 H2 (fun a o e => s2 _ _ (s1 _ _ e)) S2
  | false =>
    show tb σ H1 Q
    exact h2 rfl B σ G1 H1 S1 Q fun p G2 H2 s2 S2 => q p G2 H2 (fun a o e => s2 _ _ (s1 _ _ e)) S2
/-! ### arguments, displays -/
theorem ea_nil : EA K tNil E M [] M := fun B σ G H S Q q => q [] G H Same.rfl' S .nil
theorem ea_cons {tr : TA} {gs : List GV} (h : EE K te E M g M1) (hr : EA K tr E M1 gs M2) : EA K (tCons te tr) E M (g :: gs) M2 := fun B σ G H S Q q =>
  h B σ G H S _ fun v G1 H1 s1 S1 r1 => hr B σ G1 H1 S1 _ fun vs G2 H2 s2 S2 r2 => q (v :: vs) G2 H2 (fun a o e => s2 _ _ (s1 _ _ e)) S2 (.cons (RelG.mono s2 r1) r2)
theorem ef_lst {tr : TA} {gs : List GV} (h : EA K tr E M gs M1) (hl : gs.length ≤ sizeLine) : EF K (tLst tr) E M gs M1 := fun B σ G H S Q q =>
  h B σ G H S _ fun vs G1 H1 s1 S1 r1 => ⟨by rw [r1.length]; exact hl, fun p hp => q p G1 _ s1 (S1.own hp r1)⟩
theorem eu_tup {tr : TA} {gs : List GV} (h : EA K tr E M gs M1) (hl : gs.length ≤ sizeLine) : EU K (tTup tr) E M gs M1 := fun B σ G H S Q q =>
  h B σ G H S _ fun vs G1 H1 s1 S1 r1 => ⟨by rw [r1.length]; exact hl, fun p hp => q p G1 _ s1 (S1.own hp r1)⟩
theorem ee_tup {tr : TA} {ds : List PyData} (h : EA K tr E M (ds.map .dt) M1) (hl : ds.length ≤ sizeLine) : EE K (tTup tr) E M (.dt (.tuple ds)) M1 := fun B σ G H S Q q =>
  h B σ G H S _ fun vs G1 H1 s1 S1 r1 => ⟨by rw [r1.length, List.length_map]; exact hl, fun p hp => by
    have hg := S1.gfree hp
    exact q (.ref p) _ _ (fun a o e => same_upd hg _ _ (s1 _ _ e)) (S1.share hp) (.tup upd_same (DrAll.mono (same_upd hg) r1.data))⟩
theorem ee_tup2 {d e : PyData} (h : EE K ta E M (.dt d) M1) (h2 : EE K tb E M1 (.dt e) M2) : EE K (tTup (tCons ta (tCons tb tNil))) E M (.dt (.tuple [d, e])) M2 := ee_tup (ds := [d, e]) (ea_cons h (ea_cons h2 ea_nil)) (by show 2 ≤ sizeLine; decide)
theorem ee_tup1 {d : PyData} (h : EE K ta E M (.dt d) M1) : EE K (tTup (tCons ta tNil)) E M (.dt (.tuple [d])) M1 := ee_tup (ds := [d]) (ea_cons h ea_nil) (by show 1 ≤ sizeLine; decide)
theorem ee_tup3 {d e f : PyData} (h : EE K ta E M (.dt d) M1) (h2 : EE K tb E M1 (.dt e) M2) (h3 : EE K tc E M2 (.dt f) M3) : EE K (tTup (tCons ta (tCons tb (tCons tc tNil)))) E M (.dt (.tuple [d, e, f])) M3 := ee_tup (ds := [d, e, f]) (ea_cons h (ea_cons h2 (ea_cons h3 ea_nil))) (by show 3 ≤ sizeLine; decide)
/-! ### items -/
theorem atI_map {α β : Type} (f : α → β) {xs : List α} {i : Int} {x : α} (h : atI xs i = some x) : atI (xs.map f) i = some (f x) := by
  unfold atI at h ⊢
  rw [List.length_map]
  cases e : ixN xs.length i with
  | none => rw [e] at h; cases h
  | some j =>
    rw [e] at h
    show (xs.map f)[j]? = _
    rw [List.getElem?_map]
    have h' : xs[j]? = some x := h
    rw [h'] <;> rfl
theorem DrAll.atI {G : Hp} {vs : List V} {ds : List PyData} {i : Int} {d : PyData} (h : DrAll G vs ds) (e : L2.atI ds i = some d) : ∃ v, L2.atI vs i = some v ∧ Dr G v d := by
  unfold L2.atI at e ⊢
  rw [h.length]
  cases e1 : ixN ds.length i with
  | none => rw [e1] at e; cases e
  | some j =>
    rw [e1] at e
    exact h.get' e
theorem RelGs.atI {G : Hp} {vs : List V} {gs : List GV} {i : Int} {g : GV} (h : RelGs K G vs gs) (e : L2.atI gs i = some g) : ∃ v, L2.atI vs i = some v ∧ RelG K G v g := by
  unfold L2.atI at e ⊢
  rw [RelGs.length h]
  cases e1 : ixN gs.length i with
  | none => rw [e1] at e; cases e
  | some j =>
    rw [e1] at e
    exact RelGs.get' h e
theorem ee_ixL {ds : List PyData} {i : Int} {d : PyData} (ha : EE K ta E M (.dt (.list ds)) M1) (hb : EE K tb E M1 (.dt (.int i)) M2) (h : atI ds i = some d) : EE K (tOp (rIxL K) ta tb) E M (.dt d) M2 :=
  ee_op ha hb fun B E σ G H S v w hv hw Q q => by
    cases hv with
    | lst e a =>
      cases hw
      obtain ⟨u, h1, h2⟩ := a.atI h
      exact ⟨_, _, i, u, rfl, rfl, .of (S.sub _ _ e), h1, q u G H Same.rfl' S h2⟩
theorem ee_ixT {ds : List PyData} {i : Int} {d : PyData} (ha : EE K ta E M (.dt (.tuple ds)) M1) (hb : EE K tb E M1 (.dt (.int i)) M2) (h : atI ds i = some d) : EE K (tOp (rIxT K) ta tb) E M (.dt d) M2 :=
  ee_op ha hb fun B E σ G H S v w hv hw Q q => by
    cases hv with
    | tup e a =>
      cases hw
      obtain ⟨u, h1, h2⟩ := a.atI h
      exact ⟨_, _, i, u, rfl, rfl, .of (S.sub _ _ e), h1, q u G H Same.rfl' S h2⟩
/-- an item of the script -/
theorem ee_ixS {ns : List Int} {i k : Int} (ha : EE K ta E M (.sc ns) M1) (hb : EE K tb E M1 (.dt (.int i)) M2) (h : atI ns i = some k) : EE K (tOp (rIxL K) ta tb) E M (.dt (.int k)) M2 :=
  ee_op ha hb fun B E σ G H S v w hv hw Q q => by
    obtain ⟨a, rfl, hs⟩ := hv
    cases hw
    exact ⟨a, _, i, _, rfl, rfl, S.sub.seq hs, atI_map V.int h, q _ G H Same.rfl' S (Dr.int _)⟩
/-- an item of one's own list, tuple -/
theorem ee_ixO {p : Addr} {i : Int} {fl : Bool} (ha : EE K ta E M (.rf p) M1) (hb : EE K tb E M1 (.dt (.int i)) M2) (hm : (p, fl, GO.lst xs) ∈ M2) (h : atI xs i = some g) : EE K (tOp (rIxL K) ta tb) E M g M2 :=
  ee_op ha hb fun B E σ G H S v w hv hw Q q => by
    have hv' : v = .ref p := hv
    subst hv'
    cases hw
    obtain ⟨_, ⟨o, h1, h2⟩, _⟩ := S.cells.at_ _ hm
    obtain ⟨vs, rfl, r⟩ := RelO.lst_inv h2
    obtain ⟨u, k1, k2⟩ := RelGs.atI r h
    exact ⟨p, vs, i, u, rfl, rfl, .of h1, k1, q u G H Same.rfl' S k2⟩
theorem ee_ixOT {p : Addr} {i : Int} {fl : Bool} (ha : EE K ta E M (.rf p) M1) (hb : EE K tb E M1 (.dt (.int i)) M2) (hm : (p, fl, GO.tup xs) ∈ M2) (h : atI xs i = some g) : EE K (tOp (rIxT K) ta tb) E M g M2 :=
  ee_op ha hb fun B E σ G H S v w hv hw Q q => by
    have hv' : v = .ref p := hv
    subst hv'
    cases hw
    obtain ⟨_, ⟨o, h1, h2⟩, _⟩ := S.cells.at_ _ hm
    obtain ⟨vs, rfl, r⟩ := RelO.tup_inv h2
    obtain ⟨u, k1, k2⟩ := RelGs.atI r h
    exact ⟨p, vs, i, u, rfl, rfl, .of h1, k1, q u G H Same.rfl' S k2⟩
/-! ### built-ins by name -/
theorem ee_cb {r : TR} {tr : TA} {gs : List GV} (h : EA K tr E M gs M1) (hr : RCE K r gs M1 g M2) : EE K (tCB r tr) E M g M2 := fun B σ G H S Q q =>
  h B σ G H S _ fun vs G1 H1 s1 S1 r1 => hr B E σ G1 H1 S1 vs r1 Q fun u G3 H3 s3 S3 r3 => q u G3 H3 (fun a o e => s3 _ _ (s1 _ _ e)) S3 r3
theorem ef_cb {r : TR} {tr : TA} {gs : List GV} (h : EA K tr E M gs M1) (hr : RCF K r gs M1 xs M2) : EF K (tCB r tr) E M xs M2 := fun B σ G H S Q q =>
  h B σ G H S _ fun vs G1 H1 s1 S1 r1 => hr B E σ G1 H1 S1 vs r1 Q fun u G3 H3 s3 S3 => q u G3 H3 (fun a o e => s3 _ _ (s1 _ _ e)) S3
theorem one_inv {G : Hp} {vs : List V} {g : GV} (h : RelGs K G vs [g]) : ∃ v, vs = [v] ∧ RelG K G v g := by
  cases h with
  | cons a t => cases t; exact ⟨_, rfl, a⟩
theorem two_inv {G : Hp} {vs : List V} {g g' : GV} (h : RelGs K G vs [g, g']) : ∃ v w, vs = [v, w] ∧ RelG K G v g ∧ RelG K G w g' := by
  cases h with
  | cons a t =>
    obtain ⟨w, rfl, b⟩ := one_inv t
    exact ⟨_, _, rfl, a, b⟩
def rAbs : TR := fun xs H Q => ∃ i, xs = [.int i] ∧ Q (.int (if i < 0 then -i else i)) H
theorem ee_abs {i : Int} (h : EE K te E M (.dt (.int i)) M1) : EE K (tCB (fun xs H Q => ∃ i, xs = [.int i] ∧ Q (.int (if i < 0 then -i else i)) H) (tCons te tNil)) E M (.dt (.int (i.natAbs : Int))) M1 :=
  ee_cb (ea_cons h ea_nil) fun B E σ G H S vs r Q q => by
    obtain ⟨v, rfl, hv⟩ := one_inv r
    cases hv
    refine ⟨i, rfl, ?_⟩
    have e : (if i < 0 then -i else i) = (i.natAbs : Int) := by split <;> omega
    rw [e]
    exact q _ G H Same.rfl' S (Dr.int _)
theorem ee_max2 {i j : Int} (h : EE K ta E M (.dt (.int i)) M1) (h2 : EE K tb E M1 (.dt (.int j)) M2) : EE K (tCB (fun xs H Q => ∃ i j, xs = [.int i, .int j] ∧ Q (.int (if j > i then j else i)) H) (tCons ta (tCons tb tNil))) E M (.dt (.int (max i j))) M2 :=
  ee_cb (ea_cons h (ea_cons h2 ea_nil)) fun B E σ G H S vs r Q q => by
    obtain ⟨v, w, rfl, hv, hw⟩ := two_inv r
    cases hv; cases hw
    refine ⟨i, j, rfl, ?_⟩
    have e : (if j > i then j else i) = max i j := by split <;> omega
    rw [e]
    exact q _ G H Same.rfl' S (Dr.int _)
theorem ee_min2 {i j : Int} (h : EE K ta E M (.dt (.int i)) M1) (h2 : EE K tb E M1 (.dt (.int j)) M2) : EE K (tCB (fun xs H Q => ∃ i j, xs = [.int i, .int j] ∧ Q (.int (if j < i then j else i)) H) (tCons ta (tCons tb tNil))) E M (.dt (.int (min i j))) M2 :=
  ee_cb (ea_cons h (ea_cons h2 ea_nil)) fun B E σ G H S vs r Q q => by
    obtain ⟨v, w, rfl, hv, hw⟩ := two_inv r
    cases hv; cases hw
    refine ⟨i, j, rfl, ?_⟩
    have e : (if j < i then j else i) = min i j := by split <;> omega
    rw [e]
    exact q _ G H Same.rfl' S (Dr.int _)
def rLenQ (K : PySem.W.Frag) : TR := fun xs H Q => ∃ p ys, xs = [.ref p] ∧ (SqL K H p ys ∨ SqT K H p ys) ∧ Q (.int ys.length) H
theorem ee_lenL {ds : List PyData} (h : EE K te E M (.dt (.list ds)) M1) : EE K (tCB (rLenQ K) (tCons te tNil)) E M (.dt (.int (ds.length : Int))) M1 :=
  ee_cb (ea_cons h ea_nil) fun B E σ G H S vs r Q q => by
    obtain ⟨v, rfl, hv⟩ := one_inv r
    cases hv with
    | lst e a => exact ⟨_, _, rfl, .inl (.of (S.sub _ _ e)), by rw [a.length]; exact q _ G H Same.rfl' S (Dr.int _)⟩
theorem ee_lenT {ds : List PyData} (h : EE K te E M (.dt (.tuple ds)) M1) : EE K (tCB (rLenQ K) (tCons te tNil)) E M (.dt (.int (ds.length : Int))) M1 :=
  ee_cb (ea_cons h ea_nil) fun B E σ G H S vs r Q q => by
    obtain ⟨v, rfl, hv⟩ := one_inv r
    cases hv with
    | tup e a => exact ⟨_, _, rfl, .inr (.of (S.sub _ _ e)), by rw [a.length]; exact q _ G H Same.rfl' S (Dr.int _)⟩
theorem ee_lenS {ns : List Int} (h : EE K te E M (.sc ns) M1) : EE K (tCB (rLenQ K) (tCons te tNil)) E M (.dt (.int (ns.length : Int))) M1 :=
  ee_cb (ea_cons h ea_nil) fun B E σ G H S vs r Q q => by
    obtain ⟨v, rfl, hv⟩ := one_inv r
    obtain ⟨a, rfl, hs⟩ := hv
    exact ⟨_, _, rfl, .inl (S.sub.seq hs), by rw [List.length_map]; exact q _ G H Same.rfl' S (Dr.int _)⟩
theorem ee_lenO {p : Addr} {fl : Bool} (h : EE K te E M (.rf p) M1) (hm : (p, fl, GO.lst xs) ∈ M1) : EE K (tCB (rLenQ K) (tCons te tNil)) E M (.dt (.int (xs.length : Int))) M1 :=
  ee_cb (ea_cons h ea_nil) fun B E σ G H S vs r Q q => by
    obtain ⟨v, rfl, hv⟩ := one_inv r
    have hv' : v = .ref p := hv
    subst hv'
    obtain ⟨_, ⟨o, h1, h2⟩, _⟩ := S.cells.at_ _ hm
    obtain ⟨ws, rfl, r⟩ := RelO.lst_inv h2
    exact ⟨p, ws, rfl, .inl (.of h1), by rw [RelGs.length r]; exact q _ G H Same.rfl' S (Dr.int _)⟩
/-- isinstance(x, T), x data -/
def tyD : PyData → String
  | .none => "NoneType" | .bool _ => "bool" | .int _ => "int" | .str _ => "str" | .list _ => "list" | .tuple _ => "tuple" | .dict _ => "dict"
theorem ty_data {G H : Hp} (e : Same G H) : ∀ {v : V} {d : PyData}, Dr G v d → TyX K H v (.type (tyD d))
  | _, _, .non => .base .non
  | _, _, .bl b => .base (.bl b)
  | _, _, .int b => .base (.int b)
  | _, _, .str b => .base (.str b)
  | _, _, .lst h _ => .base (.lst (e _ _ h))
  | _, _, .tup h _ => .base (.tup (e _ _ h))
theorem ee_isi {d : PyData} {n : String} (ha : EE K ta E M (.dt d) M1) (hb : EE K tb E M1 (.ty n) M2) (hk : kitB (tyD d) n = some b) :
    EE K (tCB (rIsi K) (tCons ta (tCons tb tNil))) E M (.dt (.bool b)) M2 :=
  ee_cb (ea_cons ha (ea_cons hb ea_nil)) fun B E σ G H S vs r Q q => by
    obtain ⟨v, w, rfl, hv, hw⟩ := two_inv r
    have hw' : w = .ty n := hw
    subst hw'
    exact ⟨v, .ty n, _, _, b, rfl, .ty n, ty_data S.sub hv, kit_ty hk, q _ G H Same.rfl' S (Dr.bl _)⟩

/-! ### blocks -/
structure Kn where
  nx : GE → GM → Prop
  rt : GV → GM → Prop
  bk : GE → GM → Prop
  ct : GE → GM → Prop
def Blk (K : PySem.W.Frag) (t : TS) (E : GE) (M : GM) (P : Kn) : Prop :=
  ∀ B σ G H (D : Ends), SR K B E M σ G H →
    (∀ E' M' σ' G' H', P.nx E' M' → Same G G' → SR K B E' M' σ' G' H' → D.nx σ' H') →
    (∀ g M' v G' H', P.rt g M' → Same G G' → SR K B [] M' [] G' H' → RelG K G' v g → D.rt v H') →
    (∀ E' M' σ' G' H', P.bk E' M' → Same G G' → SR K B E' M' σ' G' H' → D.bk σ' H') →
    (∀ E' M' σ' G' H', P.ct E' M' → Same G G' → SR K B E' M' σ' G' H' → D.ct σ' H') → t D σ H
variable {P : Kn} {t u : TS}
theorem SR.bare {B : Bs} {σ : St} {G H : Hp} (S : SR K B E M σ G H) : SR K B [] M [] G H := S.slots rfl (fun i g e => by simp at e)
theorem blk_next (h : P.nx E M) : Blk K tNext E M P := fun B σ G H D S n _ _ _ => n E M σ G H h Same.rfl' S
/-- what follows from a later state follows from here -/
theorem Blk.from_ {B : Bs} {σ : St} {G G0 H : Hp} {D : Ends} (h : Blk K t E M P) (s : Same G0 G) (S : SR K B E M σ G H)
    (n : ∀ E' M' σ' G' H', P.nx E' M' → Same G0 G' → SR K B E' M' σ' G' H' → D.nx σ' H')
    (r : ∀ g M' v G' H', P.rt g M' → Same G0 G' → SR K B [] M' [] G' H' → RelG K G' v g → D.rt v H')
    (b : ∀ E' M' σ' G' H', P.bk E' M' → Same G0 G' → SR K B E' M' σ' G' H' → D.bk σ' H')
    (c : ∀ E' M' σ' G' H', P.ct E' M' → Same G0 G' → SR K B E' M' σ' G' H' → D.ct σ' H') : t D σ H :=
  h B σ G H D S (fun E' M' σ' G' H' q e S' => n E' M' σ' G' H' q (s.trans e) S') (fun g M' v G' H' q e S' rr => r g M' v G' H' q (s.trans e) S' rr) (fun E' M' σ' G' H' q e S' => b E' M' σ' G' H' q (s.trans e) S') (fun E' M' σ' G' H' q e S' => c E' M' σ' G' H' q (s.trans e) S')
theorem blk_seq (h : Blk K t E M { P with nx := fun E' M' => Blk K u E' M' P }) : Blk K (tSeq t u) E M P := fun B σ G H D S n r b c =>
  h B σ G H { D with nx := u D } S (fun E' M' σ' G' H' q e S' => Blk.from_ (D := D) q e S' n r b c) r b c
theorem blk_mid {Mid : GE → GM → Prop} (h : Blk K t E M { P with nx := Mid }) (k : ∀ E' M', Mid E' M' → Blk K u E' M' P) : Blk K (tSeq t u) E M P := fun B σ G H D S n r b c =>
  h B σ G H { D with nx := u D } S (fun E' M' σ' G' H' q e S' => Blk.from_ (D := D) (k E' M' q) e S' n r b c) r b c
theorem Blk.imp {P' : Kn} (h : Blk K t E M P) (hn : ∀ E' M', P.nx E' M' → P'.nx E' M') (hr : ∀ g M', P.rt g M' → P'.rt g M') (hb : ∀ E' M', P.bk E' M' → P'.bk E' M') (hc : ∀ E' M', P.ct E' M' → P'.ct E' M') : Blk K t E M P' := fun B σ G H D S n r b c =>
  h B σ G H D S (fun E' M' σ' G' H' q => n E' M' σ' G' H' (hn _ _ q)) (fun g M' v G' H' q => r g M' v G' H' (hr _ _ q)) (fun E' M' σ' G' H' q => b E' M' σ' G' H' (hb _ _ q)) (fun E' M' σ' G' H' q => c E' M' σ' G' H' (hc _ _ q))
/-- what is known is weakened -/
theorem blk_weak {E' : GE} (h : Blk K t E' M P) (hl : E'.length = E.length) (hw : ∀ (i : Nat) g, E'[i]? = some (some g) → E[i]? = some (some g)) : Blk K t E M P := fun B σ G H D S => h B σ G H D (S.weak hl hw)
theorem blk_forget {M' : GM} (h : Blk K t E M' P) (hs : M'.Sublist M) : Blk K t E M P := fun B σ G H D S => h B σ G H D (S.sub_cells hs)
theorem blk_freeze {j i : Nat} {p : Addr} {ds : List PyData} (hj : M[j]? = some (p, true, .lst (ds.map .dt))) (hi : E[i]? = some (some (.rf p))) (h : Blk K t (E.set i (some (.dt (.list ds)))) (M.eraseIdx j) P) : Blk K t E M P := fun B σ G H D S n r b c => by
  obtain ⟨G', s, S', d⟩ := S.freeze hj
  refine Blk.from_ h s ⟨S'.sub, by rw [List.length_set]; exact S'.len, fun k g e => ?_, S'.cells, S'.fr⟩ n r b c
  by_cases hk : i = k
  · subst hk
    have hl : i < E.length := (List.getElem?_eq_some_iff.mp hi).1
    rw [List.getElem?_set_self hl] at e
    cases e
    obtain ⟨v, h1, h2⟩ := S'.slot i _ hi
    have h2' : v = .ref p := h2
    subst h2'
    exact ⟨_, h1, d⟩
  · rw [List.getElem?_set_ne hk] at e
    exact S'.slot k g e
theorem blk_asg {i : Nat} (h : EE K te E M g M1) (k : P.nx (E.set i (some g)) M1) : Blk K (tAsg te (gName i)) E M P := fun B σ G H D S n _ _ _ =>
  h B σ G H S _ fun v G1 H1 s1 S1 r1 => n _ _ _ G1 _ k s1 (S1.set r1)
theorem blk_asgF {i : Nat} (h : EF K te E M xs M1) (k : ∀ p, P.nx (E.set i (some (.rf p))) ((p, true, .lst xs) :: M1)) : Blk K (tAsg te (gName i)) E M P := fun B σ G H D S n _ _ _ =>
  h B σ G H S _ fun p G1 H1 s1 S1 => n _ _ _ G1 _ (k p) s1 (S1.set (g := .rf p) rfl)
theorem blk_asgU {i : Nat} (h : EU K te E M xs M1) (k : ∀ p, P.nx (E.set i (some (.rf p))) ((p, true, .tup xs) :: M1)) : Blk K (tAsg te (gName i)) E M P := fun B σ G H D S n _ _ _ =>
  h B σ G H S _ fun p G1 H1 s1 S1 => n _ _ _ G1 _ (k p) s1 (S1.set (g := .rf p) rfl)
/-- x = e, then the rest -/
theorem bs_asg {i : Nat} {E' : GE} (h : EE K te E M g M1) (k : Blk K t E' M1 P) (e : E.set i (some g) = E' := by rfl) : Blk K (tSeq (tAsg te (gName i)) t) E M P := blk_seq (blk_asg h (by rw [e]; exact k))
theorem bs_asgF {i : Nat} {E' : Addr → GE} (h : EF K te E M xs M1) (k : ∀ p, Blk K t (E' p) ((p, true, .lst xs) :: M1) P) (e : ∀ p, E.set i (some (.rf p)) = E' p := by intro _; rfl) : Blk K (tSeq (tAsg te (gName i)) t) E M P :=
  blk_seq (blk_asgF h (fun p => by rw [e p]; exact k p))
theorem blk_if (h : ET K tt E M b M1) (h1 : b = true → Blk K t E M1 P) (h2 : b = false → Blk K u E M1 P) : Blk K (tIfS tt t u) E M P := fun B σ G H D S n r bb c =>
  h B σ G H S _ fun G1 H1 s1 S1 => by
    cases b with
    | true =>
      show t D σ H1
      exact Blk.from_ (h1 rfl) s1 S1 n r bb c
    | false =>
      show u D σ H1
      exact Blk.from_ (h2 rfl) s1 S1 n r bb c
/-- an if without else, then the rest -/
theorem bs_when {tr : TS} (h : ET K tt E M b M1) (h1 : b = true → Blk K t E M1 { P with nx := fun E' M' => Blk K tr E' M' P }) (h2 : b = false → Blk K tr E M1 P) : Blk K (tSeq (tIfS tt t tNext) tr) E M P :=
  blk_seq (blk_if h h1 fun hb => blk_next (h2 hb))
theorem blk_when (h : ET K tt E M b M1) (h1 : b = true → Blk K t E M1 P) (h2 : b = false → P.nx E M1) : Blk K (tIfS tt t tNext) E M P := blk_if h h1 fun hb => blk_next (h2 hb)
theorem blk_ret (h : EE K te E M g M1) (k : P.rt g M1) : Blk K (tRet te) E M P := fun B σ G H D S _ r _ _ => h B σ G H S _ fun v G1 H1 s1 S1 r1 => r g M1 v G1 H1 k s1 S1.bare r1
theorem blk_retF (h : EF K te E M xs M1) (k : ∀ p, P.rt (.rf p) ((p, true, .lst xs) :: M1)) : Blk K (tRet te) E M P := fun B σ G H D S _ r _ _ => h B σ G H S _ fun p G1 H1 s1 S1 => r _ _ _ G1 H1 (k p) s1 S1.bare rfl
theorem blk_retN (k : P.rt (.dt .none) M) : Blk K tRetN E M P := fun B σ G H D S _ r _ _ => r _ _ _ G H k Same.rfl' S.bare Dr.non
theorem blk_brk (k : P.bk E M) : Blk K tBreak E M P := fun B σ G H D S _ _ b _ => b E M σ G H k Same.rfl' S
theorem blk_cont (k : P.ct E M) : Blk K tCont E M P := fun B σ G H D S _ _ _ c => c E M σ G H k Same.rfl' S
theorem blk_drop (h : EE K te E M g M1) (k : P.nx E M1) : Blk K (tDrop te) E M P := fun B σ G H D S n _ _ _ => h B σ G H S _ fun v G1 H1 s1 S1 r1 => n _ _ _ G1 _ k s1 S1
theorem bs_drop (h : EE K te E M g M1) (k : Blk K t E M1 P) : Blk K (tSeq (tDrop te) t) E M P := blk_seq (blk_drop h k)
/-- a, b = e, e2 -/
theorem blk_par {i j : Nat} {ta : TA} {g g' : GV} (h : EA K ta E M [g, g'] M1) (k : P.nx ((E.set i (some g)).set j (some g')) M1) : Blk K (tPar i j ta) E M P := fun B σ G H D S n _ _ _ =>
  h B σ G H S _ fun vs G1 H1 s1 S1 r1 => by
    obtain ⟨v, w, rfl, h1, h2⟩ := two_inv r1
    exact ⟨v, w, rfl, n _ _ _ G1 _ k s1 ((S1.set h1).set h2)⟩
/-- x op= e, x an int -/
theorem blk_aug {i : Nat} {f : Int → Int → Int} {a c : Int} (hx : E[i]? = some (some (.dt (.int a)))) (h : EE K te E M (.dt (.int c)) M1) (k : P.nx (E.set i (some (.dt (.int (f a c))))) M1) : Blk K (tAug i te (ipI f)) E M P := fun B σ G H D S n _ _ _ => by
  obtain ⟨v, h1, h2⟩ := S.slot i _ hx
  cases h2
  refine ⟨_, h1, h B σ G H S _ fun w G1 H1 s1 S1 r1 => ?_⟩
  cases r1
  exact ⟨a, c, rfl, rfl, n _ _ _ G1 _ k s1 (S1.set (g := .dt (.int (f a c))) (Dr.int _))⟩
/-- xs.append(e), xs one's own -/
theorem blk_app {j : Nat} {p : Addr} {fl : Bool} (ho : EE K ta E M (.rf p) M) (h : EE K te E M g M1) (hm : M[j]? = some (p, fl, .lst xs)) (hm1 : M1[j]? = some (p, fl, .lst xs)) (hz : xs.length < sizeLine) (k : P.nx E (M1.set j (p, fl, .lst (xs ++ [g])))) :
    Blk K (tDrop (tBM K "list" rAppend ta (tCons te tNil))) E M P := fun B σ G H D S n _ _ _ =>
  ho B σ G H S _ fun v G1 H1 s1 S1 r1 => by
    have r1' : v = .ref p := r1
    subst r1'
    obtain ⟨_, ⟨o, k1, k2⟩, _⟩ := S1.cells.at_ _ (List.mem_of_getElem? hm)
    obtain ⟨vs, rfl, r⟩ := RelO.lst_inv k2
    refine ⟨.inl ⟨rfl, _, .of k1⟩, h B σ G1 H1 S1 _ fun w G2 H2 s2 S2 r2 => ?_⟩
    obtain ⟨_, ⟨o, k1, k2⟩, _⟩ := S2.cells.at_ _ (List.mem_of_getElem? hm1)
    obtain ⟨vs, rfl, r⟩ := RelO.lst_inv k2
    exact ⟨p, vs, w, rfl, rfl, k1, by rw [RelGs.length r]; exact hz, n _ _ _ G2 _ k (s1.trans s2) (S2.write (g := .lst (xs ++ [g])) hm1 (RelGs.app r (.cons r2 .nil)))⟩
/-- xs[i] = e, xs one's own -/
theorem blk_setL {j : Nat} {p : Addr} {fl : Bool} {i : Int} {n0 : Nat} (h : EE K te E M g M1) (ho : EE K ta E M1 (.rf p) M1) (hi : EE K tb E M1 (.dt (.int i)) M2) (hm : M2[j]? = some (p, fl, .lst xs)) (hn : ixN xs.length i = some n0) (k : P.nx E (M2.set j (p, fl, .lst (xs.set n0 g)))) :
    Blk K (tAsg te (gSub ta tb rSetL)) E M P := fun B σ G H D S n _ _ _ =>
  h B σ G H S _ fun v G1 H1 s1 S1 r1 => ho B σ G1 H1 S1 _ fun w G2 H2 s2 S2 r2 => hi B σ G2 H2 S2 _ fun x G3 H3 s3 S3 r3 => by
    have r2' : w = .ref p := r2
    subst r2'
    cases r3
    obtain ⟨_, ⟨o, k1, k2⟩, _⟩ := S3.cells.at_ _ (List.mem_of_getElem? hm)
    obtain ⟨vs, rfl, r⟩ := RelO.lst_inv k2
    exact ⟨p, vs, i, n0, rfl, rfl, k1, by rw [RelGs.length r]; exact hn, n _ _ _ G3 _ k (s1.trans (s2.trans s3)) (S3.write (g := .lst (xs.set n0 g)) hm (RelGs.set r (RelG.mono s3 (RelG.mono s2 r1))))⟩
/-! ### loops -/
/-- the body of a turn, from a state behind the loop's start -/
abbrev turnK (P : Kn) (N : GE → GM → Prop) : Kn := { nx := N, ct := N, bk := P.nx, rt := P.rt }
/-- for x in xs, xs data -/
theorem blk_forL {j : Nat} {ds : List PyData} {tl : TE} (h : EE K tl E M (.dt (.list ds)) M1) (Iv : Nat → GE → GM → Prop) (h0 : Iv 0 E M1)
    (hs : ∀ i d E1 N1, ds[i]? = some d → Iv i E1 N1 → Blk K t (E1.set j (some (.dt d))) N1 (turnK P (Iv (i + 1)))) (hd : ∀ E1 N1, Iv ds.length E1 N1 → P.nx E1 N1) :
    Blk K (tFor (iList K tl) (gName j) t) E M P := fun B σ G H D S n r bb c =>
  h B σ G H S _ fun v G1 H1 s1 S1 r1 => by
    cases r1 with
    | lst e a =>
      rename_i ad vs
      refine ⟨ad, rfl, ⟨vs, .of (S1.sub _ _ e)⟩, for_list (xs := vs) (fun i σ' H' => ∃ E1 N1 G2, Iv i E1 N1 ∧ SR K B E1 N1 σ' G2 H' ∧ Same G1 G2) ⟨E, M1, G1, h0, S1, Same.rfl'⟩ (fun i σ' H' _ ⟨E1, N1, G2, q1, S2, s2⟩ => .of (S2.sub _ _ (s2 _ _ e)))
        (fun i x σ' H' hx ⟨E1, N1, G2, q1, S2, s2⟩ => ?_) (fun σ' H' ⟨E1, N1, G2, q1, S2, s2⟩ => n E1 N1 σ' G2 H' (hd _ _ (by rw [← a.length]; exact q1)) (s1.trans s2) S2)⟩
      obtain ⟨d, hdi, rd⟩ := a.get hx
      have rd' : RelG K G2 x (.dt d) := Dr.mono s2 rd
      exact Blk.from_ (G0 := G1) (hs i d E1 N1 hdi q1) s2 (S2.set (i := j) rd') (fun E' M' σ3 G3 H3 q e3 S3 => ⟨E', M', G3, q, S3, e3⟩) (fun g M' v G3 H3 q e3 S3 rr => r g M' v G3 H3 q (s1.trans e3) S3 rr) (fun E' M' σ3 G3 H3 q e3 S3 => n E' M' σ3 G3 H3 q (s1.trans e3) S3) (fun E' M' σ3 G3 H3 q e3 S3 => ⟨E', M', G3, q, S3, e3⟩)
/-- for a, b in xs, xs data: pairs -/
theorem blk_forL2 {j1 j2 : Nat} {ds : List PyData} {tl : TE} (f : Nat → PyData × PyData) (h : EE K tl E M (.dt (.list ds)) M1) (Iv : Nat → GE → GM → Prop) (h0 : Iv 0 E M1) (hf : ∀ (i : Nat) (d : PyData), ds[i]? = some d → d = PyData.tuple [(f i).1, (f i).2])
    (hs : ∀ i E1 N1, i < ds.length → Iv i E1 N1 → Blk K t ((E1.set j1 (some (.dt (f i).1))).set j2 (some (.dt (f i).2))) N1 (turnK P (Iv (i + 1)))) (hd : ∀ E1 N1, Iv ds.length E1 N1 → P.nx E1 N1) :
    Blk K (tFor (iList K tl) (gTup K 2 (gCons (gName j1) (gCons (gName j2) gNil))) t) E M P := fun B σ G H D S n r bb c =>
  h B σ G H S _ fun v G1 H1 s1 S1 r1 => by
    cases r1 with
    | lst e a =>
      rename_i ad vs
      refine ⟨ad, rfl, ⟨vs, .of (S1.sub _ _ e)⟩, for_list (xs := vs) (fun i σ' H' => ∃ E1 N1 G2, Iv i E1 N1 ∧ SR K B E1 N1 σ' G2 H' ∧ Same G1 G2) ⟨E, M1, G1, h0, S1, Same.rfl'⟩ (fun i σ' H' _ ⟨E1, N1, G2, q1, S2, s2⟩ => .of (S2.sub _ _ (s2 _ _ e)))
        (fun i x σ' H' hx ⟨E1, N1, G2, q1, S2, s2⟩ => ?_) (fun σ' H' ⟨E1, N1, G2, q1, S2, s2⟩ => n E1 N1 σ' G2 H' (hd _ _ (by rw [← a.length]; exact q1)) (s1.trans s2) S2)⟩
      obtain ⟨d, hdi, rd⟩ := a.get hx
      have hdl : i < ds.length := (List.getElem?_eq_some_iff.mp hdi).1
      have hd2 := hf i d hdi
      subst hd2
      cases Dr.mono s2 rd with
      | tup et at_ =>
        cases at_ with
        | cons d1 t1 =>
          cases t1 with
          | cons d2 t2 =>
            cases t2
            refine ⟨_, _, rfl, .of (S2.sub _ _ et), rfl, _, _, rfl, _, _, rfl, rfl, ?_⟩
            exact Blk.from_ (G0 := G1) (hs i E1 N1 hdl q1) s2 ((S2.set (i := j1) (g := .dt (f i).1) d1).set (i := j2) (g := .dt (f i).2) d2) (fun E' M' σ3 G3 H3 q e3 S3 => ⟨E', M', G3, q, S3, e3⟩) (fun g M' v G3 H3 q e3 S3 rr => r g M' v G3 H3 q (s1.trans e3) S3 rr) (fun E' M' σ3 G3 H3 q e3 S3 => n E' M' σ3 G3 H3 q (s1.trans e3) S3) (fun E' M' σ3 G3 H3 q e3 S3 => ⟨E', M', G3, q, S3, e3⟩)
/-- for k in range(n) -/
theorem blk_forR1 {j : Nat} {m : Int} {tr : TA} (h : EA K tr E M [.dt (.int m)] M1) (hm : -(2 ^ 62) ≤ m ∧ m < 2 ^ 62) (Iv : Nat → GE → GM → Prop) (h0 : Iv 0 E M1)
    (hs : ∀ (i : Nat) E1 N1, (i : Int) < m → Iv i E1 N1 → Blk K t (E1.set j (some (.dt (.int (i : Int))))) N1 (turnK P (Iv (i + 1)))) (hd : ∀ E1 N1, Iv m.toNat E1 N1 → P.nx E1 N1) :
    Blk K (tFor (iRng1 tr) (gName j) t) E M P := fun B σ G H D S n r bb c =>
  h B σ G H S _ fun vs G1 H1 s1 S1 r1 => by
    obtain ⟨v, rfl, hv⟩ := one_inv r1
    cases hv
    refine ⟨m, rfl, hm.1, hm.2, for_range (lo := 0) (n := m.toNat) (fun i σ' H' => ∃ E1 N1 G2, Iv i E1 N1 ∧ SR K B E1 N1 σ' G2 H' ∧ Same G1 G2) ⟨E, M1, G1, h0, S1, Same.rfl'⟩
      (fun i σ' H' hi ⟨E1, N1, G2, q1, S2, s2⟩ => ?_) (fun σ' H' ⟨E1, N1, G2, q1, S2, s2⟩ => n E1 N1 σ' G2 H' (hd _ _ q1) (s1.trans s2) S2)⟩
    have e0 : (0 : Int) + (i : Int) = (i : Int) := Int.zero_add _
    rw [e0]
    exact Blk.from_ (G0 := G1) (hs i E1 N1 (by omega) q1) s2 (S2.set (i := j) (g := .dt (.int (i : Int))) (Dr.int _)) (fun E' M' σ3 G3 H3 q e3 S3 => ⟨E', M', G3, q, S3, e3⟩) (fun g M' v G3 H3 q e3 S3 rr => r g M' v G3 H3 q (s1.trans e3) S3 rr) (fun E' M' σ3 G3 H3 q e3 S3 => n E' M' σ3 G3 H3 q (s1.trans e3) S3) (fun E' M' σ3 G3 H3 q e3 S3 => ⟨E', M', G3, q, S3, e3⟩)
/-- for k in range(lo, m) -/
theorem blk_forR2 {j : Nat} {lo m : Int} {tr : TA} (h : EA K tr E M [.dt (.int lo), .dt (.int m)] M1) (hm : -(2 ^ 62) ≤ lo ∧ lo < 2 ^ 62 ∧ -(2 ^ 62) ≤ m ∧ m < 2 ^ 62) (Iv : Nat → GE → GM → Prop) (h0 : Iv 0 E M1)
    (hs : ∀ (i : Nat) E1 N1, lo + (i : Int) < m → Iv i E1 N1 → Blk K t (E1.set j (some (.dt (.int (lo + (i : Int)))))) N1 (turnK P (Iv (i + 1)))) (hd : ∀ E1 N1, Iv (m - lo).toNat E1 N1 → P.nx E1 N1) :
    Blk K (tFor (iRng2 tr) (gName j) t) E M P := fun B σ G H D S n r bb c =>
  h B σ G H S _ fun vs G1 H1 s1 S1 r1 => by
    obtain ⟨v, w, rfl, hv, hw⟩ := two_inv r1
    cases hv; cases hw
    refine ⟨lo, m, rfl, hm, for_range (lo := lo) (n := (m - lo).toNat) (fun i σ' H' => ∃ E1 N1 G2, Iv i E1 N1 ∧ SR K B E1 N1 σ' G2 H' ∧ Same G1 G2) ⟨E, M1, G1, h0, S1, Same.rfl'⟩
      (fun i σ' H' hi ⟨E1, N1, G2, q1, S2, s2⟩ => ?_) (fun σ' H' ⟨E1, N1, G2, q1, S2, s2⟩ => n E1 N1 σ' G2 H' (hd _ _ q1) (s1.trans s2) S2)⟩
    exact Blk.from_ (G0 := G1) (hs i E1 N1 (by omega) q1) s2 (S2.set (i := j) (g := .dt (.int (lo + (i : Int)))) (Dr.int _)) (fun E' M' σ3 G3 H3 q e3 S3 => ⟨E', M', G3, q, S3, e3⟩) (fun g M' v G3 H3 q e3 S3 rr => r g M' v G3 H3 q (s1.trans e3) S3 rr) (fun E' M' σ3 G3 H3 q e3 S3 => n E' M' σ3 G3 H3 q (s1.trans e3) S3) (fun E' M' σ3 G3 H3 q e3 S3 => ⟨E', M', G3, q, S3, e3⟩)
/-- while -/
theorem blk_while (W : Nat → GE → GM → Prop) (m0 : Nat) (h0 : W m0 E M)
    (hs : ∀ m E1 N1, W m E1 N1 → ∃ b N2, ET K tt E1 N1 b N2 ∧ (b = true → Blk K t E1 N2 (turnK P (fun E' M' => ∃ m', m' < m ∧ W m' E' M'))) ∧ (b = false → P.nx E1 N2)) :
    Blk K (tWhile tt t) E M P := fun B σ G H D S n r bb c => by
  refine ⟨fun m σ' H' => ∃ E1 N1 G2, W m E1 N1 ∧ SR K B E1 N1 σ' G2 H' ∧ Same G G2, ⟨m0, E, M, G, h0, S, Same.rfl'⟩, ?_⟩
  rintro m σ' H' ⟨E1, N1, G2, q1, S2, s2⟩
  obtain ⟨b, N2, h1, h2, h3⟩ := hs m E1 N1 q1
  refine h1 B σ' G2 H' S2 _ fun G3 H3 s3 S3 => ?_
  cases b with
  | true =>
    refine ⟨fun σ4 H4 => ∃ E' M' G4, (∃ m', m' < m ∧ W m' E' M') ∧ SR K B E' M' σ4 G4 H4 ∧ Same G G4, fun σ4 H4 ⟨E', M', G4, ⟨m', hl, w⟩, S4, s4⟩ => ⟨m', hl, E', M', G4, w, S4, s4⟩, ?_⟩
    exact Blk.from_ (G0 := G) (h2 rfl) (s2.trans s3) S3 (fun E' M' σ3 G3 H3 q e3 S3 => ⟨E', M', G3, q, S3, e3⟩) r n (fun E' M' σ3 G3 H3 q e3 S3 => ⟨E', M', G3, q, S3, e3⟩)
  | false => exact n E1 N2 σ' G3 H3 (h3 rfl) (s2.trans s3) S3
end
end Ek

set_option Elab.async false
set_option linter.all false
set_option maxRecDepth 100000
/-! frames, calls, promises, comprehensions -/
namespace Ek
open PySem PySem.Spec PyProof.Rows L2

/-! ### the frame: cells that a piece does not name stay -/
open Classical in
noncomputable def Bs.re (B : Bs) (M : GM) (G H : Hp) : Bs := ⟨fun q => B.F0 q ∧ ∃ c ∈ M, c.1 = q, G, fun q => if ∃ c ∈ M, c.2.1 = true ∧ c.1 = q then none else H q⟩
section
variable {K : PySem.W.Frag} {B : Bs} {E : GE} {M M' cs : GM} {σ σ' : St} {G G' H H' : Hp}
theorem re_h {q : Addr} {o : HO} (e : (B.re M G H).H0 q = some o) : H q = some o ∧ ¬ ∃ c ∈ M, c.2.1 = true ∧ c.1 = q := by
  unfold Bs.re at e
  simp only at e
  split at e
  · cases e
  · rename_i h; exact ⟨e, h⟩
theorem re_some {q : Addr} {o : HO} (e : H q = some o) (h : ¬ ∃ c ∈ M, c.2.1 = true ∧ c.1 = q) : (B.re M G H).H0 q = some o := by
  unfold Bs.re
  simp only
  rw [if_neg h]; exact e
theorem re_none {q : Addr} (e : (B.re M G H).H0 q = none) : H q = none ∨ ∃ c ∈ M, c.2.1 = true ∧ c.1 = q := by
  unfold Bs.re at e
  simp only at e
  split at e
  · rename_i h; exact .inr h
  · exact .inl e
theorem SR.frame_in (S : SR K B E (cs ++ M) σ G H) : SR K (B.re M G H) E M σ G H where
  sub := S.sub
  len := S.len
  slot := S.slot
  cells := ⟨fun c hc => by
    obtain ⟨h1, h2, h3, h4⟩ := S.cells.at_ c (List.mem_append_right _ hc)
    refine ⟨h1, h2, fun hf => ?_, fun hf => ⟨h4 hf, c, hc, rfl⟩⟩
    unfold Bs.re
    simp only
    exact if_pos ⟨c, hc, hf, rfl⟩, by
    have h := S.cells.nd
    rw [List.map_append] at h
    exact (List.nodup_append.mp h).2.1⟩
  fr := ⟨fun _ _ e => e, fun q o _ e => (re_h e).1, fun q e z => by
    cases e1 : (B.re M G H).H0 q with
    | none => exact e e1
    | some o => (rw [(re_h e1).1] at z; cases z), fun q e n => n⟩
theorem SR.frame_out (S : SR K B E (cs ++ M) σ G H) {E' : GE} (T : SR K (B.re M G H) E' M' σ' G' H') : SR K B E' (cs ++ M') σ' G' H' := by
  have hnd := S.cells.nd
  rw [List.map_append] at hnd
  have notM : ∀ c ∈ cs, ∀ d ∈ M, d.1 ≠ c.1 := fun c hc d hd e => (List.nodup_append.mp hnd).2.2 c.1 (List.mem_map.mpr ⟨c, hc, rfl⟩) d.1 (List.mem_map.mpr ⟨d, hd, rfl⟩) e.symm
  have keep : ∀ q o, H q = some o → (∀ d ∈ M, d.1 ≠ q) → H' q = some o := fun q o e hq =>
    T.fr.h q o (fun ⟨_, d, hd, ed⟩ => hq d hd ed) (re_some e fun ⟨d, hd, _, ed⟩ => hq d hd ed)
  have keepN : ∀ q, H q ≠ none → (∀ d ∈ M, d.1 ≠ q) → G q = none → G' q = none := fun q e hq n => by
    cases e1 : H q with
    | none => exact absurd e1 e
    | some o => exact T.fr.n q (by rw [re_some e1 fun ⟨d, hd, _, ed⟩ => hq d hd ed]; intro z; cases z) n
  refine ⟨T.sub, T.len, T.slot, ⟨fun c hc => ?_, ?_⟩, ⟨fun a o e => T.fr.g _ _ (S.fr.g _ _ e), fun q o nf e => ?_, fun q e => ?_, fun q e n => ?_⟩⟩
  · rcases List.mem_append.mp hc with hc | hc
    · obtain ⟨h1, ⟨o, h2, h3⟩, h4, h5⟩ := S.cells.at_ c (List.mem_append_left _ hc)
      have hq : ∀ d ∈ M, d.1 ≠ c.1 := fun d hd => notM c hc d hd
      exact ⟨keepN c.1 (by rw [h2]; intro z; cases z) hq h1, ⟨o, keep _ _ h2 hq, RelO.mono T.fr.g h3⟩, h4, h5⟩
    · obtain ⟨h1, h2, h4, h5⟩ := T.cells.at_ c hc
      refine ⟨h1, h2, fun hf => ?_, fun hf => (h5 hf).1⟩
      rcases re_none (h4 hf) with z | ⟨d, hd, hdf, ed⟩
      · exact S.bfree z
      · rw [← ed]; exact (S.cells.at_ d (List.mem_append_right _ hd)).2.2.1 hdf
  · rw [List.map_append]
    refine List.nodup_append.mpr ⟨(List.nodup_append.mp hnd).1, T.cells.nd, fun a ha b hb e => ?_⟩
    obtain ⟨c, hc, rfl⟩ := List.mem_map.mp ha
    obtain ⟨d, hd, rfl⟩ := List.mem_map.mp hb
    obtain ⟨_, ⟨o, h2, _⟩, _⟩ := S.cells.at_ c (List.mem_append_left _ hc)
    obtain ⟨_, _, k4, k5⟩ := T.cells.at_ d hd
    cases hf : d.2.1 with
    | true =>
      rcases re_none (k4 hf) with z | ⟨x, hx, _, ex⟩
      · rw [← e, h2] at z; cases z
      · exact notM c hc x hx (ex.trans e.symm)
    | false =>
      obtain ⟨_, x, hx, ex⟩ := k5 hf
      exact notM c hc x hx (ex.trans e.symm)
  · have e1 := S.fr.h q o nf e
    refine T.fr.h q o (fun z => nf z.1) (re_some e1 fun ⟨d, hd, hdf, ed⟩ => ?_)
    have z := (S.cells.at_ d (List.mem_append_right _ hd)).2.2.1 hdf
    rw [ed, e] at z; cases z
  · have e1 := S.fr.k q e
    cases e2 : H q with
    | none => exact absurd e2 e1
    | some o =>
      have hn : ¬ ∃ c ∈ M, c.2.1 = true ∧ c.1 = q := fun ⟨d, hd, hdf, ed⟩ => by
        have z := (S.cells.at_ d (List.mem_append_right _ hd)).2.2.1 hdf
        rw [ed] at z; exact e z
      refine T.fr.k q ?_
      rw [re_some e2 hn]
      intro z; cases z
  · have e1 := S.fr.k q e
    have n1 := S.fr.n q e n
    cases e2 : H q with
    | none => exact absurd e2 e1
    | some o =>
      have hn : ¬ ∃ c ∈ M, c.2.1 = true ∧ c.1 = q := fun ⟨d, hd, hdf, ed⟩ => by
        have z := (S.cells.at_ d (List.mem_append_right _ hd)).2.2.1 hdf
        rw [ed] at z; exact e z
      refine T.fr.n q ?_ n1
      rw [re_some e2 hn]
      intro z; cases z
end
section
variable {K : PySem.W.Frag} {E : GE} {M M1 M2 cs : GM} {g : GV} {te : TE} {tt : TT} {ta : TA} {b : Bool} {xs gs : List GV}
theorem EE.fr (h : EE K te E M g M1) : EE K te E (cs ++ M) g (cs ++ M1) := fun B σ G H S Q q => h _ σ G H S.frame_in Q fun v G' H' s T r => q v G' H' s (S.frame_out T) r
theorem ET.fr (h : ET K tt E M b M1) : ET K tt E (cs ++ M) b (cs ++ M1) := fun B σ G H S Q q => h _ σ G H S.frame_in Q fun G' H' s T => q G' H' s (S.frame_out T)
theorem EA.fr (h : EA K ta E M gs M1) : EA K ta E (cs ++ M) gs (cs ++ M1) := fun B σ G H S Q q => h _ σ G H S.frame_in Q fun v G' H' s T r => q v G' H' s (S.frame_out T) r
end

/-! ### promises -/
/-- a def that changes nothing: its value -/
def sp0 (K : PySem.W.Frag) {A : Type} (args : A → List GV) (pre : A → Prop) (res : A → GV) : Sp := fun vs H Q _ =>
  ∃ G i, Same G H ∧ RelGs K G vs (args i) ∧ pre i ∧ ∀ v G' H', Fr ⟨fun _ => False, G, H⟩ G' H' → Same G' H' → RelG K G' v (res i) → Q v H'
/-- .. its value a new list -/
def spF (K : PySem.W.Frag) {A : Type} (args : A → List GV) (pre : A → Prop) (xs : A → List GV) : Sp := fun vs H Q _ =>
  ∃ G i, Same G H ∧ RelGs K G vs (args i) ∧ pre i ∧ ∀ p o G' H', Fr ⟨fun _ => False, G, H⟩ G' H' → Same G' H' → H p = none → G' p = none → H' p = some o → RelO K G' o (.lst (xs i)) → Q (.ref p) H'
/-- a def that changes one object of the caller's -/
def sp1 (K : PySem.W.Frag) {A : Type} (args : A → List GV) (pa : A → Addr) (o0 : A → GO) (pre : A → Prop) (o1 : A → GO) (res : A → GV) : Sp := fun vs H Q _ =>
  ∃ G i, Same G H ∧ RelGs K G vs (args i) ∧ pre i ∧ G (pa i) = none ∧ (∃ o, H (pa i) = some o ∧ RelO K G o (o0 i)) ∧
    ∀ v o G' H', Fr ⟨fun q => q = pa i, G, H⟩ G' H' → Same G' H' → H' (pa i) = some o → RelO K G' o (o1 i) → RelG K G' v (res i) → Q v H'
section
variable {K : PySem.W.Frag} {E : GE} {M M1 : GM} {tr : TA} {X : XK} {A : Type} {args : A → List GV} {pre : A → Prop}
theorem ee_call0 {res : A → GV} {g : GV} (i : A) (h : EA K tr E M (args i) M1) (hp : pre i) (hg : res i = g := by rfl) : EE K (tCall (sp0 K args pre res) [] X tr) E M g M1 := fun B σ G H S Q q =>
  h B σ G H S _ fun vs G1 H1 s1 S1 r1 => by
    show sp0 K args pre res (vs ++ []) H1 Q X
    rw [List.append_nil]
    exact ⟨G1, i, S1.sub, r1, hp, fun v G' H' f sub r => q v G' H' (s1.trans f.g) (S1.called f sub) (by rw [← hg]; exact r)⟩
theorem ef_callF {xs : A → List GV} {ys : List GV} (i : A) (h : EA K tr E M (args i) M1) (hp : pre i) (hy : xs i = ys := by rfl) : EF K (tCall (spF K args pre xs) [] X tr) E M ys M1 := fun B σ G H S Q q =>
  h B σ G H S _ fun vs G1 H1 s1 S1 r1 => by
    show spF K args pre xs (vs ++ []) H1 Q X
    rw [List.append_nil]
    exact ⟨G1, i, S1.sub, r1, hp, fun p o G' H' f sub hp hg ho r => q p G' H' (s1.trans f.g) ((S1.called f sub).noted (S1.bfree hp) (S1.cell_ne hp) hg ho (by rw [← hy]; exact r))⟩
theorem ee_call1 {pa : A → Addr} {o0 o1 : A → GO} {res : A → GV} {g : GV} {j : Nat} {fl : Bool} {M2 : GM} (i : A) (h : EA K tr E M (args i) M1) (hp : pre i) (hj : M1[j]? = some (pa i, fl, o0 i)) (hg : res i = g := by rfl) (hM : M1.set j (pa i, fl, o1 i) = M2 := by rfl) :
    EE K (tCall (sp1 K args pa o0 pre o1 res) [] X tr) E M g M2 := fun B σ G H S Q q =>
  h B σ G H S _ fun vs G1 H1 s1 S1 r1 => by
    show sp1 K args pa o0 pre o1 res (vs ++ []) H1 Q X
    rw [List.append_nil]
    obtain ⟨k1, k2, _⟩ := S1.cells.at_ _ (List.mem_of_getElem? hj)
    exact ⟨G1, i, S1.sub, r1, hp, k1, k2, fun v o G' H' f sub ho ro r => q v G' H' (s1.trans f.g) (by rw [← hM]; exact S1.called1 hj f sub ho ro) (by rw [← hg]; exact r)⟩
end

/-! ### defs -/
def begin_ (N : List Str) (gs : List GV) : GE := gs.map some ++ List.replicate (N.length - gs.length) none
theorem relGs_get {K : PySem.W.Frag} {G : Hp} : ∀ {vs : List V} {gs : List GV} {n m : Nat} {i : Nat} {g : GV}, RelGs K G vs gs → (gs.map some ++ List.replicate n none)[i]? = some (some g) → ∃ v, (vs.map some ++ List.replicate m none)[i]? = some (some v) ∧ RelG K G v g
  | [], [], n, m, i, g, .nil, e => by
    have : (List.replicate n (none : Option GV))[i]? = some (some g) := e
    rw [List.getElem?_replicate] at this
    split at this <;> cases this
  | _ :: _, _ :: _, n, m, 0, g, .cons h _, e => by cases e; exact ⟨_, rfl, h⟩
  | _ :: _, _ :: _, n, m, i + 1, g, .cons _ t, e => relGs_get (i := i) t e
def rt0 (r : GV) : GV → GM → Prop := fun g M => g = r ∨ ∃ p ds, g = .rf p ∧ r = .dt (.list ds) ∧ (p, true, GO.lst (ds.map .dt)) ∈ M
def ends0 (r : GV) : Kn := ⟨fun _ _ => r = .dt .none, rt0 r, fun _ _ => False, fun _ _ => False⟩
def endsF (xs : List GV) : Kn := ⟨fun _ _ => False, fun g M => ∃ p, g = .rf p ∧ (p, true, GO.lst xs) ∈ M, fun _ _ => False, fun _ _ => False⟩
def ends1 (p : Addr) (o : GO) (r : GV) : Kn := ⟨fun _ M => r = .dt .none ∧ (p, false, o) ∈ M, fun g M => rt0 r g M ∧ (p, false, o) ∈ M, fun _ _ => False, fun _ _ => False⟩
section
variable {P : Program} {w : World} {K : PySem.W.Frag} {mg : Str → Option Value} {base : Heap} {x qual : Str} {st : Stmt} {f : Addr} {fd : FuncData} {N ps : List Str} {k : Nat} {A : Type} {args : A → List GV} {pre : A → Prop}
theorem start_sr {G H : Hp} {vs : List V} {gs : List GV} {F0 : Addr → Prop} (hs : Same G H) (r : RelGs K G vs gs) : SR K ⟨F0, G, H⟩ (begin_ N gs) [] (L2.start N vs) G H where
  sub := hs
  len := by unfold begin_ L2.start; rw [List.length_append, List.length_append, List.length_map, List.length_map, RelGs.length r]; rw [List.length_replicate, List.length_replicate]
  slot := fun i g e => relGs_get r e
  cells := ⟨fun c hc => (by cases hc), List.nodup_nil⟩
  fr := ⟨fun _ _ e => e, fun _ _ _ e => e, fun _ e => e, fun _ _ n => n⟩
/-- a return's value, shared where the promise wants data -/
theorem rt0_end {B : Bs} {M : GM} {G H : Hp} {r g : GV} {v : V} (h : rt0 r g M) (S : SR K B [] M [] G H) (rv : RelG K G v g) : ∃ G', Same G G' ∧ SR K B [] [] [] G' H ∧ RelG K G' v r ∧ ∀ c ∈ M, (∀ p ds, g = .rf p → r = .dt (.list ds) → c.1 ≠ p) → G' c.1 = none := by
  rcases h with rfl | ⟨p, ds, rfl, rfl, hm⟩
  · exact ⟨G, Same.rfl', S.sub_cells (List.nil_sublist _), rv, fun c hc _ => (S.cells.at_ c hc).1⟩
  · obtain ⟨j, hj⟩ := List.mem_iff_getElem?.mp hm
    obtain ⟨G', s, S', d⟩ := S.freeze hj
    have rv' : v = .ref p := rv
    subst rv'
    refine ⟨G', s, S'.sub_cells (List.nil_sublist _), d, fun c hc hne => ?_⟩
    have hp := hne p ds rfl rfl
    obtain ⟨i, hi⟩ := List.mem_iff_getElem?.mp hc
    have hij : i ≠ j := fun z => by subst z; rw [hi] at hj; cases hj; exact hp rfl
    have : c ∈ M.eraseIdx j := by
      rw [List.mem_iff_getElem?]
      by_cases hlt : i < j
      · exact ⟨i, by rw [List.getElem?_eraseIdx, if_pos hlt]; exact hi⟩
      · refine ⟨i - 1, ?_⟩
        rw [List.getElem?_eraseIdx, if_neg (by omega)]
        rw [show i - 1 + 1 = i by omega]; exact hi
    exact (S'.cells.at_ c this).1
theorem fn0 {res : A → GV} (F : Fun K x qual st f fd) (S : FnScope N ps (defScope st)) (ha : ∀ i, (args i).length = ps.length)
    (hb : ∀ (cdv : Value) (R : Around) (outer : List Env) (s : Shared) (H : Hp) (E : XK), Room k (R.deeper (envOfC qual (defScope st) s.heap.objs.size f cdv)) →
      ∃ t, PSs (cxOf CX0 P w K mg base N qual (defScope st) f cdv R outer s H E).nox (defBody st) t ∧ ∀ i, pre i → Blk K t (begin_ N (args i)) [] (ends0 (res i))) :
    FnOk P w K mg base CX0 (k + 1) f fd ps (sp0 K args pre res) := by
  refine F.ok S (fun vs H Q E h => ?_) (fun cdv R outer s H vs Q E hr h => ?_)
  · obtain ⟨G, i, _, r, _⟩ := h
    rw [RelGs.length r, ha]
  · obtain ⟨G, i, hs, r, hp, q⟩ := h
    obtain ⟨t, ht, hB⟩ := hb cdv R outer s H E hr
    refine ⟨t, ht, hB i hp ⟨fun _ => False, G, H⟩ (L2.start N vs) G H _ (start_sr hs r) (fun E' M' σ' G' H' e _ S' => ?_) (fun g M' v G' H' e _ S' rv => ?_) (fun _ _ _ _ _ e => e.elim) (fun _ _ _ _ _ e => e.elim)⟩
    · exact q .non G' H' S'.fr S'.sub (by have e' : res i = .dt .none := e; rw [e']; exact Dr.non)
    · obtain ⟨G2, _, S2, r2, _⟩ := rt0_end e S' rv
      exact q v G2 H' S2.fr S2.sub r2
theorem fnF {xs : A → List GV} (F : Fun K x qual st f fd) (S : FnScope N ps (defScope st)) (ha : ∀ i, (args i).length = ps.length)
    (hb : ∀ (cdv : Value) (R : Around) (outer : List Env) (s : Shared) (H : Hp) (E : XK), Room k (R.deeper (envOfC qual (defScope st) s.heap.objs.size f cdv)) →
      ∃ t, PSs (cxOf CX0 P w K mg base N qual (defScope st) f cdv R outer s H E).nox (defBody st) t ∧ ∀ i, pre i → Blk K t (begin_ N (args i)) [] (endsF (xs i))) :
    FnOk P w K mg base CX0 (k + 1) f fd ps (spF K args pre xs) := by
  refine F.ok S (fun vs H Q E h => ?_) (fun cdv R outer s H vs Q E hr h => ?_)
  · obtain ⟨G, i, _, r, _⟩ := h
    rw [RelGs.length r, ha]
  · obtain ⟨G, i, hs, r, hp, q⟩ := h
    obtain ⟨t, ht, hB⟩ := hb cdv R outer s H E hr
    refine ⟨t, ht, hB i hp ⟨fun _ => False, G, H⟩ (L2.start N vs) G H _ (start_sr hs r) (fun E' M' σ' G' H' e _ S' => e.elim) (fun g M' v G' H' e _ S' rv => ?_) (fun _ _ _ _ _ e => e.elim) (fun _ _ _ _ _ e => e.elim)⟩
    obtain ⟨p, rfl, hm⟩ := e
    have rv' : v = .ref p := rv
    subst rv'
    obtain ⟨h1, ⟨o, h2, h3⟩, h4, _⟩ := S'.cells.at_ _ hm
    exact q p o G' H' S'.fr S'.sub (h4 rfl) h1 h2 h3
theorem fn1 {pa : A → Addr} {o0 o1 : A → GO} {res : A → GV} (F : Fun K x qual st f fd) (S : FnScope N ps (defScope st)) (ha : ∀ i, (args i).length = ps.length)
    (hb : ∀ (cdv : Value) (R : Around) (outer : List Env) (s : Shared) (H : Hp) (E : XK), Room k (R.deeper (envOfC qual (defScope st) s.heap.objs.size f cdv)) →
      ∃ t, PSs (cxOf CX0 P w K mg base N qual (defScope st) f cdv R outer s H E).nox (defBody st) t ∧ ∀ i, pre i → Blk K t (begin_ N (args i)) [(pa i, false, o0 i)] (ends1 (pa i) (o1 i) (res i))) :
    FnOk P w K mg base CX0 (k + 1) f fd ps (sp1 K args pa o0 pre o1 res) := by
  refine F.ok S (fun vs H Q E h => ?_) (fun cdv R outer s H vs Q E hr h => ?_)
  · obtain ⟨G, i, _, r, _⟩ := h
    rw [RelGs.length r, ha]
  · obtain ⟨G, i, hs, r, hp, c1, c2, q⟩ := h
    obtain ⟨t, ht, hB⟩ := hb cdv R outer s H E hr
    have S0 : SR K ⟨fun q => q = pa i, G, H⟩ (begin_ N (args i)) [(pa i, false, o0 i)] (L2.start N vs) G H := by
      have Z := start_sr (N := N) (F0 := fun q => q = pa i) hs r
      have hc1 : ∀ c ∈ [(pa i, false, o0 i)], G c.1 = none ∧ (∃ o, H c.1 = some o ∧ RelO K G o c.2.2) ∧ (c.2.1 = true → H c.1 = none) ∧ (c.2.1 = false → c.1 = pa i) := fun c hc => by
        rcases List.mem_cons.mp hc with rfl | hc
        · exact ⟨c1, c2, fun z => (by cases z), fun _ => rfl⟩
        · cases hc
      exact ⟨Z.sub, Z.len, Z.slot, ⟨hc1, List.nodup_cons.mpr ⟨fun z => (by cases z), List.nodup_nil⟩⟩, Z.fr⟩
    refine ⟨t, ht, hB i hp _ (L2.start N vs) G H _ S0 (fun E' M' σ' G' H' e _ S' => ?_) (fun g M' v G' H' e _ S' rv => ?_) (fun _ _ _ _ _ e => e.elim) (fun _ _ _ _ _ e => e.elim)⟩
    · obtain ⟨e1, hm⟩ := e
      obtain ⟨_, ⟨o, h2, h3⟩, _⟩ := S'.cells.at_ _ hm
      exact q .non o G' H' S'.fr S'.sub h2 h3 (by rw [e1]; exact Dr.non)
    · obtain ⟨e1, hm⟩ := e
      obtain ⟨_, ⟨o, h2, h3⟩, _⟩ := S'.cells.at_ _ hm
      obtain ⟨G2, s2, S2, r2, _⟩ := rt0_end e1 S' rv
      exact q v o G2 H' S2.fr S2.sub h2 (RelO.mono s2 h3) r2
end
/-! ### comprehensions -/
def wipeE (E : GE) : List Nat → GE
  | [] => E
  | v :: vs => (wipeE E vs).set v none
section
variable {K : PySem.W.Frag} {E : GE} {M M1 : GM} {tl te : TE} {tt : TT}
theorem wipeE_length (E : GE) : ∀ vs : List Nat, (wipeE E vs).length = E.length
  | [] => rfl
  | v :: vs => by unfold wipeE; rw [List.length_set, wipeE_length E vs]
theorem SR.wiped {B : Bs} {σ : St} {G H : Hp} (S : SR K B E M σ G H) : ∀ vs : List Nat, SR K B (wipeE E vs) M (wipe σ vs) G H
  | [] => S
  | v :: vs => by
    have T := S.wiped vs
    refine ⟨T.sub, by unfold wipe wipeE; rw [List.length_set, List.length_set, T.len], fun i g e => ?_, T.cells, T.fr⟩
    unfold wipeE at e
    by_cases hi : v = i
    · subst hi
      by_cases hl : v < (wipeE E vs).length
      · rw [List.getElem?_set_self hl] at e; cases e
      · rw [List.getElem?_eq_none (by rw [List.length_set]; omega)] at e; cases e
    · rw [List.getElem?_set_ne hi] at e
      obtain ⟨w, h1, h2⟩ := T.slot i g e
      exact ⟨w, by unfold wipe; rw [List.getElem?_set_ne hi]; exact h1, h2⟩
theorem wipe_set (σ : St) (x : Option V) : ∀ (vs : List Nat) (j : Nat), j ∈ vs → wipe ((wipe σ vs).set j x) vs = wipe σ vs := by
  have key : ∀ (vs : List Nat) (τ : St) (i : Nat), (wipe τ vs)[i]? = if i ∈ vs ∧ i < τ.length then some none else τ[i]? := by
    intro vs
    induction vs with
    | nil => intro τ i; unfold wipe; rw [if_neg (by simp)]
    | cons v vs ih =>
      intro τ i
      unfold wipe
      by_cases hi : v = i
      · subst hi
        by_cases hl : v < τ.length
        · rw [List.getElem?_set_self (by rw [wipe_length]; exact hl), if_pos ⟨List.mem_cons_self, hl⟩]
        · rw [List.getElem?_eq_none (by rw [List.length_set, wipe_length]; omega), if_neg (by omega), List.getElem?_eq_none (by omega)]
      · rw [List.getElem?_set_ne hi, ih]
        by_cases hm : i ∈ vs
        · by_cases hl : i < τ.length
          · rw [if_pos ⟨hm, hl⟩, if_pos ⟨List.mem_cons_of_mem _ hm, hl⟩]
          · rw [if_neg (by omega), if_neg (by omega)]
        · rw [if_neg (by simp [hm]), if_neg (by simp [hm, Ne.symm hi])]
  intro vs j hj
  refine List.ext_getElem? fun i => ?_
  rw [key, key]
  rw [List.length_set, wipe_length]
  by_cases hm : i ∈ vs ∧ i < σ.length
  · rw [if_pos hm, if_pos hm]
  · rw [if_neg hm, if_neg hm]
    by_cases hij : j = i
    · subst hij
      have hl : ¬ j < σ.length := fun z => hm ⟨hj, z⟩
      rw [List.getElem?_eq_none (by rw [List.length_set, wipe_length]; omega), List.getElem?_eq_none (by omega)]
    · rw [List.getElem?_set_ne hij, key, if_neg hm]
/-- what a comprehension with tests has made behind i turns -/
def made (f : Nat → GV) (p : Nat → Bool) (i : Nat) : List GV := ((List.range i).filter p).map f
theorem made_zero (f : Nat → GV) (p : Nat → Bool) : made f p 0 = [] := rfl
theorem made_yes {f : Nat → GV} {p : Nat → Bool} {i : Nat} (h : p i = true) : made f p (i + 1) = made f p i ++ [f i] := by
  unfold made
  rw [List.range_succ, List.filter_append, List.map_append, List.filter_cons, if_pos h] <;> rfl
theorem made_no {f : Nat → GV} {p : Nat → Bool} {i : Nat} (h : p i = false) : made f p (i + 1) = made f p i := by
  unfold made
  rw [List.range_succ, List.filter_append, List.map_append, List.filter_cons, if_neg (by rw [h]; decide)]
  show _ ++ [] = _
  rw [List.append_nil]
theorem made_len (f : Nat → GV) (p : Nat → Bool) (n : Nat) : (made f p n).length ≤ n := by
  unfold made
  rw [List.length_map]
  have h := List.length_filter_le p (List.range n)
  rw [List.length_range] at h
  exact h
/-- [e for x in xs if t] over data; the cells may change from turn to turn -/
theorem ef_lcL {j : Nat} {vs : List Nat} {ds : List PyData} (Ms : Nat → GM) (p : Nat → Bool) (f : Nat → GV) (h : EE K tl E M (.dt (.list ds)) (Ms 0)) (hj : j ∈ vs) (hz : ds.length ≤ 1000000)
    (ht : ∀ i d, ds[i]? = some d → ET K tt ((wipeE E vs).set j (some (.dt d))) (Ms i) (p i) (Ms i)) (hno : ∀ i d, ds[i]? = some d → p i = false → Ms (i + 1) = Ms i)
    (he : ∀ i d, ds[i]? = some d → p i = true → EE K te ((wipeE E vs).set j (some (.dt d))) (Ms i) (f i) (Ms (i + 1))) :
    EF K (tLc (iList K tl) (gName j) tt te vs) E M (made f p ds.length) (Ms ds.length) := fun B σ G H S Q q =>
  h B σ G H S _ fun v G1 H1 s1 S1 r1 => by
    cases r1 with
    | lst e a =>
      rename_i ad ws
      refine ⟨ad, rfl, ⟨ws, .of (S1.sub _ _ e)⟩, fun D hD => lc_list (xs := ws) (fun i H' => ∃ G2, SR K B E ((D, true, .lst (made f p i)) :: Ms i) σ G2 H' ∧ Same G1 G2) ⟨G1, S1.own (o := .lst []) hD .nil, Same.rfl'⟩ (fun i H' _ ⟨G2, S2, s2⟩ => .of (S2.sub _ _ (s2 _ _ e)))
        (fun i x H' hx ⟨G2, S2, s2⟩ => ?_) (fun H' ⟨G2, S2, s2⟩ => by rw [a.length] at S2; exact q D G2 H' (s1.trans s2) S2)⟩
      obtain ⟨d, hdi, rd⟩ := a.get hx
      have rd' : RelG K G2 x (.dt d) := Dr.mono s2 rd
      have hil : i < ds.length := (List.getElem?_eq_some_iff.mp hdi).1
      have S3 := (S2.wiped vs).set (i := j) rd'
      refine ⟨wipe_set σ (some x) vs j hj, ?_⟩
      refine (ht i d hdi).fr (cs := [(D, true, .lst (made f p i))]) B _ G2 H' S3 _ fun G3 H3 e3 S4 => ?_
      have back : ∀ {N : GM} {G4 H4 : Hp}, SR K B ((wipeE E vs).set j (some (.dt d))) N ((wipe σ vs).set j (some x)) G4 H4 → Same G2 G4 → SR K B E N σ G4 H4 := fun {N G4 H4} T s4 =>
        T.slots (S2.len) fun k g ek => by
          obtain ⟨w, k1, k2⟩ := S2.slot k g ek
          exact ⟨w, k1, RelG.mono s4 k2⟩
      cases hp : p i with
      | true =>
        rw [if_pos rfl]
        refine (he i d hdi hp).fr (cs := [(D, true, .lst (made f p i))]) B _ G3 H3 S4 _ fun y G4 H4 e4 S5 r5 => ?_
        obtain ⟨_, ⟨o, k1, k2⟩, _⟩ := S5.cells.at_ (D, true, .lst (made f p i)) List.mem_cons_self
        obtain ⟨us, rfl, ru⟩ := RelO.lst_inv k2
        refine ⟨us, k1, ?_, G4, ?_, s2.trans (e3.trans e4)⟩
        · rw [RelGs.length ru]
          have := made_len f p i
          rw [sizeLine_eq]; omega
        · have S6 := S5.write (j := 0) (p := D) (fl := true) (g := .lst (made f p i ++ [f i])) (o := .lst (us ++ [y])) rfl (RelGs.app ru (.cons r5 .nil))
          rw [← made_yes hp] at S6
          exact back S6 (e3.trans e4)
      | false =>
        rw [if_neg Bool.false_ne_true]
        refine ⟨G3, ?_, s2.trans e3⟩
        have S6 := back S4 e3
        rw [made_no hp, hno i d hdi hp]
        exact S6
end
end Ek

set_option Elab.async false
set_option linter.all false
set_option maxRecDepth 100000
/-! operators that stand for several kinds at once; their rules by the ghost values -/
namespace Ek
open PySem PySem.Spec PyProof.Rows L2

/-! ### one reading for each sign of the language -/
section
variable {X : Cx}
theorem OpR.both {f : Value → Value → Sem Value} {r r' : R2} (h : OpR X f r) (h' : OpR X f r') : OpR X f (fun x y H Q => r x y H Q ∨ r' x y H Q) := by
  intro pins s σ H x y v u Q I rx ry q
  rcases q with q | q
  · exact h pins s σ H x y v u Q I rx ry q
  · exact h' pins s σ H x y v u Q I rx ry q
theorem CallR.both {f : Value} {r r' : TR} (h : CallR X f r) (h' : CallR X f r') : CallR X f (fun x H Q => r x H Q ∨ r' x H Q) := by
  intro pins s σ H xs us Q I rx q
  rcases q with q | q
  · exact h pins s σ H xs us Q I rx q
  · exact h' pins s σ H xs us Q I rx q
def rCatS2 : R2 := fun x y H Q => ∃ i j, x = .str i ∧ y = .str j ∧ i.length + j.length ≤ sizeLine ∧ Q (.str (i ++ j)) H
def rPlus : R2 := fun x y H Q => rI0 (fun i j => .int (i + j)) x y H Q ∨ rCat x y H Q ∨ rCatS2 x y H Q
theorem o_plus : OpR X (binaryOp .Add) rPlus := OpR.both op_add (OpR.both op_cat op_add_str)
def rTimes : R2 := fun x y H Q => rI CMulW (fun i j => .int (i * j)) x y H Q ∨ rRep x y H Q
theorem o_times : OpR X (binaryOp .Mult) rTimes := OpR.both op_mulW op_rep
def rLenU (K : PySem.W.Frag) : TR := fun xs H Q => rLenQ K xs H Q ∨ ∃ z, xs = [.str z] ∧ z.length ≤ sizeLine ∧ Q (.int z.length) H
theorem o_len : CallR X (.builtin "len") (rLenU X.K) := CallR.both call_len_seq call_len_str
def rSlU (K : PySem.W.Frag) : V → Option Int → Option Int → Hp → VK → Prop := fun x lo hi H Q => rSlL K x lo hi H Q ∨ rSlS x lo hi H Q
theorem o_slice : SlR X (rSlU X.K) := SlR.or sl_list sl_str
def rLtU : R2 := rI0 fun i j => .bl (decide (i < j))
def rSorted0 (K : PySem.W.Frag) : TR := rSortedI K
end
section
variable {K : PySem.W.Frag} {E : GE} {M M1 M2 M3 : GM} {g x y z : GV} {ta tb tc te : TE} {tt tu : TT} {b c : Bool} {xs ys : List GV}
theorem R2E.inl {r r' : R2} (h : R2E K r x y M g M1) : R2E K (fun x y H Q => r x y H Q ∨ r' x y H Q) x y M g M1 := fun B E σ G H S v w hv hw Q q => .inl (h B E σ G H S v w hv hw Q q)
theorem R2E.inr {r r' : R2} (h : R2E K r' x y M g M1) : R2E K (fun x y H Q => r x y H Q ∨ r' x y H Q) x y M g M1 := fun B E σ G H S v w hv hw Q q => .inr (h B E σ G H S v w hv hw Q q)
theorem R2F.inl {r r' : R2} (h : R2F K r x y M xs M1) : R2F K (fun x y H Q => r x y H Q ∨ r' x y H Q) x y M xs M1 := fun B E σ G H S v w hv hw Q q => .inl (h B E σ G H S v w hv hw Q q)
theorem R2F.inr {r r' : R2} (h : R2F K r' x y M xs M1) : R2F K (fun x y H Q => r x y H Q ∨ r' x y H Q) x y M xs M1 := fun B E σ G H S v w hv hw Q q => .inr (h B E σ G H S v w hv hw Q q)
theorem R2F.fz {r : R2} {ds : List PyData} (h : R2F K r x y M (ds.map .dt) M1) : R2E K r x y M (.dt (.list ds)) M1 := fun B E σ G H S v w hv hw Q q =>
  h B E σ G H S v w hv hw Q fun p G1 H1 s1 S1 => by
    obtain ⟨G2, s2, S2, d⟩ := S1.freeze (j := 0) rfl
    exact q (.ref p) G2 H1 (fun a o e => s2 _ _ (s1 _ _ e)) S2 d
theorem RCE.inl {r r' : TR} {gs : List GV} (h : RCE K r gs M g M1) : RCE K (fun x H Q => r x H Q ∨ r' x H Q) gs M g M1 := fun B E σ G H S v hv Q q => .inl (h B E σ G H S v hv Q q)
theorem RCE.inr {r r' : TR} {gs : List GV} (h : RCE K r' gs M g M1) : RCE K (fun x H Q => r x H Q ∨ r' x H Q) gs M g M1 := fun B E σ G H S v hv Q q => .inr (h B E σ G H S v hv Q q)
/-! ### + and * -/
theorem p_int {i j : Int} : R2E K rPlus (.dt (.int i)) (.dt (.int j)) M (.dt (.int (i + j))) M := R2E.inl (r2_int fun _ => .int _)
theorem p_str {i j : Str} (h : i.length + j.length ≤ sizeLine) : R2E K rPlus (.dt (.str i)) (.dt (.str j)) M (.dt (.str (i ++ j))) M := R2E.inr (R2E.inr fun B E σ G H S v w hv hw Q q => by
  cases hv; cases hw
  exact ⟨i, j, rfl, rfl, h, q _ G H Same.rfl' S (Dr.str _)⟩)
theorem p_listF {ds es : List PyData} (h : ds.length + es.length ≤ sizeLine) : R2F K rPlus (.dt (.list ds)) (.dt (.list es)) M ((ds ++ es).map .dt) M := R2F.inr (R2F.inl fun B E σ G H S v w hv hw Q q => by
  cases hv with
  | lst e a =>
    cases hw with
    | lst e2 a2 => exact ⟨_, _, _, _, rfl, rfl, S.sub _ _ e, S.sub _ _ e2, by rw [a.length, a2.length]; exact h, fun p hp => q p G _ Same.rfl' (S.own hp (RelGs.of_data (a.app a2)))⟩)
theorem p_list {ds es : List PyData} (h : ds.length + es.length ≤ sizeLine) : R2E K rPlus (.dt (.list ds)) (.dt (.list es)) M (.dt (.list (ds ++ es))) M := R2F.fz (p_listF h)
theorem t_int {i j : Int} (h : CMulW i j) : R2E K rTimes (.dt (.int i)) (.dt (.int j)) M (.dt (.int (i * j))) M := R2E.inl (r2_intC h fun _ => .int _)
theorem DrAll.rep {G : Hp} {vs : List V} {ds : List PyData} (h : DrAll G vs ds) : ∀ n : Nat, DrAll G (List.replicate n vs).flatten (List.replicate n ds).flatten
  | 0 => .nil
  | n + 1 => by
    rw [List.replicate_succ, List.replicate_succ, List.flatten_cons, List.flatten_cons]
    exact h.app (h.rep n)
theorem t_listF {ds : List PyData} {k : Int} (h : ds.length * k.toNat ≤ sizeLine) (h1 : -(2 ^ 63) ≤ k) (h2 : k < 2 ^ 63) : R2F K rTimes (.dt (.list ds)) (.dt (.int k)) M ((List.replicate k.toNat ds).flatten.map .dt) M := R2F.inr fun B E σ G H S v w hv hw Q q => by
  cases hv with
  | lst e a =>
    cases hw
    exact ⟨_, k, _, rfl, rfl, S.sub _ _ e, h1, h2, by rw [a.length]; exact h, fun p hp => q p G _ Same.rfl' (S.own hp (RelGs.of_data (a.rep _)))⟩
theorem t_list {ds : List PyData} {k : Int} (h : ds.length * k.toNat ≤ sizeLine) (h1 : -(2 ^ 63) ≤ k) (h2 : k < 2 ^ 63) : R2E K rTimes (.dt (.list ds)) (.dt (.int k)) M (.dt (.list (List.replicate k.toNat ds).flatten)) M := R2F.fz (t_listF h h1 h2)
theorem t_oneF {d : PyData} {k : Int} (h : k.toNat ≤ 1000000) (h1 : -(2 ^ 63) ≤ k) (h2 : k < 2 ^ 63) : R2F K rTimes (.dt (.list [d])) (.dt (.int k)) M ((List.replicate k.toNat d).map .dt) M := by
  have e : (List.replicate k.toNat [d]).flatten = List.replicate k.toNat d := by
    generalize k.toNat = n
    induction n with
    | zero => rfl
    | succ n ih => rw [List.replicate_succ, List.flatten_cons, ih, List.replicate_succ]; rfl
  rw [← e]
  exact t_listF (by show 1 * k.toNat ≤ sizeLine; rw [sizeLine_eq]; omega) h1 h2
theorem t_one {d : PyData} {k : Int} (h : k.toNat ≤ 1000000) (h1 : -(2 ^ 63) ≤ k) (h2 : k < 2 ^ 63) : R2E K rTimes (.dt (.list [d])) (.dt (.int k)) M (.dt (.list (List.replicate k.toNat d))) M := R2F.fz (t_oneF h h1 h2)
theorem m_int {i j : Int} (h : 0 < j) : R2E K (rI (fun _ j => 0 < j) fun i j => .int (i % j)) (.dt (.int i)) (.dt (.int j)) M (.dt (.int (i % j))) M := r2_intC h fun _ => .int _
theorem d_int {i j : Int} (h : CDivW i j) : R2E K (rI CDivW fun i j => .int (i / j)) (.dt (.int i)) (.dt (.int j)) M (.dt (.int (i / j))) M := r2_intC h fun _ => .int _
theorem s_int {i j : Int} : R2E K (rI0 fun i j => .int (i - j)) (.dt (.int i)) (.dt (.int j)) M (.dt (.int (i - j))) M := r2_int fun _ => .int _
theorem w_int {i j : Int} (h : CPow i j) : R2E K (rI CPow fun i j => .int (i ^ j.toNat)) (.dt (.int i)) (.dt (.int j)) M (.dt (.int (i ^ j.toNat))) M := r2_intC h fun _ => .int _
theorem lt_int' {i j : Int} : R2E K (rI0 fun i j => .bl (decide (i < j))) (.dt (.int i)) (.dt (.int j)) M (.dt (.bool (decide (i < j)))) M := r2_int fun _ => .bl _
theorem le_int' {i j : Int} : R2E K (rI0 fun i j => .bl (decide (i ≤ j))) (.dt (.int i)) (.dt (.int j)) M (.dt (.bool (decide (i ≤ j)))) M := r2_int fun _ => .bl _
theorem gt_int' {i j : Int} : R2E K (rI0 fun i j => .bl (decide (j < i))) (.dt (.int i)) (.dt (.int j)) M (.dt (.bool (decide (j < i)))) M := r2_int fun _ => .bl _
theorem ge_int' {i j : Int} : R2E K (rI0 fun i j => .bl (decide (j ≤ i))) (.dt (.int i)) (.dt (.int j)) M (.dt (.bool (decide (j ≤ i)))) M := r2_int fun _ => .bl _
theorem eq_int' {i j : Int} : R2E K (rEqD K) (.dt (.int i)) (.dt (.int j)) M (.dt (.bool (decide (i = j)))) M := by rw [← eqv_int]; exact r2_eqD rfl rfl
theorem ne_int' {i j : Int} : R2E K (rNeD K) (.dt (.int i)) (.dt (.int j)) M (.dt (.bool (!decide (i = j)))) M := by rw [← eqv_int]; exact r2_neD rfl rfl
theorem eqv_str (i j : Str) : PyData.eqv (.str i) (.str j) = decide (i = j) := by
  show (i == j) = _
  by_cases h : i = j <;> simp [h]
theorem eq_str' {i j : Str} (h : SeqAt.shaped (.str i) = true) (h2 : SeqAt.shaped (.str j) = true) : R2E K (rEqD K) (.dt (.str i)) (.dt (.str j)) M (.dt (.bool (decide (i = j)))) M := by rw [← eqv_str]; exact r2_eqD h h2
theorem ne_str' {i j : Str} (h : SeqAt.shaped (.str i) = true) (h2 : SeqAt.shaped (.str j) = true) : R2E K (rNeD K) (.dt (.str i)) (.dt (.str j)) M (.dt (.bool (!decide (i = j)))) M := by rw [← eqv_str]; exact r2_neD h h2
def isNon : PyData → Bool | .none => true | _ => false
theorem is_none' {d : PyData} : R2E K (fun x y H Q => y = .non ∧ Q (.bl (decide (x = .non))) H) (.dt d) (.dt .none) M (.dt (.bool (isNon d))) M := fun B E σ G H S v w hv hw Q q => by
  cases hw
  refine ⟨rfl, q _ G H Same.rfl' S ?_⟩
  cases hv <;> exact Dr.bl _
theorem isnt_none' {d : PyData} : R2E K (fun x y H Q => y = .non ∧ Q (.bl (!decide (x = .non))) H) (.dt d) (.dt .none) M (.dt (.bool (!isNon d))) M := fun B E σ G H S v w hv hw Q q => by
  cases hw
  refine ⟨rfl, q _ G H Same.rfl' S ?_⟩
  cases hv <;> exact Dr.bl _
/-! ### items -/
theorem x_list {ds : List PyData} {i : Int} {d : PyData} (h : atI ds i = some d) : R2E K (rIx K) (.dt (.list ds)) (.dt (.int i)) M (.dt d) M := R2E.inl fun B E σ G H S v w hv hw Q q => by
  cases hv with
  | lst e a =>
    cases hw
    obtain ⟨u, h1, h2⟩ := a.atI h
    exact ⟨_, _, i, u, rfl, rfl, .of (S.sub _ _ e), h1, q u G H Same.rfl' S h2⟩
theorem x_tup {ds : List PyData} {i : Int} {d : PyData} (h : atI ds i = some d) : R2E K (rIx K) (.dt (.tuple ds)) (.dt (.int i)) M (.dt d) M := R2E.inr (R2E.inl fun B E σ G H S v w hv hw Q q => by
  cases hv with
  | tup e a =>
    cases hw
    obtain ⟨u, h1, h2⟩ := a.atI h
    exact ⟨_, _, i, u, rfl, rfl, .of (S.sub _ _ e), h1, q u G H Same.rfl' S h2⟩)
theorem x_scr {ns : List Int} {i k : Int} (h : atI ns i = some k) : R2E K (rIx K) (.sc ns) (.dt (.int i)) M (.dt (.int k)) M := R2E.inl fun B E σ G H S v w hv hw Q q => by
  obtain ⟨a, rfl, hs⟩ := hv
  cases hw
  exact ⟨a, _, i, _, rfl, rfl, S.sub.seq hs, atI_map V.int h, q _ G H Same.rfl' S (Dr.int _)⟩
theorem x_own {p : Addr} {i : Int} {fl : Bool} (hm : (p, fl, GO.lst xs) ∈ M) (h : atI xs i = some g) : R2E K (rIx K) (.rf p) (.dt (.int i)) M g M := R2E.inl fun B E σ G H S v w hv hw Q q => by
  have hv' : v = .ref p := hv
  subst hv'
  cases hw
  obtain ⟨_, ⟨o, h1, h2⟩, _⟩ := S.cells.at_ _ hm
  obtain ⟨vs, rfl, r⟩ := RelO.lst_inv h2
  obtain ⟨u, k1, k2⟩ := RelGs.atI r h
  exact ⟨p, vs, i, u, rfl, rfl, .of h1, k1, q u G H Same.rfl' S k2⟩
theorem x_ownT {p : Addr} {i : Int} {fl : Bool} (hm : (p, fl, GO.tup xs) ∈ M) (h : atI xs i = some g) : R2E K (rIx K) (.rf p) (.dt (.int i)) M g M := R2E.inr (R2E.inl fun B E σ G H S v w hv hw Q q => by
  have hv' : v = .ref p := hv
  subst hv'
  cases hw
  obtain ⟨_, ⟨o, h1, h2⟩, _⟩ := S.cells.at_ _ hm
  obtain ⟨vs, rfl, r⟩ := RelO.tup_inv h2
  obtain ⟨u, k1, k2⟩ := RelGs.atI r h
  exact ⟨p, vs, i, u, rfl, rfl, .of h1, k1, q u G H Same.rfl' S k2⟩)
theorem x_str {z : Str} {i : Int} {c : Nat} (hz : z.length ≤ sizeLine) (h : atI z.cps.toList i = some c) : R2E K (rIx K) (.dt (.str z)) (.dt (.int i)) M (.dt (.str ⟨#[c]⟩)) M := R2E.inr (R2E.inr fun B E σ G H S v w hv hw Q q => by
  cases hv; cases hw
  exact ⟨z, i, c, rfl, rfl, hz, h, q _ G H Same.rfl' S (Dr.str _)⟩)
/-! ### slices -/
def EO (K : PySem.W.Frag) (to : TO) (E : GE) (M : GM) (o : Option Int) : Prop :=
  ∀ B σ G H, SR K B E M σ G H → ∀ Q : Option Int → Hp → Prop, (∀ G' H', Same G G' → SR K B E M σ G' H' → Q o H') → to σ H Q
theorem eo_none : EO K tNoPart E M none := fun B σ G H S Q q => q G H Same.rfl' S
theorem eo_int {i : Int} (h : EE K te E M (.dt (.int i)) M) : EO K (tPart te) E M (some i) := fun B σ G H S Q q => h B σ G H S _ fun v G1 H1 s1 S1 r1 => by
  cases r1
  exact ⟨i, rfl, q G1 H1 s1 S1⟩
def cutD {α : Type} (xs : List α) (lo hi : Option Int) : List α := (xs.drop (HT.sIx xs.length 0 lo)).take (HT.sIx xs.length xs.length hi - HT.sIx xs.length 0 lo)
theorem DrAll.drop {G : Hp} : ∀ {vs : List V} {ds : List PyData} (n : Nat), DrAll G vs ds → DrAll G (vs.drop n) (ds.drop n)
  | _, _, 0, h => h
  | _, _, _ + 1, .nil => .nil
  | _, _, n + 1, .cons _ t => t.drop n
theorem DrAll.take {G : Hp} : ∀ {vs : List V} {ds : List PyData} (n : Nat), DrAll G vs ds → DrAll G (vs.take n) (ds.take n)
  | _, _, 0, h => .nil
  | _, _, _ + 1, .nil => .nil
  | _, _, n + 1, .cons h t => .cons h (t.take n)
theorem DrAll.of_ints {G : Hp} : ∀ ns : List Int, DrAll G (ns.map V.int) (ns.map .int)
  | [] => .nil
  | _ :: ns => .cons (.int _) (DrAll.of_ints ns)
theorem ef_cut {tl th : TO} {ds : List PyData} {lo hi : Option Int} (h : EE K te E M (.dt (.list ds)) M1) (hl : EO K tl E M1 lo) (hh : EO K th E M1 hi) : EF K (tSl (rSlU K) te tl th) E M ((cutD ds lo hi).map .dt) M1 := fun B σ G H S Q q =>
  h B σ G H S _ fun v G1 H1 s1 S1 r1 => hl B σ G1 H1 S1 _ fun G2 H2 s2 S2 => hh B σ G2 H2 S2 _ fun G3 H3 s3 S3 => by
    cases Dr.mono (s2.trans s3) r1 with
    | lst e a =>
      refine .inl ⟨_, _, rfl, .of (S3.sub _ _ e), fun p hp => q p G3 _ (s1.trans (s2.trans s3)) (S3.own hp ?_)⟩
      unfold cutV cutD
      rw [a.length]
      exact RelGs.of_data ((a.drop _).take _)
theorem ef_cutS {tl th : TO} {ns : List Int} {lo hi : Option Int} (h : EE K te E M (.sc ns) M1) (hl : EO K tl E M1 lo) (hh : EO K th E M1 hi) : EF K (tSl (rSlU K) te tl th) E M (((cutD ns lo hi).map PyData.int).map .dt) M1 := fun B σ G H S Q q =>
  h B σ G H S _ fun v G1 H1 s1 S1 r1 => hl B σ G1 H1 S1 _ fun G2 H2 s2 S2 => hh B σ G2 H2 S2 _ fun G3 H3 s3 S3 => by
    obtain ⟨a, rfl, hs⟩ := r1
    refine .inl ⟨_, _, rfl, S3.sub.seq (s3.seq (s2.seq hs)), fun p hp => q p G3 _ (s1.trans (s2.trans s3)) (S3.own hp ?_)⟩
    unfold cutV cutD
    rw [List.length_map, ← List.map_drop, ← List.map_take]
    exact RelGs.of_data (DrAll.of_ints _)
theorem ee_cutT {tl th : TO} {z : Str} {lo hi : Option Int} (h : EE K te E M (.dt (.str z)) M1) (hl : EO K tl E M1 lo) (hh : EO K th E M1 hi) (hz : z.length ≤ sizeLine) : EE K (tSl (rSlU K) te tl th) E M (.dt (.str (cutS z lo hi))) M1 := fun B σ G H S Q q =>
  h B σ G H S _ fun v G1 H1 s1 S1 r1 => hl B σ G1 H1 S1 _ fun G2 H2 s2 S2 => hh B σ G2 H2 S2 _ fun G3 H3 s3 S3 => by
    cases r1
    exact .inr ⟨z, rfl, hz, q _ G3 H3 (s1.trans (s2.trans s3)) S3 (Dr.str _)⟩
/-! ### len -/
theorem l_list {ds : List PyData} : RCE K (rLenU K) [.dt (.list ds)] M (.dt (.int (ds.length : Int))) M := RCE.inl fun B E σ G H S vs r Q q => by
  obtain ⟨v, rfl, hv⟩ := one_inv r
  cases hv with
  | lst e a => exact ⟨_, _, rfl, .inl (.of (S.sub _ _ e)), by rw [a.length]; exact q _ G H Same.rfl' S (Dr.int _)⟩
theorem l_tup {ds : List PyData} : RCE K (rLenU K) [.dt (.tuple ds)] M (.dt (.int (ds.length : Int))) M := RCE.inl fun B E σ G H S vs r Q q => by
  obtain ⟨v, rfl, hv⟩ := one_inv r
  cases hv with
  | tup e a => exact ⟨_, _, rfl, .inr (.of (S.sub _ _ e)), by rw [a.length]; exact q _ G H Same.rfl' S (Dr.int _)⟩
theorem l_scr {ns : List Int} : RCE K (rLenU K) [.sc ns] M (.dt (.int (ns.length : Int))) M := RCE.inl fun B E σ G H S vs r Q q => by
  obtain ⟨v, rfl, hv⟩ := one_inv r
  obtain ⟨a, rfl, hs⟩ := hv
  exact ⟨_, _, rfl, .inl (S.sub.seq hs), by rw [List.length_map]; exact q _ G H Same.rfl' S (Dr.int _)⟩
theorem l_own {p : Addr} {fl : Bool} (hm : (p, fl, GO.lst xs) ∈ M) : RCE K (rLenU K) [.rf p] M (.dt (.int (xs.length : Int))) M := RCE.inl fun B E σ G H S vs r Q q => by
  obtain ⟨v, rfl, hv⟩ := one_inv r
  have hv' : v = .ref p := hv
  subst hv'
  obtain ⟨_, ⟨o, h1, h2⟩, _⟩ := S.cells.at_ _ hm
  obtain ⟨ws, rfl, r⟩ := RelO.lst_inv h2
  exact ⟨p, ws, rfl, .inl (.of h1), by rw [RelGs.length r]; exact q _ G H Same.rfl' S (Dr.int _)⟩
theorem l_str {z : Str} (hz : z.length ≤ sizeLine) : RCE K (rLenU K) [.dt (.str z)] M (.dt (.int (z.length : Int))) M := RCE.inr fun B E σ G H S vs r Q q => by
  obtain ⟨v, rfl, hv⟩ := one_inv r
  cases hv
  exact ⟨z, rfl, hz, q _ G H Same.rfl' S (Dr.int _)⟩
def rAbs1 : TR := fun xs H Q => ∃ i, xs = [.int i] ∧ Q (.int (if i < 0 then -i else i)) H
theorem o_abs {X : Cx} : CallR X (.builtin "abs") rAbs1 := call_abs
theorem l_abs {i : Int} : RCE K rAbs1 [.dt (.int i)] M (.dt (.int (i.natAbs : Int))) M := fun B E σ G H S vs r Q q => by
  obtain ⟨v, rfl, hv⟩ := one_inv r
  cases hv
  refine ⟨i, rfl, ?_⟩
  have e : (if i < 0 then -i else i) = (i.natAbs : Int) := by split <;> omega
  rw [e]
  exact q _ G H Same.rfl' S (Dr.int _)
def rMax2' : TR := fun xs H Q => ∃ i j, xs = [.int i, .int j] ∧ Q (.int (if j > i then j else i)) H
theorem o_max2 {X : Cx} (hc : X.calm = true) : CallR X (.builtin "max") rMax2' := call_max2 hc
theorem l_max2 {i j : Int} : RCE K rMax2' [.dt (.int i), .dt (.int j)] M (.dt (.int (max i j))) M := fun B E σ G H S vs r Q q => by
  obtain ⟨v, w, rfl, hv, hw⟩ := two_inv r
  cases hv; cases hw
  refine ⟨i, j, rfl, ?_⟩
  have e : (if j > i then j else i) = max i j := by split <;> omega
  rw [e]
  exact q _ G H Same.rfl' S (Dr.int _)
def rMin2' : TR := fun xs H Q => ∃ i j, xs = [.int i, .int j] ∧ Q (.int (if j < i then j else i)) H
theorem o_min2 {X : Cx} (hc : X.calm = true) : CallR X (.builtin "min") rMin2' := call_min2 hc
theorem l_min2 {i j : Int} : RCE K rMin2' [.dt (.int i), .dt (.int j)] M (.dt (.int (min i j))) M := fun B E σ G H S vs r Q q => by
  obtain ⟨v, w, rfl, hv, hw⟩ := two_inv r
  cases hv; cases hw
  refine ⟨i, j, rfl, ?_⟩
  have e : (if j < i then j else i) = min i j := by split <;> omega
  rw [e]
  exact q _ G H Same.rfl' S (Dr.int _)
def rInt1 : TR := fun xs H Q => (∃ i, xs = [.int i] ∧ Q (.int i) H) ∨ ∃ k, xs = [.bl k] ∧ Q (.int (if k then 1 else 0)) H
theorem o_int {X : Cx} : CallR X (.type "int") rInt1 := call_int1
theorem l_intB {k : Bool} : RCE K rInt1 [.dt (.bool k)] M (.dt (.int (if k then 1 else 0))) M := fun B E σ G H S vs r Q q => by
  obtain ⟨v, rfl, hv⟩ := one_inv r
  cases hv
  exact .inr ⟨k, rfl, q _ G H Same.rfl' S (Dr.int _)⟩
theorem l_isi {d : PyData} {n : String} (hk : kitB (tyD d) n = some b) : RCE K (rIsi K) [.dt d, .ty n] M (.dt (.bool b)) M := fun B E σ G H S vs r Q q => by
  obtain ⟨v, w, rfl, hv, hw⟩ := two_inv r
  have hw' : w = .ty n := hw
  subst hw'
  exact ⟨v, .ty n, _, _, b, rfl, .ty n, ty_data S.sub hv, kit_ty hk, q _ G H Same.rfl' S (Dr.bl _)⟩
theorem l_sum {ns : List Int} : RCE K (rSum K) [.dt (.list (ns.map .int))] M (.dt (.int ns.sum)) M := fun B E σ G H S vs r Q q => by
  obtain ⟨v, rfl, hv⟩ := one_inv r
  cases hv with
  | lst e a =>
    rw [a.ints] at e
    exact ⟨_, ns, rfl, .of (S.sub _ _ e), q _ G H Same.rfl' S (Dr.int _)⟩
/-! ### in -/
theorem i_data {d : PyData} {ds : List PyData} (h1 : SeqAt.shaped d = true) (h2 : SeqAt.shaped (.list ds) = true) : R2E K (rInD K) (.dt d) (.dt (.list ds)) M (.dt (.bool (ds.any fun z => PyData.eqv z d))) M := fun B E σ G H S v w hv hw Q q =>
  ⟨d, ds, (Dr.mono S.sub hv).dp, (Dr.mono S.sub hw).dp, h1, h2, q _ G H Same.rfl' S (Dr.bl _)⟩
theorem ni_data {d : PyData} {ds : List PyData} (h1 : SeqAt.shaped d = true) (h2 : SeqAt.shaped (.list ds) = true) : R2E K (rNotInD K) (.dt d) (.dt (.list ds)) M (.dt (.bool (!ds.any fun z => PyData.eqv z d))) M := fun B E σ G H S v w hv hw Q q =>
  ⟨d, ds, (Dr.mono S.sub hv).dp, (Dr.mono S.sub hw).dp, h1, h2, q _ G H Same.rfl' S (Dr.bl _)⟩
/-- one's own list read as data where it stands -/
theorem SR.own_dp {B : Bs} {σ : L2.St} {G H : Hp} {p : Addr} {fl : Bool} {ds : List PyData} (S : SR K B E M σ G H) (hm : (p, fl, GO.lst (ds.map .dt)) ∈ M) : Dp K H (.ref p) (.list ds) := by
  obtain ⟨_, ⟨o, h1, h2⟩, _⟩ := S.cells.at_ _ hm
  obtain ⟨vs, rfl, r⟩ := RelO.lst_inv h2
  exact .lst (.of h1) (DrAll.mono S.sub r.data).dp
theorem i_own {d : PyData} {p : Addr} {fl : Bool} {ds : List PyData} (hm : (p, fl, GO.lst (ds.map .dt)) ∈ M) (h1 : SeqAt.shaped d = true) (h2 : SeqAt.shaped (.list ds) = true) : R2E K (rInD K) (.dt d) (.rf p) M (.dt (.bool (ds.any fun z => PyData.eqv z d))) M := fun B E σ G H S v w hv hw Q q => by
  have hw' : w = .ref p := hw
  subst hw'
  exact ⟨d, ds, (Dr.mono S.sub hv).dp, S.own_dp hm, h1, h2, q _ G H Same.rfl' S (Dr.bl _)⟩
theorem ni_own {d : PyData} {p : Addr} {fl : Bool} {ds : List PyData} (hm : (p, fl, GO.lst (ds.map .dt)) ∈ M) (h1 : SeqAt.shaped d = true) (h2 : SeqAt.shaped (.list ds) = true) : R2E K (rNotInD K) (.dt d) (.rf p) M (.dt (.bool (!ds.any fun z => PyData.eqv z d))) M := fun B E σ G H S v w hv hw Q q => by
  have hw' : w = .ref p := hw
  subst hw'
  exact ⟨d, ds, (Dr.mono S.sub hv).dp, S.own_dp hm, h1, h2, q _ G H Same.rfl' S (Dr.bl _)⟩
/-! ### data of ghost lists -/
def undt : List GV → Option (List PyData)
  | [] => some []
  | .dt d :: r => (undt r).map (d :: ·)
  | _ :: _ => none
theorem undt_eq : ∀ {xs : List GV} {ds : List PyData}, undt xs = some ds → xs = ds.map .dt
  | [], ds, h => by cases h; rfl
  | .dt d :: r, ds, h => by
    unfold undt at h
    cases e : undt r with
    | none => rw [e] at h; cases h
    | some es =>
      rw [e] at h
      cases h
      rw [undt_eq e] <;> rfl
  | .rf _ :: _, _, h => by cases h
  | .sc _ :: _, _, h => by cases h
  | .ty _ :: _, _, h => by cases h
theorem ee_fzU {ds : List PyData} (h : EF K te E M xs M1) (e : undt xs = some ds) : EE K te E M (.dt (.list ds)) M1 := by
  rw [undt_eq e] at h
  exact ee_fz h
theorem ee_tupU {tr : TA} {gs : List GV} {ds : List PyData} (h : EA K tr E M gs M1) (e : undt gs = some ds) (hl : ds.length ≤ sizeLine) : EE K (tTup tr) E M (.dt (.tuple ds)) M1 := by
  rw [undt_eq e] at h
  exact ee_tup h hl
end
end Ek

set_option Elab.async false
set_option linter.all false
set_option maxRecDepth 100000
/-! zip, enumerate, ranges, comprehensions over them; in, list(..); the law's begin -/
namespace Ek
open PySem PySem.Spec PyProof.Rows L2

theorem hu64 {A : Around} {k : Nat} (hr : Room k A) : A.units + 64 < cLine := by have := hr.un; omega
theorem hu65 {A : Around} {k : Nat} (hr : Room k A) : A.units + 65 < cLine := by have := hr.un; omega
section
variable {X : Cx}
def rInStr : R2 := fun x y H Q => ∃ i j, x = .str i ∧ y = .str j ∧ Q (.bl (!(Builtin.Str.occurrences j i 0 j.length 1).isEmpty)) H
def rNotInStr : R2 := fun x y H Q => ∃ i j, x = .str i ∧ y = .str j ∧ Q (.bl (!(!(Builtin.Str.occurrences j i 0 j.length 1).isEmpty))) H
def rInU (K : PySem.W.Frag) : R2 := fun x y H Q => rInD K x y H Q ∨ rIn K false x y H Q ∨ rInStr x y H Q
def rNotInU (K : PySem.W.Frag) : R2 := fun x y H Q => rNotInD K x y H Q ∨ rIn K true x y H Q ∨ rNotInStr x y H Q
theorem o_in (hu : X.A.units + 65 < cLine) : OpR X (compareOp .In) (rInU X.K) := OpR.both (op_inD hu) (OpR.both op_in_seq op_in_str)
theorem o_notin (hu : X.A.units + 65 < cLine) : OpR X (compareOp .NotIn) (rNotInU X.K) := OpR.both (op_notInD hu) (OpR.both op_notIn_seq op_notin_str)
def rListOf (K : PySem.W.Frag) : TR := fun xs H Q => ∃ p ys, xs = [.ref p] ∧ (SqL K H p ys ∨ SqT K H p ys) ∧ ∀ l, H l = none → Q (.ref l) (upd H l (.lst ys))
theorem o_list : CallR X (.type "list") (rListOf X.K) := call_list_of
end
/-! ### one structure of walk -/
theorem for_it {J : It} {g : TG} {tb : TS} {D : Ends} {σ : L2.St} {H : Hp} (n : Nat) (Pv : Nat → L2.St → Hp → Prop) (h0 : Pv 0 σ H) (hgo : ∀ i σ H, i < n → Pv i σ H → J.go i H) (hstop : ∀ σ H, Pv n σ H → J.stop n H)
    (hs : ∀ i σ H x H', i < n → Pv i σ H → J.yld i H x H' → g x σ H' fun σ2 H2 => tb { D with nx := Pv (i + 1), ct := Pv (i + 1), bk := D.nx } σ2 H2) (hd : ∀ σ H, Pv n σ H → D.nx σ H) :
    ∃ W : Nat → Nat → L2.St → Hp → Prop, (∃ m, W 0 m σ H) ∧ ∀ i m σ H, W i m σ H →
      (J.stop i H ∧ D.nx σ H) ∨ (J.go i H ∧ ∃ N : L2.St → Hp → Prop, (∀ σ' H', N σ' H' → ∃ m', m' < m ∧ W (i + 1) m' σ' H') ∧ ∀ v H', J.yld i H v H' → g v σ H' fun σ2 H2 => tb { D with nx := N, ct := N, bk := D.nx } σ2 H2) := by
  refine ⟨fun i m σ H => m = n - i ∧ i ≤ n ∧ Pv i σ H, ⟨n, rfl, Nat.zero_le _, h0⟩, ?_⟩
  rintro i m σ H ⟨rfl, hi, p⟩
  by_cases hlt : i < n
  · exact .inr ⟨hgo i σ H hlt p, Pv (i + 1), fun σ' H' p' => ⟨n - (i + 1), by omega, rfl, hlt, p'⟩, fun v H' y => hs i σ H v H' hlt p y⟩
  · have e : i = n := by omega
    subst e
    exact .inl ⟨hstop σ H p, hd σ H p⟩
theorem lc_it {J : It} {g : TG} {tt : TT} {te : TE} {vs : List Nat} {σ : L2.St} {H1 : Hp} {D : Addr} {Qd : Hp → Prop} (n : Nat) (Pv : Nat → Hp → Prop) (h0 : Pv 0 (upd H1 D (.lst []))) (hgo : ∀ i H, i < n → Pv i H → J.go i H) (hstop : ∀ H, Pv n H → J.stop n H)
    (hs : ∀ i H x H', i < n → Pv i H → J.yld i H x H' → g x (wipe σ vs) H' fun σ2 H2 => wipe σ2 vs = wipe σ vs ∧ tt σ2 H2 fun b H3 =>
      if b = true then te σ2 H3 fun y H4 => ∃ acc, H4 D = some (.lst acc) ∧ acc.length < sizeLine ∧ Pv (i + 1) (upd H4 D (.lst (acc ++ [y]))) else Pv (i + 1) H3) (hd : ∀ H, Pv n H → Qd H) :
    ∃ W : Nat → Nat → Hp → Prop, (∃ m, W 0 m (upd H1 D (.lst []))) ∧ ∀ i m H, W i m H →
      (J.stop i H ∧ Qd H) ∨ (J.go i H ∧ ∃ Nx : Hp → Prop, (∀ H', Nx H' → ∃ m', m' < m ∧ W (i + 1) m' H') ∧ ∀ x H', J.yld i H x H' → g x (wipe σ vs) H' fun σ2 H2 => wipe σ2 vs = wipe σ vs ∧ tt σ2 H2 fun b H3 =>
        if b = true then te σ2 H3 fun y H4 => ∃ acc, H4 D = some (.lst acc) ∧ acc.length < sizeLine ∧ Nx (upd H4 D (.lst (acc ++ [y]))) else Nx H3) := by
  refine ⟨fun i m H => m = n - i ∧ i ≤ n ∧ Pv i H, ⟨n, rfl, Nat.zero_le _, h0⟩, ?_⟩
  rintro i m H ⟨rfl, hi, p⟩
  by_cases hlt : i < n
  · exact .inr ⟨hgo i H hlt p, Pv (i + 1), fun H' p' => ⟨n - (i + 1), by omega, rfl, hlt, p'⟩, fun v H' y => hs i H v H' hlt p y⟩
  · have e : i = n := by omega
    subst e
    exact .inl ⟨hstop H p, hd H p⟩
section
variable {K : PySem.W.Frag} {E : GE} {M M1 M2 : GM} {P : Kn} {t : TS} {te tl tl2 : TE} {tt : TT}
def setL (E : GE) : List Nat → List GV → GE
  | j :: js, g :: gs => setL (E.set j (some g)) js gs
  | _, _ => E
/-- what a walk gives to its target's slots, turn by turn, from the shared data G1 on -/
structure Wk (K : PySem.W.Frag) (J : It) (g : TG) (G1 : Hp) (n : Nat) (js : List Nat) (f : Nat → List GV) : Prop where
  go : ∀ i H G2, i < n → Same G1 G2 → Same G2 H → J.go i H
  stop : ∀ H G2, Same G1 G2 → Same G2 H → J.stop n H
  turn : ∀ (i : Nat) (B : Bs) (E : GE) (M : GM) (σ : L2.St) (G2 H : Hp) (x : V) (H' : Hp) (R : L2.St → Hp → Prop), i < n → SR K B E M σ G2 H → Same G1 G2 → J.yld i H x H' →
    (∀ σ3 G3, Same G2 G3 → SR K B (setL E js (f i)) M σ3 G3 H' → (∀ vs, (∀ j ∈ js, j ∈ vs) → wipe σ3 vs = wipe σ vs) → R σ3 H') → g x σ H' R
/-- an iterable -/
def EI (K : PySem.W.Frag) (wi : TI) (g : TG) (E : GE) (M : GM) (M1 : GM) (n : Nat) (js : List Nat) (f : Nat → List GV) : Prop :=
  ∀ B σ G H, SR K B E M σ G H → ∀ R : It → Hp → Prop, (∀ J G' H', Same G G' → SR K B E M1 σ G' H' → Wk K J g G' n js f → R J H') → wi σ H R
theorem wipe_at (vs : List Nat) (τ : L2.St) (i : Nat) : (wipe τ vs)[i]? = if i ∈ vs ∧ i < τ.length then some none else τ[i]? := by
  induction vs with
  | nil => unfold wipe; rw [if_neg (by simp)]
  | cons v vs ih =>
    unfold wipe
    by_cases hi : v = i
    · subst hi
      by_cases hl : v < τ.length
      · rw [List.getElem?_set_self (by rw [wipe_length]; exact hl), if_pos ⟨List.mem_cons_self, hl⟩]
      · rw [List.getElem?_eq_none (by rw [List.length_set, wipe_length]; omega), if_neg (by omega), List.getElem?_eq_none (by omega)]
    · rw [List.getElem?_set_ne hi, ih]
      by_cases hm : i ∈ vs
      · by_cases hl : i < τ.length
        · rw [if_pos ⟨hm, hl⟩, if_pos ⟨List.mem_cons_of_mem _ hm, hl⟩]
        · rw [if_neg (by omega), if_neg (by omega)]
      · rw [if_neg (by simp [hm]), if_neg (by simp [hm, Ne.symm hi])]
theorem wipe_of_set {σ : L2.St} {x : Option V} {j : Nat} {vs : List Nat} (hj : j ∈ vs) : wipe (σ.set j x) vs = wipe σ vs := by
  refine List.ext_getElem? fun i => ?_
  rw [wipe_at, wipe_at, List.length_set]
  by_cases hm : i ∈ vs ∧ i < σ.length
  · rw [if_pos hm, if_pos hm]
  · rw [if_neg hm, if_neg hm]
    by_cases hij : j = i
    · subst hij
      have hl : ¬ j < σ.length := fun z => hm ⟨hj, z⟩
      rw [List.getElem?_eq_none (by rw [List.length_set]; omega), List.getElem?_eq_none (by omega)]
    · rw [List.getElem?_set_ne hij]
theorem wipe_wipe (σ : L2.St) (vs : List Nat) : wipe (wipe σ vs) vs = wipe σ vs := by
  refine List.ext_getElem? fun i => ?_
  rw [wipe_at, wipe_length, wipe_at]
  by_cases hm : i ∈ vs ∧ i < σ.length
  · rw [if_pos hm]
    exact (if_pos hm).symm
  · rw [if_neg hm]
/-- a pair handed to two names -/
theorem turn_pair {B : Bs} {M : GM} {σ : L2.St} {G2 H : Hp} {T : Addr} {x y : V} {gx gy : GV} {j1 j2 : Nat} {R : L2.St → Hp → Prop} (S : SR K B E M σ G2 H) (hT : SqT K H T [x, y]) (hx : RelG K G2 x gx) (hy : RelG K G2 y gy)
    (q : ∀ σ3 G3, Same G2 G3 → SR K B (setL E [j1, j2] [gx, gy]) M σ3 G3 H → (∀ vs, (∀ j ∈ [j1, j2], j ∈ vs) → wipe σ3 vs = wipe σ vs) → R σ3 H) :
    gTup K 2 (gCons (gName j1) (gCons (gName j2) gNil)) (.ref T) σ H R := by
  refine ⟨T, [x, y], rfl, hT, rfl, x, [y], rfl, y, [], rfl, rfl, ?_⟩
  refine q _ G2 Same.rfl' ((S.set hx).set hy) fun vs hv => ?_
  rw [wipe_of_set (hv j2 (by simp)), wipe_of_set (hv j1 (by simp))]
theorem wk_list {G1 : Hp} {a : Addr} {vs : List V} {ds : List PyData} {j : Nat} (e : G1 a = some (.lst vs)) (ha : DrAll G1 vs ds) : Wk K (Itl K a) (gName j) G1 ds.length [j] (fun i => [.dt (ds.getD i .none)]) where
  go := fun i H G2 hi s1 s2 => ⟨vs, vs[i]'(by rw [ha.length]; exact hi), .of (s2 _ _ (s1 _ _ e)), by simp⟩
  stop := fun H G2 s1 s2 => ⟨vs, .of (s2 _ _ (s1 _ _ e)), by rw [ha.length]; exact Nat.le_refl _⟩
  turn := fun i B E M σ G2 H x H' R hi S s1 y q => by
    obtain ⟨rfl, y⟩ := y
    obtain ⟨d, hd, rd⟩ := ha.get (y vs (.of (S.sub _ _ (s1 _ _ e))))
    have e2 : ds.getD i .none = d := by rw [List.getD_eq_getElem?_getD, hd] <;> rfl
    refine q _ G2 Same.rfl' (S.set (i := j) (g := .dt (ds.getD i .none)) (by rw [e2]; exact Dr.mono s1 rd)) fun vs hv => wipe_of_set (hv j (by simp))
theorem ei_list {j : Nat} {ds : List PyData} (h : EE K tl E M (.dt (.list ds)) M1) : EI K (iList K tl) (gName j) E M M1 ds.length [j] (fun i => [.dt (ds.getD i .none)]) := fun B σ G H S R q =>
  h B σ G H S _ fun v G1 H1 s1 S1 r1 => by
    cases r1 with
    | lst e a => exact ⟨_, rfl, ⟨_, .of (S1.sub _ _ e)⟩, q _ G1 H1 s1 S1 (wk_list e a)⟩
/-- the script itself -/
theorem ei_scr {j : Nat} {ns : List Int} (h : EE K tl E M (.sc ns) M1) : EI K (iList K tl) (gName j) E M M1 ns.length [j] (fun i => [.dt (.int (ns.getD i 0))]) := fun B σ G H S R q =>
  h B σ G H S _ fun v G1 H1 s1 S1 r1 => by
    obtain ⟨a, rfl, hs⟩ := r1
    refine ⟨_, rfl, ⟨_, S1.sub.seq hs⟩, q _ G1 H1 s1 S1 ⟨fun i H G2 hi s1 s2 => ⟨_, .int (ns.getD i 0), s2.seq (s1.seq hs), ?_⟩, fun H G2 s1 s2 => ⟨_, s2.seq (s1.seq hs), by rw [List.length_map]; exact Nat.le_refl _⟩, fun i B E M σ G2 H x H' R hi S s1 y q => ?_⟩⟩
    · rw [List.getElem?_map, List.getElem?_eq_getElem hi, List.getD_eq_getElem?_getD, List.getElem?_eq_getElem hi] <;> rfl
    · obtain ⟨rfl, y⟩ := y
      have hx := y _ (S.sub.seq (s1.seq hs))
      rw [List.getElem?_map, List.getElem?_eq_getElem hi] at hx
      have hx' : x = .int (ns.getD i 0) := by
        rw [List.getD_eq_getElem?_getD, List.getElem?_eq_getElem hi]
        exact (Option.some.inj hx).symm
      subst hx'
      exact q _ G2 Same.rfl' (S.set (i := j) (g := .dt (.int (ns.getD i 0))) (Dr.int _)) fun vs hv => wipe_of_set (hv j (by simp))
/-- for a, b in a list of pairs -/
theorem ei_list2 {j1 j2 : Nat} {ds : List PyData} (fa fb : Nat → PyData) (h : EE K tl E M (.dt (.list ds)) M1) (hf : ∀ (i : Nat) (d : PyData), ds[i]? = some d → d = PyData.tuple [fa i, fb i]) :
    EI K (iList K tl) (gTup K 2 (gCons (gName j1) (gCons (gName j2) gNil))) E M M1 ds.length [j1, j2] (fun i => [.dt (fa i), .dt (fb i)]) := fun B σ G H S R q =>
  h B σ G H S _ fun v G1 H1 s1 S1 r1 => by
    cases r1 with
    | lst e a =>
      rename_i ad vs
      refine ⟨_, rfl, ⟨_, .of (S1.sub _ _ e)⟩, q _ G1 H1 s1 S1 ⟨fun i H G2 hi s1 s2 => ⟨vs, vs[i]'(by rw [a.length]; exact hi), .of (s2 _ _ (s1 _ _ e)), by simp⟩, fun H G2 s1 s2 => ⟨vs, .of (s2 _ _ (s1 _ _ e)), by rw [a.length]; exact Nat.le_refl _⟩, fun i B E M σ G2 H x H' R hi S s1 y q => ?_⟩⟩
      obtain ⟨rfl, y⟩ := y
      obtain ⟨d, hd, rd⟩ := a.get (y vs (.of (S.sub _ _ (s1 _ _ e))))
      have hd2 := hf i d hd
      subst hd2
      cases Dr.mono s1 rd with
      | tup et at_ =>
        cases at_ with
        | cons d1 t1 =>
          cases t1 with
          | cons d2 t2 =>
            cases t2
            exact turn_pair S (.of (S.sub _ _ et)) (gx := .dt (fa i)) (gy := .dt (fb i)) d1 d2 q
/-- enumerate -/
theorem ei_enum {j1 j2 : Nat} {ds : List PyData} (h : EE K tl E M (.dt (.list ds)) M1) :
    EI K (iEnum K (tCons tl tNil)) (gTup K 2 (gCons (gName j1) (gCons (gName j2) gNil))) E M M1 ds.length [j1, j2] (fun i => [.dt (.int (i : Int)), .dt (ds.getD i .none)]) := fun B σ G H S R q =>
  h B σ G H S _ fun v G1 H1 s1 S1 r1 => by
    cases r1 with
    | lst e a =>
      rename_i ad vs
      refine ⟨ad, vs, rfl, .of (S1.sub _ _ e), q _ G1 H1 s1 S1 ⟨fun i H G2 hi s1 s2 => ⟨vs, vs[i]'(by rw [a.length]; exact hi), .of (s2 _ _ (s1 _ _ e)), by simp⟩, fun H G2 s1 s2 => ⟨vs, .of (s2 _ _ (s1 _ _ e)), by rw [a.length]; exact Nat.le_refl _⟩, fun i B E M σ G2 H x H' R hi S s1 y q => ?_⟩⟩
      obtain ⟨T, w, rfl, hT, rfl, y⟩ := y
      obtain ⟨d, hd, rd⟩ := a.get (y vs (.of (S.sub _ _ (s1 _ _ e))))
      have e2 : ds.getD i .none = d := by rw [List.getD_eq_getElem?_getD, hd] <;> rfl
      have hg := S.gfree hT
      refine turn_pair (S.share hT) (.of upd_same) (gx := .dt (.int (i : Int))) (gy := .dt (ds.getD i .none)) (Dr.int _) (by rw [e2]; exact Dr.mono (same_upd hg) (Dr.mono s1 rd)) fun σ3 G3 s3 S3 hw => ?_
      exact q σ3 G3 ((same_upd hg).trans s3) S3 hw
/-- zip of two lists -/
theorem ei_zip {j1 j2 : Nat} {ds es : List PyData} (h : EE K tl E M (.dt (.list ds)) M1) (h2 : EE K tl2 E M1 (.dt (.list es)) M2) :
    EI K (iZip K (tCons tl (tCons tl2 tNil))) (gTup K 2 (gCons (gName j1) (gCons (gName j2) gNil))) E M M2 (min ds.length es.length) [j1, j2] (fun i => [.dt (ds.getD i .none), .dt (es.getD i .none)]) := fun B σ G H S R q =>
  h B σ G H S _ fun v G1 H1 s1 S1 r1 => h2 B σ G1 H1 S1 _ fun v2 G2 H2 s2 S2 r2 => by
    cases Dr.mono s2 r1 with
    | lst e a =>
      cases r2 with
      | lst e2 a2 =>
        rename_i ad vs ad2 vs2
        refine ⟨ad, ad2, vs, vs2, rfl, .of (S2.sub _ _ e), .of (S2.sub _ _ e2), q _ G2 H2 (s1.trans s2) S2 ⟨fun i H G3 hi s1 s2 => ⟨vs, vs2, vs[i]'(by rw [a.length]; omega), vs2[i]'(by rw [a2.length]; omega), .of (s2 _ _ (s1 _ _ e)), .of (s2 _ _ (s1 _ _ e2)), by simp, by simp⟩,
          fun H G2 s1 s2 => ⟨vs, vs2, .of (s2 _ _ (s1 _ _ e)), .of (s2 _ _ (s1 _ _ e2)), by rw [a.length, a2.length]; omega⟩, fun i B E M σ G3 H x H' R hi S s1 y q => ?_⟩⟩
        obtain ⟨T, w, w2, rfl, hT, rfl, y, y2⟩ := y
        obtain ⟨d, hd, rd⟩ := a.get (y vs (.of (S.sub _ _ (s1 _ _ e))))
        obtain ⟨d2, hd2, rd2⟩ := a2.get (y2 vs2 (.of (S.sub _ _ (s1 _ _ e2))))
        have k1 : ds.getD i .none = d := by rw [List.getD_eq_getElem?_getD, hd] <;> rfl
        have k2 : es.getD i .none = d2 := by rw [List.getD_eq_getElem?_getD, hd2] <;> rfl
        have hg := S.gfree hT
        refine turn_pair (S.share hT) (.of upd_same) (gx := .dt (ds.getD i .none)) (gy := .dt (es.getD i .none)) (by rw [k1]; exact Dr.mono (same_upd hg) (Dr.mono s1 rd)) (by rw [k2]; exact Dr.mono (same_upd hg) (Dr.mono s1 rd2)) fun σ3 G3 s3 S3 hw => ?_
        exact q σ3 G3 ((same_upd hg).trans s3) S3 hw
theorem ei_range1 {j : Nat} {m : Int} {tr : TA} (h : EA K tr E M [.dt (.int m)] M1) (h1 : -(2 ^ 62) ≤ m) (h2 : m < 2 ^ 62) : EI K (iRng1 tr) (gName j) E M M1 m.toNat [j] (fun i => [.dt (.int (i : Int))]) := fun B σ G H S R q =>
  h B σ G H S _ fun vs G1 H1 s1 S1 r1 => by
    obtain ⟨v, rfl, hv⟩ := one_inv r1
    cases hv
    refine ⟨m, rfl, h1, h2, q _ G1 H1 s1 S1 ⟨fun i H G2 hi s1 s2 => hi, fun H G2 s1 s2 => Nat.le_refl _, fun i B E M σ G2 H x H' R hi S s1 y q => ?_⟩⟩
    obtain ⟨rfl, rfl⟩ := y
    have e0 : (0 : Int) + (i : Int) = (i : Int) := Int.zero_add _
    rw [e0]
    exact q _ G2 Same.rfl' (S.set (i := j) (g := .dt (.int (i : Int))) (Dr.int _)) fun vs hv => wipe_of_set (hv j (by simp))
theorem ei_range2 {j : Nat} {lo m : Int} {tr : TA} (h : EA K tr E M [.dt (.int lo), .dt (.int m)] M1) (hm : -(2 ^ 62) ≤ lo ∧ lo < 2 ^ 62 ∧ -(2 ^ 62) ≤ m ∧ m < 2 ^ 62) : EI K (iRng2 tr) (gName j) E M M1 (m - lo).toNat [j] (fun i => [.dt (.int (lo + (i : Int)))]) := fun B σ G H S R q =>
  h B σ G H S _ fun vs G1 H1 s1 S1 r1 => by
    obtain ⟨v, w, rfl, hv, hw⟩ := two_inv r1
    cases hv; cases hw
    refine ⟨lo, m, rfl, hm, q _ G1 H1 s1 S1 ⟨fun i H G2 hi s1 s2 => hi, fun H G2 s1 s2 => Nat.le_refl _, fun i B E M σ G2 H x H' R hi S s1 y q => ?_⟩⟩
    obtain ⟨rfl, rfl⟩ := y
    exact q _ G2 Same.rfl' (S.set (i := j) (g := .dt (.int (lo + (i : Int)))) (Dr.int _)) fun vs hv => wipe_of_set (hv j (by simp))
theorem three_inv {G : Hp} {vs : List V} {g g' g2 : GV} (h : RelGs K G vs [g, g', g2]) : ∃ v w u, vs = [v, w, u] ∧ RelG K G v g ∧ RelG K G w g' ∧ RelG K G u g2 := by
  cases h with
  | cons a t =>
    obtain ⟨w, u, rfl, b, c⟩ := two_inv t
    exact ⟨_, _, _, rfl, a, b, c⟩
theorem ei_range3 {j : Nat} {lo m c : Int} {n : Nat} {tr : TA} (h : EA K tr E M [.dt (.int lo), .dt (.int m), .dt (.int c)] M1) (hm : RgC lo m c n) : EI K (iRng3 tr) (gName j) E M M1 n [j] (fun i => [.dt (.int (lo + (i : Int) * c))]) := fun B σ G H S R q =>
  h B σ G H S _ fun vs G1 H1 s1 S1 r1 => by
    obtain ⟨v, w, u, rfl, hv, hw, hu⟩ := three_inv r1
    cases hv; cases hw; cases hu
    refine ⟨lo, m, c, n, rfl, hm, q _ G1 H1 s1 S1 ⟨fun i H G2 hi s1 s2 => hi, fun H G2 s1 s2 => Nat.le_refl _, fun i B E M σ G2 H x H' R hi S s1 y q => ?_⟩⟩
    obtain ⟨rfl, rfl⟩ := y
    exact q _ G2 Same.rfl' (S.set (i := j) (g := .dt (.int (lo + (i : Int) * c))) (Dr.int _)) fun vs hv => wipe_of_set (hv j (by simp))
/-- for .. in .. -/
theorem blk_for {wi : TI} {g : TG} {n : Nat} {js : List Nat} {f : Nat → List GV} (h : EI K wi g E M M1 n js f) (Iv : Nat → GE → GM → Prop) (h0 : Iv 0 E M1)
    (hs : ∀ i E1 N1, i < n → Iv i E1 N1 → Blk K t (setL E1 js (f i)) N1 (turnK P (Iv (i + 1)))) (hd : ∀ E1 N1, Iv n E1 N1 → P.nx E1 N1) : Blk K (tFor wi g t) E M P := fun B σ G H D S nn r bb c =>
  h B σ G H S _ fun J G1 H1 s1 S1 wk => for_it n (fun i σ' H' => ∃ E1 N1 G2, Iv i E1 N1 ∧ SR K B E1 N1 σ' G2 H' ∧ Same G1 G2) ⟨E, M1, G1, h0, S1, Same.rfl'⟩
    (fun i σ' H' hi ⟨E1, N1, G2, q1, S2, s2⟩ => wk.go i H' G2 hi s2 S2.sub) (fun σ' H' ⟨E1, N1, G2, q1, S2, s2⟩ => wk.stop H' G2 s2 S2.sub)
    (fun i σ' H' x H'' hi ⟨E1, N1, G2, q1, S2, s2⟩ y => wk.turn i B E1 N1 σ' G2 H' x H'' _ hi S2 s2 y fun σ3 G3 s3 S3 _ =>
      Blk.from_ (G0 := G1) (hs i E1 N1 hi q1) (s2.trans s3) S3 (fun E' M' σ3 G3 H3 q e3 S3 => ⟨E', M', G3, q, S3, e3⟩) (fun g M' v G3 H3 q e3 S3 rr => r g M' v G3 H3 q (s1.trans e3) S3 rr) (fun E' M' σ3 G3 H3 q e3 S3 => nn E' M' σ3 G3 H3 q (s1.trans e3) S3) (fun E' M' σ3 G3 H3 q e3 S3 => ⟨E', M', G3, q, S3, e3⟩))
    fun σ' H' ⟨E1, N1, G2, q1, S2, s2⟩ => nn E1 N1 σ' G2 H' (hd _ _ q1) (s1.trans s2) S2
/-- [e for .. in .. if ..]; the cells may change from turn to turn -/
theorem ef_lc {wi : TI} {g : TG} {n : Nat} {js : List Nat} {f : Nat → List GV} {vs : List Nat} (Ms : Nat → GM) (p : Nat → Bool) (fv : Nat → GV) (h : EI K wi g E M (Ms 0) n js f) (hj : ∀ j ∈ js, j ∈ vs) (hz : n ≤ 1000000)
    (ht : ∀ i, i < n → ET K tt (setL (wipeE E vs) js (f i)) (Ms i) (p i) (Ms i)) (hno : ∀ i, i < n → p i = false → Ms (i + 1) = Ms i)
    (he : ∀ i, i < n → p i = true → EE K te (setL (wipeE E vs) js (f i)) (Ms i) (fv i) (Ms (i + 1))) :
    EF K (tLc wi g tt te vs) E M (made fv p n) (Ms n) := fun B σ G H S Q q =>
  h B σ G H S _ fun J G1 H1 s1 S1 wk => by
    refine fun D hD => lc_it n (fun i H' => ∃ G2, SR K B E ((D, true, .lst (made fv p i)) :: Ms i) σ G2 H' ∧ Same G1 G2) ⟨G1, S1.own (o := .lst []) hD .nil, Same.rfl'⟩ (fun i H' hi ⟨G2, S2, s2⟩ => wk.go i H' G2 hi s2 S2.sub) (fun H' ⟨G2, S2, s2⟩ => wk.stop H' G2 s2 S2.sub)
        (fun i H' x H'' hi ⟨G2, S2, s2⟩ y => ?_) (fun H' ⟨G2, S2, s2⟩ => q D G2 H' (s1.trans s2) S2)
    refine wk.turn i B (wipeE E vs) _ (wipe σ vs) G2 H' x H'' _ hi (S2.wiped vs) s2 y fun σ3 G3 s3 S3 hw => ⟨by rw [hw vs hj, wipe_wipe], ?_⟩
    refine (ht i hi).fr (cs := [(D, true, .lst (made fv p i))]) B _ G3 H'' S3 _ fun G4 H4 e4 S4 => ?_
    have back : ∀ {N : GM} {G5 H5 : Hp}, SR K B (setL (wipeE E vs) js (f i)) N σ3 G5 H5 → Same G2 G5 → SR K B E N σ G5 H5 := fun {N G5 H5} T s5 =>
      T.slots (S2.len) fun k g ek => by
        obtain ⟨w, k1, k2⟩ := S2.slot k g ek
        exact ⟨w, k1, RelG.mono s5 k2⟩
    cases hp : p i with
    | true =>
      rw [if_pos rfl]
      refine (he i hi hp).fr (cs := [(D, true, .lst (made fv p i))]) B _ G4 H4 S4 _ fun y G5 H5 e5 S5 r5 => ?_
      obtain ⟨_, ⟨o, k1, k2⟩, _⟩ := S5.cells.at_ (D, true, .lst (made fv p i)) List.mem_cons_self
      obtain ⟨us, rfl, ru⟩ := RelO.lst_inv k2
      refine ⟨us, k1, ?_, G5, ?_, s2.trans (s3.trans (e4.trans e5))⟩
      · rw [RelGs.length ru]
        have := made_len fv p i
        rw [sizeLine_eq]; omega
      · have S6 := S5.write (j := 0) (p := D) (fl := true) (g := .lst (made fv p i ++ [fv i])) (o := .lst (us ++ [y])) rfl (RelGs.app ru (.cons r5 .nil))
        rw [← made_yes hp] at S6
        exact back S6 (s3.trans (e4.trans e5))
    | false =>
      rw [if_neg Bool.false_ne_true]
      refine ⟨G4, ?_, s2.trans (s3.trans e4)⟩
      have S6 := back S4 (s3.trans e4)
      rw [made_no hp, hno i hi hp]
      exact S6
theorem et_yes : ET K tYes E M true M := fun B σ G H S Q q => q G H Same.rfl' S
theorem made_all {f : Nat → GV} {n : Nat} : made f (fun _ => true) n = (List.range n).map f := by
  unfold made
  rw [List.filter_eq_self.mpr (fun _ _ => rfl)]
/-- [e for .. in ..], nothing changes -/
theorem ef_map {wi : TI} {g : TG} {n : Nat} {js : List Nat} {f : Nat → List GV} {vs : List Nat} (fv : Nat → GV) {xs : List GV} (h : EI K wi g E M M1 n js f) (he : ∀ i, i < n → EE K te (setL (wipeE E vs) js (f i)) M1 (fv i) M1) (hx : (List.range n).map fv = xs) (hj : ∀ j ∈ js, j ∈ vs := by decide) (hz : n ≤ 1000000) :
    EF K (tLc wi g tYes te vs) E M xs M1 := by
  rw [← hx, ← made_all]
  exact ef_lc (fun _ => M1) (fun _ => true) fv h hj hz (fun _ _ => et_yes) (fun _ _ h => by cases h) fun i hi _ => he i hi
/-- [e for .. in .. if ..], nothing changes -/
theorem ef_filter {wi : TI} {g : TG} {n : Nat} {js : List Nat} {f : Nat → List GV} {vs : List Nat} (p : Nat → Bool) (fv : Nat → GV) (h : EI K wi g E M M1 n js f) (ht : ∀ i, i < n → ET K tt (setL (wipeE E vs) js (f i)) M1 (p i) M1) (he : ∀ i, i < n → p i = true → EE K te (setL (wipeE E vs) js (f i)) M1 (fv i) M1) (hj : ∀ j ∈ js, j ∈ vs := by decide) (hz : n ≤ 1000000) :
    EF K (tLc wi g tt te vs) E M (made fv p n) M1 := ef_lc (fun _ => M1) p fv h hj hz ht (fun _ _ _ => rfl) he
/-! ### tuples handed to names; list(..) -/
theorem blk_asgT2 {i j : Nat} {d e : PyData} (h : EE K te E M (.dt (.tuple [d, e])) M1) (k : P.nx ((E.set i (some (.dt d))).set j (some (.dt e))) M1) : Blk K (tAsg te (gTup K 2 (gCons (gName i) (gCons (gName j) gNil)))) E M P := fun B σ G H D S n _ _ _ =>
  h B σ G H S _ fun v G1 H1 s1 S1 r1 => by
    cases r1 with
    | tup et at_ =>
      cases at_ with
      | cons d1 t1 =>
        cases t1 with
        | cons d2 t2 =>
          cases t2
          exact ⟨_, _, rfl, .of (S1.sub _ _ et), rfl, _, _, rfl, _, _, rfl, rfl, n _ _ _ G1 _ k s1 ((S1.set (g := .dt d) d1).set (g := .dt e) d2)⟩
theorem blk_asgT3 {i j l : Nat} {d e f : PyData} (h : EE K te E M (.dt (.tuple [d, e, f])) M1) (k : P.nx (((E.set i (some (.dt d))).set j (some (.dt e))).set l (some (.dt f))) M1) : Blk K (tAsg te (gTup K 3 (gCons (gName i) (gCons (gName j) (gCons (gName l) gNil))))) E M P := fun B σ G H D S n _ _ _ =>
  h B σ G H S _ fun v G1 H1 s1 S1 r1 => by
    cases r1 with
    | tup et at_ =>
      cases at_ with
      | cons d1 t1 =>
        cases t1 with
        | cons d2 t2 =>
          cases t2 with
          | cons d3 t3 =>
            cases t3
            exact ⟨_, _, rfl, .of (S1.sub _ _ et), rfl, _, _, rfl, _, _, rfl, _, _, rfl, rfl, n _ _ _ G1 _ k s1 (((S1.set (g := .dt d) d1).set (g := .dt e) d2).set (g := .dt f) d3)⟩
theorem li_list {ds : List PyData} : RCF K (rListOf K) [.dt (.list ds)] M (ds.map .dt) M := fun B E σ G H S vs r Q q => by
  obtain ⟨v, rfl, hv⟩ := one_inv r
  cases hv with
  | lst e a => exact ⟨_, _, rfl, .inl (.of (S.sub _ _ e)), fun l hl => q l G _ Same.rfl' (S.own hl (RelGs.of_data a))⟩
theorem RCF.fz {r : TR} {gs : List GV} {ds : List PyData} (h : RCF K r gs M (ds.map .dt) M1) : RCE K r gs M (.dt (.list ds)) M1 := fun B E σ G H S vs hv Q q =>
  h B E σ G H S vs hv Q fun p G1 H1 s1 S1 => by
    obtain ⟨G2, s2, S2, d⟩ := S1.freeze (j := 0) rfl
    exact q (.ref p) G2 H1 (fun a o e => s2 _ _ (s1 _ _ e)) S2 d
end
/-! ### the law's begin -/
abbrev spLaw (K : PySem.W.Frag) : Sp := sp0 K (fun ns : List Int => [.sc ns]) (fun ns => ns.length ≤ 63) (fun _ => .dt (.bool true))
theorem law_begin {K : PySem.W.Frag} {H : Hp} {a : Addr} {ns : List Int} (hl : ns.length ≤ 63) (hS : SqL K H a (ns.map V.int)) : spLaw K [.ref a] H (fun v _ => v = .bl true) fun _ _ _ => False :=
  ⟨H, ns, Same.rfl', .cons ⟨a, rfl, hS⟩ .nil, hl, fun v G' H' f s r => by cases r; rfl⟩
end Ek
namespace Ek
open PySem PySem.Spec PyProof.Rows L2
/-- // by any divisor below 2 ^ 9000, not 0 -/
def CDivX (_ j : Int) : Prop := j ≠ 0 ∧ j.natAbs.log2 < 9000
theorem o_fdiv {X : Cx} : OpR X (binaryOp .FloorDiv) (rI CDivX fun i j => .int (i.fdiv j)) := opI fun i j _ _ _ _ _ hc q => floordiv_int hc.1 q (.inl (PyProof.noPylong_of_log2 hc.2))
section
variable {K : PySem.W.Frag} {M : GM} {i j : Int}
theorem d_any (h : CDivX i j) : R2E K (rI CDivX fun i j => .int (i.fdiv j)) (.dt (.int i)) (.dt (.int j)) M (.dt (.int (i.fdiv j))) M := r2_intC h fun _ => .int _
theorem d_pos (h : 0 < j ∧ j.natAbs.log2 < 9000) : R2E K (rI CDivX fun i j => .int (i.fdiv j)) (.dt (.int i)) (.dt (.int j)) M (.dt (.int (i / j))) M := by
  have e : i / j = i.fdiv j := (Int.fdiv_eq_ediv_of_nonneg i (by omega)).symm
  rw [e]
  exact r2_intC (C := CDivX) ⟨by omega, h.2⟩ fun _ => .int _
end
theorem lenz0 : ([] : List PyData).length ≤ sizeLine := Nat.zero_le _
theorem lenz1 {a : PyData} : [a].length ≤ sizeLine := by show 1 ≤ sizeLine; decide
theorem lenz2 {a b : PyData} : [a, b].length ≤ sizeLine := by show 2 ≤ sizeLine; decide
theorem lenz3 {a b c : PyData} : [a, b, c].length ≤ sizeLine := by show 3 ≤ sizeLine; decide
theorem lenz4 {a b c d : PyData} : [a, b, c, d].length ≤ sizeLine := by show 4 ≤ sizeLine; decide
end Ek
namespace Ek
open PySem PySem.Spec PyProof.Rows L2
section
variable {K : PySem.W.Frag} {E : GE} {M : GM} {ta tb tc td : TE} {g g2 g3 g4 : GV}
theorem ea_p1 (h : EE K ta E M g M) : EA K (tCons ta tNil) E M [g] M := ea_cons h ea_nil
theorem ea_p2 (h : EE K ta E M g M) (h2 : EE K tb E M g2 M) : EA K (tCons ta (tCons tb tNil)) E M [g, g2] M := ea_cons h (ea_p1 h2)
theorem ea_p3 (h : EE K ta E M g M) (h2 : EE K tb E M g2 M) (h3 : EE K tc E M g3 M) : EA K (tCons ta (tCons tb (tCons tc tNil))) E M [g, g2, g3] M := ea_cons h (ea_p2 h2 h3)
theorem ea_p4 (h : EE K ta E M g M) (h2 : EE K tb E M g2 M) (h3 : EE K tc E M g3 M) (h4 : EE K td E M g4 M) : EA K (tCons ta (tCons tb (tCons tc (tCons td tNil)))) E M [g, g2, g3, g4] M := ea_cons h (ea_p3 h2 h3 h4)
end
end Ek

set_option Elab.async false
set_option linter.all false
set_option maxRecDepth 100000
/-! fractions: a tuple of top and bottom is a Rat's num and den -/
namespace Ek
open PySem PySem.Spec PyProof.Rows L2
abbrev eRat (q : Rat) : PyData := .tuple [.int q.num, .int (q.den : Int)]
/-- the divisor with the bottom's sign -/
def byOf (a b : Int) : Int := if b < 0 then -(Int.gcd a b : Int) else (Int.gcd a b : Int)
theorem byOf_ne {a b : Int} (hb : b ≠ 0) : byOf a b ≠ 0 := by
  have h : Int.gcd a b ≠ 0 := fun z => hb (Int.gcd_eq_zero_iff.mp z).2
  unfold byOf; split <;> omega
theorem byOf_abs (a b : Int) : (byOf a b).natAbs = Int.gcd a b := by
  unfold byOf; split <;> omega
theorem byOf_dvd_left (a b : Int) : byOf a b ∣ a := by
  unfold byOf
  split
  · exact Int.neg_dvd.mpr (Int.gcd_dvd_left _ _)
  · exact Int.gcd_dvd_left _ _
theorem byOf_dvd_right (a b : Int) : byOf a b ∣ b := by
  unfold byOf
  split
  · exact Int.neg_dvd.mpr (Int.gcd_dvd_right _ _)
  · exact Int.gcd_dvd_right _ _
theorem gcd_le_right {a b : Int} (hb : b ≠ 0) : Int.gcd a b ≤ b.natAbs := Nat.le_of_dvd (by omega) (Int.gcd_dvd_natAbs_right a b)
theorem fr_num {a b : Int} (hb : b ≠ 0) : a.fdiv (byOf a b) = (Rat.divInt a b).num := by
  rw [Rat.num_divInt, Int.fdiv_eq_ediv_of_dvd (byOf_dvd_left a b)]
  unfold byOf
  rw [Int.gcd_comm b a]
  split
  · rename_i h
    rw [Int.sign_eq_neg_one_of_neg h, Int.ediv_neg, Int.neg_one_mul, Int.neg_ediv_of_dvd (Int.gcd_dvd_left _ _)]
  · rename_i h
    rw [Int.sign_eq_one_of_pos (by omega), Int.one_mul]
theorem fr_den {a b : Int} (hb : b ≠ 0) : b.fdiv (byOf a b) = ((Rat.divInt a b).den : Int) := by
  rw [Rat.den_divInt, if_neg hb, Int.fdiv_eq_ediv_of_dvd (byOf_dvd_right a b)]
  unfold byOf
  rw [Int.gcd_comm b a, Int.natCast_ediv]
  split
  · rename_i h
    rw [Int.ediv_neg, show ((b.natAbs : Int)) = -b by omega, Int.neg_ediv_of_dvd (Int.gcd_dvd_right _ _)]
  · rename_i h
    rw [show ((b.natAbs : Int)) = b by omega]
theorem gcd_step (x y : Nat) (h : 0 < y) : Nat.gcd y (x % y) = Nat.gcd x y := by
  rw [Nat.gcd_comm x y, Nat.gcd_rec y x, Nat.gcd_comm]
theorem rat_sum (p q : Rat) : Rat.divInt (p.num * q.den + q.num * p.den) ((p.den : Int) * q.den) = p + q := by
  rw [Rat.add_def', ← Int.natCast_mul, Rat.divInt_ofNat]
theorem rat_mul (p q : Rat) : Rat.divInt (p.num * q.num) ((p.den : Int) * q.den) = p * q := by
  rw [Rat.mul_def', ← Int.natCast_mul, Rat.divInt_ofNat]
theorem rat_ext_den1 {p : Rat} (h : p.den = 1) : p = (p.num : Rat) := Rat.ext rfl h
theorem sum_den1 {p q : Rat} (h : p.den = 1) (h2 : q.den = 1) : eRat (p + q) = .tuple [.int (p.num + q.num), .int 1] := by
  rw [rat_ext_den1 h, rat_ext_den1 h2, ← Rat.intCast_add]
  rfl
theorem mul_den1 {p q : Rat} (h : p.den = 1) (h2 : q.den = 1) : eRat (p * q) = .tuple [.int (p.num * q.num), .int 1] := by
  rw [rat_ext_den1 h, rat_ext_den1 h2, ← Rat.intCast_mul]
  rfl
/-- so many bits at most -/
def Bd (n : Nat) (q : Rat) : Prop := q.num.natAbs < 2 ^ n ∧ q.den < 2 ^ n
theorem Bd.mono {n m : Nat} {q : Rat} (h : Bd n q) (hm : n ≤ m) : Bd m q := ⟨Nat.lt_of_lt_of_le h.1 (Nat.pow_le_pow_right (by decide) hm), Nat.lt_of_lt_of_le h.2 (Nat.pow_le_pow_right (by decide) hm)⟩
theorem log2_bd {x n m : Nat} (h : x < 2 ^ n) (hm : n ≤ m) (h0 : 0 < m) : x.log2 < m := PySem.Flt.log2_lt_of h0 (Nat.lt_of_lt_of_le h (Nat.pow_le_pow_right (by decide) hm))
theorem mulW {i j : Int} {n m : Nat} (hi : i.natAbs < 2 ^ n) (hj : j.natAbs < 2 ^ m) (h : n + m ≤ 900000) : CMulW i j := by
  have h1 : i.natAbs < 2 ^ (n + 1) := Nat.lt_of_lt_of_le hi (Nat.pow_le_pow_right (by decide) (by omega))
  have h2 : j.natAbs < 2 ^ (m + 1) := Nat.lt_of_lt_of_le hj (Nat.pow_le_pow_right (by decide) (by omega))
  exact wide_mul h1 h2 (by omega) (by omega) (by omega)
theorem natAbs_mul_lt {i j : Int} {n m : Nat} (hi : i.natAbs < 2 ^ n) (hj : j.natAbs < 2 ^ m) : (i * j).natAbs < 2 ^ (n + m) := wide_lt hi hj
theorem natAbs_add_lt {i j : Int} {n : Nat} (hi : i.natAbs < 2 ^ n) (hj : j.natAbs < 2 ^ n) : (i + j).natAbs < 2 ^ (n + 1) := by
  have := Int.natAbs_add_le i j
  rw [Nat.pow_succ]; omega
theorem natAbs_mono {i : Int} {n m : Nat} (h : i.natAbs < 2 ^ n) (hm : n ≤ m) : i.natAbs < 2 ^ m := Nat.lt_of_lt_of_le h (Nat.pow_le_pow_right (by decide) hm)
theorem den_natAbs (q : Rat) : ((q.den : Int)).natAbs = q.den := rfl
theorem dvd_le_natAbs {x y : Int} (hy : y ≠ 0) (h : x ∣ y) : x.natAbs ≤ y.natAbs := Nat.le_of_dvd (by omega) (Int.natAbs_dvd_natAbs.mpr h)
theorem bd_divInt {a b : Int} {n : Nat} (hb : b ≠ 0) (h1 : a.natAbs < 2 ^ n) (h2 : b.natAbs < 2 ^ n) : Bd n (Rat.divInt a b) := by
  constructor
  · rw [← fr_num hb]
    rw [Int.fdiv_eq_ediv_of_dvd (byOf_dvd_left a b), Int.natAbs_ediv_of_dvd (byOf_dvd_left a b)]
    exact Nat.lt_of_le_of_lt (Nat.div_le_self _ _) h1
  · have e := fr_den (a := a) hb
    rw [Int.fdiv_eq_ediv_of_dvd (byOf_dvd_right a b)] at e
    have e2 : (Rat.divInt a b).den = (b / byOf a b).natAbs := by rw [e]; rfl
    rw [e2, Int.natAbs_ediv_of_dvd (byOf_dvd_right a b)]
    exact Nat.lt_of_le_of_lt (Nat.div_le_self _ _) h2
theorem Bd.add {p q : Rat} {n m : Nat} (hp : Bd n p) (hq : Bd n q) (h : 2 * n + 1 ≤ m) : Bd m (p + q) := by
  rw [← rat_sum]
  have hz : (p.den : Int) * q.den ≠ 0 := by
    rw [← Int.natCast_mul]
    have := Nat.mul_pos p.den_pos q.den_pos
    omega
  have k1 := natAbs_mul_lt hp.1 (show ((q.den : Int)).natAbs < 2 ^ n from hq.2)
  have k2 := natAbs_mul_lt hq.1 (show ((p.den : Int)).natAbs < 2 ^ n from hp.2)
  have k3 := natAbs_mul_lt (show ((p.den : Int)).natAbs < 2 ^ n from hp.2) (show ((q.den : Int)).natAbs < 2 ^ n from hq.2)
  exact bd_divInt hz (natAbs_mono (natAbs_add_lt k1 k2) (by omega)) (natAbs_mono k3 (by omega))
theorem Bd.mul {p q : Rat} {n k m : Nat} (hp : Bd n p) (hq : Bd k q) (h : n + k ≤ m) : Bd m (p * q) := by
  rw [← rat_mul]
  have hz : (p.den : Int) * q.den ≠ 0 := by
    rw [← Int.natCast_mul]
    have := Nat.mul_pos p.den_pos q.den_pos
    omega
  have k1 := natAbs_mul_lt hp.1 hq.1
  have k3 := natAbs_mul_lt (show ((p.den : Int)).natAbs < 2 ^ n from hp.2) (show ((q.den : Int)).natAbs < 2 ^ k from hq.2)
  exact bd_divInt hz (natAbs_mono k1 h) (natAbs_mono k3 h)
theorem den_ne (p q : Rat) : (p.den : Int) * q.den ≠ 0 := by
  rw [← Int.natCast_mul]
  have := Nat.mul_pos p.den_pos q.den_pos
  omega
theorem eRat_int (n : Int) : eRat (n : Rat) = .tuple [.int n, .int 1] := rfl
mutual
theorem eqv_self : ∀ d : PyData, d.canLay0 = true → PyData.eqv d d = true
  | .none, _ => by unfold PyData.eqv; rfl
  | .bool b, _ => by unfold PyData.eqv; simp
  | .int i, _ => by unfold PyData.eqv; simp
  | .str x, _ => by unfold PyData.eqv; simp
  | .list xs, h => by unfold PyData.eqv; exact eqvAll_self xs (by unfold PyData.canLay0 at h; exact h)
  | .tuple xs, h => by unfold PyData.eqv; exact eqvAll_self xs (by unfold PyData.canLay0 at h; exact h)
  | .dict _, h => by unfold PyData.canLay0 at h; cases h
theorem eqvAll_self : ∀ ds : List PyData, PyData.canLayAll0 ds = true → PyData.eqvAll ds ds = true
  | [], _ => by unfold PyData.eqvAll; rfl
  | d :: ds, h => by
    unfold PyData.canLayAll0 at h
    rw [Bool.and_eq_true] at h
    unfold PyData.eqvAll
    rw [eqv_self d h.1, eqvAll_self ds h.2]; rfl
end
theorem shaped_lay {d : PyData} (h : SeqAt.shaped d = true) : d.canLay0 = true := SeqAt.canLay_of_shaped h
theorem eqv_refl' {d : PyData} (h : SeqAt.shaped d = true) : PyData.eqv d d = true := eqv_self d (shaped_lay h)
theorem shaped_rat (q : Rat) : SeqAt.shaped (eRat q) = true := rfl
theorem eqv_rat (p q : Rat) : PyData.eqv (eRat p) (eRat q) = decide (p = q) := by
  have e : PyData.eqv (eRat p) (eRat q) = ((p.num == q.num) && (((p.den : Int) == q.den) && true)) := by
    show PyData.eqv _ _ = _
    unfold eRat
    rw [PyData.eqv, PyData.eqvAll, PyData.eqvAll, PyData.eqvAll, PyData.eqv, PyData.eqv]
  rw [e]
  by_cases h : p = q
  · subst h; simp
  · rw [decide_eq_false h]
    have : ¬ (p.num = q.num ∧ p.den = q.den) := fun ⟨a, b⟩ => h (Rat.ext a b)
    by_cases h1 : p.num = q.num
    · have h2 : ¬ p.den = q.den := fun z => this ⟨h1, z⟩
      simp [h1]; omega
    · simp [h1]
end Ek
namespace Ek
open PySem PySem.Spec PyProof.Rows L2
theorem mulS {i j : Int} (h : i.natAbs < 18446744073709551616) (h2 : j.natAbs < 18446744073709551616) : CMulW i j := mulW (n := 64) (m := 64) h h2 (by decide)
/-- a cell of the script, 0 beyond -/
def cellZ (ns : List Int) (k : Int) : Int := ns.getD k.toNat 0
theorem atI_getD {α : Type} {xs : List α} {i : Int} {d : α} (h0 : 0 ≤ i) (h : i < xs.length) : atI xs i = some (xs.getD i.toNat d) := by
  have hl : i.toNat < xs.length := by omega
  have e : (i.toNat : Int) = i := by omega
  rw [← e]
  rw [atI_nat (j := i.toNat) (v := xs.getD i.toNat d)]
  · rw [Int.toNat_natCast]
  · rw [List.getD_eq_getElem?_getD, List.getElem?_eq_getElem hl] <;> rfl
theorem divInt_cross {a b : Int} (hb : b ≠ 0) : (Rat.divInt a b).num * b = a * (Rat.divInt a b).den := by
  have h := Rat.num_divInt_den (Rat.divInt a b)
  have hd : ((Rat.divInt a b).den : Int) ≠ 0 := by have := (Rat.divInt a b).den_pos; omega
  rw [Rat.divInt_eq_divInt_iff hd hb] at h
  exact h
theorem rat_gcd (q : Rat) : Int.gcd q.num (q.den : Int) = 1 := q.reduced
theorem rgC_of {m c : Int} (hc : 0 < c) (hc2 : c < 1000000) (h1 : 0 ≤ m) (h2 : m < 1000000) : RgC 0 m c (Builtin.Range.rangeSize 0 m c).toNat := by
  have k0 : 0 ≤ (m - 0 - 1) / c ∨ m ≤ 0 := by
    by_cases h : m ≤ 0
    · exact .inr h
    · exact .inl (Int.ediv_nonneg (by omega) (by omega))
  have k1 : (m - 0 - 1) / c ≤ m ∨ m ≤ 0 := by
    by_cases h : m ≤ 0
    · exact .inr h
    · exact .inl (Int.le_trans (Int.ediv_le_self _ (by omega)) (by omega))
  refine ⟨by omega, by omega, ?_, ?_⟩
  · unfold Builtin.Range.small
    simp only [Builtin.Range.rangeSize, Builtin.Range.rangeFitsLong, Bool.and_eq_true, Bool.or_eq_true, decide_eq_true_eq, beq_iff_eq, if_pos hc]
    generalize (m - 0 - 1) / c = d at k0 k1 ⊢
    refine ⟨?_, ?_⟩ <;> (try split) <;> (try omega) <;> (repeat' constructor) <;> omega
  · unfold Builtin.Range.rangeSize
    rw [if_pos (by omega)]
    split <;> omega
end Ek
namespace Ek
open PySem PySem.Spec PyProof.Rows L2
section
variable {K : PySem.W.Frag} {M : GM}
theorem is_ii {i : Int} : RCE K (rIsi K) [.dt (.int i), .ty "int"] M (.dt (.bool true)) M := l_isi (show kitB "int" "int" = some true by decide +kernel)
theorem is_ib {i : Int} : RCE K (rIsi K) [.dt (.int i), .ty "bool"] M (.dt (.bool false)) M := l_isi (show kitB "int" "bool" = some false by decide +kernel)
theorem is_tt {ds : List PyData} : RCE K (rIsi K) [.dt (.tuple ds), .ty "tuple"] M (.dt (.bool true)) M := l_isi (show kitB "tuple" "tuple" = some true by decide +kernel)
theorem is_ll {ds : List PyData} : RCE K (rIsi K) [.dt (.list ds), .ty "list"] M (.dt (.bool true)) M := l_isi (show kitB "list" "list" = some true by decide +kernel)
theorem is_ss {x : Str} : RCE K (rIsi K) [.dt (.str x), .ty "str"] M (.dt (.bool true)) M := l_isi (show kitB "str" "str" = some true by decide +kernel)
theorem is_bi {x : Bool} : RCE K (rIsi K) [.dt (.bool x), .ty "int"] M (.dt (.bool true)) M := l_isi (show kitB "bool" "int" = some true by decide +kernel)
theorem is_bb {x : Bool} : RCE K (rIsi K) [.dt (.bool x), .ty "bool"] M (.dt (.bool true)) M := l_isi (show kitB "bool" "bool" = some true by decide +kernel)
theorem is_ti {ds : List PyData} : RCE K (rIsi K) [.dt (.tuple ds), .ty "int"] M (.dt (.bool false)) M := l_isi (show kitB "tuple" "int" = some false by decide +kernel)
theorem w_1060 : R2E K (rI CPow fun i j => .int (i ^ j.toNat)) (.dt (.int 10)) (.dt (.int 60)) M (.dt (.int 1000000000000000000000000000000000000000000000000000000000000)) M := by
  have e : (10 : Int) ^ (60 : Int).toNat = 1000000000000000000000000000000000000000000000000000000000000 := by decide +kernel
  have h := w_int (K := K) (M := M) (i := 10) (j := 60) ⟨by decide, by decide, by decide⟩
  rw [e] at h
  exact h
end
theorem lenB {A : Type} {xs : List A} (h : Nat.ble xs.length 1000 = true) : xs.length ≤ sizeLine := by
  have := Nat.le_of_ble_eq_true h
  rw [sizeLine_eq]; omega
end Ek
namespace Ek
open PySem PySem.Spec PyProof.Rows L2
theorem tw_lit {K : PySem.W.Frag} {M : GM} : R2E K rTimes (.dt (.int 2)) (.dt (.int 1000000000000000000000000000000000000000000000000000000000000)) M (.dt (.int 2000000000000000000000000000000000000000000000000000000000000)) M := by
  have e : (2 : Int) * 1000000000000000000000000000000000000000000000000000000000000 = 2000000000000000000000000000000000000000000000000000000000000 := by decide +kernel
  rw [← e]
  exact t_int (by unfold CMulW; decide +kernel)
end Ek

set_option Elab.async false
set_option linter.all false
set_option maxRecDepth 100000
/-! many outcomes at once; nested objects of one's own, and how they become data -/
namespace Ek
open PySem PySem.Spec PyProof.Rows L2

/-! ### what nested cells read as -/
mutual
inductive RelD (cs : GM) : GV → PyData → Prop
  | dt (d : PyData) : RelD cs (.dt d) d
  | lst {p : Addr} {fl : Bool} {gs : List GV} {ds : List PyData} : (p, fl, GO.lst gs) ∈ cs → RelDs cs gs ds → RelD cs (.rf p) (.list ds)
  | tup {p : Addr} {fl : Bool} {gs : List GV} {ds : List PyData} : (p, fl, GO.tup gs) ∈ cs → RelDs cs gs ds → RelD cs (.rf p) (.tuple ds)
inductive RelDs (cs : GM) : List GV → List PyData → Prop
  | nil : RelDs cs [] []
  | cons {g : GV} {gs : List GV} {d : PyData} {ds : List PyData} : RelD cs g d → RelDs cs gs ds → RelDs cs (g :: gs) (d :: ds)
end
mutual
theorem RelD.mono {cs cs' : GM} (h : ∀ c ∈ cs, c ∈ cs') : ∀ {g : GV} {d : PyData}, RelD cs g d → RelD cs' g d
  | _, _, .dt d => .dt d
  | _, _, .lst m r => .lst (h _ m) (RelDs.mono h r)
  | _, _, .tup m r => .tup (h _ m) (RelDs.mono h r)
theorem RelDs.mono {cs cs' : GM} (h : ∀ c ∈ cs, c ∈ cs') : ∀ {gs : List GV} {ds : List PyData}, RelDs cs gs ds → RelDs cs' gs ds
  | _, _, .nil => .nil
  | _, _, .cons a b => .cons (RelD.mono h a) (RelDs.mono h b)
end
theorem RelDs.of_data {cs : GM} : ∀ ds : List PyData, RelDs cs (ds.map .dt) ds
  | [] => .nil
  | d :: ds => .cons (.dt d) (RelDs.of_data ds)
section
variable {K : PySem.W.Frag} {B : Bs} {E E' : GE} {M M' cs : GM} {σ : L2.St} {G H : Hp}
open Classical in
noncomputable def joinG (G H : Hp) (cs : GM) : Hp := fun q => if ∃ c ∈ cs, c.1 = q then H q else G q
theorem joinG_in {c : Addr × Bool × GO} (h : c ∈ cs) : joinG G H cs c.1 = H c.1 := by unfold joinG; rw [if_pos ⟨c, h, rfl⟩]
theorem joinG_out {q : Addr} (h : ∀ c ∈ cs, c.1 ≠ q) : joinG G H cs q = G q := by
  unfold joinG; rw [if_neg]
  rintro ⟨c, hc, e⟩; exact h c hc e
/-- cells that were made here become shared data -/
theorem SR.melt (S : SR K B E M σ G H) (hc : ∀ c ∈ cs, c ∈ M ∧ c.2.1 = true) (hM : M'.Sublist M) (hd : ∀ c ∈ M', ∀ c' ∈ cs, c.1 ≠ c'.1) :
    ∃ G', Same G G' ∧ SR K B E M' σ G' H ∧ ∀ g d v, RelD cs g d → RelG K G v g → Dr G' v d := by
  have sg : Same G (joinG G H cs) := fun a o e => by
    have : ∀ c ∈ cs, c.1 ≠ a := fun c hcs z => by
      have := (S.cells.at_ c (hc c hcs).1).1
      rw [z, e] at this; cases this
    rw [joinG_out this]; exact e
  refine ⟨joinG G H cs, sg, ⟨fun a o e => ?_, S.len, fun i g e => ?_, ⟨fun c hcm => ?_, S.cells.nd.sublist (hM.map _)⟩, ⟨fun a o e => sg _ _ (S.fr.g _ _ e), S.fr.h, S.fr.k, fun q e n => ?_⟩⟩, ?_⟩
  · by_cases h : ∃ c ∈ cs, c.1 = a
    · obtain ⟨c, hcs, rfl⟩ := h
      rw [joinG_in hcs] at e; exact e
    · rw [joinG_out fun c hcs z => h ⟨c, hcs, z⟩] at e
      exact S.sub _ _ e
  · obtain ⟨v, h1, h2⟩ := S.slot i g e
    exact ⟨v, h1, RelG.mono sg h2⟩
  · obtain ⟨h1, ⟨o, h2, h3⟩, h4⟩ := S.cells.at_ c (hM.subset hcm)
    exact ⟨by rw [joinG_out fun c' hc' z => hd c hcm c' hc' z.symm]; exact h1, ⟨o, h2, RelO.mono sg h3⟩, h4⟩
  · have hn := S.fr.n q e n
    have : ∀ c ∈ cs, c.1 ≠ q := fun c hcs z => by
      have h4 := (S.cells.at_ c (hc c hcs).1).2.2.1 (hc c hcs).2
      rw [z] at h4; exact e h4
    rw [joinG_out this]; exact hn
  · have key : ∀ c ∈ cs, ∃ o, joinG G H cs c.1 = some o ∧ RelO K G o c.2.2 := fun c hcs => by
      obtain ⟨_, ⟨o, h2, h3⟩, _⟩ := S.cells.at_ c (hc c hcs).1
      exact ⟨o, by rw [joinG_in hcs]; exact h2, h3⟩
    have main : ∀ n, (∀ g d v, sizeOf d < n → RelD cs g d → RelG K G v g → Dr (joinG G H cs) v d) ∧ (∀ gs ds vs, sizeOf ds < n → RelDs cs gs ds → RelGs K G vs gs → DrAll (joinG G H cs) vs ds) := by
      intro n
      induction n with
      | zero => exact ⟨fun g d v h => by omega, fun g d v h => by omega⟩
      | succ n ih =>
        refine ⟨fun g d v hs r rv => ?_, fun gs ds vs hs r rv => ?_⟩
        · cases r with
          | dt => exact Dr.mono sg rv
          | lst m rs =>
            have rv' : v = .ref _ := rv
            subst rv'
            obtain ⟨o, e, ro⟩ := key _ m
            obtain ⟨ws, rfl, rw'⟩ := RelO.lst_inv ro
            refine .lst e (ih.2 _ _ _ ?_ rs rw')
            simp only [PyData.list.sizeOf_spec] at hs; omega
          | tup m rs =>
            have rv' : v = .ref _ := rv
            subst rv'
            obtain ⟨o, e, ro⟩ := key _ m
            obtain ⟨ws, rfl, rw'⟩ := RelO.tup_inv ro
            refine .tup e (ih.2 _ _ _ ?_ rs rw')
            simp only [PyData.tuple.sizeOf_spec] at hs; omega
        · cases r with
          | nil => cases rv; exact .nil
          | cons r1 r2 =>
            cases rv with
            | cons v1 v2 =>
              simp only [List.cons.sizeOf_spec] at hs
              exact .cons (ih.1 _ _ _ (by omega) r1 v1) (ih.2 _ _ _ (by omega) r2 v2)
    exact fun g d v r rv => (main (sizeOf d + 1)).1 g d v (by omega) r rv
end
/-! ### many outcomes -/
def EX (K : PySem.W.Frag) (te : TE) (E : GE) (M : GM) (F : GV → GM → Prop) : Prop :=
  ∀ B σ G H, SR K B E M σ G H → ∀ Q : VK, (∀ g M' v G' H', F g M' → Same G G' → SR K B E M' σ G' H' → RelG K G' v g → Q v H') → te σ H Q
section
variable {K : PySem.W.Frag} {E E' : GE} {M M1 M' cs : GM} {g : GV} {te : TE} {t u : TS} {P : Kn} {F F' : GV → GM → Prop} {xs : List GV}
theorem EE.ex (h : EE K te E M g M1) (hF : F g M1) : EX K te E M F := fun B σ G H S Q q => h B σ G H S Q fun v G' H' s S' r => q g M1 v G' H' hF s S' r
theorem EF.ex (h : EF K te E M xs M1) (hF : ∀ p, F (.rf p) ((p, true, .lst xs) :: M1)) : EX K te E M F := fun B σ G H S Q q => h B σ G H S Q fun p G' H' s S' => q (.rf p) _ (.ref p) G' H' (hF p) s S' rfl
theorem EU.ex (h : EU K te E M xs M1) (hF : ∀ p, F (.rf p) ((p, true, .tup xs) :: M1)) : EX K te E M F := fun B σ G H S Q q => h B σ G H S Q fun p G' H' s S' => q (.rf p) _ (.ref p) G' H' (hF p) s S' rfl
theorem EX.imp (h : EX K te E M F) (k : ∀ g M', F g M' → F' g M') : EX K te E M F' := fun B σ G H S Q q => h B σ G H S Q fun g M' v G' H' f => q g M' v G' H' (k _ _ f)
theorem blk_asgX {i : Nat} (h : EX K te E M F) (k : ∀ g M', F g M' → P.nx (E.set i (some g)) M') : Blk K (tAsg te (gName i)) E M P := fun B σ G H D S n _ _ _ =>
  h B σ G H S _ fun g M' v G1 H1 f s1 S1 r1 => n _ _ _ G1 _ (k g M' f) s1 (S1.set r1)
theorem bs_asgX {i : Nat} (h : EX K te E M F) (k : ∀ g M', F g M' → Blk K u (E.set i (some g)) M' P) : Blk K (tSeq (tAsg te (gName i)) u) E M P := blk_seq (blk_asgX h k)
theorem blk_retX (h : EX K te E M F) (k : ∀ g M', F g M' → P.rt g M') : Blk K (tRet te) E M P := fun B σ G H D S _ r _ _ => h B σ G H S _ fun g M' v G1 H1 f s1 S1 r1 => r g M' v G1 H1 (k g M' f) s1 S1.bare r1
theorem blk_dropX (h : EX K te E M F) (k : ∀ g M', F g M' → P.nx E M') : Blk K (tDrop te) E M P := fun B σ G H D S n _ _ _ => h B σ G H S _ fun g M' v G1 H1 f s1 S1 r1 => n _ _ _ G1 _ (k g M' f) s1 S1
/-- a, b = e, e a tuple of data or one of one's own -/
theorem blk_asgT2X {i j : Nat} (h : EX K te E M F) (k : ∀ g M', F g M' → (∃ d e, g = .dt (.tuple [d, e]) ∧ P.nx ((E.set i (some (.dt d))).set j (some (.dt e))) M') ∨ ∃ p fl x y, g = .rf p ∧ (p, fl, GO.tup [x, y]) ∈ M' ∧ P.nx ((E.set i (some x)).set j (some y)) M') :
    Blk K (tAsg te (gTup K 2 (gCons (gName i) (gCons (gName j) gNil)))) E M P := fun B σ G H D S n _ _ _ =>
  h B σ G H S _ fun g M' v G1 H1 f s1 S1 r1 => by
    rcases k g M' f with ⟨d, e, rfl, q⟩ | ⟨p, fl, x, y, rfl, hm, q⟩
    · cases r1 with
      | tup et at_ =>
        cases at_ with
        | cons d1 t1 =>
          cases t1 with
          | cons d2 t2 =>
            cases t2
            exact ⟨_, _, rfl, .of (S1.sub _ _ et), rfl, _, _, rfl, _, _, rfl, rfl, n _ _ _ G1 _ q s1 ((S1.set (g := .dt d) d1).set (g := .dt e) d2)⟩
    · have r1' : v = .ref p := r1
      subst r1'
      obtain ⟨_, ⟨o, k1, k2⟩, _⟩ := S1.cells.at_ _ hm
      obtain ⟨vs, rfl, r⟩ := RelO.tup_inv k2
      obtain ⟨a, b, rfl, ra, rb⟩ := two_inv r
      exact ⟨p, _, rfl, .of k1, rfl, _, _, rfl, _, _, rfl, rfl, n _ _ _ G1 _ q s1 ((S1.set ra).set rb)⟩
/-- slots told anew as data -/
theorem blk_melt (cs : GM) (h : Blk K t E' M' P) (hc : ∀ c ∈ cs, c ∈ M ∧ c.2.1 = true) (hM : M'.Sublist M) (hd : ∀ c ∈ M', ∀ c' ∈ cs, c.1 ≠ c'.1) (hl : E'.length = E.length)
    (he : ∀ (i : Nat) g', E'[i]? = some (some g') → ∃ g, E[i]? = some (some g) ∧ (g = g' ∨ ∃ d, g' = .dt d ∧ RelD cs g d)) : Blk K t E M P := fun B σ G H D S n r b c => by
  obtain ⟨G', s, S', key⟩ := S.melt hc hM hd
  refine Blk.from_ h s (S'.slots (by rw [S.len, hl]) fun i g' e => ?_) n r b c
  obtain ⟨g, e1, e2⟩ := he i g' e
  obtain ⟨v, k1, k2⟩ := S.slot i g e1
  rcases e2 with rfl | ⟨d, rfl, rd⟩
  · exact ⟨v, k1, RelG.mono s k2⟩
  · exact ⟨v, k1, key g d v rd k2⟩
/-- an expression's value told anew as data -/
theorem ee_melt {d : PyData} (cs : GM) (h : EE K te E M g M1) (r : RelD cs g d) (hc : ∀ c ∈ cs, c ∈ M1 ∧ c.2.1 = true) (hM : M'.Sublist M1) (hd : ∀ c ∈ M', ∀ c' ∈ cs, c.1 ≠ c'.1) : EE K te E M (.dt d) M' := fun B σ G H S Q q =>
  h B σ G H S Q fun v G1 H1 s1 S1 r1 => by
    obtain ⟨G', s, S', key⟩ := S1.melt hc hM hd
    exact q v G' H1 (s1.trans s) S' (key g d v r r1)
end
/-! ### promises with many outcomes -/
/-- no object of the caller's is changed; an outcome r: its value, what was made -/
def spN0 (K : PySem.W.Frag) {A R : Type} (args : A → List GV) (pre : A → Prop) (post : A → R → Prop) (new : A → R → GM) (res : A → R → GV) : Sp := fun vs H Q _ =>
  ∃ G i, Same G H ∧ RelGs K G vs (args i) ∧ pre i ∧ ∀ r v G' H', post i r → Fr ⟨fun _ => False, G, H⟩ G' H' → Same G' H' → Cells K ⟨fun _ => False, G, H⟩ G' H' (new i r) → RelG K G' v (res i r) → Q v H'
/-- one object of the caller's is changed -/
def spN1 (K : PySem.W.Frag) {A R : Type} (args : A → List GV) (pa : A → Addr) (o0 : A → GO) (pre : A → Prop) (post : A → R → Prop) (o1 : A → R → GO) (new : A → R → GM) (res : A → R → GV) : Sp := fun vs H Q _ =>
  ∃ G i, Same G H ∧ RelGs K G vs (args i) ∧ pre i ∧ G (pa i) = none ∧ (∃ o, H (pa i) = some o ∧ RelO K G o (o0 i)) ∧
    ∀ r v G' H', post i r → Fr ⟨fun q => q = pa i, G, H⟩ G' H' → Same G' H' → Cells K ⟨fun q => q = pa i, G, H⟩ G' H' ((pa i, false, o1 i r) :: new i r) → RelG K G' v (res i r) → Q v H'
section
variable {K : PySem.W.Frag} {E : GE} {M M1 : GM} {tr : TA} {X : XK} {A R : Type} {args : A → List GV} {pre : A → Prop} {post : A → R → Prop} {new : A → R → GM} {res : A → R → GV}
theorem Cells.noted {B B' : Bs} {σ : L2.St} {G H G' H' : Hp} {N : GM} (S : SR K B E M σ G H) (S' : SR K B E M1 σ G' H') (hM : ∀ c ∈ M1, ∃ c' ∈ M, c'.1 = c.1) (hB : B'.H0 = H) (C : Cells K B' G' H' N) (hf : ∀ c ∈ N, c.2.1 = true) : SR K B E (N ++ M1) σ G' H' := by
  have hn : ∀ c ∈ N, H c.1 = none := fun c hc => by have := (C.at_ c hc).2.2.1 (hf c hc); rw [hB] at this; exact this
  refine ⟨S'.sub, S'.len, S'.slot, ⟨fun c hc => ?_, ?_⟩, S'.fr⟩
  · rcases List.mem_append.mp hc with hc | hc
    · obtain ⟨h1, h2, h3, h4⟩ := C.at_ c hc
      exact ⟨h1, h2, fun _ => S.bfree (hn c hc), fun z => by rw [hf c hc] at z; cases z⟩
    · exact S'.cells.at_ c hc
  · rw [List.map_append]
    refine List.nodup_append.mpr ⟨C.nd, S'.cells.nd, fun a ha b hb e => ?_⟩
    obtain ⟨c, hc, rfl⟩ := List.mem_map.mp ha
    obtain ⟨d, hd, rfl⟩ := List.mem_map.mp hb
    obtain ⟨c', hc', ec⟩ := hM d hd
    obtain ⟨_, ⟨o, k, _⟩, _⟩ := S.cells.at_ c' hc'
    rw [ec, ← e, hn c hc] at k; cases k
theorem ex_callN0 (i : A) (h : EA K tr E M (args i) M1) (hp : pre i) (hf : ∀ r, ∀ c ∈ new i r, c.2.1 = true) : EX K (tCall (spN0 K args pre post new res) [] X tr) E M (fun g M' => ∃ r, post i r ∧ g = res i r ∧ M' = new i r ++ M1) := fun B σ G H S Q q =>
  h B σ G H S _ fun vs G1 H1 s1 S1 r1 => by
    show spN0 K args pre post new res (vs ++ []) H1 Q X
    rw [List.append_nil]
    refine ⟨G1, i, S1.sub, r1, hp, fun r v G' H' hr f sub C rv => ?_⟩
    exact q _ _ v G' H' ⟨r, hr, rfl, rfl⟩ (s1.trans f.g) (Cells.noted S1 (S1.called f sub) (fun c hc => ⟨c, hc, rfl⟩) rfl C (hf r)) rv
theorem ex_callN1 {pa : A → Addr} {o0 : A → GO} {o1 : A → R → GO} {j : Nat} {fl : Bool} (i : A) (h : EA K tr E M (args i) M1) (hp : pre i) (hj : M1[j]? = some (pa i, fl, o0 i)) (hf : ∀ r, ∀ c ∈ new i r, c.2.1 = true) :
    EX K (tCall (spN1 K args pa o0 pre post o1 new res) [] X tr) E M (fun g M' => ∃ r, post i r ∧ g = res i r ∧ M' = new i r ++ M1.set j (pa i, fl, o1 i r)) := fun B σ G H S Q q =>
  h B σ G H S _ fun vs G1 H1 s1 S1 r1 => by
    show spN1 K args pa o0 pre post o1 new res (vs ++ []) H1 Q X
    rw [List.append_nil]
    obtain ⟨k1, k2, _⟩ := S1.cells.at_ _ (List.mem_of_getElem? hj)
    refine ⟨G1, i, S1.sub, r1, hp, k1, k2, fun r v G' H' hr f sub C rv => ?_⟩
    obtain ⟨_, ⟨o, c2, c3⟩, _⟩ := C.at_ _ List.mem_cons_self
    have S2 := S1.called1 hj f sub c2 c3
    refine q _ _ v G' H' ⟨r, hr, rfl, rfl⟩ (s1.trans f.g) (Cells.noted (B' := ⟨fun q => q = pa i, G1, H1⟩) S1 S2 (fun c hc => ?_) rfl ⟨fun c hc => C.at_ c (List.mem_cons_of_mem _ hc), by have := C.nd; rw [List.map_cons, List.nodup_cons] at this; exact this.2⟩ (hf r)) rv
    rcases List.mem_or_eq_of_mem_set hc with hc | rfl
    · exact ⟨c, hc, rfl⟩
    · exact ⟨_, List.mem_of_getElem? hj, rfl⟩
end
/-- a return: an outcome's value and cells, or data read off cells that were made here -/
def rtN {R : Type} (post : R → Prop) (res : R → GV) (new : R → GM) (cin : R → GM) : GV → GM → Prop := fun g M =>
  ∃ r, post r ∧ (∀ c ∈ cin r, c ∈ M) ∧ ((g = res r ∧ (new r).Sublist M ∧ ∀ c ∈ new r, c.2.1 = true) ∨ (new r = [] ∧ ∃ d cs, res r = .dt d ∧ RelD cs g d ∧ (∀ c ∈ cs, c ∈ M ∧ c.2.1 = true)))
def endsN {R : Type} (post : R → Prop) (res : R → GV) (new : R → GM) (cin : R → GM) : Kn :=
  ⟨fun _ M => ∃ r, post r ∧ res r = .dt .none ∧ new r = [] ∧ ∀ c ∈ cin r, c ∈ M, rtN post res new cin, fun _ _ => False, fun _ _ => False⟩
section
variable {P : Program} {w : World} {K : PySem.W.Frag} {mg : Str → Option Value} {base : Heap} {x qual : Str} {st : Stmt} {f : Addr} {fd : FuncData} {N ps : List Str} {k : Nat} {A R : Type} {args : A → List GV} {pre : A → Prop} {post : A → R → Prop} {new : A → R → GM} {res : A → R → GV}
theorem fnN0 (F : Fun K x qual st f fd) (S : FnScope N ps (defScope st)) (ha : ∀ i, (args i).length = ps.length)
    (hb : ∀ (cdv : Value) (Rr : Around) (outer : List Env) (s : Shared) (H : Hp) (E : XK), Room k (Rr.deeper (envOfC qual (defScope st) s.heap.objs.size f cdv)) →
      ∃ t, PSs (cxOf CX0 P w K mg base N qual (defScope st) f cdv Rr outer s H E).nox (defBody st) t ∧ ∀ i, pre i → Blk K t (begin_ N (args i)) [] (endsN (post i) (res i) (new i) (fun _ => []))) :
    FnOk P w K mg base CX0 (k + 1) f fd ps (spN0 K args pre post new res) := by
  refine F.ok S (fun vs H Q E h => ?_) (fun cdv Rr outer s H vs Q E hr h => ?_)
  · obtain ⟨G, i, _, r, _⟩ := h
    rw [RelGs.length r, ha]
  · obtain ⟨G, i, hs, r, hp, q⟩ := h
    obtain ⟨t, ht, hB⟩ := hb cdv Rr outer s H E hr
    refine ⟨t, ht, hB i hp ⟨fun _ => False, G, H⟩ (L2.start N vs) G H _ (start_sr hs r) (fun E' M' σ' G' H' e _ S' => ?_) (fun g M' v G' H' e _ S' rv => ?_) (fun _ _ _ _ _ e => e.elim) (fun _ _ _ _ _ e => e.elim)⟩
    · obtain ⟨r, hr, e1, e2, _⟩ := e
      exact q r .non G' H' hr S'.fr S'.sub (by rw [e2]; exact ⟨fun c hc => (by cases hc), List.nodup_nil⟩) (by rw [e1]; exact Dr.non)
    · obtain ⟨r, hr, _, ⟨rfl, hs, _⟩ | ⟨hn, d, cs, e1, rd, hc⟩⟩ := e
      · exact q r v G' H' hr S'.fr S'.sub (S'.sub_cells hs).cells rv
      · obtain ⟨G2, s2, S2, key⟩ := S'.melt hc (List.nil_sublist _) (fun c hc => by cases hc)
        exact q r v G2 H' hr S2.fr S2.sub (by rw [hn]; exact S2.cells) (by rw [e1]; exact key g d v rd rv)
theorem fnN1 {pa : A → Addr} {o0 : A → GO} {o1 : A → R → GO} (F : Fun K x qual st f fd) (S : FnScope N ps (defScope st)) (ha : ∀ i, (args i).length = ps.length)
    (hb : ∀ (cdv : Value) (Rr : Around) (outer : List Env) (s : Shared) (H : Hp) (E : XK), Room k (Rr.deeper (envOfC qual (defScope st) s.heap.objs.size f cdv)) →
      ∃ t, PSs (cxOf CX0 P w K mg base N qual (defScope st) f cdv Rr outer s H E).nox (defBody st) t ∧ ∀ i, pre i → Blk K t (begin_ N (args i)) [(pa i, false, o0 i)] (endsN (post i) (res i) (new i) (fun r => [(pa i, false, o1 i r)]))) :
    FnOk P w K mg base CX0 (k + 1) f fd ps (spN1 K args pa o0 pre post o1 new res) := by
  refine F.ok S (fun vs H Q E h => ?_) (fun cdv Rr outer s H vs Q E hr h => ?_)
  · obtain ⟨G, i, _, r, _⟩ := h
    rw [RelGs.length r, ha]
  · obtain ⟨G, i, hs, r, hp, c1, c2, q⟩ := h
    obtain ⟨t, ht, hB⟩ := hb cdv Rr outer s H E hr
    have S0 : SR K ⟨fun q => q = pa i, G, H⟩ (begin_ N (args i)) [(pa i, false, o0 i)] (L2.start N vs) G H := by
      have Z := start_sr (N := N) (F0 := fun q => q = pa i) hs r
      have hc1 : ∀ c ∈ [(pa i, false, o0 i)], G c.1 = none ∧ (∃ o, H c.1 = some o ∧ RelO K G o c.2.2) ∧ (c.2.1 = true → H c.1 = none) ∧ (c.2.1 = false → c.1 = pa i) := fun c hc => by
        rcases List.mem_cons.mp hc with rfl | hc
        · exact ⟨c1, c2, fun z => (by cases z), fun _ => rfl⟩
        · cases hc
      exact ⟨Z.sub, Z.len, Z.slot, ⟨hc1, List.nodup_cons.mpr ⟨fun z => (by cases z), List.nodup_nil⟩⟩, Z.fr⟩
    have pair : ∀ {M : GM} {G' H' : Hp} {n : GM} {r : R}, SR K ⟨fun q => q = pa i, G, H⟩ [] M [] G' H' → (pa i, false, o1 i r) ∈ M → n.Sublist M → (∀ c ∈ n, c.2.1 = true) → Cells K ⟨fun q => q = pa i, G, H⟩ G' H' ((pa i, false, o1 i r) :: n) := fun {M G' H' n r} S' hm hs hf => by
      refine ⟨fun c hc => ?_, ?_⟩
      · rcases List.mem_cons.mp hc with rfl | hc
        · exact S'.cells.at_ _ hm
        · exact S'.cells.at_ _ (hs.subset hc)
      · rw [List.map_cons, List.nodup_cons]
        refine ⟨fun hm2 => ?_, S'.cells.nd.sublist (hs.map _)⟩
        obtain ⟨c, hc, e⟩ := List.mem_map.mp hm2
        have k1 := (S'.cells.at_ c (hs.subset hc)).2.2.1 (hf c hc)
        obtain ⟨o, k2, _⟩ := c2
        have e' : c.1 = pa i := e
        have k1' : H c.1 = none := k1
        rw [e', k2] at k1'; cases k1'
    refine ⟨t, ht, hB i hp _ (L2.start N vs) G H _ S0 (fun E' M' σ' G' H' e _ S' => ?_) (fun g M' v G' H' e _ S' rv => ?_) (fun _ _ _ _ _ e => e.elim) (fun _ _ _ _ _ e => e.elim)⟩
    · obtain ⟨r, hr, e1, e2, hm⟩ := e
      refine q r .non G' H' hr S'.fr S'.sub ?_ (by rw [e1]; exact Dr.non)
      rw [e2]
      exact pair S'.bare (hm _ List.mem_cons_self) (List.nil_sublist _) (fun c hc => by cases hc)
    · obtain ⟨r, hr, hm, ⟨rfl, hs, hf⟩ | ⟨hn, d, cs, e1, rd, hc⟩⟩ := e
      · exact q r v G' H' hr S'.fr S'.sub (pair S' (hm _ List.mem_cons_self) hs hf) rv
      · have hm1 := hm _ List.mem_cons_self
        obtain ⟨G2, s2, S2, key⟩ := S'.melt (M' := [(pa i, false, o1 i r)]) hc (List.singleton_sublist.mpr hm1) (fun c hcm c' hc' e => by
          have ec : c = (pa i, false, o1 i r) := by simpa using hcm
          subst ec
          have k1 : H c'.1 = none := (S'.cells.at_ c' (hc c' hc').1).2.2.1 (hc c' hc').2
          obtain ⟨o, k2, _⟩ := c2
          have e' : pa i = c'.1 := e
          rw [← e', k2] at k1; cases k1)
        refine q r v G2 H' hr S2.fr S2.sub ?_ (by rw [e1]; exact key g d v rd rv)
        rw [hn]; exact S2.cells
/-- a def that is never called -/
theorem fn_never {sp : Sp} (h : ∀ vs H Q E, ¬ sp vs H Q E) : FnOk P w K mg base CX0 0 f fd ps sp :=
  ⟨fun vs H Q E q => absurd q (h vs H Q E), fun A outer s H args us vs Q E _ _ _ _ q => absurd q (h vs H Q E)⟩
end
end Ek

set_option Elab.async false
set_option linter.all false
set_option maxRecDepth 100000
/-! the laws' draws: digits of a cell, then mixed ones; all that is used of them is their range -/
namespace Ek
open PySem PySem.Spec PyProof.Rows L2
/-- what is left, how many mixed ones so far, the cell -/
structure Dw where
  a : Int
  b : Int
  c : Int
abbrev dwO (s : Dw) : GO := .lst [.dt (.int s.a), .dt (.int s.b), .dt (.int s.c)]
def begM (c : Int) : Dw := ⟨c / 2, c % 2, c⟩
def mix1 (c k : Int) : Int := (c % 2147483647 + 31 * k) % 2147483629
def mix2 (c k : Int) : Int := (mix1 c k * mix1 c k + 16807 * mix1 c k + k * k * k + 7) % 2147483629
def mixM (c k : Int) : Int := mix2 c k * mix2 c k % 2147483587
def takeS (s : Dw) : Dw := if s.b = 0 ∧ (s.a = 0 ∨ s.a = -1) then ⟨s.c, 1, s.c⟩ else s
def takeM (s : Dw) (m : Int) : Int × Dw :=
  if (takeS s).b = 0 then ((takeS s).a % m, ⟨(takeS s).a / m, (takeS s).b, (takeS s).c⟩)
  else (mixM (takeS s).a ((takeS s).b + 1) % m, ⟨(takeS s).a, (takeS s).b + 1, (takeS s).c⟩)
def DwOk (n : Nat) (s : Dw) : Prop := 0 ≤ s.b ∧ s.b ≤ n + 1
theorem begM_ok (c : Int) : DwOk 0 (begM c) := by unfold DwOk begM; simp only; omega
theorem takeS_ok {n : Nat} {s : Dw} (h : DwOk n s) : DwOk n (takeS s) := by
  unfold takeS
  split
  · unfold DwOk; simp only; omega
  · exact h
theorem takeM_rng (s : Dw) {m : Int} (hm : 0 < m) : 0 ≤ (takeM s m).1 ∧ (takeM s m).1 < m := by
  unfold takeM
  split
  · exact ⟨Int.emod_nonneg _ (by omega), Int.emod_lt_of_pos _ hm⟩
  · exact ⟨Int.emod_nonneg _ (by omega), Int.emod_lt_of_pos _ hm⟩
theorem takeM_ok {n : Nat} {s : Dw} (m : Int) (h : DwOk n s) : DwOk (n + 1) (takeM s m).2 := by
  have h' := takeS_ok h
  unfold takeM
  generalize takeS s = s' at h' ⊢
  unfold DwOk at h' ⊢
  split <;> simp only <;> omega
theorem DwOk.mono {n m : Nat} {s : Dw} (h : DwOk n s) (hm : n ≤ m) : DwOk m s := ⟨h.1, by have := h.2; omega⟩
theorem mix1_rng (c k : Int) : 0 ≤ mix1 c k ∧ mix1 c k < 2147483629 := ⟨Int.emod_nonneg _ (by decide), Int.emod_lt_of_pos _ (by decide)⟩
theorem mix2_rng (c k : Int) : 0 ≤ mix2 c k ∧ mix2 c k < 2147483629 := ⟨Int.emod_nonneg _ (by decide), Int.emod_lt_of_pos _ (by decide)⟩
theorem log2S {j : Int} (h : j.natAbs < 18446744073709551616) : j.natAbs.log2 < 9000 := log2_bd (n := 64) h (by decide) (by decide)
theorem in_two (x : Int) : ([PyData.int 0, .int (-1)].any fun z => PyData.eqv z (.int x)) = decide (x = 0 ∨ x = -1) := by
  show (PyData.eqv (.int 0) (.int x) || (PyData.eqv (.int (-1)) (.int x) || false)) = _
  rw [eqv_int, eqv_int]
  by_cases h : x = 0
  · subst h; rfl
  · by_cases h2 : x = -1
    · subst h2; rfl
    · rw [decide_eq_false (fun z => h z.symm), decide_eq_false (fun z => h2 z.symm), decide_eq_false (fun z => z.elim h h2)]; rfl
theorem i_dataU {K : PySem.W.Frag} {M : GM} {d : PyData} {ds : List PyData} (h1 : SeqAt.shaped d = true) (h2 : SeqAt.shaped (.list ds) = true) : R2E K (rInU K) (.dt d) (.dt (.list ds)) M (.dt (.bool (ds.any fun z => PyData.eqv z d))) M := R2E.inl (i_data h1 h2)
theorem ni_dataU {K : PySem.W.Frag} {M : GM} {d : PyData} {ds : List PyData} (h1 : SeqAt.shaped d = true) (h2 : SeqAt.shaped (.list ds) = true) : R2E K (rNotInU K) (.dt d) (.dt (.list ds)) M (.dt (.bool (!ds.any fun z => PyData.eqv z d))) M := R2E.inl (ni_data h1 h2)
theorem i_ownU {K : PySem.W.Frag} {M : GM} {d : PyData} {p : Addr} {fl : Bool} {ds : List PyData} (hm : (p, fl, GO.lst (ds.map .dt)) ∈ M) (h1 : SeqAt.shaped d = true) (h2 : SeqAt.shaped (.list ds) = true) : R2E K (rInU K) (.dt d) (.rf p) M (.dt (.bool (ds.any fun z => PyData.eqv z d))) M := R2E.inl (i_own hm h1 h2)
theorem ni_ownU {K : PySem.W.Frag} {M : GM} {d : PyData} {p : Addr} {fl : Bool} {ds : List PyData} (hm : (p, fl, GO.lst (ds.map .dt)) ∈ M) (h1 : SeqAt.shaped d = true) (h2 : SeqAt.shaped (.list ds) = true) : R2E K (rNotInU K) (.dt d) (.rf p) M (.dt (.bool (!ds.any fun z => PyData.eqv z d))) M := R2E.inl (ni_own hm h1 h2)
end Ek

set_option Elab.async false
set_option linter.all false
set_option maxRecDepth 100000
/-! trees, their terms, and trees built by hanging each knot onto an earlier one -/
namespace Ek
open PySem PySem.Spec PyProof.Rows L2
inductive Tr where
  | mk (w : Option Int) (bs : List Tr)
def eWish : Option Int → PyData
  | none => .none
  | some c => .int c
mutual
def eTr : Tr → PyData
  | .mk w bs => .tuple [eWish w, .list (eTrs bs)]
def eTrs : List Tr → List PyData
  | [] => []
  | b :: bs => eTr b :: eTrs bs
end
theorem eTrs_map : ∀ bs : List Tr, eTrs bs = bs.map eTr
  | [] => by unfold eTrs; rfl
  | b :: bs => by unfold eTrs; rw [eTrs_map bs]; rfl
theorem eTr_mk (w : Option Int) (bs : List Tr) : eTr (.mk w bs) = .tuple [eWish w, .list (bs.map eTr)] := by rw [eTr, eTrs_map]
mutual
def trDepth : Tr → Nat
  | .mk _ bs => trDepths bs + 1
def trDepths : List Tr → Nat
  | [] => 0
  | b :: bs => max (trDepth b) (trDepths bs)
end
mutual
def knots : Tr → Nat
  | .mk _ bs => knotss bs + 1
def knotss : List Tr → Nat
  | [] => 0
  | b :: bs => knots b + knotss bs
end
theorem trDepths_mem {b : Tr} : ∀ {bs : List Tr}, b ∈ bs → trDepth b ≤ trDepths bs
  | [], h => by cases h
  | c :: bs, h => by
    rw [trDepths]
    rcases List.mem_cons.mp h with rfl | h
    · exact Nat.le_max_left _ _
    · exact Nat.le_trans (trDepths_mem h) (Nat.le_max_right _ _)
mutual
theorem trDepth_knots : ∀ t : Tr, trDepth t ≤ knots t
  | .mk w bs => by rw [trDepth, knots]; have := trDepths_knots bs; omega
theorem trDepths_knots : ∀ bs : List Tr, trDepths bs ≤ knotss bs
  | [] => by rw [trDepths, knotss]; exact Nat.le_refl _
  | b :: bs => by rw [trDepths, knotss]; have h1 := trDepth_knots b; have h2 := trDepths_knots bs; omega
end
theorem knots_pos : ∀ t : Tr, 0 < knots t
  | .mk w bs => by rw [knots]; omega
theorem knotss_sum : ∀ bs : List Tr, knotss bs = (bs.map knots).sum
  | [] => by rw [knotss]; rfl
  | b :: bs => by rw [knotss, knotss_sum bs]; simp
theorem sum_cast : ∀ l : List Nat, (l.map fun n : Nat => (n : Int)).sum = ((l.sum : Nat) : Int)
  | [] => rfl
  | n :: l => by simp only [List.map_cons, List.sum_cons, sum_cast l]; omega
/-! ### terms -/
abbrev dS (s : String) : PyData := .str (Str.ofString s)
def hueD : Option Int → PyData
  | none => .tuple [dS "one"]
  | some c => .tuple [dS "hue", .int c]
abbrev bothD (t u : PyData) : PyData := .tuple [dS "both", t, .tuple [dS "near", u]]
mutual
def termD : Tr → PyData
  | .mk w bs => termDs (hueD w) bs
def termDs : PyData → List Tr → PyData
  | t, [] => t
  | t, b :: bs => termDs (bothD t (termD b)) bs
end
theorem termDs_snoc (b : Tr) : ∀ (bs : List Tr) (t : PyData), termDs t (bs ++ [b]) = bothD (termDs t bs) (termD b)
  | [], t => by rw [List.nil_append, termDs, termDs, termDs]
  | c :: bs, t => by rw [List.cons_append, termDs, termDs_snoc b bs, termDs]
theorem take_snoc {A : Type} {l : List A} {i : Nat} (h : i < l.length) : l.take (i + 1) = l.take i ++ [l[i]] := by
  rw [List.take_add_one, List.getElem?_eq_getElem h]; rfl
theorem getD_map {A : Type} (f : A → PyData) {l : List A} {i : Nat} (h : i < l.length) (d : PyData) : (l.map f).getD i d = f l[i] := by
  rw [List.getD_eq_getElem?_getD, List.getElem?_map, List.getElem?_eq_getElem h] <;> rfl
theorem getD_of {A : Type} {l : List A} {i : Nat} (h : i < l.length) (d : A) : l.getD i d = l[i] := by
  rw [List.getD_eq_getElem?_getD, List.getElem?_eq_getElem h] <;> rfl
theorem range_getD {A C : Type} (l : List A) (d : A) (g : A → C) : (List.range l.length).map (fun i => g (l.getD i d)) = l.map g := by
  refine List.ext_getElem? fun i => ?_
  rw [List.getElem?_map, List.getElem?_map]
  by_cases hi : i < l.length
  · rw [List.getElem?_range hi, List.getElem?_eq_getElem hi]
    show some (g (l.getD i d)) = some (g l[i])
    rw [getD_of hi]
  · rw [List.getElem?_eq_none (by rw [List.length_range]; omega), List.getElem?_eq_none (by omega)]; rfl
/-! ### shapes -/
theorem canLay_tuple (ds : List PyData) : PyData.canLay0 (.tuple ds) = PyData.canLayAll0 ds := by rw [PyData.canLay0]
theorem canLay_list (ds : List PyData) : PyData.canLay0 (.list ds) = PyData.canLayAll0 ds := by rw [PyData.canLay0]
theorem canLayAll_iff : ∀ ds : List PyData, PyData.canLayAll0 ds = true ↔ ∀ d ∈ ds, PyData.canLay0 d = true
  | [] => by rw [PyData.canLayAll0]; simp
  | d :: ds => by rw [PyData.canLayAll0, Bool.and_eq_true, canLayAll_iff ds]; simp
theorem depth_tuple (ds : List PyData) : PyData.depth (.tuple ds) = PyData.depthAll ds + 1 := by rw [PyData.depth]
theorem depth_list (ds : List PyData) : PyData.depth (.list ds) = PyData.depthAll ds + 1 := by rw [PyData.depth]
theorem depthAll_le {n : Nat} : ∀ ds : List PyData, PyData.depthAll ds ≤ n ↔ ∀ d ∈ ds, PyData.depth d ≤ n
  | [] => by rw [PyData.depthAll]; simp
  | d :: ds => by
    rw [PyData.depthAll, Nat.max_le, depthAll_le ds]; simp
theorem shaped_iff {d : PyData} : SeqAt.shaped d = true ↔ d.canLay0 = true ∧ d.depth ≤ 64 := by unfold SeqAt.shaped; rw [Bool.and_eq_true, decide_eq_true_eq]
theorem eWish_lay (w : Option Int) : (eWish w).canLay0 = true ∧ (eWish w).depth = 0 := by cases w <;> exact ⟨rfl, rfl⟩
mutual
theorem eTr_lay : ∀ t : Tr, (eTr t).canLay0 = true ∧ (eTr t).depth ≤ 2 * trDepth t
  | .mk w bs => by
    have h := eTrs_lay bs
    rw [eTr, trDepth, canLay_tuple, depth_tuple]
    refine ⟨?_, ?_⟩
    · rw [canLayAll_iff]
      intro d hd
      rcases List.mem_cons.mp hd with rfl | hd
      · exact (eWish_lay w).1
      · rcases List.mem_cons.mp hd with rfl | hd
        · rw [canLay_list]; exact h.1
        · cases hd
    · have : PyData.depthAll [eWish w, .list (eTrs bs)] ≤ 2 * trDepths bs + 1 := by
        rw [depthAll_le]
        intro d hd
        rcases List.mem_cons.mp hd with rfl | hd
        · rw [(eWish_lay w).2]; omega
        · rcases List.mem_cons.mp hd with rfl | hd
          · rw [depth_list]; omega
          · cases hd
      omega
theorem eTrs_lay : ∀ bs : List Tr, PyData.canLayAll0 (eTrs bs) = true ∧ PyData.depthAll (eTrs bs) ≤ 2 * trDepths bs
  | [] => by rw [eTrs, PyData.canLayAll0, PyData.depthAll]; exact ⟨rfl, Nat.zero_le _⟩
  | b :: bs => by
    have h1 := eTr_lay b
    have h2 := eTrs_lay bs
    rw [eTrs, trDepths, PyData.canLayAll0, PyData.depthAll, h1.1, h2.1]
    exact ⟨rfl, by omega⟩
end
theorem eTr_shaped {t : Tr} (h : knots t ≤ 32) : SeqAt.shaped (eTr t) = true := by
  rw [shaped_iff]
  have h1 := eTr_lay t
  have h2 := trDepth_knots t
  exact ⟨h1.1, by omega⟩
theorem lay_one : (dS "one").canLay0 = true := by decide +kernel
theorem lay_hue : (dS "hue").canLay0 = true := by decide +kernel
theorem lay_both : (dS "both").canLay0 = true := by decide +kernel
theorem lay_near : (dS "near").canLay0 = true := by decide +kernel
theorem hueD_lay (w : Option Int) : (hueD w).canLay0 = true ∧ (hueD w).depth = 1 := by
  cases w with
  | none => exact ⟨by decide +kernel, rfl⟩
  | some c =>
    refine ⟨?_, rfl⟩
    show PyData.canLay0 (.tuple [dS "hue", .int c]) = true
    rw [canLay_tuple, PyData.canLayAll0, PyData.canLayAll0, PyData.canLayAll0, lay_hue]; rfl
theorem both_lay {t u : PyData} (h1 : t.canLay0 = true) (h2 : u.canLay0 = true) : (bothD t u).canLay0 = true ∧ (bothD t u).depth = 1 + max t.depth (1 + u.depth) := by
  constructor
  · rw [canLay_tuple, canLayAll_iff]
    intro d hd
    rcases List.mem_cons.mp hd with rfl | hd
    · exact lay_both
    · rcases List.mem_cons.mp hd with rfl | hd
      · exact h1
      · rcases List.mem_cons.mp hd with rfl | hd
        · rw [canLay_tuple, canLayAll_iff]
          intro d hd
          rcases List.mem_cons.mp hd with rfl | hd
          · exact lay_near
          · rcases List.mem_cons.mp hd with rfl | hd
            · exact h2
            · cases hd
        · cases hd
  · have e0 : PyData.depth (dS "both") = 0 := rfl
    have e1 : PyData.depth (dS "near") = 0 := rfl
    rw [depth_tuple, PyData.depthAll, PyData.depthAll, PyData.depthAll, PyData.depthAll, depth_tuple, PyData.depthAll, PyData.depthAll, PyData.depthAll, e0, e1]
    omega
mutual
theorem termD_lay : ∀ t : Tr, (termD t).canLay0 = true ∧ (termD t).depth + 1 ≤ 2 * knots t
  | .mk w bs => by
    rw [termD, knots]
    have h0 := hueD_lay w
    exact termDs_lay bs (hueD w) 1 h0.1 (by omega) (by omega)
theorem termDs_lay : ∀ (bs : List Tr) (t : PyData) (k : Nat), t.canLay0 = true → t.depth + 1 ≤ 2 * k → 1 ≤ k → (termDs t bs).canLay0 = true ∧ (termDs t bs).depth + 1 ≤ 2 * (knotss bs + k)
  | [], t, k, h, hd, hk => by rw [termDs, knotss]; exact ⟨h, by omega⟩
  | b :: bs, t, k, h, hd, hk => by
    rw [termDs, knotss]
    have h1 := termD_lay b
    have hb := knots_pos b
    have h2 := both_lay h h1.1
    have h3 := termDs_lay bs (bothD t (termD b)) (knots b + k) h2.1 (by rw [h2.2]; omega) (by omega)
    exact ⟨h3.1, by have := h3.2; omega⟩
end
theorem termD_shaped {t : Tr} (h : knots t ≤ 32) : SeqAt.shaped (termD t) = true := by
  rw [shaped_iff]
  have h1 := termD_lay t
  exact ⟨h1.1, by have := h1.2; omega⟩
/-! ### trees by their parents -/
section
variable (m : Nat) (par : Nat → Nat) (ws : Nat → Option Int)
/-- the knots hung onto i among the first n -/
def kidsTo (n i : Nat) : List Nat := (List.range n).filter fun c => decide (1 ≤ c ∧ par c = i)
def treeF : Nat → Nat → Tr
  | 0, i => .mk (ws i) []
  | n + 1, i => .mk (ws i) ((kidsTo par m i).map (treeF n))
variable {m par ws}
theorem kids_lt (hp : ∀ c, 1 ≤ c → c < m → par c < c) {i c : Nat} (h : c ∈ kidsTo par m i) : i < c ∧ c < m := by
  unfold kidsTo at h
  rw [List.mem_filter, List.mem_range, decide_eq_true_eq] at h
  have := hp c h.2.1 h.1
  omega
theorem treeF_stable (hp : ∀ c, 1 ≤ c → c < m → par c < c) : ∀ (n n' i : Nat), m ≤ n + 1 + i → m ≤ n' + 1 + i → treeF m par ws n i = treeF m par ws n' i
  | 0, 0, _, _, _ => rfl
  | 0, n' + 1, i, h, _ => by
    have e : kidsTo par m i = [] := by
      refine List.eq_nil_iff_forall_not_mem.mpr fun c hc => ?_
      have := kids_lt hp hc; omega
    rw [treeF, treeF, e]; rfl
  | n + 1, 0, i, _, h => by
    have e : kidsTo par m i = [] := by
      refine List.eq_nil_iff_forall_not_mem.mpr fun c hc => ?_
      have := kids_lt hp hc; omega
    rw [treeF, treeF, e]; rfl
  | n + 1, n' + 1, i, h, h' => by
    rw [treeF, treeF]
    congr 1
    refine List.map_congr_left fun c hc => ?_
    have := kids_lt hp hc
    exact treeF_stable hp n n' c (by omega) (by omega)
theorem treeF_unf (hp : ∀ c, 1 ≤ c → c < m → par c < c) (i : Nat) : treeF m par ws m i = .mk (ws i) ((kidsTo par m i).map (treeF m par ws m)) := by
  rw [treeF_stable hp m (m + 1) i (by omega) (by omega), treeF]
theorem sum_add (f g : Nat → Nat) : ∀ l : List Nat, (l.map fun c => f c + g c).sum = (l.map f).sum + (l.map g).sum
  | [] => rfl
  | c :: l => by simp only [List.map_cons, List.sum_cons, sum_add f g l]; omega
theorem sum_zero (f : Nat → Nat) : ∀ l : List Nat, (∀ c ∈ l, f c = 0) → (l.map f).sum = 0
  | [], _ => rfl
  | c :: l, h => by simp only [List.map_cons, List.sum_cons]; rw [h c (by simp), sum_zero f l (fun d hd => h d (List.mem_cons_of_mem _ hd))]
theorem sum_at (f : Nat → Nat) (n : Nat) : ∀ m : Nat, n < m → ((List.range m).map fun c => if c = n then f c else 0).sum = f n
  | 0, h => by omega
  | m + 1, h => by
    rw [List.range_succ, List.map_append, List.sum_append]
    by_cases hm : n < m
    · rw [sum_at f n m hm]; simp; omega
    · have e : n = m := by omega
      subst e
      rw [sum_zero _ _ (fun c hc => by rw [List.mem_range] at hc; rw [if_neg (by omega)])]; simp
theorem sum_filter (f : Nat → Nat) (p : Nat → Bool) : ∀ l : List Nat, ((l.filter p).map f).sum = (l.map fun c => if p c = true then f c else 0).sum
  | [] => rfl
  | c :: l => by
    rw [List.filter_cons]
    by_cases h : p c = true
    · rw [if_pos h, List.map_cons, List.sum_cons, sum_filter f p l, List.map_cons, List.sum_cons, if_pos h]
    · rw [if_neg h, sum_filter f p l, List.map_cons, List.sum_cons, if_neg h]; omega
theorem knots_treeF (hp : ∀ c, 1 ≤ c → c < m → par c < c) (hm : 0 < m) : knots (treeF m par ws m 0) = m := by
  let k : Nat → Nat := fun c => knots (treeF m par ws m c)
  have hk : ∀ i, k i = 1 + ((List.range m).map fun c => if 1 ≤ c ∧ par c = i then k c else 0).sum := fun i => by
    show knots (treeF m par ws m i) = _
    rw [treeF_unf hp i, knots, knotss_sum, List.map_map]
    unfold kidsTo
    rw [sum_filter]
    simp only [decide_eq_true_eq]
    rw [Nat.add_comm]; rfl
  let S : Nat → Nat := fun n => ((List.range m).map fun c => if n ≤ c ∧ par c < n then k c else 0).sum
  have step : ∀ n, 1 ≤ n → n < m → S n = 1 + S (n + 1) := fun n h1 h2 => by
    have e : (((List.range m).map fun c => (if n ≤ c ∧ par c < n then k c else 0) + (if 1 ≤ c ∧ par c = n then k c else 0))).sum = ((List.range m).map fun c => (if c = n then k c else 0) + (if n + 1 ≤ c ∧ par c < n + 1 then k c else 0)).sum := by
      congr 1
      refine List.map_congr_left fun c hc => ?_
      rw [List.mem_range] at hc
      by_cases hcn : c = n
      · subst hcn
        have := hp c h1 hc
        rw [if_pos ⟨Nat.le_refl _, this⟩, if_neg (by omega), if_pos rfl, if_neg (by omega)]
      · rw [if_neg hcn]
        by_cases hlt : c < n
        · have : c = 0 ∨ par c < c := by
            by_cases h0 : c = 0
            · exact .inl h0
            · exact .inr (hp c (by omega) hc)
          rw [if_neg (by omega), if_neg (by omega), if_neg (by omega)]
        · have hpc := hp c (by omega) hc
          by_cases h3 : par c < n
          · rw [if_pos ⟨by omega, h3⟩, if_neg (by omega), if_pos ⟨by omega, by omega⟩]; omega
          · by_cases h4 : par c = n
            · rw [if_neg (by omega), if_pos ⟨by omega, h4⟩, if_pos ⟨by omega, by omega⟩]
            · rw [if_neg (by omega), if_neg (by omega), if_neg (by omega)]
    rw [sum_add, sum_add, sum_at k n m h2] at e
    have := hk n
    show ((List.range m).map fun c => if n ≤ c ∧ par c < n then k c else 0).sum = 1 + ((List.range m).map fun c => if n + 1 ≤ c ∧ par c < n + 1 then k c else 0).sum
    omega
  have last : S m = 0 := sum_zero _ _ fun c hc => by rw [List.mem_range] at hc; rw [if_neg (by omega)]
  have all : ∀ j, j < m → S (m - j) = j := by
    intro j
    induction j with
    | zero => intro _; exact last
    | succ j ih =>
      intro h
      have e := step (m - (j + 1)) (by omega) (by omega)
      rw [show m - (j + 1) + 1 = m - j by omega, ih (by omega)] at e
      omega
  have e0 := hk 0
  have e1 : ((List.range m).map fun c => if 1 ≤ c ∧ par c = 0 then k c else 0).sum = S 1 := by
    show _ = ((List.range m).map fun c => if 1 ≤ c ∧ par c < 1 then k c else 0).sum
    congr 1
    refine List.map_congr_left fun c _ => ?_
    by_cases h : 1 ≤ c ∧ par c = 0
    · rw [if_pos h, if_pos (by omega)]
    · rw [if_neg h, if_neg (by omega)]
  have e2 := all (m - 1) (by omega)
  rw [show m - (m - 1) = 1 by omega] at e2
  show k 0 = m
  omega
end
mutual
/-- all wishes are of those that are drawn -/
def TrOk : Tr → Prop
  | .mk w bs => (w = none ∨ w = some 0 ∨ w = some 1 ∨ w = some 7) ∧ TrOks bs
def TrOks : List Tr → Prop
  | [] => True
  | b :: bs => TrOk b ∧ TrOks bs
end
theorem TrOks_iff : ∀ bs : List Tr, TrOks bs ↔ ∀ b ∈ bs, TrOk b
  | [] => by rw [TrOks]; simp
  | b :: bs => by rw [TrOks, TrOks_iff bs]; simp
theorem treeF_ok {m : Nat} {par : Nat → Nat} {ws : Nat → Option Int} (h : ∀ i, ws i = none ∨ ws i = some 0 ∨ ws i = some 1 ∨ ws i = some 7) : ∀ n i, TrOk (treeF m par ws n i)
  | 0, i => by rw [treeF, TrOk, TrOks]; exact ⟨h i, trivial⟩
  | n + 1, i => by
    rw [treeF, TrOk, TrOks_iff]
    refine ⟨h i, fun b hb => ?_⟩
    obtain ⟨c, _, rfl⟩ := List.mem_map.mp hb
    exact treeF_ok h n c
/-! ### cells in another order; a new pair with a new list; append of anything -/
section
variable {K : PySem.W.Frag} {B : Bs} {E : GE} {M M' M1 : GM} {t u : TS} {P : Kn} {ta te : TE} {F : GV → GM → Prop} {g : GV} {xs : List GV}
theorem SR.perm {σ : L2.St} {G H : Hp} (S : SR K B E M σ G H) (h : M.Perm M') : SR K B E M' σ G H :=
  ⟨S.sub, S.len, S.slot, ⟨fun c hc => S.cells.at_ c (h.mem_iff.mpr hc), (h.map _).nodup_iff.mp S.cells.nd⟩, S.fr⟩
theorem blk_perm (h : Blk K t E M' P) (hp : M.Perm M') : Blk K t E M P := fun B σ G H D S => h B σ G H D (S.perm hp)
theorem ex_pairNew (h : EE K ta E M g M1) : EX K (tTup (tCons ta (tCons (tLst tNil) tNil))) E M (fun g' M' => ∃ p q, g' = .rf p ∧ M' = (p, true, .tup [g, .rf q]) :: (q, true, .lst []) :: M1) := fun B σ G H S Q q =>
  h B σ G H S _ fun v G1 H1 s1 S1 r1 => by
    show ([] : List V).length ≤ sizeLine ∧ ∀ p, H1 p = none → [v, .ref p].length ≤ sizeLine ∧ ∀ p_1, upd H1 p (.lst []) p_1 = none → Q (.ref p_1) (upd (upd H1 p (.lst [])) p_1 (.tup [v, .ref p]))
    refine ⟨Nat.zero_le _, fun p hp => ⟨by show 2 ≤ sizeLine; decide, fun p2 hp2 => ?_⟩⟩
    have S2 := S1.own (o := .lst []) (g := .lst []) hp .nil
    have S3 := S2.own (o := .tup [v, .ref p]) (g := .tup [g, .rf p]) hp2 (.cons r1 (.cons rfl .nil))
    exact q _ _ _ G1 _ ⟨p2, p, rfl, rfl⟩ s1 S3 rfl
theorem blk_app' {p : Addr} {M0 : GM} (ho : EE K ta E M (.rf p) M0) (hy : ∀ B σ G H, SR K B E M0 σ G H → ∃ xs, SqL K H p xs) (h : EX K te E M0 F) (k : ∀ g M1, F g M1 → ∃ j fl xs, M1[j]? = some (p, fl, .lst xs) ∧ xs.length < sizeLine ∧ P.nx E (M1.set j (p, fl, .lst (xs ++ [g])))) :
    Blk K (tDrop (tBM K "list" rAppend ta (tCons te tNil))) E M P := fun B σ G H D S n _ _ _ =>
  ho B σ G H S _ fun v G1 H1 s1 S1 r1 => by
    have r1' : v = .ref p := r1
    subst r1'
    refine ⟨.inl ⟨rfl, hy B σ G1 H1 S1⟩, h B σ G1 H1 S1 _ fun g M1 w G2 H2 f s2 S2 r2 => ?_⟩
    obtain ⟨j, fl, xs, hm1, hz, q⟩ := k g M1 f
    obtain ⟨_, ⟨o, k1, k2⟩, _⟩ := S2.cells.at_ _ (List.mem_of_getElem? hm1)
    obtain ⟨vs, rfl, r⟩ := RelO.lst_inv k2
    exact ⟨p, vs, w, rfl, rfl, k1, by rw [RelGs.length r]; exact hz, n _ _ _ G2 _ q (s1.trans s2) (S2.write (g := .lst (xs ++ [g])) hm1 (RelGs.app r (.cons r2 .nil)))⟩
theorem seq_of_mem {p : Addr} {fl : Bool} (hm : (p, fl, GO.lst xs) ∈ M) : ∀ B σ G H, SR K B E M σ G H → ∃ xs, SqL K H p xs := fun B σ G H S => by
  obtain ⟨_, ⟨o, k1, k2⟩, _⟩ := S.cells.at_ _ hm
  obtain ⟨vs, rfl, r⟩ := RelO.lst_inv k2
  exact ⟨vs, .of k1⟩
end
end Ek
namespace Ek
open PySem PySem.Spec PyProof.Rows L2
theorem RelDs.of_map {A : Type} {cs : GM} {f : A → GV} {g : A → PyData} : ∀ {l : List A}, (∀ c ∈ l, RelD cs (f c) (g c)) → RelDs cs (l.map f) (l.map g)
  | [], _ => .nil
  | c :: l, h => .cons (h c (by simp)) (RelDs.of_map fun d hd => h d (List.mem_cons_of_mem _ hd))
theorem perm_node {A : Type} (r p t b : A) (X Y : List A) : (t :: b :: r :: p :: (X ++ Y)).Perm (r :: p :: ((X ++ [t]) ++ (Y ++ [b]))) := by
  have h1 : ((X ++ [t]) ++ (Y ++ [b])).Perm (t :: b :: (X ++ Y)) := by
    have e : (X ++ [t]) ++ (Y ++ [b]) = X ++ t :: (Y ++ [b]) := by simp
    rw [e]
    refine List.Perm.trans (List.perm_middle) ?_
    refine List.Perm.cons _ ?_
    have e2 : X ++ (Y ++ [b]) = (X ++ Y) ++ [b] := by simp
    rw [e2]
    exact List.perm_append_comm
  have h2 : (r :: p :: ((X ++ [t]) ++ (Y ++ [b]))).Perm (r :: p :: t :: b :: (X ++ Y)) := (h1.cons p).cons r
  refine List.Perm.trans ?_ h2.symm
  have h3 : (t :: b :: r :: p :: (X ++ Y)).Perm ([r, p] ++ [t, b] ++ (X ++ Y)) := List.Perm.append_right (X ++ Y) (List.perm_append_comm (l₁ := [t, b]) (l₂ := [r, p]))
  exact h3
theorem set_range {A : Type} (f : Nat → A) (m r : Nat) (y : A) : ((List.range m).map f).set r y = (List.range m).map fun c => if c = r then y else f c := by
  refine List.ext_getElem? fun i => ?_
  by_cases hi : i < m
  · by_cases hr : r = i
    · subst hr
      rw [List.getElem?_set_self (by rw [List.length_map, List.length_range]; exact hi), List.getElem?_map, List.getElem?_range hi]
      show some y = some (if r = r then y else f r)
      rw [if_pos rfl]
    · rw [List.getElem?_set_ne hr, List.getElem?_map, List.getElem?_map, List.getElem?_range hi]
      show some (f i) = some (if i = r then y else f i)
      rw [if_neg (Ne.symm hr)]
  · rw [List.getElem?_eq_none (by rw [List.length_set, List.length_map, List.length_range]; omega), List.getElem?_eq_none (by rw [List.length_map, List.length_range]; omega)]
theorem set_app {A : Type} : ∀ (X Y : List A) (r : Nat) (y : A), (X ++ Y).set (X.length + r) y = X ++ Y.set r y
  | [], Y, r, y => by simp
  | x :: X, Y, r, y => by
    rw [List.length_cons, show X.length + 1 + r = (X.length + r) + 1 by omega, List.cons_append, List.set_cons_succ, set_app X Y r y]; rfl
theorem getElem_range_map {A : Type} (f : Nat → A) {m i : Nat} (h : i < m) : ((List.range m).map f)[i]? = some (f i) := by
  rw [List.getElem?_map, List.getElem?_range h]; rfl
abbrev tCells (ts bs : Nat → Addr) (ws : Nat → Option Int) (i : Nat) : GM := (List.range i).map fun c => (ts c, true, GO.tup [.dt (eWish (ws c)), .rf (bs c)])
abbrev bCells (ts bs : Nat → Addr) (par : Nat → Nat) (m n : Nat) : GM := (List.range m).map fun c => (bs c, true, GO.lst ((kidsTo par n c).map fun x => GV.rf (ts x)))
theorem tree_reads {m : Nat} {par : Nat → Nat} {ws : Nat → Option Int} (hp : ∀ c, 1 ≤ c → c < m → par c < c) (ts bs : Nat → Addr) : ∀ n i, i < m → m ≤ n + 1 + i → RelD (tCells ts bs ws m ++ bCells ts bs par m m) (.rf (ts i)) (eTr (treeF m par ws n i)) := by
  have mt : ∀ i, i < m → (ts i, true, GO.tup [.dt (eWish (ws i)), .rf (bs i)]) ∈ tCells ts bs ws m ++ bCells ts bs par m m := fun i hi => List.mem_append_left _ (List.mem_map.mpr ⟨i, List.mem_range.mpr hi, rfl⟩)
  have mb : ∀ i, i < m → (bs i, true, GO.lst ((kidsTo par m i).map fun x => GV.rf (ts x))) ∈ tCells ts bs ws m ++ bCells ts bs par m m := fun i hi => List.mem_append_right _ (List.mem_map.mpr ⟨i, List.mem_range.mpr hi, rfl⟩)
  intro n
  induction n with
  | zero =>
    intro i hi h
    have e : kidsTo par m i = [] := List.eq_nil_iff_forall_not_mem.mpr fun c hc => by have := kids_lt hp hc; omega
    rw [treeF, eTr_mk]
    refine .tup (mt i hi) (.cons (.dt _) (.cons (.lst (mb i hi) ?_) .nil))
    rw [e]; exact .nil
  | succ n ih =>
    intro i hi h
    rw [treeF, eTr_mk, List.map_map]
    refine .tup (mt i hi) (.cons (.dt _) (.cons (.lst (mb i hi) ?_) .nil))
    refine RelDs.of_map fun c hc => ?_
    have := kids_lt hp hc
    exact ih c (by omega) (by omega)
theorem kids_one (par : Nat → Nat) (c : Nat) : kidsTo par 1 c = [] := by
  unfold kidsTo
  rw [show List.range 1 = [0] from rfl, List.filter_cons, if_neg (by simp)]; rfl
theorem kids_succ (par : Nat → Nat) {k r c : Nat} (hk : 1 ≤ k) : kidsTo (fun x => if x = k then r else par x) (k + 1) c = kidsTo par k c ++ (if c = r then [k] else []) := by
  unfold kidsTo
  rw [List.range_succ, List.filter_append]
  congr 1
  · refine List.filter_congr fun x hx => ?_
    rw [List.mem_range] at hx
    show decide (1 ≤ x ∧ (if x = k then r else par x) = c) = decide (1 ≤ x ∧ par x = c)
    rw [if_neg (show ¬ x = k by omega)]
  · rw [List.filter_cons]
    show (if decide (1 ≤ k ∧ (if k = k then r else par k) = c) = true then _ else _) = _
    rw [if_pos (rfl : k = k)]
    by_cases h : c = r
    · subst h
      rw [if_pos (decide_eq_true (show 1 ≤ k ∧ c = c from ⟨hk, rfl⟩)), if_pos rfl]; rfl
    · rw [if_neg (by rw [decide_eq_true_eq]; exact fun z => h z.2.symm), if_neg h]; rfl
end Ek

set_option Elab.async false
set_option linter.all false
set_option maxRecDepth 100000
/-! dicts of one's own; more of lists -/
namespace Ek
open PySem PySem.Spec PyProof.Rows L2
def valG {κ : Type} [DecidableEq κ] (kvs : List (κ × GV)) (k : κ) : Option GV := (kvs.find? fun kv => decide (kv.1 = k)).map (·.2)
def putG {κ : Type} [DecidableEq κ] (kvs : List (κ × GV)) (k : κ) (v : GV) : List (κ × GV) := if (kvs.any fun kv => decide (kv.1 = k)) = true then kvs.map fun kv => if kv.1 = k then (kv.1, v) else kv else kvs ++ [(k, v)]
/-- a key's ghost value -/
abbrev kG : Key → GV
  | .inl i => .dt (.int i)
  | .inr x => .dt (.str x)
section
variable {K : PySem.W.Frag} {κ : Type} [DecidableEq κ] {G : Hp}
theorem RelKV.val : ∀ {vs : List (κ × V)} {gs : List (κ × GV)} (k : κ), RelKV K G vs gs → (valV vs k = none ∧ valG gs k = none) ∨ ∃ v g, valV vs k = some v ∧ valG gs k = some g ∧ RelG K G v g
  | _, _, k, .nil => .inl ⟨rfl, rfl⟩
  | (a, v) :: vs, (b, g) :: gs, k, .cons h t => by
    obtain ⟨h1, h2⟩ := h
    have h1 : a = b := h1
    subst h1
    unfold valV valG
    rw [List.find?_cons, List.find?_cons]
    by_cases e : a = k
    · rw [decide_eq_true e]
      exact .inr ⟨v, g, rfl, rfl, h2⟩
    · rw [decide_eq_false e]
      exact RelKV.val k t
theorem RelKV.length : ∀ {vs : List (κ × V)} {gs : List (κ × GV)}, RelKV K G vs gs → vs.length = gs.length
  | _, _, .nil => rfl
  | _, _, .cons _ t => by rw [List.length_cons, List.length_cons, RelKV.length t]
theorem RelKV.any : ∀ {vs : List (κ × V)} {gs : List (κ × GV)} (k : κ), RelKV K G vs gs → (vs.any fun kv => decide (kv.1 = k)) = gs.any fun kv => decide (kv.1 = k)
  | _, _, _, .nil => rfl
  | (a, v) :: vs, (b, g) :: gs, k, .cons h t => by
    have h1 : a = b := h.1
    subst h1
    rw [List.any_cons, List.any_cons, RelKV.any k t]
theorem RelKV.mapPut {k : κ} {v : V} {g : GV} (r : RelG K G v g) : ∀ {vs : List (κ × V)} {gs : List (κ × GV)}, RelKV K G vs gs → RelKV K G (vs.map fun kv => if kv.1 = k then (kv.1, v) else kv) (gs.map fun kv => if kv.1 = k then (kv.1, g) else kv)
  | _, _, .nil => .nil
  | (a, w) :: vs, (b, h) :: gs, .cons q t => by
    have h1 : a = b := q.1
    subst h1
    rw [List.map_cons, List.map_cons]
    refine .cons ?_ (RelKV.mapPut r t)
    by_cases e : a = k
    · rw [if_pos e, if_pos e]; exact ⟨rfl, r⟩
    · rw [if_neg e, if_neg e]; exact q
theorem RelKV.app : ∀ {vs ws : List (κ × V)} {gs hs : List (κ × GV)}, RelKV K G vs gs → RelKV K G ws hs → RelKV K G (vs ++ ws) (gs ++ hs)
  | _, _, _, _, .nil, h => h
  | _, _, _, _, .cons a b, h => .cons a (RelKV.app b h)
theorem RelKV.put {vs : List (κ × V)} {gs : List (κ × GV)} {k : κ} {v : V} {g : GV} (h : RelKV K G vs gs) (r : RelG K G v g) : RelKV K G (putK vs k v) (putG gs k g) := by
  unfold putK putG
  rw [RelKV.any k h]
  split
  · exact RelKV.mapPut r h
  · exact RelKV.app h (.cons ⟨rfl, r⟩ .nil)
end
section
variable {K : PySem.W.Frag} {E : GE} {M M1 M2 M3 : GM} {P : Kn} {td ty tx tv : TE} {p : Addr} {fl : Bool} {kvs : List (Key × GV)} {k : Key} {g : GV} {F : GV → GM → Prop}
theorem kG_v {G : Hp} {v : V} : ∀ {k : Key}, RelG K G v (kG k) → v = kV k
  | .inl _, h => by cases h; rfl
  | .inr _, h => by cases h; rfl
theorem SR.dict {B : Bs} {σ : L2.St} {G H : Hp} (S : SR K B E M σ G H) (hm : (p, fl, GO.dk kvs) ∈ M) : ∃ vs, H p = some (.dK vs) ∧ RelKV K G vs kvs := by
  obtain ⟨_, ⟨o, h1, h2⟩, _⟩ := S.cells.at_ _ hm
  obtain ⟨vs, rfl, r⟩ := RelO.dk_inv h2
  exact ⟨vs, h1, r⟩
theorem ex_dnewK : EX K tDNewK E M (fun g M' => ∃ p, g = .rf p ∧ M' = (p, true, .dk []) :: M) := fun B σ G H S Q q p hp => q _ _ _ G _ ⟨p, rfl, rfl⟩ Same.rfl' (S.own hp .nil) rfl
theorem bs_dnewK {i : Nat} {u : TS} (k : ∀ p, Blk K u (E.set i (some (.rf p))) ((p, true, .dk []) :: M) P) : Blk K (tSeq (tAsg tDNewK (gName i)) u) E M P := bs_asgX ex_dnewK fun g M' ⟨p, e1, e2⟩ => by subst e1 e2; exact k p
theorem ee_din (hk : EE K ty E M (kG k) M1) (hd : EE K td E M1 (.rf p) M2) (hm : (p, fl, GO.dk kvs) ∈ M2) : EE K (tDIn ty td) E M (.dt (.bool (valG kvs k).isSome)) M2 := fun B σ G H S Q q =>
  hk B σ G H S _ fun v G1 H1 s1 S1 r1 => hd B σ G1 H1 S1 _ fun w G2 H2 s2 S2 r2 => by
    have r2' : w = .ref p := r2
    have r1' := kG_v r1
    subst r2' r1'
    obtain ⟨vs, h1, h2⟩ := S2.dict hm
    refine ⟨p, valV vs k, rfl, .k h1, ?_⟩
    rcases RelKV.val k h2 with ⟨e1, e2⟩ | ⟨v', g', e1, e2, _⟩
    · rw [e1]; rw [e2] at q; exact q _ G2 H2 (s1.trans s2) S2 (Dr.bl _)
    · rw [e1]; rw [e2] at q; exact q _ G2 H2 (s1.trans s2) S2 (Dr.bl _)
theorem ee_dnotin (hk : EE K ty E M (kG k) M1) (hd : EE K td E M1 (.rf p) M2) (hm : (p, fl, GO.dk kvs) ∈ M2) : EE K (tDNotIn ty td) E M (.dt (.bool (!(valG kvs k).isSome))) M2 := fun B σ G H S Q q =>
  hk B σ G H S _ fun v G1 H1 s1 S1 r1 => hd B σ G1 H1 S1 _ fun w G2 H2 s2 S2 r2 => by
    have r2' : w = .ref p := r2
    have r1' := kG_v r1
    subst r2' r1'
    obtain ⟨vs, h1, h2⟩ := S2.dict hm
    refine ⟨p, valV vs k, rfl, .k h1, ?_⟩
    rcases RelKV.val k h2 with ⟨e1, e2⟩ | ⟨v', g', e1, e2, _⟩
    · rw [e1]; rw [e2] at q; exact q _ G2 H2 (s1.trans s2) S2 (Dr.bl _)
    · rw [e1]; rw [e2] at q; exact q _ G2 H2 (s1.trans s2) S2 (Dr.bl _)
theorem ee_dget (hd : EE K td E M (.rf p) M1) (hk : EE K ty E M1 (kG k) M2) (hm : (p, fl, GO.dk kvs) ∈ M2) (hv : valG kvs k = some g) : EE K (tDGet td ty) E M g M2 := fun B σ G H S Q q =>
  hd B σ G H S _ fun w G1 H1 s1 S1 r1 => hk B σ G1 H1 S1 _ fun v G2 H2 s2 S2 r2 => by
    have r1' : w = .ref p := r1
    have r2' := kG_v r2
    subst r2' r1'
    obtain ⟨vs, h1, h2⟩ := S2.dict hm
    rcases RelKV.val k h2 with ⟨e1, e2⟩ | ⟨v', g', e1, e2, r⟩
    · rw [e2] at hv; cases hv
    · rw [e2] at hv; cases hv
      exact ⟨p, v', rfl, by rw [← e1]; exact .k h1, q _ G2 H2 (s1.trans s2) S2 r⟩
/-- d.get(k, x) -/
theorem ee_dget2 {x : GV} (hd : EE K td E M (.rf p) M1) (hm1 : (p, fl, GO.dk kvs) ∈ M1) (hk : EE K ty E M1 (kG k) M2) (hx : EE K tx E M2 x M3) (hm : (p, fl, GO.dk kvs) ∈ M3) : EE K (tDGet2 td ty tx) E M ((valG kvs k).getD x) M3 := fun B σ G H S Q q =>
  hd B σ G H S _ fun w G1 H1 s1 S1 r1 => by
    have r1' : w = .ref p := r1
    subst r1'
    obtain ⟨vs0, h0, _⟩ := S1.dict hm1
    refine ⟨p, rfl, .inl ⟨vs0, .inl h0⟩, hk B σ G1 H1 S1 _ fun v G2 H2 s2 S2 r2 => hx B σ G2 H2 S2 _ fun z G3 H3 s3 S3 r3 => ?_⟩
    have r2' := kG_v r2
    subst r2'
    obtain ⟨vs, h1, h2⟩ := S3.dict hm
    refine ⟨valV vs k, .k h1, ?_⟩
    rcases RelKV.val k h2 with ⟨e1, e2⟩ | ⟨v', g', e1, e2, r⟩
    · rw [e1]; rw [e2] at q; exact q _ G3 H3 (s1.trans (s2.trans s3)) S3 r3
    · rw [e1]; rw [e2] at q; exact q _ G3 H3 (s1.trans (s2.trans s3)) S3 r
/-- d[k] = e -/
theorem blk_dput {j : Nat} (hv : EE K tv E M g M1) (hd : EE K td E M1 (.rf p) M2) (hk : EE K ty E M2 (kG k) M3) (hm : M3[j]? = some (p, fl, .dk kvs)) (hl : kvs.length < sizeLine) (q : P.nx E (M3.set j (p, fl, .dk (putG kvs k g)))) : Blk K (sDPut td ty tv) E M P := fun B σ G H D S n _ _ _ =>
  hv B σ G H S _ fun v G1 H1 s1 S1 r1 => hd B σ G1 H1 S1 _ fun w G2 H2 s2 S2 r2 => hk B σ G2 H2 S2 _ fun y G3 H3 s3 S3 r3 => by
    have r2' : w = .ref p := r2
    have r3' := kG_v r3
    subst r2' r3'
    obtain ⟨vs, h1, h2⟩ := S3.dict (List.mem_of_getElem? hm)
    exact ⟨p, _, rfl, .k h1 (by rw [RelKV.length h2]; exact hl), n _ _ _ G3 _ q (s1.trans (s2.trans s3)) (S3.write (g := .dk (putG kvs k g)) hm (RelKV.put h2 (RelG.mono (s2.trans s3) r1)))⟩
theorem valG_nil {κ : Type} [DecidableEq κ] (k : κ) : valG ([] : List (κ × GV)) k = none := rfl
theorem valG_put {κ : Type} [DecidableEq κ] : ∀ (kvs : List (κ × GV)) (k k' : κ) (g : GV), valG (putG kvs k g) k' = if k' = k then some g else valG kvs k' := by
  intro kvs k k' g
  have app : ∀ l : List (κ × GV), (l.any fun kv => decide (kv.1 = k)) = false → valG (l ++ [(k, g)]) k' = if k' = k then some g else valG l k' := by
    intro l
    induction l with
    | nil =>
      intro _
      unfold valG
      rw [List.nil_append, List.find?_cons]
      by_cases e : k' = k
      · subst e; rw [decide_eq_true rfl, if_pos rfl]
        rfl
      · rw [decide_eq_false (Ne.symm e), if_neg e]
    | cons a l ih =>
      intro h
      rw [List.any_cons, Bool.or_eq_false_iff] at h
      have ih := ih h.2
      unfold valG at ih ⊢
      rw [List.cons_append, List.find?_cons, List.find?_cons]
      by_cases e : a.1 = k'
      · rw [decide_eq_true e]
        have : k' ≠ k := fun z => by rw [← z, ← e] at h; simp at h
        rw [if_neg this]
      · rw [decide_eq_false e]; exact ih
  have mp : ∀ l : List (κ × GV), (l.any fun kv => decide (kv.1 = k)) = true → valG (l.map fun kv => if kv.1 = k then (kv.1, g) else kv) k' = if k' = k then some g else valG l k' := by
    intro l
    induction l with
    | nil => intro h; cases h
    | cons a l ih =>
      intro h
      unfold valG at ih ⊢
      rw [List.map_cons, List.find?_cons, List.find?_cons]
      by_cases e : a.1 = k
      · rw [if_pos e]
        by_cases e2 : k' = k
        · subst e2
          rw [show decide ((a.1, g).1 = k') = true from decide_eq_true e, if_pos rfl]; rfl
        · have ne : a.1 ≠ k' := fun z => e2 (z ▸ e)
          rw [show decide ((a.1, g).1 = k') = false from decide_eq_false ne]
          by_cases hl : (l.any fun kv => decide (kv.1 = k)) = true
          · exact ih hl
          · have : (l.map fun kv => if kv.1 = k then (kv.1, g) else kv) = l := by
              refine (List.map_congr_left fun b hb => ?_).trans (List.map_id' l)
              rw [if_neg fun z => hl (List.any_eq_true.mpr ⟨b, hb, decide_eq_true z⟩)]
            rw [this, if_neg e2]
      · rw [if_neg e]
        rw [List.any_cons, decide_eq_false e, Bool.false_or] at h
        by_cases e2 : a.1 = k'
        · rw [decide_eq_true e2]
          have : k' ≠ k := fun z => e (e2.trans z)
          rw [if_neg this]
        · rw [decide_eq_false e2]; exact ih h
  unfold putG
  cases h : (kvs.any fun kv => decide (kv.1 = k)) with
  | true => rw [if_pos rfl]; exact mp kvs h
  | false => rw [if_neg Bool.false_ne_true]; exact app kvs h
theorem putG_len {κ : Type} [DecidableEq κ] (kvs : List (κ × GV)) (k : κ) (g : GV) : (putG kvs k g).length ≤ kvs.length + 1 := by
  unfold putG
  split
  · rw [List.length_map]; omega
  · rw [List.length_append]; exact Nat.le_refl _
end
/-! ### lists: x[i] += e, insert, clear, pop, index, extend; max, sorted -/
section
variable {X : Cx}
theorem o_getL : PGet X (fun x y H Q => ∃ p xs i v, x = .ref p ∧ y = .int i ∧ 0 ≤ i ∧ SqL X.K H p xs ∧ atI xs i = some v ∧ Q v H) := by
  intro pins s σ H x y v u Q I rx ry h
  obtain ⟨p, xs, i, z, rfl, rfl, h0, hq, he, q⟩ := h
  cases rx
  obtain ⟨t, rfl⟩ := ry
  obtain ⟨its, r, pl, hz⟩ := I.list hq
  obtain ⟨j, h1, h2, h3, h4, h5⟩ := atI_get he
  obtain ⟨w, ew, rr⟩ := r.get h2
  have hj : i.toNat = j := by rw [seqIndex_of h0 h5] at h1; exact Option.some.inj h1
  have hn := line63
  exact wpAny_getItem_list pl.isList h0 (by omega) (by rw [hj]; simpa using ew) ⟨z, H, I, rr, q⟩
def rGetL (K : PySem.W.Frag) : V → V → Hp → VK → Prop := fun x y H Q => ∃ p xs i v, x = .ref p ∧ y = .int i ∧ 0 ≤ i ∧ SqL K H p xs ∧ atI xs i = some v ∧ Q v H
theorem o_getL' : PGet X (rGetL X.K) := o_getL
def rIns : V → List V → Hp → VK → Prop := fun x vs H Q => ∃ (l : Addr) (xs : List V) (i : Int) (y : V), x = .ref l ∧ vs = [.int i, y] ∧ H l = some (.lst xs) ∧ xs.length < sizeLine ∧ 0 ≤ i ∧ i < 2 ^ 63 ∧
    Q .non (upd H l (.lst (xs.take i.toNat ++ [y] ++ xs.drop i.toNat)))
theorem o_insert : MtR X "list.insert" rIns := mt_insert
end
section
variable {K : PySem.W.Frag} {E : GE} {M M1 M2 M3 M4 : GM} {P : Kn} {ta tb te : TE} {tr : TA} {p : Addr} {fl : Bool} {g : GV} {xs : List GV} {t : TS}
theorem RelGs.take {G : Hp} : ∀ {vs : List V} {gs : List GV} (n : Nat), RelGs K G vs gs → RelGs K G (vs.take n) (gs.take n)
  | _, _, 0, _ => .nil
  | _, _, _ + 1, .nil => .nil
  | _, _, n + 1, .cons h t => .cons h (RelGs.take n t)
theorem RelGs.drop {G : Hp} : ∀ {vs : List V} {gs : List GV} (n : Nat), RelGs K G vs gs → RelGs K G (vs.drop n) (gs.drop n)
  | _, _, 0, h => h
  | _, _, _ + 1, .nil => .nil
  | _, _, n + 1, .cons _ t => RelGs.drop n t
theorem RelGs.dropLast {G : Hp} : ∀ {vs : List V} {gs : List GV}, RelGs K G vs gs → RelGs K G vs.dropLast gs.dropLast
  | _, _, .nil => .nil
  | _, _, .cons _ .nil => .nil
  | _, _, .cons h (.cons h2 t) => .cons h (RelGs.dropLast (.cons h2 t))
theorem SR.list {B : Bs} {σ : L2.St} {G H : Hp} (S : SR K B E M σ G H) (hm : (p, fl, GO.lst xs) ∈ M) : ∃ vs, H p = some (.lst vs) ∧ RelGs K G vs xs := by
  obtain ⟨_, ⟨o, h1, h2⟩, _⟩ := S.cells.at_ _ hm
  obtain ⟨vs, rfl, r⟩ := RelO.lst_inv h2
  exact ⟨vs, h1, r⟩
/-- xs[i] += e, of ints -/
theorem blk_augL {j n0 : Nat} {i a c : Int} (ho : EE K ta E M (.rf p) M1) (hi : EE K tb E M1 (.dt (.int i)) M2) (hm : (p, fl, GO.lst xs) ∈ M2) (h0 : 0 ≤ i) (hx : atI xs i = some (.dt (.int a))) (he : EE K te E M2 (.dt (.int c)) M3) (hm3 : M3[j]? = some (p, fl, .lst xs)) (hn : ixN xs.length i = some n0)
    (k : P.nx E (M3.set j (p, fl, .lst (xs.set n0 (.dt (.int (a + c))))))) : Blk K (tAugS ta tb te (rGetL K) (ipI fun i j => i + j) rSetL) E M P := fun B σ G H D S n _ _ _ =>
  ho B σ G H S _ fun v G1 H1 s1 S1 r1 => hi B σ G1 H1 S1 _ fun w G2 H2 s2 S2 r2 => by
    have r1' : v = .ref p := r1
    subst r1'
    cases r2
    obtain ⟨vs, h1, h2⟩ := S2.list hm
    obtain ⟨u, k1, k2⟩ := RelGs.atI h2 hx
    cases k2
    refine ⟨p, vs, i, _, rfl, rfl, h0, .of h1, k1, he B σ G2 H2 S2 _ fun y G3 H3 s3 S3 r3 => ?_⟩
    cases r3
    obtain ⟨vs3, e1, e2⟩ := S3.list (List.mem_of_getElem? hm3)
    exact ⟨a, c, rfl, rfl, p, vs3, i, n0, rfl, rfl, e1, by rw [RelGs.length e2]; exact hn, n _ _ _ G3 _ k (s1.trans (s2.trans s3)) (S3.write (g := .lst (xs.set n0 (.dt (.int (a + c))))) hm3 (RelGs.set e2 (Dr.int _)))⟩
/-- xs.insert(i, e) -/
theorem blk_insert {j : Nat} {i : Int} (ho : EE K ta E M (.rf p) M) (hy : (p, fl, GO.lst xs) ∈ M) (ha : EA K tr E M [.dt (.int i), g] M1) (hm : M1[j]? = some (p, fl, .lst xs)) (hz : xs.length < sizeLine) (h0 : 0 ≤ i) (h1 : i < 2 ^ 63) (k : P.nx E (M1.set j (p, fl, .lst (xs.take i.toNat ++ [g] ++ xs.drop i.toNat)))) :
    Blk K (tDrop (tBM K "list" rIns ta tr)) E M P := fun B σ G H D S n _ _ _ =>
  ho B σ G H S _ fun v G1 H1 s1 S1 r1 => by
    have r1' : v = .ref p := r1
    subst r1'
    obtain ⟨vs, e1, _⟩ := S1.list hy
    refine ⟨.inl ⟨rfl, vs, .of e1⟩, ha B σ G1 H1 S1 _ fun ws G2 H2 s2 S2 r2 => ?_⟩
    obtain ⟨a, b, rfl, ra, rb⟩ := two_inv r2
    cases ra
    obtain ⟨vs2, e2, r⟩ := S2.list (List.mem_of_getElem? hm)
    exact ⟨p, vs2, i, b, rfl, rfl, e2, by rw [RelGs.length r]; exact hz, h0, h1, n _ _ _ G2 _ k (s1.trans s2) (S2.write (g := .lst (xs.take i.toNat ++ [g] ++ xs.drop i.toNat)) hm (RelGs.app (RelGs.app (RelGs.take _ r) (.cons rb .nil)) (RelGs.drop _ r)))⟩
/-- xs.clear() -/
theorem blk_clear {j : Nat} (ho : EE K ta E M (.rf p) M1) (hm : M1[j]? = some (p, fl, .lst xs)) (k : P.nx E (M1.set j (p, fl, .lst []))) : Blk K (tDrop (tBM0 K "list" rClear ta)) E M P := fun B σ G H D S n _ _ _ =>
  ho B σ G H S _ fun v G1 H1 s1 S1 r1 => by
    have r1' : v = .ref p := r1
    subst r1'
    obtain ⟨vs, e1, r⟩ := S1.list (List.mem_of_getElem? hm)
    exact ⟨.inl ⟨rfl, vs, .of e1⟩, p, vs, rfl, rfl, e1, n _ _ _ G1 _ k s1 (S1.write (g := .lst []) hm .nil)⟩
/-- xs.pop(), as a value -/
theorem ee_pop {j : Nat} (ho : EE K ta E M (.rf p) M1) (hm : M1[j]? = some (p, fl, .lst (xs ++ [g]))) (hM : M1.set j (p, fl, .lst xs) = M2 := by rfl) : EE K (tBM0 K "list" rPop ta) E M g M2 := fun B σ G H S Q q =>
  ho B σ G H S _ fun v G1 H1 s1 S1 r1 => by
    have r1' : v = .ref p := r1
    subst r1'
    obtain ⟨vs, e1, r⟩ := S1.list (List.mem_of_getElem? hm)
    have hl := RelGs.length r
    obtain ⟨u, k1, k2⟩ := RelGs.get' (i := xs.length) r (by rw [List.getElem?_append_right (Nat.le_refl _), Nat.sub_self]; rfl)
    refine ⟨.inl ⟨rfl, vs, .of e1⟩, p, vs, u, rfl, rfl, e1, ?_, q u G1 _ s1 ?_ k2⟩
    · rw [hl, List.length_append]; exact k1
    · rw [← hM]
      have r' := RelGs.dropLast r
      rw [List.dropLast_concat] at r'
      exact S1.write (g := .lst xs) hm r'
/-- xs.index(e), nested data too -/
theorem ee_index {d : PyData} {ds : List PyData} {j : Nat} {z : PyData} (ho : EE K ta E M (.rf p) M) (hy : (p, fl, GO.lst (ds.map .dt)) ∈ M) (h : EE K te E M (.dt d) M1) (hm : (p, fl, GO.lst (ds.map .dt)) ∈ M1) (s1 : SeqAt.shaped (.list ds) = true) (s2 : SeqAt.shaped d = true)
    (hj : ds[j]? = some z) (he : PyData.eqv z d = true) (hno : ∀ (m : Nat) (z' : PyData), m < j → ds[m]? = some z' → PyData.eqv z' d = false) : EE K (tBM K "list" (rIndexD K) ta (tCons te tNil)) E M (.dt (.int (j : Int))) M1 := fun B σ G H S Q q =>
  ho B σ G H S _ fun v G1 H1 t1 S1 r1 => by
    have r1' : v = .ref p := r1
    subst r1'
    obtain ⟨vs, e1, r⟩ := S1.list hy
    exact ⟨.inl ⟨rfl, vs, .of e1⟩, h B σ G1 H1 S1 _ fun w G2 H2 t2 S2 r2 => ⟨p, w, d, ds, j, z, rfl, rfl, S2.own_dp hm, (Dr.mono S2.sub r2).dp, s1, s2, hj, he, hno, q _ G2 H2 (t1.trans t2) S2 (Dr.int _)⟩⟩
theorem ee_indexD {d : PyData} {ds : List PyData} {j : Nat} {z : PyData} (ho : EE K ta E M (.dt (.list ds)) M) (h : EE K te E M (.dt d) M1) (s1 : SeqAt.shaped (.list ds) = true) (s2 : SeqAt.shaped d = true)
    (hj : ds[j]? = some z) (he : PyData.eqv z d = true) (hno : ∀ (m : Nat) (z' : PyData), m < j → ds[m]? = some z' → PyData.eqv z' d = false) : EE K (tBM K "list" (rIndexD K) ta (tCons te tNil)) E M (.dt (.int (j : Int))) M1 := fun B σ G H S Q q =>
  ho B σ G H S _ fun v G1 H1 t1 S1 r1 => by
    cases r1 with
    | lst e a =>
      exact ⟨.inl ⟨rfl, _, .of (S1.sub _ _ e)⟩, h B σ G1 H1 S1 _ fun w G2 H2 t2 S2 r2 => ⟨_, w, d, ds, j, z, rfl, rfl, (Dr.mono S2.sub (Dr.lst (t2 _ _ e) (DrAll.mono t2 a))).dp, (Dr.mono S2.sub r2).dp, s1, s2, hj, he, hno, q _ G2 H2 (t1.trans t2) S2 (Dr.int _)⟩⟩
/-- max(xs) -/
theorem ee_maxL {ns : List Int} (h : EE K te E M (.dt (.list (ns.map .int))) M1) (hn : 0 < ns.length) (m : Int) (hm : m ∈ ns) (hle : ∀ y ∈ ns, y ≤ m) : EE K (tCB (rMax K) (tCons te tNil)) E M (.dt (.int m)) M1 :=
  ee_cb (ea_p1' h) fun B E σ G H S vs r Q q => by
    obtain ⟨v, rfl, hv⟩ := one_inv r
    cases hv with
    | lst e a =>
      rw [a.ints] at e
      refine ⟨_, ns, rfl, .of (S.sub _ _ e), hn, fun m' h1 h2 => ?_⟩
      have e2 : m' = m := Int.le_antisymm (hle m' h1) (h2 m hm)
      subst e2
      exact q _ G H Same.rfl' S (Dr.int _)
where
  ea_p1' {te : TE} {E : GE} {M M1 : GM} {g : GV} (h : EE K te E M g M1) : EA K (tCons te tNil) E M [g] M1 := ea_cons h ea_nil
/-- sorted(xs) of ints -/
theorem ef_sorted {ns ms : List Int} (h : EE K te E M (.dt (.list (ns.map .int))) M1) (hp : ms.Perm ns) (hs : ms.Pairwise (· ≤ ·)) : EF K (tCB (rSortedI K) (tCons te tNil)) E M ((ms.map PyData.int).map .dt) M1 :=
  ef_cb (ea_cons h ea_nil) fun B E σ G H S vs r Q q => by
    obtain ⟨v, rfl, hv⟩ := one_inv r
    cases hv with
    | lst e a =>
      rw [a.ints] at e
      refine ⟨_, ns, rfl, .of (S.sub _ _ e), fun ms' p h1 h2 hp2 => ?_⟩
      have e2 : ms' = ms := List.Perm.eq_of_pairwise (fun a b _ _ h1 h2 => Int.le_antisymm h1 h2) h2 hs (h1.trans hp.symm)
      subst e2
      exact q p G _ Same.rfl' (S.own hp2 (RelGs.of_data (DrAll.of_ints _)))
/-- xs.extend(ys) -/
theorem blk_extendD {j : Nat} {ds : List PyData} (ho : EE K ta E M (.rf p) M) (hy : (p, fl, GO.lst xs) ∈ M) (h : EE K te E M (.dt (.list ds)) M1) (hm : M1[j]? = some (p, fl, .lst xs)) (hz : xs.length + ds.length ≤ sizeLine) (k : P.nx E (M1.set j (p, fl, .lst (xs ++ ds.map GV.dt)))) :
    Blk K (tDrop (tBM K "list" rExtend ta (tCons te tNil))) E M P := fun B σ G H D S n _ _ _ =>
  ho B σ G H S _ fun v G1 H1 s1 S1 r1 => by
    have r1' : v = .ref p := r1
    subst r1'
    obtain ⟨vs, e1, _⟩ := S1.list hy
    refine ⟨.inl ⟨rfl, vs, .of e1⟩, h B σ G1 H1 S1 _ fun w G2 H2 s2 S2 r2 => ?_⟩
    obtain ⟨vs2, e2, r⟩ := S2.list (List.mem_of_getElem? hm)
    cases r2 with
    | lst e a =>
      exact ⟨p, _, vs2, _, rfl, rfl, e2, S2.sub _ _ e, by rw [RelGs.length r, a.length]; exact hz, n _ _ _ G2 _ k (s1.trans s2) (S2.write (g := .lst (xs ++ ds.map GV.dt)) (o := .lst (vs2 ++ _)) hm (RelGs.app r (RelGs.of_data a)))⟩
end
end Ek

set_option Elab.async false
set_option linter.all false
set_option maxRecDepth 100000
/-! webs, lots, plain laws of partings -/
namespace Ek
open PySem PySem.Spec PyProof.Rows L2
/-! ### data that is plain: as Python has them alike, so they are one -/
mutual
def plB : PyData → Bool
  | .none => true
  | .int _ => true
  | .str x => PyData.canLay0 (.str x)
  | .list xs => plsB xs
  | .tuple xs => plsB xs
  | .bool _ => false
  | .dict _ => false
def plsB : List PyData → Bool
  | [] => true
  | d :: ds => plB d && plsB ds
end
mutual
theorem pl_lay : ∀ d : PyData, plB d = true → d.canLay0 = true
  | .none, _ => by unfold PyData.canLay0; rfl
  | .int _, _ => by unfold PyData.canLay0; rfl
  | .str _, h => by unfold plB at h; exact h
  | .list xs, h => by unfold PyData.canLay0; unfold plB at h; exact pls_lay xs h
  | .tuple xs, h => by unfold PyData.canLay0; unfold plB at h; exact pls_lay xs h
  | .bool _, h => by unfold plB at h; cases h
  | .dict _, h => by unfold plB at h; cases h
theorem pls_lay : ∀ ds : List PyData, plsB ds = true → PyData.canLayAll0 ds = true
  | [], _ => by unfold PyData.canLayAll0; rfl
  | d :: ds, h => by
    unfold plsB at h
    rw [Bool.and_eq_true] at h
    unfold PyData.canLayAll0
    rw [pl_lay d h.1, pls_lay ds h.2]; rfl
end
mutual
theorem pl_eq : ∀ d e : PyData, plB d = true → plB e = true → PyData.eqv d e = true → d = e
  | .none, e, _, h2, h => by cases e <;> first | rfl | (unfold PyData.eqv at h; cases h)
  | .int i, e, _, h2, h => by
    cases e with
    | int j => unfold PyData.eqv at h; rw [eq_of_beq h]
    | bool j => unfold plB at h2; cases h2
    | _ => unfold PyData.eqv at h; cases h
  | .str i, e, _, h2, h => by
    cases e with
    | str j => unfold PyData.eqv at h; rw [eq_of_beq h]
    | _ => unfold PyData.eqv at h; cases h
  | .list xs, e, h1, h2, h => by
    cases e with
    | list ys => unfold PyData.eqv at h; unfold plB at h1 h2; rw [pls_eq xs ys h1 h2 h]
    | _ => unfold PyData.eqv at h; cases h
  | .tuple xs, e, h1, h2, h => by
    cases e with
    | tuple ys => unfold PyData.eqv at h; unfold plB at h1 h2; rw [pls_eq xs ys h1 h2 h]
    | _ => unfold PyData.eqv at h; cases h
  | .bool _, _, h1, _, _ => by unfold plB at h1; cases h1
  | .dict _, _, h1, _, _ => by unfold plB at h1; cases h1
theorem pls_eq : ∀ ds es : List PyData, plsB ds = true → plsB es = true → PyData.eqvAll ds es = true → ds = es
  | [], [], _, _, _ => rfl
  | [], _ :: _, _, _, h => by unfold PyData.eqvAll at h; cases h
  | _ :: _, [], _, _, h => by unfold PyData.eqvAll at h; cases h
  | d :: ds, e :: es, h1, h2, h => by
    unfold plsB at h1 h2
    unfold PyData.eqvAll at h
    rw [Bool.and_eq_true] at h h1 h2
    rw [pl_eq d e h1.1 h2.1 h.1, pls_eq ds es h1.2 h2.2 h.2]
end
open Classical in
theorem eqv_pl {d e : PyData} (h1 : plB d = true) (h2 : plB e = true) : PyData.eqv d e = decide (d = e) := by
  by_cases h : d = e
  · subst h; rw [eqv_self d (pl_lay d h1)]; exact (decide_eq_true rfl).symm
  · rw [decide_eq_false h]
    cases k : PyData.eqv d e with
    | false => rfl
    | true => exact absurd (pl_eq d e h1 h2 k) h
theorem pls_iff : ∀ ds : List PyData, plsB ds = true ↔ ∀ d ∈ ds, plB d = true
  | [] => by simp [plsB]
  | d :: ds => by rw [plsB, Bool.and_eq_true, pls_iff ds]; simp
theorem pls_ints (xs : List Int) : plsB (xs.map .int) = true := (pls_iff _).mpr fun d h => by
  obtain ⟨i, _, rfl⟩ := List.mem_map.mp h
  unfold plB; rfl
/-! ### webs -/
abbrev eIs (xs : List Int) : PyData := .list (xs.map .int)
abbrev eIss (xs : List (List Int)) : PyData := .list (xs.map eIs)
abbrev Web := List Int × List (List Int)
abbrev eWeb (w : Web) : PyData := .tuple [eIs w.1, eIss w.2]
theorem pl_is (xs : List Int) : plB (eIs xs) = true := by unfold plB; exact pls_ints xs
theorem pl_iss (xs : List (List Int)) : plB (eIss xs) = true := by
  unfold plB
  exact (pls_iff _).mpr fun d h => by
    obtain ⟨i, _, rfl⟩ := List.mem_map.mp h
    exact pl_is i
theorem pl_tup {ds : List PyData} (h : ∀ d ∈ ds, plB d = true) : plB (.tuple ds) = true := by unfold plB; exact (pls_iff _).mpr h
theorem pl_list {ds : List PyData} (h : ∀ d ∈ ds, plB d = true) : plB (.list ds) = true := by unfold plB; exact (pls_iff _).mpr h
theorem pl_web (w : Web) : plB (eWeb w) = true := pl_tup fun d h => by
  rcases List.mem_cons.mp h with rfl | h
  · exact pl_is _
  · rcases List.mem_cons.mp h with rfl | h
    · exact pl_iss _
    · cases h
theorem dep_is (xs : List Int) : (eIs xs).depth ≤ 1 := by
  rw [depth_list]
  have : PyData.depthAll (xs.map .int) ≤ 0 := (depthAll_le _).mpr fun d h => by
    obtain ⟨i, _, rfl⟩ := List.mem_map.mp h
    exact Nat.le_refl _
  omega
theorem dep_iss (xs : List (List Int)) : (eIss xs).depth ≤ 2 := by
  rw [depth_list]
  have : PyData.depthAll (xs.map eIs) ≤ 1 := (depthAll_le _).mpr fun d h => by
    obtain ⟨i, _, rfl⟩ := List.mem_map.mp h
    exact dep_is i
  omega
theorem dep_web (w : Web) : (eWeb w).depth ≤ 3 := by
  rw [depth_tuple]
  have : PyData.depthAll [eIs w.1, eIss w.2] ≤ 2 := (depthAll_le _).mpr fun d h => by
    rcases List.mem_cons.mp h with rfl | h
    · exact Nat.le_trans (dep_is _) (by decide)
    · rcases List.mem_cons.mp h with rfl | h
      · exact dep_iss _
      · cases h
  omega
theorem sh_of {d : PyData} (h : plB d = true) (hd : d.depth ≤ 64) : SeqAt.shaped d = true := shaped_iff.mpr ⟨pl_lay d h, hd⟩
theorem sh_is (xs : List Int) : SeqAt.shaped (eIs xs) = true := sh_of (pl_is xs) (Nat.le_trans (dep_is xs) (by decide))
theorem sh_iss (xs : List (List Int)) : SeqAt.shaped (eIss xs) = true := sh_of (pl_iss xs) (Nat.le_trans (dep_iss xs) (by decide))
theorem sh_web (w : Web) : SeqAt.shaped (eWeb w) = true := sh_of (pl_web w) (Nat.le_trans (dep_web w) (by decide))
theorem map_int_inj {xs ys : List Int} (h : xs.map PyData.int = ys.map PyData.int) : xs = ys := (List.map_inj_right (fun a b e => by injection e)).mp h
theorem eIs_inj {xs ys : List Int} (h : eIs xs = eIs ys) : xs = ys := by injection h with h; exact map_int_inj h
theorem eqv_is (xs ys : List Int) : PyData.eqv (eIs xs) (eIs ys) = decide (xs = ys) := by
  rw [eqv_pl (pl_is xs) (pl_is ys)]
  exact decide_eq_decide.mpr ⟨eIs_inj, fun h => by rw [h]⟩
/-- a square of whole numbers, alike turned round, none great -/
def SqOk (m : Nat) (R : List (List Int)) : Prop := R.length = m ∧ (∀ r ∈ R, r.length = m) ∧ (∀ u v, (R.getD u []).getD v 0 = (R.getD v []).getD u 0) ∧ ∀ r ∈ R, ∀ x ∈ r, x.natAbs < 2 ^ 70
def WebOk (m : Nat) (w : Web) : Prop := w.1.length = m ∧ (∀ h ∈ w.1, 0 ≤ h ∧ h < 3) ∧ SqOk m w.2
/-! ### draws -/
def drRest (c base : Int) (free : Bool) : Nat → Int
  | 0 => c
  | k + 1 => if free = true ∧ drRest c base free k ≠ 0 ∧ drRest c base free k ≠ -1 then drRest c base free k / base else drRest c base free k
def dm1 (c k : Int) : Int := (c + 7919 * k) % 2147483629
def dm2 (c k : Int) : Int := (dm1 c k * dm1 c k + k) % 2147483629
def drAt (c base : Int) (free : Bool) (k : Nat) : Int := if free = true ∧ drRest c base free k ≠ 0 ∧ drRest c base free k ≠ -1 then drRest c base free k % base else dm2 c k * dm2 c k % 2147483587 % base
def drawsM (c : Int) (m : Nat) (base : Int) (free : Bool) : List Int := (List.range m).map (drAt c base free)
theorem drawsM_len (c : Int) (m : Nat) (base : Int) (free : Bool) : (drawsM c m base free).length = m := by rw [drawsM, List.length_map, List.length_range]
theorem drAt_rng {c base : Int} (h : 0 < base) (free : Bool) (k : Nat) : 0 ≤ drAt c base free k ∧ drAt c base free k < base := by
  unfold drAt
  split
  · exact ⟨Int.emod_nonneg _ (by omega), Int.emod_lt_of_pos _ h⟩
  · exact ⟨Int.emod_nonneg _ (by omega), Int.emod_lt_of_pos _ h⟩
theorem drawsM_rng {c base : Int} {m : Nat} (h : 0 < base) (free : Bool) : ∀ x ∈ drawsM c m base free, 0 ≤ x ∧ x < base := fun x hx => by
  obtain ⟨k, _, rfl⟩ := List.mem_map.mp hx
  exact drAt_rng h free k
theorem dm1_rng (c k : Int) : 0 ≤ dm1 c k ∧ dm1 c k < 2147483629 := ⟨Int.emod_nonneg _ (by omega), Int.emod_lt_of_pos _ (by omega)⟩
theorem dm2_rng (c k : Int) : 0 ≤ dm2 c k ∧ dm2 c k < 2147483629 := ⟨Int.emod_nonneg _ (by omega), Int.emod_lt_of_pos _ (by omega)⟩
/-! ### things by numbers -/
def numbStep (z : List PyData × List Int) (d : PyData) : List PyData × List Int :=
  if (z.1.any fun e => PyData.eqv e d) = true then (z.1, z.2 ++ [((z.1.findIdx fun e => PyData.eqv e d : Nat) : Int)]) else (z.1 ++ [d], z.2 ++ [(z.1.length : Int)])
def numbSt (ds : List PyData) : List PyData × List Int := ds.foldl numbStep ([], [])
def numbM (ds : List PyData) : List Int := (numbSt ds).2
theorem numbSt_snoc (ds : List PyData) (d : PyData) : numbSt (ds ++ [d]) = numbStep (numbSt ds) d := by unfold numbSt; rw [List.foldl_append]; rfl
theorem snoc_ind {A : Type} {P : List A → Prop} (h0 : P []) (hs : ∀ l a, P l → P (l ++ [a])) : ∀ l, P l := fun l => by
  have : ∀ r : List A, P r.reverse := fun r => by
    induction r with
    | nil => exact h0
    | cons a r ih => rw [List.reverse_cons]; exact hs _ _ ih
  have := this l.reverse
  rwa [List.reverse_reverse] at this
theorem numbSt_inv : ∀ ds : List PyData, (numbSt ds).2.length = ds.length ∧ (numbSt ds).1.length ≤ ds.length ∧ (∀ x ∈ (numbSt ds).2, 0 ≤ x ∧ x < (numbSt ds).1.length) ∧ ∀ d ∈ (numbSt ds).1, d ∈ ds := by
  refine snoc_ind ⟨rfl, Nat.le_refl _, (fun x h => nomatch h), (fun x h => nomatch h)⟩ fun ds d ⟨h1, h2, h3, h4⟩ => ?_
  rw [numbSt_snoc]
  generalize numbSt ds = z at *
  unfold numbStep
  split
  · rename_i h
    refine ⟨by simp [h1], by simp; omega, fun x hx => ?_, fun e he => List.mem_append_left _ (h4 e he)⟩
    rcases List.mem_append.mp hx with hx | hx
    · exact h3 x hx
    · rw [List.mem_singleton] at hx
      subst hx
      have : z.1.findIdx (fun e => PyData.eqv e d) < z.1.length := List.findIdx_lt_length_of_exists (List.any_eq_true.mp h)
      show (0 : Int) ≤ _ ∧ _ < ((z.1.length : Nat) : Int)
      omega
  · refine ⟨by simp [h1], by simp; omega, fun x hx => ?_, fun e he => ?_⟩
    · show 0 ≤ x ∧ x < (((z.1 ++ [d]).length : Nat) : Int)
      rw [List.length_append, List.length_singleton]
      rcases List.mem_append.mp hx with hx | hx
      · have := h3 x hx; omega
      · rw [List.mem_singleton] at hx; subst hx; omega
    · rcases List.mem_append.mp he with he | he
      · exact List.mem_append_left _ (h4 e he)
      · exact List.mem_append_right _ he
theorem numbM_len (ds : List PyData) : (numbM ds).length = ds.length := (numbSt_inv ds).1
theorem numbM_rng (ds : List PyData) : ∀ x ∈ numbM ds, 0 ≤ x ∧ x < ds.length := fun x hx => by
  obtain ⟨_, h2, h3, _⟩ := numbSt_inv ds
  have := h3 x hx
  omega
/-- what the loop's index finds -/
theorem numb_idx {s : List PyData} {d : PyData} (hr : PyData.eqv d d = true) : ∃ (j : Nat) (z : PyData), (if (s.any fun e => PyData.eqv e d) = true then s else s ++ [d])[j]? = some z ∧ PyData.eqv z d = true ∧ (∀ (m : Nat) (z' : PyData), m < j → (if (s.any fun e => PyData.eqv e d) = true then s else s ++ [d])[m]? = some z' → PyData.eqv z' d = false) ∧
    ∀ f : List Int, numbStep (s, f) d = (if (s.any fun e => PyData.eqv e d) = true then s else s ++ [d], f ++ [(j : Int)]) := by
  by_cases h : (s.any fun e => PyData.eqv e d) = true
  · have hl := List.findIdx_lt_length_of_exists (List.any_eq_true.mp h)
    refine ⟨s.findIdx fun e => PyData.eqv e d, s[s.findIdx fun e => PyData.eqv e d], ?_, List.findIdx_getElem (p := fun e => PyData.eqv e d), fun m z' hm he => ?_, fun f => ?_⟩
    · rw [if_pos h]; exact List.getElem?_eq_getElem hl
    · rw [if_pos h] at he
      obtain ⟨h1, h2⟩ := List.getElem?_eq_some_iff.mp he
      have := List.not_of_lt_findIdx hm
      rw [h2] at this
      cases k : PyData.eqv z' d with
      | false => rfl
      | true => exact absurd k (by simpa using this)
    · unfold numbStep
      rw [if_pos h, if_pos h]
  · refine ⟨s.length, d, ?_, hr, fun m z' hm he => ?_, fun f => ?_⟩
    · rw [if_neg h, List.getElem?_append_right (Nat.le_refl _), Nat.sub_self]; rfl
    · rw [if_neg h, List.getElem?_append_left hm] at he
      cases k : PyData.eqv z' d with
      | false => rfl
      | true => exact absurd (List.any_eq_true.mpr ⟨z', List.mem_of_getElem? he, k⟩) h
    · unfold numbStep
      rw [if_neg h, if_neg h]
/-! ### sums to a lot -/
def sumTo (ls row : List Int) (l : Int) : Int := (((ls.zip row).filter fun p => decide (p.1 = l)).map (·.2)).sum
theorem sumTo_snoc {ls row : List Int} (h : ls.length = row.length) (a b l : Int) : sumTo (ls ++ [a]) (row ++ [b]) l = sumTo ls row l + if a = l then b else 0 := by
  unfold sumTo
  rw [List.zip_append h, List.filter_append, List.map_append, List.sum_append]
  congr 1
  by_cases e : a = l
  · rw [if_pos e]; simp [e]
  · rw [if_neg e]; simp [e]
theorem sumTo_none {ls row : List Int} {l : Int} (h : l ∉ ls) : sumTo ls row l = 0 := by
  unfold sumTo
  rw [List.filter_eq_nil_iff.mpr]
  · rfl
  · rintro ⟨a, b⟩ hp hd
    have := (List.of_mem_zip hp).1
    exact h ((of_decide_eq_true hd : a = l) ▸ this)
def mxL (ls : List Int) : Nat := (ls.foldl max 0).toNat
theorem le_foldl_max : ∀ (ls : List Int) (a : Int), a ≤ ls.foldl max a ∧ (∀ x ∈ ls, x ≤ ls.foldl max a) ∧ (ls.foldl max a = a ∨ ls.foldl max a ∈ ls)
  | [], a => ⟨Int.le_refl _, fun x h => (by cases h), .inl rfl⟩
  | b :: ls, a => by
    rw [List.foldl_cons]
    obtain ⟨h1, h2, h3⟩ := le_foldl_max ls (max a b)
    refine ⟨by omega, fun x hx => ?_, ?_⟩
    · rcases List.mem_cons.mp hx with rfl | hx
      · omega
      · exact h2 x hx
    · rcases h3 with h3 | h3
      · rw [h3]
        by_cases e : b ≤ a
        · left; omega
        · right; rw [show max a b = b by omega]; exact .head _
      · exact .inr (.tail _ h3)
theorem mxL_spec {ls : List Int} (h : ∀ x ∈ ls, 0 ≤ x) (hn : 0 < ls.length) : ((mxL ls : Nat) : Int) ∈ ls ∧ ∀ x ∈ ls, x ≤ (mxL ls : Nat) := by
  obtain ⟨h1, h2, h3⟩ := le_foldl_max ls 0
  unfold mxL
  rw [Int.toNat_of_nonneg h1]
  refine ⟨?_, h2⟩
  rcases h3 with h3 | h3
  · obtain ⟨x, hx⟩ := List.exists_mem_of_length_pos hn
    have a := h x hx
    have b := h2 x hx
    rw [h3] at b ⊢
    rw [show (0 : Int) = x by omega]; exact hx
  · exact h3
def wtM (ls row : List Int) : List Int := (List.range (mxL ls + 1)).map fun l : Nat => sumTo ls row l
def lookD (w : Web) (ls : List Int) (u : Nat) : PyData := .tuple [.int (ls.getD u 0), .int (w.1.getD u 0), eIs (wtM ls (w.2.getD u []))]
theorem pl_look (w : Web) (ls : List Int) (u : Nat) : plB (lookD w ls u) = true := pl_tup fun d h => by
  simp only [List.mem_cons, List.not_mem_nil, or_false] at h
  rcases h with rfl | rfl | rfl
  · unfold plB; rfl
  · unfold plB; rfl
  · exact pl_is _
theorem dep_look (w : Web) (ls : List Int) (u : Nat) : (lookD w ls u).depth ≤ 2 := by
  unfold lookD
  rw [depth_tuple]
  have : PyData.depthAll [.int (ls.getD u 0), .int (w.1.getD u 0), eIs (wtM ls (w.2.getD u []))] ≤ 1 := (depthAll_le _).mpr fun d h => by
    simp only [List.mem_cons, List.not_mem_nil, or_false] at h
    rcases h with rfl | rfl | rfl
    · exact Nat.zero_le _
    · exact Nat.zero_le _
    · exact dep_is _
  omega
theorem look_eq {w : Web} {ls : List Int} {u v : Nat} : lookD w ls u = lookD w ls v ↔ ls.getD u 0 = ls.getD v 0 ∧ w.1.getD u 0 = w.1.getD v 0 ∧ wtM ls (w.2.getD u []) = wtM ls (w.2.getD v []) := by
  unfold lookD
  constructor
  · intro h
    injection h with h
    injection h with h1 h
    injection h with h2 h
    injection h with h3 h
    injection h1 with h1
    injection h2 with h2
    exact ⟨h1, h2, eIs_inj h3⟩
  · rintro ⟨h1, h2, h3⟩
    rw [h1, h2, h3]
def EvenW (w : Web) (ls : List Int) : Prop := ∀ u v : Nat, v < u → u < ls.length → ls.getD v 0 = ls.getD u 0 → w.1.getD u 0 = w.1.getD v 0 ∧ ∀ l ∈ ls, sumTo ls (w.2.getD u []) l = sumTo ls (w.2.getD v []) l
theorem wt_eq {ls r s : List Int} (h : ∀ x ∈ ls, 0 ≤ x) : wtM ls r = wtM ls s ↔ ∀ l ∈ ls, sumTo ls r l = sumTo ls s l := by
  unfold wtM
  constructor
  · intro e l hl
    have hn : 0 < ls.length := List.length_pos_of_mem hl
    obtain ⟨_, h2⟩ := mxL_spec h hn
    have a := h l hl
    have b := h2 l hl
    have := congrArg (fun z => z[l.toNat]?) e
    simp only [List.getElem?_map, List.getElem?_range (show l.toNat < mxL ls + 1 by omega), Option.map_some, Option.some.injEq] at this
    rw [Int.toNat_of_nonneg a] at this
    exact this
  · intro e
    refine List.map_congr_left fun l _ => ?_
    by_cases hl : ((l : Nat) : Int) ∈ ls
    · exact e _ hl
    · rw [sumTo_none hl, sumTo_none hl]
theorem even_looks {w : Web} {ls : List Int} (h : ∀ x ∈ ls, 0 ≤ x) : EvenW w ls ↔ ∀ u v : Nat, v < u → u < ls.length → ls.getD v 0 = ls.getD u 0 → lookD w ls u = lookD w ls v := by
  constructor
  · intro e u v h1 h2 h3
    obtain ⟨a, b⟩ := e u v h1 h2 h3
    exact look_eq.mpr ⟨h3.symm, a, (wt_eq h).mpr b⟩
  · intro e u v h1 h2 h3
    obtain ⟨_, a, b⟩ := look_eq.mp (e u v h1 h2 h3)
    exact ⟨a, (wt_eq h).mp b⟩
theorem zip_range {ls row : List Int} {n : Nat} (h1 : ls.length = n) (h2 : row.length = n) : ls.zip row = (List.range n).map fun i => (ls.getD i 0, row.getD i 0) := by
  refine List.ext_getElem (by simp [h1, h2]) fun i a b => ?_
  have a' : i < ls.length ∧ i < row.length := by rw [List.length_zip] at a; omega
  rw [List.getElem_zip, List.getElem_map, List.getElem_range, getD_of a'.1, getD_of a'.2]
/-- what the law's comprehension makes -/
theorem made_sum {ls row : List Int} {n : Nat} (h1 : ls.length = n) (h2 : row.length = n) (l : Int) : made (fun i => GV.dt ((row.map PyData.int).getD i .none)) (fun i => decide (ls.getD i 0 = l)) n = ((((ls.zip row).filter fun p => decide (p.1 = l)).map (·.2)).map PyData.int).map .dt := by
  unfold made
  rw [zip_range h1 h2, List.filter_map, List.map_map, List.map_map, List.map_map]
  refine List.map_congr_left fun i hi => ?_
  have hi : i < row.length := by have := (List.mem_filter.mp hi).1; rw [List.mem_range] at this; omega
  rw [getD_map PyData.int hi]
  show GV.dt (.int row[i]) = .dt (.int (row.getD i 0))
  rw [getD_of hi]
/-! ### rows of one's own -/
abbrev iG (xs : List Int) : List GV := (xs.map PyData.int).map GV.dt
theorem iG_snoc (xs : List Int) (a : Int) : iG (xs ++ [a]) = iG xs ++ [.dt (.int a)] := by rw [iG, List.map_append, List.map_append]; rfl
theorem rmap_succ {A : Type} (f : Nat → A) (i : Nat) : (List.range (i + 1)).map f = (List.range i).map f ++ [f i] := by rw [List.range_succ, List.map_append]; rfl
theorem iG_len (xs : List Int) : (iG xs).length = xs.length := by rw [List.length_map, List.length_map]
theorem iG_get {xs : List Int} {i : Nat} (h : i < xs.length) : (iG xs)[i]? = some (.dt (.int xs[i])) := by rw [List.getElem?_map, List.getElem?_map, List.getElem?_eq_getElem h]; rfl
theorem iG_set (xs : List Int) (i : Nat) (a : Int) : (iG xs).set i (.dt (.int a)) = iG (xs.set i a) := by rw [iG, iG, List.map_set, List.map_set]
def rCells (a : Nat → Addr) (f : Nat → Nat → Int) (i n : Nat) : GM := (List.range i).map fun c => (a c, true, GO.lst (iG ((List.range n).map (f c))))
theorem rCells_len (a : Nat → Addr) (f : Nat → Nat → Int) (i n : Nat) : (rCells a f i n).length = i := by rw [rCells, List.length_map, List.length_range]
theorem rCells_get (a : Nat → Addr) (f : Nat → Nat → Int) {i n c : Nat} (h : c < i) : (rCells a f i n)[c]? = some (a c, true, .lst (iG ((List.range n).map (f c)))) := getElem_range_map _ h
theorem rCells_mem (a : Nat → Addr) (f : Nat → Nat → Int) {i n c : Nat} (h : c < i) : (a c, true, GO.lst (iG ((List.range n).map (f c)))) ∈ rCells a f i n := List.mem_of_getElem? (rCells_get a f h)
def updF (f : Nat → Nat → Int) (u v : Nat) (x : Int) : Nat → Nat → Int := fun c d => if c = u ∧ d = v then x else f c d
theorem rCells_set (a : Nat → Addr) (f : Nat → Nat → Int) {i n u v : Nat} (x : Int) (hv : v < n) : (rCells a f i n).set u (a u, true, .lst ((iG ((List.range n).map (f u))).set v (.dt (.int x)))) = rCells a (updF f u v x) i n := by
  unfold rCells
  rw [set_range]
  refine List.map_congr_left fun c _ => ?_
  by_cases h : c = u
  · subst h
    rw [if_pos rfl, iG_set, set_range]
    congr 5
    funext d
    unfold updF
    by_cases k : d = v
    · rw [if_pos k, if_pos ⟨rfl, k⟩]
    · rw [if_neg k, if_neg fun z => k z.2]
  · rw [if_neg h]
    congr 5
    funext d
    unfold updF
    rw [if_neg fun z => h z.1]
theorem rCells_succ (a : Nat → Addr) (f : Nat → Nat → Int) (i n : Nat) (p : Addr) (xs : List Int) (h : xs = (List.range n).map (f i)) : rCells a f i n ++ [(p, true, GO.lst (iG xs))] = rCells (fun c => if c = i then p else a c) f (i + 1) n := by
  unfold rCells
  rw [rmap_succ, h]
  show _ = _ ++ [(if i = i then p else a i, true, _)]
  rw [if_pos rfl]
  congr 1
  refine List.map_congr_left fun c hc => ?_
  rw [List.mem_range] at hc
  show _ = (if c = i then p else a c, true, _)
  rw [if_neg (by omega)]
theorem rf_succ (a : Nat → Addr) (i : Nat) (p : Addr) : (List.range i).map (fun c => GV.rf (a c)) ++ [.rf p] = (List.range (i + 1)).map fun c => GV.rf (if c = i then p else a c) := by
  rw [rmap_succ, if_pos rfl]
  congr 1
  refine List.map_congr_left fun c hc => ?_
  rw [List.mem_range] at hc
  rw [if_neg (by omega)]
theorem mat_reads {cs : GM} {r : Addr} {fl : Bool} {a : Nat → Addr} {f : Nat → Nat → Int} {m n : Nat} (hr : (r, fl, GO.lst ((List.range m).map fun c => GV.rf (a c))) ∈ cs) (hc : ∀ c, c < m → (a c, true, GO.lst (iG ((List.range n).map (f c)))) ∈ cs) : RelD cs (.rf r) (eIss ((List.range m).map fun c => (List.range n).map (f c))) := by
  unfold eIss
  rw [List.map_map]
  exact .lst hr (RelDs.of_map fun c h => .lst (hc c (List.mem_range.mp h)) (RelDs.of_data _))
theorem mat_ok {m : Nat} {f : Nat → Nat → Int} (hs : ∀ u v, f u v = f v u) (hb : ∀ u v, (f u v).natAbs < 2 ^ 70) : SqOk m ((List.range m).map fun c => (List.range m).map (f c)) := by
  have get : ∀ u v, (((List.range m).map fun c => (List.range m).map (f c)).getD u []).getD v 0 = if u < m ∧ v < m then f u v else 0 := fun u v => by
    by_cases hu : u < m
    · rw [getD_of (l := (List.range m).map fun c => (List.range m).map (f c)) (by rw [List.length_map, List.length_range]; exact hu), List.getElem_map, List.getElem_range]
      by_cases hv : v < m
      · rw [if_pos ⟨hu, hv⟩, getD_of (by rw [List.length_map, List.length_range]; exact hv), List.getElem_map, List.getElem_range]
      · rw [if_neg fun z => hv z.2, List.getD_eq_getElem?_getD, List.getElem?_eq_none (by rw [List.length_map, List.length_range]; omega)]; rfl
    · rw [if_neg fun z => hu z.1, List.getD_eq_getElem?_getD (l := (List.range m).map _), List.getElem?_eq_none (by rw [List.length_map, List.length_range]; omega)]; rfl
  refine ⟨by rw [List.length_map, List.length_range], fun r hr => ?_, fun u v => ?_, fun r hr x hx => ?_⟩
  · obtain ⟨c, _, rfl⟩ := List.mem_map.mp hr
    rw [List.length_map, List.length_range]
  · rw [get, get, hs u v]
    by_cases h : u < m ∧ v < m
    · rw [if_pos h, if_pos ⟨h.2, h.1⟩]
    · rw [if_neg h, if_neg fun z => h ⟨z.2, z.1⟩]
  · obtain ⟨c, _, rfl⟩ := List.mem_map.mp hr
    obtain ⟨d, _, rfl⟩ := List.mem_map.mp hx
    exact hb c d
def tri : Nat → Nat
  | 0 => 0
  | n + 1 => tri n + (n + 1)
theorem tri_eq : ∀ n : Nat, n * (n + 1) / 2 = tri n
  | 0 => rfl
  | n + 1 => by
    rw [tri, ← tri_eq n]
    have : (n + 1) * (n + 1 + 1) = n * (n + 1) + 2 * (n + 1) := by rw [← Nat.add_mul, Nat.mul_comm]
    rw [this, Nat.add_mul_div_left _ _ (by decide)]
theorem tri_int (n : Nat) : ((n : Int) * ((n : Int) + 1)) / 2 = ((tri n : Nat) : Int) := by
  rw [← tri_eq]; rfl
theorem tri_ge : ∀ n : Nat, n ≤ tri n
  | 0 => Nat.le_refl _
  | n + 1 => by rw [tri]; omega
theorem tri_le : ∀ {n : Nat}, n ≤ 20 → tri n ≤ 210 := by decide
theorem w_1020 {K : PySem.W.Frag} {M : GM} : R2E K (rI CPow fun i j => .int (i ^ j.toNat)) (.dt (.int 10)) (.dt (.int 20)) M (.dt (.int 100000000000000000000)) M := by
  have e : (10 : Int) ^ (20 : Int).toNat = 100000000000000000000 := by decide +kernel
  have h := w_int (K := K) (M := M) (i := 10) (j := 20) ⟨by decide, by decide, by decide⟩
  rw [e] at h
  exact h
theorem ix_nat {xs : List Int} {i : Nat} (h : i < xs.length) : atI (xs.map PyData.int) (i : Int) = some (.int (xs.getD i 0)) := by
  have := atI_map PyData.int (atI_getD (xs := xs) (i := (i : Int)) (d := 0) (by omega) (by omega))
  simpa using this
theorem ix_isN {xs : List (List Int)} {i : Nat} (h : i < xs.length) : atI (xs.map eIs) (i : Int) = some (eIs (xs.getD i [])) := by
  have := atI_map eIs (atI_getD (xs := xs) (i := (i : Int)) (d := []) (by omega) (by omega))
  simpa using this
theorem cut_take {A : Type} (xs : List A) (n : Nat) (h : n ≤ xs.length) : cutD xs none (some (n : Int)) = xs.take n := by
  unfold cutD
  rw [HT.sIx_nat, HT.sIx_none, List.drop_zero, Nat.sub_zero, Nat.min_eq_left h]
/-! ### a dict of first looks -/
def DInv (look : Nat → PyData) (ls : List Int) (i : Nat) (kvs : List (Key × GV)) : Prop :=
  kvs.length ≤ i ∧ ∀ k : Int, (valG kvs (.inl k) = none ∧ ∀ j, j < i → ls.getD j 0 ≠ k) ∨ ∃ j0, j0 < i ∧ ls.getD j0 0 = k ∧ valG kvs (.inl k) = some (.dt (look j0)) ∧ ∀ j, j < i → ls.getD j 0 = k → look j = look j0
theorem dinv_zero (look : Nat → PyData) (ls : List Int) : DInv look ls 0 [] := ⟨Nat.le_refl _, fun k => .inl ⟨rfl, fun j h => absurd h (Nat.not_lt_zero _)⟩⟩
theorem dinv_new {look : Nat → PyData} {ls : List Int} {i : Nat} {kvs : List (Key × GV)} (h : DInv look ls i kvs) (hn : valG kvs (.inl (ls.getD i 0)) = none) : DInv look ls (i + 1) (putG kvs (.inl (ls.getD i 0)) (.dt (look i))) := by
  refine ⟨Nat.le_trans (putG_len _ _ _) (Nat.succ_le_succ h.1), fun k => ?_⟩
  rw [valG_put]
  by_cases e : k = ls.getD i 0
  · refine .inr ⟨i, Nat.lt_succ_self i, e.symm, by rw [if_pos (by rw [e])], fun j hj hk => ?_⟩
    by_cases ej : j = i
    · rw [ej]
    · rcases h.2 k with ⟨_, h2⟩ | ⟨j0, h1, h2, h3, _⟩
      · exact absurd hk (h2 j (by omega))
      · rw [e, hn] at h3; cases h3
  · rw [if_neg (fun z => e (by injection z))]
    rcases h.2 k with ⟨h1, h2⟩ | ⟨j0, h1, h2, h3, h4⟩
    · exact .inl ⟨h1, fun j hj hk => by
        by_cases ej : j = i
        · subst ej; exact e hk.symm
        · exact h2 j (by omega) hk⟩
    · exact .inr ⟨j0, by omega, h2, h3, fun j hj hk => by
        by_cases ej : j = i
        · subst ej; exact absurd hk.symm e
        · exact h4 j (by omega) hk⟩
theorem dinv_old {look : Nat → PyData} {ls : List Int} {i : Nat} {kvs : List (Key × GV)} {d : PyData} (h : DInv look ls i kvs) (hd : valG kvs (.inl (ls.getD i 0)) = some (.dt d)) (he : d = look i) : DInv look ls (i + 1) kvs := by
  refine ⟨Nat.le_succ_of_le h.1, fun k => ?_⟩
  rcases h.2 k with ⟨h1, h2⟩ | ⟨j0, h1, h2, h3, h4⟩
  · refine .inl ⟨h1, fun j hj hk => ?_⟩
    by_cases ej : j = i
    · subst ej; rw [hk, h1] at hd; cases hd
    · exact h2 j (by omega) hk
  · refine .inr ⟨j0, by omega, h2, h3, fun j hj hk => ?_⟩
    by_cases ej : j = i
    · subst ej
      rw [hk, h3] at hd
      injection hd with hd
      injection hd with hd
      rw [hd, he]
    · exact h4 j (by omega) hk
theorem dinv_bad {look : Nat → PyData} {ls : List Int} {i : Nat} {kvs : List (Key × GV)} {d : PyData} (h : DInv look ls i kvs) (hd : valG kvs (.inl (ls.getD i 0)) = some (.dt d)) (he : d ≠ look i) : ∃ v, v < i ∧ ls.getD v 0 = ls.getD i 0 ∧ look v ≠ look i := by
  rcases h.2 (ls.getD i 0) with ⟨h1, h2⟩ | ⟨j0, h1, h2, h3, h4⟩
  · rw [h1] at hd; cases hd
  · rw [h3] at hd
    injection hd with hd
    injection hd with hd
    exact ⟨j0, h1, h2, fun z => he (by rw [← hd, z])⟩
theorem dinv_has {look : Nat → PyData} {ls : List Int} {i : Nat} {kvs : List (Key × GV)} {k : Int} (h : DInv look ls i kvs) (hn : valG kvs (.inl k) ≠ none) : ∃ j0, valG kvs (.inl k) = some (.dt (look j0)) := by
  rcases h.2 k with ⟨h1, _⟩ | ⟨j0, _, _, h3, _⟩
  · exact absurd h1 hn
  · exact ⟨j0, h3⟩
theorem dinv_end {look : Nat → PyData} {ls : List Int} {n : Nat} {kvs : List (Key × GV)} (h : DInv look ls n kvs) {u v : Nat} (hv : v < n) (hu : u < n) (e : ls.getD v 0 = ls.getD u 0) : look u = look v := by
  rcases h.2 (ls.getD u 0) with ⟨_, h2⟩ | ⟨j0, h1, h2, h3, h4⟩
  · exact absurd rfl (h2 u hu)
  · rw [h4 u hu rfl, h4 v hv e]
/-- lots that fit a web -/
def Fit (w : Web) (ls : List Int) : Prop := w.1.length = ls.length ∧ w.2.length = ls.length ∧ (∀ r ∈ w.2, r.length = ls.length) ∧ ls.length ≤ 1000 ∧ ∀ x ∈ ls, 0 ≤ x ∧ x < 1000
theorem fit_of {m : Nat} {w : Web} {ls : List Int} (h : WebOk m w) (hm : m ≤ 1000) (h1 : ls.length = m) (h2 : ∀ x ∈ ls, 0 ≤ x ∧ x < 1000) : Fit w ls := ⟨by rw [h.1, h1], by rw [h.2.2.1, h1], fun r hr => by rw [h.2.2.2.1 r hr, h1], by omega, h2⟩
theorem Fit.row {w : Web} {ls : List Int} (h : Fit w ls) {u : Nat} (hu : u < ls.length) : (w.2.getD u []).length = ls.length := by
  rw [getD_of (by rw [h.2.1]; exact hu)]
  exact h.2.2.1 _ (List.getElem_mem _)
/-! ### partings of the law -/
def srtM (xs : List Int) : List Int := xs.mergeSort fun a b => decide (a ≤ b)
theorem srtM_perm (xs : List Int) : (srtM xs).Perm xs := List.mergeSort_perm xs _
theorem srtM_srt (xs : List Int) : (srtM xs).Pairwise (· ≤ ·) := by
  have := List.pairwise_mergeSort (le := fun a b : Int => decide (a ≤ b)) (fun a b c h1 h2 => by simp at *; omega) (fun a b => by simp; omega) xs
  exact this.imp fun h => by simpa using h
def thingD (w : Web) (c : Int) (u : Nat) : PyData := .tuple [.int (w.1.getD u 0), eIs (srtM (w.2.getD u [])), .bool (decide (c / 3 / (1 + (u : Int)) % 7 = 0))]
theorem thing_lay (w : Web) (c : Int) (u : Nat) : (thingD w c u).canLay0 = true ∧ (thingD w c u).depth ≤ 60 := by
  unfold thingD
  rw [canLay_tuple, depth_tuple]
  constructor
  · refine (canLayAll_iff _).mpr fun d h => ?_
    simp only [List.mem_cons, List.not_mem_nil, or_false] at h
    rcases h with rfl | rfl | rfl
    · rfl
    · exact pl_lay _ (pl_is _)
    · rfl
  · refine Nat.succ_le_succ (m := 59) ((depthAll_le _).mpr fun d h => ?_)
    simp only [List.mem_cons, List.not_mem_nil, or_false] at h
    rcases h with rfl | rfl | rfl
    · exact Nat.zero_le _
    · exact Nat.le_trans (dep_is _) (by decide)
    · exact Nat.zero_le _
def partM (w : Web) (c : Int) : List Int := if c % 3 = 0 then numbM ((List.range w.1.length).map (thingD w c)) else numbM ((drawsM (c / 3) w.1.length w.1.length true).map .int)
theorem partM_len (w : Web) (c : Int) : (partM w c).length = w.1.length := by
  unfold partM
  split
  · rw [numbM_len, List.length_map, List.length_range]
  · rw [numbM_len, List.length_map, drawsM_len]
theorem partM_rng (w : Web) (c : Int) : ∀ x ∈ partM w c, 0 ≤ x ∧ x < w.1.length := by
  unfold partM
  split
  · intro x hx; have := numbM_rng _ x hx; rw [List.length_map, List.length_range] at this; exact this
  · intro x hx; have := numbM_rng _ x hx; rw [List.length_map, drawsM_len] at this; exact this
open Classical in
noncomputable def evenB (w : Web) (ls : List Int) : Bool := decide (EvenW w ls)
open Classical in
theorem evenB_yes {w : Web} {ls : List Int} (h : EvenW w ls) : evenB w ls = true := decide_eq_true h
open Classical in
theorem evenB_no {w : Web} {ls : List Int} (h : ¬ EvenW w ls) : evenB w ls = false := decide_eq_false h
theorem evenB_iff {w : Web} {ls : List Int} : evenB w ls = true ↔ EvenW w ls := ⟨fun h => Classical.byContradiction fun k => (by rw [evenB_no k] at h; exact Bool.noConfusion h), evenB_yes⟩
theorem dr_get {A : Type} (f : Nat → A) {n i : Nat} (h : i < n) (d : A) : ((List.range n).map f).getD i d = f i := by
  rw [getD_of (by rw [List.length_map, List.length_range]; exact h), List.getElem_map, List.getElem_range]
theorem EI.n_eq {K : PySem.W.Frag} {wi : TI} {g : TG} {E : GE} {M M1 : GM} {n n' : Nat} {js : List Nat} {f : Nat → List GV} (h : EI K wi g E M M1 n js f) (e : n = n') : EI K wi g E M M1 n' js f := e ▸ h
end Ek

set_option Elab.async false
set_option linter.all false
set_option maxRecDepth 100000
/-! objects of one's own lent to a piece that changes none: it sees them as data, and what it answers holds on to none of them -/
namespace Ek
open PySem PySem.Spec PyProof.Rows L2
def atomD : PyData → Bool
  | .none => true
  | .bool _ => true
  | .int _ => true
  | .str _ => true
  | _ => false
def atomG : GV → Prop
  | .dt d => atomD d = true
  | .rf _ => True
  | _ => False
def atomO : GO → Prop
  | .lst gs => ∀ g ∈ gs, atomG g
  | .tup gs => ∀ g ∈ gs, atomG g
  | _ => False
section
variable {K : PySem.W.Frag} {B : Bs} {E E' : GE} {M M' cs : GM} {σ σ' : L2.St} {G G2 Gj H H2 : Hp}
theorem atomG.rel {v : V} : ∀ {g : GV}, atomG g → RelG K G2 v g → RelG K G v g
  | .dt .none, _, r => by cases r; exact Dr.non
  | .dt (.bool _), _, r => by cases r; exact Dr.bl _
  | .dt (.int _), _, r => by cases r; exact Dr.int _
  | .dt (.str _), _, r => by cases r; exact Dr.str _
  | .dt (.list _), h, _ => by cases h
  | .dt (.tuple _), h, _ => by cases h
  | .dt (.dict _), h, _ => by cases h
  | .rf _, _, r => r
theorem atomGs.rel : ∀ {vs : List V} {gs : List GV}, (∀ g ∈ gs, atomG g) → RelGs K G2 vs gs → RelGs K G vs gs
  | _, _, _, .nil => .nil
  | _, _, h, .cons a b => .cons (atomG.rel (h _ (.head _)) a) (atomGs.rel (fun g hg => h g (.tail _ hg)) b)
theorem atomO.rel {o : HO} : ∀ {g : GO}, atomO g → RelO K G2 o g → RelO K G o g
  | .lst gs, h, r => by obtain ⟨vs, rfl, r⟩ := RelO.lst_inv r; exact atomGs.rel h r
  | .tup gs, h, r => by obtain ⟨vs, rfl, r⟩ := RelO.tup_inv r; exact atomGs.rel h r
theorem relD_dr (sg : Same G Gj) (key : ∀ c ∈ cs, ∃ o, Gj c.1 = some o ∧ RelO K G o c.2.2) {g : GV} {d : PyData} {v : V} (r : RelD cs g d) (rv : RelG K G v g) : Dr Gj v d := by
  have main : ∀ n, (∀ g d v, sizeOf d < n → RelD cs g d → RelG K G v g → Dr Gj v d) ∧ (∀ gs ds vs, sizeOf ds < n → RelDs cs gs ds → RelGs K G vs gs → DrAll Gj vs ds) := by
    intro n
    induction n with
    | zero => exact ⟨fun g d v h => by omega, fun g d v h => by omega⟩
    | succ n ih =>
      refine ⟨fun g d v hs r rv => ?_, fun gs ds vs hs r rv => ?_⟩
      · cases r with
        | dt => exact Dr.mono sg rv
        | lst m rs =>
          have rv' : v = .ref _ := rv
          subst rv'
          obtain ⟨o, e, ro⟩ := key _ m
          obtain ⟨ws, rfl, rw'⟩ := RelO.lst_inv ro
          refine .lst e (ih.2 _ _ _ ?_ rs rw')
          simp only [PyData.list.sizeOf_spec] at hs; omega
        | tup m rs =>
          have rv' : v = .ref _ := rv
          subst rv'
          obtain ⟨o, e, ro⟩ := key _ m
          obtain ⟨ws, rfl, rw'⟩ := RelO.tup_inv ro
          refine .tup e (ih.2 _ _ _ ?_ rs rw')
          simp only [PyData.tuple.sizeOf_spec] at hs; omega
      · cases r with
        | nil => cases rv; exact .nil
        | cons r1 r2 =>
          cases rv with
          | cons v1 v2 =>
            simp only [List.cons.sizeOf_spec] at hs
            exact .cons (ih.1 _ _ _ (by omega) r1 v1) (ih.2 _ _ _ (by omega) r2 v2)
  exact (main (sizeOf d + 1)).1 g d v (by omega) r rv
/-- slots told as data -/
def Lends (M : GM) (E E' : GE) : Prop := E'.length = E.length ∧ ∀ (i : Nat) g', E'[i]? = some (some g') → ∃ g, E[i]? = some (some g) ∧ (g = g' ∨ ∃ d, g' = .dt d ∧ RelD M g d)
theorem SR.lend (S : SR K B E M σ G H) (L : Lends M E E') : ∃ Gj, SR K ⟨fun _ => False, Gj, H⟩ E' [] σ Gj H := by
  have sg : Same G (joinG G H M) := fun a o e => by
    by_cases h : ∃ c ∈ M, c.1 = a
    · obtain ⟨c, hc, rfl⟩ := h
      rw [(S.cells.at_ c hc).1] at e; cases e
    · rw [joinG_out fun c hc z => h ⟨c, hc, z⟩]; exact e
  refine ⟨joinG G H M, fun a o e => ?_, by rw [S.len, L.1], fun i g' e => ?_, ⟨(fun c hc => nomatch hc), List.nodup_nil⟩, ⟨fun a o e => e, fun q o _ e => e, fun q e => e, fun q _ e => e⟩⟩
  · by_cases h : ∃ c ∈ M, c.1 = a
    · obtain ⟨c, hc, rfl⟩ := h
      rw [joinG_in hc] at e; exact e
    · rw [joinG_out fun c hc z => h ⟨c, hc, z⟩] at e; exact S.sub _ _ e
  · obtain ⟨g, e1, e2⟩ := L.2 i g' e
    obtain ⟨v, k1, k2⟩ := S.slot i g e1
    rcases e2 with rfl | ⟨d, rfl, rd⟩
    · exact ⟨v, k1, RelG.mono sg k2⟩
    · refine ⟨v, k1, relD_dr (cs := M) sg (fun c hc => ?_) rd k2⟩
      obtain ⟨_, ⟨o, h2, h3⟩, _⟩ := S.cells.at_ c hc
      exact ⟨o, by rw [joinG_in hc]; exact h2, h3⟩
/-- what was lent comes back, as it was -/
theorem SR.back (S : SR K B E M σ G H) (T : SR K ⟨fun _ => False, Gj, H⟩ E' M' σ' G2 H2) (hp : ∀ c ∈ M', atomO c.2.2) : SR K B E (M' ++ M) σ G H2 := by
  have f : Fr ⟨fun _ => False, G, H⟩ G H2 := ⟨fun a o e => e, fun q o nf e => T.fr.h q o nf e, fun q e => T.fr.k q e, fun q e n => n⟩
  have S1 := S.called f (fun a o e => T.fr.h a o (fun z => z) (S.sub a o e))
  have hnew : ∀ c ∈ M', c.2.1 = true ∧ H c.1 = none := fun c hc => by
    obtain ⟨_, _, h3, h4⟩ := T.cells.at_ c hc
    cases e : c.2.1 with
    | true => exact ⟨rfl, h3 e⟩
    | false => exact absurd (h4 e) (fun z => z)
  refine ⟨S1.sub, S1.len, S1.slot, ⟨fun c hc => ?_, ?_⟩, S1.fr⟩
  · rcases List.mem_append.mp hc with hc | hc
    · obtain ⟨e1, e2⟩ := hnew c hc
      obtain ⟨_, ⟨o, k1, k2⟩, _⟩ := T.cells.at_ c hc
      exact ⟨S.gfree e2, ⟨o, k1, atomO.rel (hp c hc) k2⟩, fun _ => S.bfree e2, fun z => by rw [e1] at z; cases z⟩
    · exact S1.cells.at_ c hc
  · rw [List.map_append]
    refine List.nodup_append.mpr ⟨T.cells.nd, S.cells.nd, fun a ha b hb => ?_⟩
    obtain ⟨c, hc, rfl⟩ := List.mem_map.mp ha
    obtain ⟨c', hc', rfl⟩ := List.mem_map.mp hb
    exact fun z => S.cell_ne (hnew c hc).2 c' hc' z.symm
end
section
variable {K : PySem.W.Frag} {E E' : GE} {M M0 : GM} {te : TE} {tt : TT} {g : GV} {b : Bool} {xs : List GV} {F : GV → GM → Prop}
theorem ex_lend (E' : GE) (h : EX K te E' [] F) (L : Lends M E E') (hF : ∀ g M', F g M' → atomG g ∧ ∀ c ∈ M', atomO c.2.2) : EX K te E M (fun g M'' => ∃ M', F g M' ∧ M'' = M' ++ M) := fun B σ G H S Q q => by
  obtain ⟨Gj, T⟩ := S.lend L
  refine h _ σ Gj H T Q fun g M' v G' H' f s T' r => ?_
  obtain ⟨h1, h2⟩ := hF g M' f
  exact q g _ v G H' ⟨M', f, rfl⟩ Same.rfl' (S.back T' h2) (atomG.rel h1 r)
theorem EX.ee (h : EX K te E M F) (hF : ∀ g' M', F g' M' → g' = g ∧ M' = M0) : EE K te E M g M0 := fun B σ G H S Q q => h B σ G H S Q fun g' M' v G' H' f s S' r => by
  obtain ⟨rfl, rfl⟩ := hF g' M' f
  exact q v G' H' s S' r
theorem EX.ef (h : EX K te E M F) (hF : ∀ g' M', F g' M' → ∃ p, g' = .rf p ∧ M' = (p, true, .lst xs) :: M0) : EF K te E M xs M0 := fun B σ G H S Q q => h B σ G H S Q fun g' M' v G' H' f s S' r => by
  obtain ⟨p, rfl, rfl⟩ := hF g' M' f
  have r' : v = .ref p := r
  subst r'
  exact q p G' H' s S'
theorem ee_lend (E' : GE) (h : EE K te E' [] g []) (L : Lends M E E') (hg : atomG g) : EE K te E M g M :=
  (ex_lend E' (h.ex (F := fun g' M' => g' = g ∧ M' = []) ⟨rfl, rfl⟩) L (fun g' M' ⟨e1, e2⟩ => by subst e1 e2; exact ⟨hg, fun c hc => by cases hc⟩)).ee fun g' M' ⟨M1, ⟨e1, e2⟩, e3⟩ => by subst e1 e2; exact ⟨rfl, e3⟩
theorem ef_lend (E' : GE) (h : EF K te E' [] xs []) (L : Lends M E E') (hg : ∀ g ∈ xs, atomG g) : EF K te E M xs M :=
  (ex_lend E' (h.ex (F := fun g' M' => ∃ p, g' = .rf p ∧ M' = [(p, true, .lst xs)]) fun p => ⟨p, rfl, rfl⟩) L (fun g' M' ⟨p, e1, e2⟩ => by
    subst e1 e2
    exact ⟨trivial, fun c hc => by rw [List.mem_singleton] at hc; subst hc; exact hg⟩)).ef fun g' M' ⟨M1, ⟨p, e1, e2⟩, e3⟩ => by subst e1 e2; exact ⟨p, rfl, e3⟩
theorem et_lend (E' : GE) (h : ET K tt E' [] b []) (L : Lends M E E') : ET K tt E M b M := fun B σ G H S Q q => by
  obtain ⟨Gj, T⟩ := S.lend L
  exact h _ σ Gj H T Q fun G' H' s T' => q G H' Same.rfl' (S.back T' fun c hc => by cases hc)
theorem atom_ints (xs : List Int) : ∀ g ∈ iG xs, atomG g := fun g hg => by
  obtain ⟨_, h, rfl⟩ := List.mem_map.mp hg
  obtain ⟨_, _, rfl⟩ := List.mem_map.mp h
  rfl
/-- slot by slot: one own list of data lent at place i -/
theorem lends_one {i : Nat} {p : Addr} {fl : Bool} {ds : List PyData} (hi : E[i]? = some (some (.rf p))) (hm : (p, fl, GO.lst (ds.map .dt)) ∈ M) : Lends M E (E.set i (some (.dt (.list ds)))) := by
  refine ⟨by rw [List.length_set], fun j g' e => ?_⟩
  rw [List.getElem?_set] at e
  by_cases h : i = j
  · subst h
    rw [if_pos rfl] at e
    split at e
    · injection e with e
      injection e with e
      exact ⟨_, hi, .inr ⟨_, e.symm, .lst hm (RelDs.of_data ds)⟩⟩
    · cases e
  · rw [if_neg h] at e
    exact ⟨_, e, .inl rfl⟩
theorem Lends.trans {E'' : GE} (h : Lends M E E') (h2 : Lends M E' E'') : Lends M E E'' := by
  refine ⟨h2.1.trans h.1, fun i g'' e => ?_⟩
  obtain ⟨g', e1, e2⟩ := h2.2 i g'' e
  obtain ⟨g, k1, k2⟩ := h.2 i g' e1
  refine ⟨g, k1, ?_⟩
  rcases e2 with rfl | ⟨d, rfl, rd⟩
  · exact k2
  · rcases k2 with rfl | ⟨d', rfl, rd'⟩
    · exact .inr ⟨d, rfl, rd⟩
    · cases rd; exact .inr ⟨_, rfl, rd'⟩
end
theorem ef_listRg {K : PySem.W.Frag} {ta : TE} {E : GE} {M M1 : GM} {n : Nat} (h : EE K ta E M (.dt (.int (n : Int))) M1) (hn : n ≤ 1000000) : EF K (tLstRg (tRg1 ta)) E M (iG ((List.range n).map fun i : Nat => (i : Int))) M1 := fun B σ G H S Q q =>
  h B σ G H S _ fun v G1 H1 s1 S1 r1 => by
    cases r1
    refine ⟨_, rfl, ⟨by omega, by omega, by omega, by omega, by omega⟩, fun p hp => ?_⟩
    refine q p G1 _ s1 (S1.own (o := .lst (rgV 0 (n : Int))) hp ?_)
    have e : rgV 0 (n : Int) = ((List.range n).map fun i : Nat => (i : Int)).map V.int := by
      unfold rgV
      rw [List.map_map, show ((n : Int) - 0).toNat = n by omega]
      refine List.map_congr_left fun i _ => ?_
      show V.int (0 + (i : Int)) = .int (i : Int)
      rw [Int.zero_add]
    rw [e]
    exact RelGs.of_data (DrAll.of_ints _)
end Ek

set_option Elab.async false
set_option linter.all false
set_option maxRecDepth 100000
/-! partings: the plain law of the coarsest even one -/
namespace Ek
open PySem PySem.Spec PyProof.Rows L2
/-! ### sums of whole numbers -/
theorem isum_add (f g : Nat → Int) : ∀ l : List Nat, (l.map fun c => f c + g c).sum = (l.map f).sum + (l.map g).sum
  | [] => rfl
  | a :: l => by simp only [List.map_cons, List.sum_cons, isum_add f g l]; omega
theorem isum_zero (f : Nat → Int) : ∀ l : List Nat, (∀ c ∈ l, f c = 0) → (l.map f).sum = 0
  | [], _ => rfl
  | a :: l, h => by rw [List.map_cons, List.sum_cons, h a (.head _), isum_zero f l fun c hc => h c (.tail _ hc)]; rfl
theorem isum_swap (g : Nat → Nat → Int) : ∀ l1 l2 : List Nat, (l1.map fun a => (l2.map fun b => g a b).sum).sum = (l2.map fun b => (l1.map fun a => g a b).sum).sum
  | [], l2 => by
    rw [List.map_nil, List.sum_nil]
    exact (isum_zero _ l2 fun _ _ => rfl).symm
  | a :: l1, l2 => by
    rw [List.map_cons, List.sum_cons, isum_swap g l1 l2, ← isum_add]
    rfl
theorem isum_at (f : Nat → Int) {k : Nat} : ∀ N : Nat, k < N → ((List.range N).map fun c => if c = k then f c else 0).sum = f k
  | 0, h => absurd h (Nat.not_lt_zero _)
  | N + 1, h => by
    rw [rmap_succ, List.sum_append, List.sum_singleton]
    by_cases e : N = k
    · subst e
      rw [if_pos rfl, isum_zero _ _ fun c hc => if_neg (Nat.ne_of_lt (List.mem_range.mp hc)), Int.zero_add]
    · rw [if_neg e, Int.add_zero, isum_at f N (by omega)]
theorem isum_congr {f g : Nat → Int} {l : List Nat} (h : ∀ c ∈ l, f c = g c) : (l.map f).sum = (l.map g).sum := by rw [List.map_congr_left h]
theorem isum_perm (f : Nat → Int) {l1 l2 : List Nat} (h : l1.Perm l2) : (l1.map f).sum = (l2.map f).sum := by
  induction h with
  | nil => rfl
  | cons x _ ih => simp only [List.map_cons, List.sum_cons, ih]
  | swap x y l => simp only [List.map_cons, List.sum_cons]; omega
  | trans _ _ h1 h2 => exact h1.trans h2
theorem isum_filter (f : Nat → Int) (p : Nat → Bool) : ∀ l : List Nat, ((l.filter p).map f).sum = (l.map fun c => if p c = true then f c else 0).sum
  | [] => rfl
  | a :: l => by
    rw [List.filter_cons, List.map_cons, List.sum_cons]
    split
    · rename_i h
      rw [List.map_cons, List.sum_cons, isum_filter f p l]
    · rename_i h
      rw [isum_filter f p l, Int.zero_add]
theorem sumTo_range {ls row : List Int} {n : Nat} (h1 : ls.length = n) (h2 : row.length = n) (l : Int) : sumTo ls row l = ((List.range n).map fun i => if ls.getD i 0 = l then row.getD i 0 else 0).sum := by
  unfold sumTo
  rw [zip_range h1 h2, List.filter_map, List.map_map]
  refine (isum_filter (fun i => row.getD i 0) (fun i => decide (ls.getD i 0 = l)) _).trans (isum_congr fun c _ => ?_)
  by_cases h : ls.getD c 0 = l
  · rw [if_pos h, if_pos (decide_eq_true h)]
  · rw [if_neg h, if_neg (by rw [decide_eq_false h]; exact Bool.false_ne_true)]
theorem sum_group {ls row : List Int} {n N : Nat} (h1 : ls.length = n) (h2 : row.length = n) (h : ∀ x ∈ ls, 0 ≤ x ∧ x < N) (φ : Int → Prop) [DecidablePred φ] :
    ((List.range n).map fun i => if φ (ls.getD i 0) then row.getD i 0 else 0).sum = ((List.range N).map fun c : Nat => if φ c then sumTo ls row c else 0).sum := by
  have e : ∀ c : Nat, (if φ c then sumTo ls row c else 0) = ((List.range n).map fun i => if φ c then (if ls.getD i 0 = c then row.getD i 0 else 0) else 0).sum := fun c => by
    by_cases hc : φ c
    · rw [if_pos hc, sumTo_range h1 h2]
      exact isum_congr fun i _ => by rw [if_pos hc]
    · rw [if_neg hc]
      exact (isum_zero _ _ fun i _ => if_neg hc).symm
  rw [isum_congr fun c _ => e c, isum_swap]
  refine isum_congr fun i hi => ?_
  rw [List.mem_range] at hi
  have hl := h (ls.getD i 0) (by rw [getD_of (by omega)]; exact List.getElem_mem _)
  generalize ls.getD i 0 = a at *
  obtain ⟨k, rfl⟩ : ∃ k : Nat, a = (k : Int) := ⟨a.toNat, by omega⟩
  have e2 : ∀ c : Nat, (if φ (c : Int) then (if (k : Int) = (c : Int) then row.getD i 0 else 0) else 0) = if c = k then (if φ (c : Int) then row.getD i 0 else 0) else 0 := fun c => by
    by_cases e : c = k
    · subst e; rw [if_pos rfl, if_pos rfl]
    · rw [if_neg e, if_neg (show ¬ (k : Int) = (c : Int) by omega)]; split <;> rfl
  rw [isum_congr fun c _ => e2 c, isum_at (fun c => if φ (c : Int) then row.getD i 0 else 0) N (by omega)]
/-! ### what numbers things have -/
theorem getD_app_lt {A : Type} {l l' : List A} {i : Nat} (h : i < l.length) (d : A) : (l ++ l').getD i d = l.getD i d := by
  rw [List.getD_eq_getElem?_getD, List.getElem?_append_left h, ← List.getD_eq_getElem?_getD]
theorem getD_app_eq {A : Type} (l : List A) (a d : A) : (l ++ [a]).getD l.length d = a := by
  rw [List.getD_eq_getElem?_getD, List.getElem?_append_right (Nat.le_refl _), Nat.sub_self]; rfl
structure NI (ds : List PyData) (z : List PyData × List Int) : Prop where
  nd : z.1.Nodup
  ln : z.2.length = ds.length
  ix : ∀ u, u < ds.length → 0 ≤ z.2.getD u 0 ∧ z.1[(z.2.getD u 0).toNat]? = some (ds.getD u .none)
  fr : ∀ d ∈ z.1, ∃ u, u < ds.length ∧ ds.getD u .none = d
theorem any_pl {s : List PyData} {d : PyData} (hs : ∀ e ∈ s, plB e = true) (hd : plB d = true) : (s.any fun e => PyData.eqv e d) = true ↔ d ∈ s := by
  rw [List.any_eq_true]
  constructor
  · rintro ⟨e, h1, h2⟩
    rw [← pl_eq e d (hs e h1) hd h2]; exact h1
  · exact fun h => ⟨d, h, eqv_self d (pl_lay d hd)⟩
theorem ni_step {ds : List PyData} {z : List PyData × List Int} {d : PyData} (h : NI ds z) (hp : ∀ e ∈ ds, plB e = true) (hd : plB d = true) :
    NI (ds ++ [d]) (numbStep z d) ∧ ∃ (j : Nat) (s' : List PyData), numbStep z d = (s', z.2 ++ [(j : Int)]) ∧ s'[j]? = some d ∧ (∀ (i : Nat) e, z.1[i]? = some e → s'[i]? = some e) ∧ s'.Nodup ∧ (d ∉ z.1 → s'.length = z.1.length + 1 ∧ j = z.1.length) ∧ (d ∈ z.1 → s' = z.1) := by
  obtain ⟨s, f⟩ := z
  obtain ⟨nd, ln, ix, fr⟩ := h
  have ln : f.length = ds.length := ln
  have hs : ∀ e ∈ s, plB e = true := fun e he => by
    obtain ⟨u, hu, rfl⟩ := fr e he
    rw [getD_of hu]; exact hp _ (List.getElem_mem hu)
  have key : ∃ (j : Nat) (s' : List PyData), numbStep (s, f) d = (s', f ++ [(j : Int)]) ∧ s'[j]? = some d ∧ (∀ (i : Nat) e, s[i]? = some e → s'[i]? = some e) ∧ s'.Nodup ∧ (∀ e ∈ s', e ∈ s ∨ e = d) ∧ (d ∉ s → s'.length = s.length + 1 ∧ j = s.length) ∧ (d ∈ s → s' = s) := by
    by_cases hm : d ∈ s
    · have ha := (any_pl hs hd).mpr hm
      have hlt := List.findIdx_lt_length_of_exists (p := fun e => PyData.eqv e d) (List.any_eq_true.mp ha)
      have hv : PyData.eqv s[s.findIdx fun e => PyData.eqv e d] d = true := List.findIdx_getElem (p := fun e => PyData.eqv e d)
      refine ⟨s.findIdx fun e => PyData.eqv e d, s, by unfold numbStep; rw [if_pos ha], ?_, fun i e h => h, nd, fun e h => .inl h, fun h => absurd hm h, fun _ => rfl⟩
      rw [List.getElem?_eq_getElem hlt, pl_eq _ _ (hs _ (List.getElem_mem hlt)) hd hv]
    · have ha : ¬ (s.any fun e => PyData.eqv e d) = true := fun h => hm ((any_pl hs hd).mp h)
      refine ⟨s.length, s ++ [d], by unfold numbStep; rw [if_neg ha], ?_, fun i e h => ?_, ?_, fun e h => ?_, fun _ => ⟨by rw [List.length_append]; rfl, rfl⟩, fun h => absurd h hm⟩
      · rw [List.getElem?_append_right (Nat.le_refl _), Nat.sub_self]; rfl
      · rw [List.getElem?_append_left (List.getElem?_eq_some_iff.mp h).1]; exact h
      · refine List.nodup_append.mpr ⟨nd, by simp, fun a ha' b hb z => ?_⟩
        rw [List.mem_singleton] at hb
        exact hm (hb ▸ z ▸ ha')
      · rcases List.mem_append.mp h with h | h
        · exact .inl h
        · exact .inr (List.mem_singleton.mp h)
  obtain ⟨j, s', e, h1, h2, h3, h4, h5, h6⟩ := key
  refine ⟨?_, j, s', e, h1, h2, h3, h5, h6⟩
  rw [e]
  refine ⟨h3, by show (f ++ _).length = _; rw [List.length_append, List.length_append, ln]; rfl, fun u hu => ?_, fun e he => ?_⟩
  · rw [List.length_append, List.length_singleton] at hu
    show 0 ≤ (f ++ [(j : Int)]).getD u 0 ∧ s'[((f ++ [(j : Int)]).getD u 0).toNat]? = _
    by_cases hu' : u < ds.length
    · rw [getD_app_lt (by omega), getD_app_lt hu']
      obtain ⟨a, b⟩ := ix u hu'
      exact ⟨a, h2 _ _ b⟩
    · have : u = ds.length := by omega
      subst this
      rw [getD_app_eq, ← ln, getD_app_eq]
      exact ⟨by omega, h1⟩
  · rcases h4 e he with h | rfl
    · obtain ⟨u, hu, e1⟩ := fr e h
      exact ⟨u, by rw [List.length_append]; omega, by rw [getD_app_lt hu]; exact e1⟩
    · exact ⟨ds.length, by rw [List.length_append]; exact Nat.lt_succ_self _, getD_app_eq _ _ _⟩
theorem ni_all : ∀ ds : List PyData, (∀ d ∈ ds, plB d = true) → NI ds (numbSt ds) := by
  refine snoc_ind (fun _ => ⟨List.nodup_nil, rfl, fun u h => absurd h (Nat.not_lt_zero _), fun d h => nomatch h⟩) fun ds d ih h => ?_
  rw [numbSt_snoc]
  exact (ni_step (ih fun e he => h e (List.mem_append_left _ he)) (fun e he => h e (List.mem_append_left _ he)) (h d (List.mem_append_right _ (.head _)))).1
theorem nd_inj {A : Type} {s : List A} {i j : Nat} {d : A} (h : s.Nodup) (hi : s[i]? = some d) (hj : s[j]? = some d) : i = j :=
  (List.getElem?_inj (List.getElem?_eq_some_iff.mp hi).1 h).mp (hi.trans hj.symm)
theorem numb_eq {ds : List PyData} (hp : ∀ d ∈ ds, plB d = true) {u v : Nat} (hu : u < ds.length) (hv : v < ds.length) : (numbM ds).getD u 0 = (numbM ds).getD v 0 ↔ ds.getD u .none = ds.getD v .none := by
  obtain ⟨nd, ln, ix, fr⟩ := ni_all ds hp
  obtain ⟨a1, a2⟩ := ix u hu
  obtain ⟨b1, b2⟩ := ix v hv
  show (numbSt ds).2.getD u 0 = (numbSt ds).2.getD v 0 ↔ _
  constructor
  · intro e
    rw [e, b2] at a2
    exact (Option.some.inj a2).symm
  · intro e
    rw [e] at a2
    have := nd_inj nd a2 b2
    omega
theorem numb_congr {ds es : List PyData} (hd : ∀ d ∈ ds, plB d = true) (he : ∀ d ∈ es, plB d = true) (hl : ds.length = es.length) (h : ∀ u v, u < ds.length → v < ds.length → (ds.getD u .none = ds.getD v .none ↔ es.getD u .none = es.getD v .none)) : numbM ds = numbM es := by
  have key : ∀ n, n ≤ ds.length → (numbSt (ds.take n)).2 = (numbSt (es.take n)).2 ∧ (numbSt (ds.take n)).1.length = (numbSt (es.take n)).1.length := by
    intro n
    induction n with
    | zero => exact fun _ => ⟨rfl, rfl⟩
    | succ n ih =>
      intro hn
      obtain ⟨i1, i2⟩ := ih (by omega)
      have hn1 : n < ds.length := by omega
      have hn2 : n < es.length := by omega
      have pd : ∀ d ∈ ds.take n, plB d = true := fun d h => hd d (List.mem_of_mem_take h)
      have pe : ∀ d ∈ es.take n, plB d = true := fun d h => he d (List.mem_of_mem_take h)
      have nd := ni_all _ pd
      have ne := ni_all _ pe
      rw [take_snoc hn1, take_snoc hn2, numbSt_snoc, numbSt_snoc]
      have gd : ∀ u, u < n → (ds.take n).getD u .none = ds.getD u .none := fun u hu => by rw [getD_of (by rw [List.length_take]; omega), List.getElem_take, getD_of (by omega)]
      have ge : ∀ u, u < n → (es.take n).getD u .none = es.getD u .none := fun u hu => by rw [getD_of (by rw [List.length_take]; omega), List.getElem_take, getD_of (by omega)]
      have ld : (ds.take n).length = n := by rw [List.length_take]; omega
      have le : (es.take n).length = n := by rw [List.length_take]; omega
      have eqd : ds.getD n .none = ds[n] := getD_of hn1 _
      have eqe : es.getD n .none = es[n] := getD_of hn2 _
      have hdn := hd ds[n] (List.getElem_mem hn1)
      have hen := he es[n] (List.getElem_mem hn2)
      obtain ⟨_, j, s', e1, j1, j2, j3, j4, j5⟩ := ni_step nd pd hdn
      obtain ⟨_, k, t', e2, k1, k2, k3, k4, k5⟩ := ni_step ne pe hen
      have memd : ds[n] ∈ (numbSt (ds.take n)).1 ↔ ∃ u, u < n ∧ ds.getD u .none = ds.getD n .none := by
        constructor
        · intro hm
          obtain ⟨u, hu, e⟩ := nd.fr _ hm
          rw [ld] at hu
          exact ⟨u, hu, by rw [← gd u hu, e, eqd]⟩
        · rintro ⟨u, hu, e⟩
          obtain ⟨_, a⟩ := nd.ix u (by omega)
          rw [gd u hu, e, eqd] at a
          exact List.mem_of_getElem? a
      have meme : es[n] ∈ (numbSt (es.take n)).1 ↔ ∃ u, u < n ∧ es.getD u .none = es.getD n .none := by
        constructor
        · intro hm
          obtain ⟨u, hu, e⟩ := ne.fr _ hm
          rw [le] at hu
          exact ⟨u, hu, by rw [← ge u hu, e, eqe]⟩
        · rintro ⟨u, hu, e⟩
          obtain ⟨_, a⟩ := ne.ix u (by omega)
          rw [ge u hu, e, eqe] at a
          exact List.mem_of_getElem? a
      rw [e1, e2]
      by_cases hm : ds[n] ∈ (numbSt (ds.take n)).1
      · obtain ⟨u, hu, e⟩ := memd.mp hm
        have e' := (h u n (by omega) (by omega)).mp e
        have hm' := meme.mpr ⟨u, hu, e'⟩
        obtain ⟨a0, a⟩ := nd.ix u (by omega)
        rw [gd u hu, e, eqd] at a
        obtain ⟨b0, b⟩ := ne.ix u (by omega)
        rw [ge u hu, e', eqe] at b
        have x1 := nd_inj j3 j1 (j2 _ _ a)
        have x2 := nd_inj k3 k1 (k2 _ _ b)
        rw [i1] at x1
        refine ⟨?_, ?_⟩
        · show _ ++ _ = _ ++ _
          rw [i1, x1, x2]
        · show s'.length = t'.length
          rw [j5 hm, k5 hm', i2]
      · have hm' : es[n] ∉ (numbSt (es.take n)).1 := fun z => by
          obtain ⟨u, hu, e⟩ := meme.mp z
          exact hm (memd.mpr ⟨u, hu, (h u n (by omega) (by omega)).mpr e⟩)
        obtain ⟨x1, x2⟩ := j4 hm
        obtain ⟨y1, y2⟩ := k4 hm'
        refine ⟨?_, ?_⟩
        · show _ ++ _ = _ ++ _
          rw [i1, x2, y2, i2]
        · show s'.length = t'.length
          rw [x1, y1, i2]
  have := (key ds.length (Nat.le_refl _)).1
  rw [List.take_length, hl, List.take_length] at this
  exact this
theorem pl_ints' (xs : List Int) : ∀ d ∈ xs.map PyData.int, plB d = true := (pls_iff _).mp (pls_ints xs)
theorem getD_int {xs : List Int} {u : Nat} (h : u < xs.length) : (xs.map PyData.int).getD u .none = .int (xs.getD u 0) := by rw [getD_map PyData.int h, getD_of h]
theorem numbI_eq {xs : List Int} {u v : Nat} (hu : u < xs.length) (hv : v < xs.length) : (numbM (xs.map .int)).getD u 0 = (numbM (xs.map .int)).getD v 0 ↔ xs.getD u 0 = xs.getD v 0 := by
  rw [numb_eq (pl_ints' xs) (by rw [List.length_map]; exact hu) (by rw [List.length_map]; exact hv), getD_int hu, getD_int hv]
  exact ⟨fun h => by injection h, fun h => by rw [h]⟩
theorem numb_idem {ds : List PyData} (hp : ∀ d ∈ ds, plB d = true) : numbM ((numbM ds).map .int) = numbM ds := by
  refine numb_congr (pl_ints' _) hp (by rw [List.length_map, numbM_len]) fun u v hu hv => ?_
  rw [List.length_map, numbM_len] at hu hv
  rw [getD_int (by rw [numbM_len]; exact hu), getD_int (by rw [numbM_len]; exact hv), ← numb_eq hp hu hv]
  exact ⟨fun h => by injection h, fun h => by rw [h]⟩
theorem numbI_congr {xs ys : List Int} (hl : xs.length = ys.length) (h : ∀ u v, u < xs.length → v < xs.length → (xs.getD u 0 = xs.getD v 0 ↔ ys.getD u 0 = ys.getD v 0)) : numbM (xs.map .int) = numbM (ys.map .int) := by
  refine numb_congr (pl_ints' _) (pl_ints' _) (by rw [List.length_map, List.length_map, hl]) fun u v hu hv => ?_
  rw [List.length_map] at hu hv
  rw [getD_int hu, getD_int hv, getD_int (by omega), getD_int (by omega)]
  have := h u v hu hv
  exact ⟨fun e => by rw [this.mp (by injection e)], fun e => by rw [this.mpr (by injection e)]⟩
/-! ### the coarsest even parting -/
theorem even_all {w : Web} {ls : List Int} (h : EvenW w ls) {u v : Nat} (hu : u < ls.length) (hv : v < ls.length) (e : ls.getD u 0 = ls.getD v 0) : w.1.getD u 0 = w.1.getD v 0 ∧ ∀ l ∈ ls, sumTo ls (w.2.getD u []) l = sumTo ls (w.2.getD v []) l := by
  rcases Nat.lt_trichotomy u v with k | rfl | k
  · obtain ⟨a, b⟩ := h v u k hv e
    exact ⟨a.symm, fun l hl => (b l hl).symm⟩
  · exact ⟨rfl, fun _ _ => rfl⟩
  · exact h u v k hu e.symm
def crs (w : Web) (ls : List Int) : List Int := numbM ((List.range ls.length).map (lookD w ls))
theorem pl_looks (w : Web) (ls : List Int) (n : Nat) : ∀ d ∈ (List.range n).map (lookD w ls), plB d = true := fun d h => by
  obtain ⟨u, _, rfl⟩ := List.mem_map.mp h
  exact pl_look w ls u
theorem crs_len (w : Web) (ls : List Int) : (crs w ls).length = ls.length := by rw [crs, numbM_len, List.length_map, List.length_range]
theorem crs_eq {w : Web} {ls : List Int} {u v : Nat} (hu : u < ls.length) (hv : v < ls.length) : (crs w ls).getD u 0 = (crs w ls).getD v 0 ↔ lookD w ls u = lookD w ls v := by
  unfold crs
  rw [numb_eq (pl_looks w ls _) (by rw [List.length_map, List.length_range]; exact hu) (by rw [List.length_map, List.length_range]; exact hv), dr_get _ hu, dr_get _ hv]
/-- a web whose rows fit -/
def WFit (w : Web) : Prop := w.2.length = w.1.length ∧ (∀ r ∈ w.2, r.length = w.1.length) ∧ w.1.length ≤ 1000
theorem Fit.w {w : Web} {ls : List Int} (h : Fit w ls) : WFit w := ⟨by rw [h.2.1, h.1], fun r hr => by rw [h.2.2.1 r hr, h.1], by rw [h.1]; exact h.2.2.2.1⟩
theorem WFit.row {w : Web} (h : WFit w) {u : Nat} (hu : u < w.1.length) : (w.2.getD u []).length = w.1.length := by
  rw [getD_of (by rw [h.1]; exact hu)]
  exact h.2.1 _ (List.getElem_mem _)
/-- one parting lies within another -/
def Rf (m : Nat) (a b : List Int) : Prop := ∀ u v, u < m → v < m → a.getD u 0 = a.getD v 0 → b.getD u 0 = b.getD v 0
structure CI (w : Web) (ls : List Int) : Prop where
  len : ls.length = w.1.length
  can : numbM (ls.map .int) = ls
  top : ∀ ls', Fit w ls' → EvenW w ls' → Rf w.1.length ls' ls
theorem CI.rng {w : Web} {ls : List Int} (h : CI w ls) : ∀ x ∈ ls, 0 ≤ x ∧ x < w.1.length := fun x hx => by
  rw [← h.can] at hx
  have := numbM_rng _ x hx
  rw [List.length_map, h.len] at this
  exact this
theorem CI.fit {w : Web} {ls : List Int} (h : CI w ls) (hw : WFit w) : Fit w ls := ⟨h.len.symm, by rw [hw.1, h.len], fun r hr => by rw [hw.2.1 r hr, h.len], by rw [h.len]; exact hw.2.2, fun x hx => by have := h.rng x hx; have := hw.2.2; omega⟩
theorem ci_start {w : Web} : CI w (numbM (w.1.map .int)) := by
  refine ⟨by rw [numbM_len, List.length_map], numb_idem (pl_ints' _), fun ls' hf he u v hu hv e => ?_⟩
  rw [numbI_eq hu hv]
  exact (even_all he (by rw [← hf.1]; exact hu) (by rw [← hf.1]; exact hv) e).1
theorem look_rf {w : Web} {ls ls' : List Int} (hw : WFit w) (h : CI w ls) (hf : Fit w ls') (he : EvenW w ls') {u v : Nat} (hu : u < w.1.length) (hv : v < w.1.length) (e : ls'.getD u 0 = ls'.getD v 0) : lookD w ls u = lookD w ls v := by
  have hl := hf.1
  have rf := h.top ls' hf he
  obtain ⟨k1, k2⟩ := even_all he (by omega) (by omega) e
  refine look_eq.mpr ⟨rf u v hu hv e, k1, (wt_eq fun x hx => (h.rng x hx).1).mpr fun l hl' => ?_⟩
  have key : ∀ x, x < w.1.length → sumTo ls (w.2.getD x []) l = ((List.range 1000).map fun c : Nat => if (∃ i, i < w.1.length ∧ ls'.getD i 0 = (c : Int) ∧ ls.getD i 0 = l) then sumTo ls' (w.2.getD x []) c else 0).sum := fun x hx => by
    classical
    rw [sumTo_range h.len (hw.row hx), ← sum_group (N := 1000) (φ := fun c => ∃ i, i < w.1.length ∧ ls'.getD i 0 = c ∧ ls.getD i 0 = l) hl.symm (hw.row hx) hf.2.2.2.2]
    refine isum_congr fun i hi => ?_
    rw [List.mem_range] at hi
    by_cases e : ls.getD i 0 = l
    · rw [if_pos e, if_pos ⟨i, hi, rfl, e⟩]
    · rw [if_neg e, if_neg]
      rintro ⟨j, hj, e1, e2⟩
      exact e ((rf i j hi hj e1.symm).trans e2)
  classical
  rw [key u hu, key v hv]
  refine isum_congr fun c _ => ?_
  split
  · rename_i hc
    obtain ⟨i, hi, e1, _⟩ := hc
    exact k2 _ (by rw [← e1, getD_of (by omega)]; exact List.getElem_mem _)
  · rfl
theorem ci_step {w : Web} {ls : List Int} (hw : WFit w) (h : CI w ls) : CI w (crs w ls) := by
  refine ⟨by rw [crs_len, h.len], numb_idem (pl_looks w ls _), fun ls' hf he u v hu hv e => ?_⟩
  rw [crs_eq (by rw [h.len]; exact hu) (by rw [h.len]; exact hv)]
  exact look_rf hw h hf he hu hv e
theorem crs_rf {w : Web} {ls : List Int} : Rf ls.length (crs w ls) ls := fun u v hu hv e => (look_eq.mp ((crs_eq hu hv).mp e)).1
structure IsCoarse (w : Web) (ls : List Int) : Prop extends CI w ls where
  even : EvenW w ls
theorem ci_end {w : Web} {ls : List Int} (h : CI w ls) (e : crs w ls = ls) : IsCoarse w ls := ⟨h, (even_looks fun x hx => (h.rng x hx).1).mpr fun u v h1 h2 h3 => by
  rw [← crs_eq h2 (by omega), e]; exact h3.symm⟩
theorem coarse_uniq {w : Web} {a b : List Int} (hw : WFit w) (ha : IsCoarse w a) (hb : IsCoarse w b) : a = b := by
  have h1 := ha.top b (hb.toCI.fit hw) hb.even
  have h2 := hb.top a (ha.toCI.fit hw) ha.even
  rw [← ha.can, ← hb.can]
  refine numbI_congr (by rw [ha.len, hb.len]) fun u v hu hv => ?_
  rw [ha.len] at hu hv
  exact ⟨h2 u v hu hv, h1 u v hu hv⟩
/-! ### how long it takes -/
theorem countP_lt {A : Type} {p q : A → Bool} : ∀ {l : List A}, (∀ x ∈ l, p x = true → q x = true) → (∃ x ∈ l, q x = true ∧ p x = false) → l.countP p < l.countP q
  | [], _, ⟨_, h, _⟩ => nomatch h
  | a :: l, h, ⟨x, hx, h1, h2⟩ => by
    rw [List.countP_cons, List.countP_cons]
    have hle : l.countP p ≤ l.countP q := List.countP_mono_left fun y hy => h y (.tail _ hy)
    rcases List.mem_cons.mp hx with rfl | hx
    · rw [h1, h2, if_pos rfl, if_neg Bool.false_ne_true]
      exact Nat.lt_succ_of_le hle
    · have := countP_lt (fun y hy => h y (.tail _ hy)) ⟨x, hx, h1, h2⟩
      have ha := h a (.head _)
      cases e1 : p a with
      | true =>
        rw [ha e1]
        exact Nat.add_lt_add_right this _
      | false =>
        rw [if_neg Bool.false_ne_true]
        exact Nat.lt_of_lt_of_le this (Nat.le_add_right _ _)
def prs (m : Nat) : List (Nat × Nat) := (List.range m).flatMap fun u => (List.range m).map fun v => (u, v)
theorem mem_prs {m u v : Nat} : (u, v) ∈ prs m ↔ u < m ∧ v < m := by simp [prs]
def cntP (m : Nat) (ls : List Int) : Nat := (prs m).countP fun p => decide (ls.getD p.1 0 = ls.getD p.2 0)
theorem cnt_lt {w : Web} {ls : List Int} (hw : WFit w) (h : CI w ls) (hne : crs w ls ≠ ls) : cntP w.1.length (crs w ls) < cntP w.1.length ls := by
  have h' := ci_step hw h
  refine countP_lt (fun ⟨u, v⟩ hx hp => ?_) ?_
  · obtain ⟨hu, hv⟩ := mem_prs.mp hx
    exact decide_eq_true (crs_rf u v (by rw [h.len]; exact hu) (by rw [h.len]; exact hv) (of_decide_eq_true hp))
  · refine Classical.byContradiction fun hno => hne ?_
    refine h'.can.symm.trans (Eq.trans ?_ h.can)
    refine numbI_congr (by rw [h.len, h'.len]) fun u v hu hv => ?_
    rw [h'.len] at hu hv
    refine ⟨crs_rf u v (by rw [h.len]; exact hu) (by rw [h.len]; exact hv), fun e => Classical.byContradiction fun k => hno ⟨(u, v), mem_prs.mpr ⟨hu, hv⟩, decide_eq_true e, decide_eq_false k⟩⟩
theorem coarse_from {w : Web} (hw : WFit w) : ∀ n ls, CI w ls → cntP w.1.length ls ≤ n → ∃ r, IsCoarse w r
  | n, ls, h, hn => by
    by_cases e : crs w ls = ls
    · exact ⟨ls, ci_end h e⟩
    · have := cnt_lt hw h e
      cases n with
      | zero => omega
      | succ n => exact coarse_from hw n _ (ci_step hw h) (by omega)
theorem coarse_ex {w : Web} (hw : WFit w) : ∃ r, IsCoarse w r := coarse_from hw _ _ ci_start (Nat.le_refl _)
open Classical in
noncomputable def coarseM (w : Web) : List Int := if h : ∃ r, IsCoarse w r then h.choose else []
theorem coarse_is {w : Web} (hw : WFit w) : IsCoarse w (coarseM w) := by
  unfold coarseM
  rw [dif_pos (coarse_ex hw)]
  exact (coarse_ex hw).choose_spec
theorem coarse_of {w : Web} {ls : List Int} (hw : WFit w) (h : IsCoarse w ls) : ls = coarseM w := coarse_uniq hw h (coarse_is hw)
theorem getD_mapN {A C : Type} (f : A → C) {l : List A} {i : Nat} (h : i < l.length) (d : C) (e : A) : (l.map f).getD i d = f (l.getD i e) := by
  rw [getD_of (by rw [List.length_map]; exact h), List.getElem_map, getD_of h]
/-! ### a web renamed -/
def renW (w : Web) (o : List Nat) : Web := (o.map fun p => w.1.getD p 0, o.map fun u => o.map fun v => (w.2.getD u []).getD v 0)
abbrev Ord (m : Nat) (o : List Nat) : Prop := o.Perm (List.range m)
section
variable {m : Nat} {o : List Nat} {w : Web} {ls ls' : List Int}
theorem Ord.len (h : Ord m o) : o.length = m := by rw [h.length_eq, List.length_range]
theorem Ord.lt (h : Ord m o) {i : Nat} (hi : i < m) : o.getD i 0 < m := by
  rw [getD_of (by rw [h.len]; exact hi)]
  exact List.mem_range.mp (h.mem_iff.mp (List.getElem_mem _))
def ixO (o : List Nat) (j : Nat) : Nat := o.findIdx fun x => decide (x = j)
theorem Ord.ix (h : Ord m o) {j : Nat} (hj : j < m) : ixO o j < m ∧ o.getD (ixO o j) 0 = j := by
  have hm : j ∈ o := h.mem_iff.mpr (List.mem_range.mpr hj)
  have hl : o.findIdx (fun x => decide (x = j)) < o.length := List.findIdx_lt_length_of_exists ⟨j, hm, decide_eq_true rfl⟩
  have hv : decide (o[o.findIdx fun x => decide (x = j)] = j) = true := List.findIdx_getElem (p := fun x => decide (x = j))
  refine ⟨by rw [← h.len]; exact hl, ?_⟩
  unfold ixO
  rw [getD_of hl]
  exact of_decide_eq_true hv
theorem Ord.sum (h : Ord m o) (f : Nat → Int) : ((List.range m).map f).sum = ((List.range m).map fun i => f (o.getD i 0)).sum := by
  rw [← isum_perm f h]
  have := range_getD o 0 f
  rw [h.len] at this
  rw [this]
theorem even_iff {n : Nat} (hw : WFit w) (h1 : w.1.length = n) (h : ls.length = n) : EvenW w ls ↔ ∀ u v, u < n → v < n → ls.getD u 0 = ls.getD v 0 → w.1.getD u 0 = w.1.getD v 0 ∧ ∀ x, x < n → ((List.range n).map fun i => if ls.getD i 0 = ls.getD x 0 then (w.2.getD u []).getD i 0 else 0).sum = ((List.range n).map fun i => if ls.getD i 0 = ls.getD x 0 then (w.2.getD v []).getD i 0 else 0).sum := by
  subst h1
  constructor
  · intro e u v hu hv k
    obtain ⟨a, b⟩ := even_all e (by omega) (by omega) k
    refine ⟨a, fun x hx => ?_⟩
    rw [← sumTo_range h (hw.row hu), ← sumTo_range h (hw.row hv)]
    exact b _ (by rw [getD_of (by omega)]; exact List.getElem_mem _)
  · intro e u v h1 h2 k
    obtain ⟨a, b⟩ := e u v (by omega) (by omega) k.symm
    refine ⟨a, fun l hl => ?_⟩
    obtain ⟨x, hx, rfl⟩ := List.getElem_of_mem hl
    have := b x (by omega)
    rw [← sumTo_range h (hw.row (by omega)), ← sumTo_range h (hw.row (by omega)), getD_of hx] at this
    exact this
theorem ren_fit (hw : WFit w) (ho : Ord w.1.length o) : WFit (renW w o) ∧ (renW w o).1.length = w.1.length := by
  refine ⟨⟨by simp [renW], fun r hr => ?_, ?_⟩, ?_⟩
  · obtain ⟨u, _, rfl⟩ := List.mem_map.mp hr
    simp [renW]
  · show (o.map _).length ≤ 1000
    rw [List.length_map, ho.len]; exact hw.2.2
  · show (o.map _).length = _
    rw [List.length_map, ho.len]
theorem ren_hue (ho : Ord w.1.length o) {i : Nat} (hi : i < w.1.length) : (renW w o).1.getD i 0 = w.1.getD (o.getD i 0) 0 := by
  show (o.map _).getD i 0 = _
  rw [getD_mapN _ (by rw [ho.len]; exact hi) 0 0]
theorem ren_row (ho : Ord w.1.length o) {i j : Nat} (hi : i < w.1.length) (hj : j < w.1.length) : ((renW w o).2.getD i []).getD j 0 = (w.2.getD (o.getD i 0) []).getD (o.getD j 0) 0 := by
  show ((o.map fun u => o.map fun v => (w.2.getD u []).getD v 0).getD i []).getD j 0 = _
  rw [getD_mapN _ (by rw [ho.len]; exact hi) [] 0, getD_mapN _ (by rw [ho.len]; exact hj) 0 0]
theorem even_tr (hw : WFit w) (ho : Ord w.1.length o) (h1 : ls.length = w.1.length) (h2 : ls'.length = w.1.length) (hp : ∀ i j, i < w.1.length → j < w.1.length → (ls'.getD i 0 = ls'.getD j 0 ↔ ls.getD (o.getD i 0) 0 = ls.getD (o.getD j 0) 0)) : EvenW w ls ↔ EvenW (renW w o) ls' := by
  obtain ⟨f1, f2⟩ := ren_fit hw ho
  rw [even_iff hw rfl h1, even_iff f1 f2 h2]
  have key : ∀ u x, u < w.1.length → x < w.1.length → ((List.range w.1.length).map fun i => if ls'.getD i 0 = ls'.getD x 0 then ((renW w o).2.getD u []).getD i 0 else 0).sum = ((List.range w.1.length).map fun i => if ls.getD i 0 = ls.getD (o.getD x 0) 0 then (w.2.getD (o.getD u 0) []).getD i 0 else 0).sum := fun u x hu hx => by
    rw [ho.sum fun i => if ls.getD i 0 = ls.getD (o.getD x 0) 0 then (w.2.getD (o.getD u 0) []).getD i 0 else 0]
    refine isum_congr fun i hi => ?_
    rw [List.mem_range] at hi
    rw [ren_row ho hu hi]
    have := hp i x hi hx
    by_cases e : ls'.getD i 0 = ls'.getD x 0
    · rw [if_pos e, if_pos (this.mp e)]
    · rw [if_neg e, if_neg fun z => e (this.mpr z)]
  constructor
  · intro e u v hu hv k
    obtain ⟨a, b⟩ := e (o.getD u 0) (o.getD v 0) (ho.lt hu) (ho.lt hv) ((hp u v hu hv).mp k)
    refine ⟨by rw [ren_hue ho hu, ren_hue ho hv]; exact a, fun x hx => ?_⟩
    rw [key u x hu hx, key v x hv hx]
    exact b _ (ho.lt hx)
  · intro e u v hu hv k
    obtain ⟨u1, u2⟩ := ho.ix hu
    obtain ⟨v1, v2⟩ := ho.ix hv
    obtain ⟨a, b⟩ := e (ixO o u) (ixO o v) u1 v1 ((hp _ _ u1 v1).mpr (by rw [u2, v2]; exact k))
    rw [ren_hue ho u1, ren_hue ho v1, u2, v2] at a
    refine ⟨a, fun x hx => ?_⟩
    obtain ⟨x1, x2⟩ := ho.ix hx
    have := b (ixO o x) x1
    rw [key _ _ u1 x1, key _ _ v1 x1, u2, v2, x2] at this
    exact this
theorem Fit.even_len (h : Fit w ls) : ls.length = w.1.length := h.1.symm
theorem coarse_ren (hw : WFit w) (ho : Ord w.1.length o) : coarseM (renW w o) = numbM ((o.map fun p => (coarseM w).getD p 0).map .int) := by
  obtain ⟨f1, f2⟩ := ren_fit hw ho
  have hc := coarse_is hw
  have lc := hc.len
  refine (coarse_of f1 ⟨⟨?_, numb_idem (pl_ints' _), fun ls' hf he => ?_⟩, ?_⟩).symm
  · rw [numbM_len, List.length_map, List.length_map, ho.len, f2]
  · rw [f2]
    have l' : ls'.length = w.1.length := by rw [← hf.1, f2]
    have hfit : Fit w ((List.range w.1.length).map fun j => ls'.getD (ixO o j) 0) := by
      refine ⟨by rw [List.length_map, List.length_range], by rw [List.length_map, List.length_range]; exact hw.1, fun r hr => by rw [List.length_map, List.length_range]; exact hw.2.1 r hr, by rw [List.length_map, List.length_range]; exact hw.2.2, fun x hx => ?_⟩
      obtain ⟨j, hj, rfl⟩ := List.mem_map.mp hx
      rw [List.mem_range] at hj
      rw [getD_of (by rw [l']; exact (ho.ix hj).1)]
      exact hf.2.2.2.2 _ (List.getElem_mem _)
    have hback : ∀ i, i < w.1.length → ((List.range w.1.length).map fun j => ls'.getD (ixO o j) 0).getD (o.getD i 0) 0 = ls'.getD i 0 := fun i hi => by
      rw [dr_get _ (ho.lt hi)]
      obtain ⟨a, b⟩ := ho.ix (ho.lt hi)
      have nd : o.Nodup := ho.nodup_iff.mpr List.nodup_range
      have : ixO o (o.getD i 0) = i := by
        have gg : ∀ {k : Nat}, k < w.1.length → o[k]? = some (o.getD k 0) := fun {k} hk => by
          have hk' : k < o.length := by rw [ho.len]; exact hk
          rw [getD_of hk', List.getElem?_eq_getElem hk']
        exact nd_inj nd ((gg a).trans (congrArg some b)) (gg hi)
      rw [this]
    have hev : EvenW w ((List.range w.1.length).map fun j => ls'.getD (ixO o j) 0) := (even_tr hw ho (by rw [List.length_map, List.length_range]) l' fun i j hi hj => by rw [hback i hi, hback j hj]).mpr he
    have htop := hc.top _ hfit hev
    intro u v hu hv e
    rw [numbI_eq (by rw [List.length_map, ho.len]; exact hu) (by rw [List.length_map, ho.len]; exact hv)]
    have g : ∀ i, i < w.1.length → (o.map fun p => (coarseM w).getD p 0).getD i 0 = (coarseM w).getD (o.getD i 0) 0 := fun i hi => by
      rw [getD_of (by rw [List.length_map, ho.len]; exact hi), List.getElem_map, getD_of (l := o) (by rw [ho.len]; exact hi)]
    rw [g u hu, g v hv]
    exact htop _ _ (ho.lt hu) (ho.lt hv) (by rw [hback u hu, hback v hv]; exact e)
  · refine (even_tr hw ho lc (by rw [numbM_len, List.length_map, List.length_map, ho.len]) fun i j hi hj => ?_).mp hc.even
    rw [numbI_eq (by rw [List.length_map, ho.len]; exact hi) (by rw [List.length_map, ho.len]; exact hj)]
    have g : ∀ i, i < w.1.length → (o.map fun p => (coarseM w).getD p 0).getD i 0 = (coarseM w).getD (o.getD i 0) 0 := fun i hi => by
      rw [getD_of (by rw [List.length_map, ho.len]; exact hi), List.getElem_map, getD_of (l := o) (by rw [ho.len]; exact hi)]
    rw [g i hi, g j hj]
end
/-! ### looks as another law keeps them -/
theorem dinv_put {look : Nat → PyData} {ls : List Int} {i : Nat} {kvs : List (Key × GV)} (h : DInv look ls i kvs) (hn : valG kvs (.inl (ls.getD i 0)) = none ∨ valG kvs (.inl (ls.getD i 0)) = some (.dt (look i))) : DInv look ls (i + 1) (putG kvs (.inl (ls.getD i 0)) (.dt (look i))) := by
  rcases hn with hn | hn
  · exact dinv_new h hn
  · refine ⟨Nat.le_trans (putG_len _ _ _) (Nat.succ_le_succ h.1), fun k => ?_⟩
    rw [valG_put]
    have ho := (dinv_old h hn rfl).2 k
    by_cases e : k = ls.getD i 0
    · refine .inr ⟨i, Nat.lt_succ_self i, e.symm, by rw [if_pos (by rw [e])], fun j hj hk => ?_⟩
      rcases ho with ⟨h1, _⟩ | ⟨j0, _, _, h3, h4⟩
      · rw [e, hn] at h1; cases h1
      · rw [h4 j hj hk, h4 i (Nat.lt_succ_self i) e.symm]
    · rw [if_neg (fun z => e (by injection z))]
      exact ho
def look2 (w : Web) (ls : List Int) (u : Nat) : PyData := .tuple [.int (w.1.getD u 0), eIs ((List.range ls.length).map fun c : Nat => sumTo ls (w.2.getD u []) c)]
theorem pl_look2 (w : Web) (ls : List Int) (u : Nat) : plB (look2 w ls u) = true := pl_tup fun d h => by
  simp only [List.mem_cons, List.not_mem_nil, or_false] at h
  rcases h with rfl | rfl
  · unfold plB; rfl
  · exact pl_is _
theorem dep_look2 (w : Web) (ls : List Int) (u : Nat) : (look2 w ls u).depth ≤ 2 := by
  unfold look2
  rw [depth_tuple]
  refine Nat.succ_le_succ (m := 1) ((depthAll_le _).mpr fun d h => ?_)
  simp only [List.mem_cons, List.not_mem_nil, or_false] at h
  rcases h with rfl | rfl
  · exact Nat.zero_le _
  · exact dep_is _
theorem look2_eq {w : Web} {ls : List Int} {u v : Nat} (h : ∀ x ∈ ls, 0 ≤ x ∧ x < ls.length) : look2 w ls u = look2 w ls v ↔ w.1.getD u 0 = w.1.getD v 0 ∧ ∀ l ∈ ls, sumTo ls (w.2.getD u []) l = sumTo ls (w.2.getD v []) l := by
  unfold look2
  constructor
  · intro e
    injection e with e
    injection e with e1 e
    injection e with e2 e
    injection e1 with e1
    refine ⟨e1, fun l hl => ?_⟩
    obtain ⟨a, b⟩ := h l hl
    have := congrArg (fun z : List Int => z.getD l.toNat 0) (eIs_inj e2)
    have this : ((List.range ls.length).map fun c : Nat => sumTo ls (w.2.getD u []) c).getD l.toNat 0 = ((List.range ls.length).map fun c : Nat => sumTo ls (w.2.getD v []) c).getD l.toNat 0 := this
    rw [dr_get _ (by omega), dr_get _ (by omega), Int.toNat_of_nonneg a] at this
    exact this
  · rintro ⟨a, b⟩
    rw [a]
    congr 4
    refine List.map_congr_left fun c _ => ?_
    by_cases hl : ((c : Nat) : Int) ∈ ls
    · exact b _ hl
    · rw [sumTo_none hl, sumTo_none hl]
theorem even_look2 {w : Web} {ls : List Int} (h : ∀ x ∈ ls, 0 ≤ x ∧ x < ls.length) : EvenW w ls ↔ ∀ u v : Nat, v < u → u < ls.length → ls.getD v 0 = ls.getD u 0 → look2 w ls u = look2 w ls v :=
  ⟨fun e u v h1 h2 h3 => (look2_eq h).mpr (e u v h1 h2 h3), fun e u v h1 h2 h3 => (look2_eq h).mp (e u v h1 h2 h3)⟩
/-! ### all partings -/
def brd (ls : List Int) : Nat := if ls.length = 0 then 1 else mxL ls + 2
def allM : Nat → List (List Int)
  | 0 => [[]]
  | k + 1 => (allM k).flatMap fun ls => (List.range (brd ls)).map fun c : Nat => ls ++ [(c : Int)]
theorem brd_le {k : Nat} {ls : List Int} (h1 : ls.length = k) (h2 : ∀ x ∈ ls, 0 ≤ x ∧ x < k) : brd ls ≤ k + 1 := by
  unfold brd
  split
  · omega
  · obtain ⟨a, _⟩ := mxL_spec (fun x hx => (h2 x hx).1) (by omega)
    have := h2 _ a
    omega
theorem allM_ok : ∀ k, ∀ ls ∈ allM k, ls.length = k ∧ ∀ x ∈ ls, 0 ≤ x ∧ x < k
  | 0, ls, h => by
    rw [allM, List.mem_singleton] at h
    subst h
    exact ⟨rfl, fun x hx => nomatch hx⟩
  | k + 1, ls, h => by
    rw [allM, List.mem_flatMap] at h
    obtain ⟨ls0, h1, h2⟩ := h
    obtain ⟨c, hc, rfl⟩ := List.mem_map.mp h2
    rw [List.mem_range] at hc
    obtain ⟨a, b⟩ := allM_ok k ls0 h1
    have := brd_le a b
    refine ⟨by rw [List.length_append, a]; rfl, fun x hx => ?_⟩
    rcases List.mem_append.mp hx with hx | hx
    · have := b x hx; omega
    · rw [List.mem_singleton] at hx; subst hx; omega
def fac : Nat → Nat
  | 0 => 1
  | k + 1 => fac k * (k + 1)
theorem flat_le {A C : Type} (f : A → List C) (n : Nat) : ∀ l : List A, (∀ a ∈ l, (f a).length ≤ n) → (l.flatMap f).length ≤ l.length * n
  | [], _ => by simp
  | a :: l, h => by
    rw [List.flatMap_cons, List.length_append, List.length_cons, Nat.succ_mul]
    have h1 := flat_le f n l fun b hb => h b (.tail _ hb)
    have h2 := h a (.head _)
    omega
theorem allM_len : ∀ k, (allM k).length ≤ fac k
  | 0 => Nat.le_refl _
  | k + 1 => by
    rw [allM, fac]
    refine Nat.le_trans (flat_le _ (k + 1) _ fun ls h => ?_) (Nat.mul_le_mul_right _ (allM_len k))
    rw [List.length_map, List.length_range]
    obtain ⟨a, b⟩ := allM_ok k ls h
    exact brd_le a b
theorem fac_le : ∀ {k : Nat}, k ≤ 6 → fac k ≤ 720 := by decide
/-- the greatest of a parting's lots and -1 -/
theorem brd_max {ls : List Int} (h : ∀ x ∈ ls, 0 ≤ x) : ((brd ls : Nat) : Int) - 2 ∈ ls ++ [-1] ∧ ∀ y ∈ ls ++ [-1], y ≤ ((brd ls : Nat) : Int) - 2 := by
  unfold brd
  split
  · rename_i e
    have : ls = [] := List.eq_nil_of_length_eq_zero e
    subst this
    exact ⟨.head _, fun y hy => by rw [List.nil_append, List.mem_singleton] at hy; omega⟩
  · obtain ⟨a, b⟩ := mxL_spec h (by omega)
    rw [show (((mxL ls + 2 : Nat) : Int) - 2) = (mxL ls : Nat) by omega]
    refine ⟨List.mem_append_left _ a, fun y hy => ?_⟩
    rcases List.mem_append.mp hy with hy | hy
    · exact b y hy
    · rw [List.mem_singleton] at hy; omega
/-! ### orders -/
abbrev nI (o : List Nat) : List Int := o.map fun p : Nat => (p : Int)
theorem nI_get {o : List Nat} {i : Nat} (h : i < o.length) : (nI o).getD i 0 = (o.getD i 0 : Nat) := getD_mapN _ h 0 0
theorem ord_ins {k j : Nat} {o : List Nat} (h : Ord k o) (hj : j ≤ k) : Ord (k + 1) (o.take j ++ [k] ++ o.drop j) := by
  unfold Ord
  rw [List.range_succ, List.append_assoc]
  refine (List.perm_middle (l₁ := o.take j) (l₂ := o.drop j)).trans ?_
  rw [List.take_append_drop]
  exact (h.cons k).trans (List.perm_append_singleton k _).symm
theorem nI_srt (m : Nat) : (nI (List.range m)).Pairwise (· ≤ ·) := by
  rw [List.pairwise_map]
  exact (List.pairwise_lt_range).imp fun h => by omega
theorem iG_ins (o : List Nat) (j i : Nat) : iG (nI (o.take j ++ [i] ++ o.drop j)) = (iG (nI o)).take j ++ [.dt (.int (i : Int))] ++ (iG (nI o)).drop j := by
  simp only [iG, nI, List.map_append, List.map_take, List.map_drop, List.map_cons, List.map_nil]
end Ek

set_option Elab.async false
set_option linter.all false
set_option maxRecDepth 100000
set_option maxHeartbeats 4000000
namespace Ek
open PySem PySem.Spec PyProof.Rows L2
/-! ### short words for the readings -/
local macro_rules | `(tactic| walk_at "eks") => `(tactic| first | assumption | omega | exact rfl | decide)
local macro_rules | `(tactic| walk_at "ekq") => `(tactic| first | assumption | (refine mulS ?_ ?_ <;> omega))
local macro_rules | `(tactic| walk_at "ekx") => `(tactic| first | exact rfl | walk_at "eks")
local macro_rules | `(tactic| walk_at "ekm") => `(tactic| first | exact .head _ | exact .tail _ (.head _) | exact .tail _ (.tail _ (.head _)) | exact .tail _ (.tail _ (.tail _ (.head _))))
local macro_rules | `(tactic| walk_at "ekr") => `(tactic| first
  | exact p_int | exact s_int | exact eq_int' | exact ne_int' | exact lt_int' | exact gt_int' | exact le_int' | exact ge_int' | exact is_none' | exact isnt_none'
  | (refine' x_tup ?e1; (case e1 => walk_at "ekx")) | (refine' x_list ?e1; (case e1 => walk_at "ekx")) | (refine' x_scr ?e1; (case e1 => walk_at "ekx")) | (refine' x_own ?e1 ?e2; (case e1 => walk_at "ekm"); (case e2 => walk_at "ekx")) | (refine' x_ownT ?e1 ?e2; (case e1 => walk_at "ekm"); (case e2 => walk_at "ekx"))
  | exact tw_lit | (refine t_int ?_; walk_at "ekq") | (refine m_int ?_; first | assumption | omega) | (refine d_pos ⟨?_, ?_⟩ <;> first | assumption | omega | decide) | (refine d_any ?_; assumption) | exact w_1060 | (refine w_int ?_; exact ⟨by decide, by decide, by decide⟩)
  | (refine p_list ?_; walk_at "eks") | (refine t_one ?_ ?_ ?_ <;> walk_at "eks") | (refine p_str ?_; walk_at "eks") | (refine eq_str' ?_ ?_ <;> walk_at "eks") | (refine ne_str' ?_ ?_ <;> walk_at "eks")
  | (refine r2_eqD ?_ ?_ <;> walk_at "eks") | (refine r2_neD ?_ ?_ <;> walk_at "eks"))
local macro_rules | `(tactic| walk_at "ekl") => `(tactic| first
  | exact l_list | exact l_tup | exact l_scr | (refine' l_own ?e1; (case e1 => walk_at "ekm")) | (refine l_str ?_; walk_at "eks") | exact l_abs | exact l_max2 | exact l_min2 | exact l_intB | exact l_sum | exact is_ii | exact is_ib | exact is_tt | exact is_ll | exact is_ss | exact is_bi | exact is_bb | exact is_ti)
local macro_rules | `(tactic| walk_at "eka") => `(tactic| first | exact ea_nil | (refine' ea_cons ?e1 ?e2; (case e1 => walk_at "ek"); (case e2 => walk_at "eka")))
local macro_rules | `(tactic| walk_at "ekf") => `(tactic| first
  | (refine' ef_lst ?e1 ?e2; (case e1 => walk_at "eka"); (case e2 => exact lenB rfl))
  | (refine' ef_cut ?e1 ?e2 ?e3; (case e1 => walk_at "ek"); (case e2 => walk_at "eko"); (case e3 => walk_at "eko"))
  | (refine' ef_cutS ?e1 ?e2 ?e3; (case e1 => walk_at "ek"); (case e2 => walk_at "eko"); (case e3 => walk_at "eko"))
  | (refine' ef_op ?e1 ?e2 ?e3; (case e1 => walk_at "ek"); (case e2 => walk_at "ek"); (case e3 => first | (refine p_listF ?_; walk_at "eks") | (refine t_oneF ?_ ?_ ?_ <;> walk_at "eks")))
  | (refine' ef_cb ?e1 ?e2; (case e1 => walk_at "eka"); (case e2 => exact li_list))
  | walk_at "ekcF")
local macro_rules | `(tactic| walk_at "eko") => `(tactic| first | exact eo_none | (refine' eo_int ?e1; (case e1 => walk_at "ek")))
local macro_rules | `(tactic| walk_at "ek") => `(tactic| first
  | exact ee_var rfl | exact ee_int | exact ee_bl | exact ee_str | exact ee_non | exact ee_ty
  | (refine' ee_op ?e1 ?e2 ?e3; (case e1 => walk_at "ek"); (case e2 => walk_at "ek"); (case e3 => walk_at "ekr"))
  | (refine' ee_neg ?e1; (case e1 => walk_at "ek"))
  | (refine' ee_cb ?e1 ?e2; (case e1 => walk_at "eka"); (case e2 => walk_at "ekl"))
  | (refine' ee_tupU ?e1 ?e2 ?e3; (case e1 => walk_at "eka"); (case e2 => exact rfl); (case e3 => walk_at "ekz"))
  | walk_at "ekc"
  | (refine' ee_andV ?e1 ?e2; (case e1 => walk_at "ek"); (case e2 => (intro _; walk_at "ek")))
  | (refine' ee_orV ?e1 ?e2; (case e1 => walk_at "ek"); (case e2 => (intro _; walk_at "ek")))
  | (refine' ee_notV ?e1; (case e1 => walk_at "ek"))
  | (refine' ee_fz ?e1; (case e1 => walk_at "ekf"))
  | (refine' ee_fzU ?e1 ?e2; (case e1 => walk_at "ekf"); (case e2 => exact rfl)))
local macro_rules | `(tactic| walk_at "ekz") => `(tactic| first | exact lenB rfl)
local macro_rules | `(tactic| walk_at "ekt") => `(tactic| first
  | (refine' et_not ?e1; (case e1 => walk_at "ekt"))
  | (refine' et_and ?e1 ?e2; (case e1 => walk_at "ekt"); (case e2 => (intro _; walk_at "ekt")))
  | (refine' et_or ?e1 ?e2; (case e1 => walk_at "ekt"); (case e2 => (intro _; walk_at "ekt")))
  | (refine' et_test ?e1; (case e1 => walk_at "ek")) | (refine' et_B ?e1; (case e1 => walk_at "ek")))
def topS (i : Nat) : Stmt := PySem.Challenge.pw_evenkin_k22_whole_coarsest_parting.main.body.getD i (.Pass ⟨0, 0, 0, 0⟩)
abbrev s_web_renamed : Stmt := topS 4
theorem sc_web_renamed : FnScope ["web", "order", "hues", "rows", "u", "v"] ["web", "order"] (defScope s_web_renamed) := ⟨rfl, rfl, rfl, by decide +kernel, rfl, by decide +kernel, by decide +kernel⟩
abbrev s_numbered : Stmt := topS 6
theorem sc_numbered : FnScope ["things", "seen", "found", "thing"] ["things"] (defScope s_numbered) := ⟨rfl, rfl, rfl, by decide +kernel, rfl, by decide +kernel, by decide +kernel⟩
abbrev s_weights_to : Stmt := topS 7
theorem sc_weights_to : FnScope ["web", "lots", "place", "found", "lot", "weight"] ["web", "lots", "place"] (defScope s_weights_to) := ⟨rfl, rfl, rfl, by decide +kernel, rfl, by decide +kernel, by decide +kernel⟩
abbrev s_looks_of : Stmt := topS 8
theorem sc_looks_of : FnScope ["web", "lots", "place", "lot"] ["web", "lots"] (defScope s_looks_of) := ⟨rfl, rfl, rfl, by decide +kernel, rfl, by decide +kernel, by decide +kernel⟩
abbrev s_coarsest_parting : Stmt := topS 9
theorem sc_coarsest_parting : FnScope ["web", "lots", "finer"] ["web"] (defScope s_coarsest_parting) := ⟨rfl, rfl, rfl, by decide +kernel, rfl, by decide +kernel, by decide +kernel⟩
abbrev s__law_cell_at : Stmt := topS 11
theorem sc__law_cell_at : FnScope ["_law_script", "_law_k"] ["_law_script", "_law_k"] (defScope s__law_cell_at) := ⟨rfl, rfl, rfl, by decide +kernel, rfl, by decide +kernel, by decide +kernel⟩
abbrev s__law_draws : Stmt := topS 12
theorem sc__law_draws : FnScope ["_law_cell", "_law_many", "_law_base", "_law_free", "_law_found", "_law_rest", "_law_k", "_law_number"] ["_law_cell", "_law_many", "_law_base", "_law_free"] (defScope s__law_draws) := ⟨rfl, rfl, rfl, by decide +kernel, rfl, by decide +kernel, by decide +kernel⟩
abbrev s__law_square : Stmt := topS 13
theorem sc__law_square : FnScope ["_law_many", "_law_draws_here", "_law_way", "_law_rows", "_law_u", "_law_at", "_law_v", "_law_weight"] ["_law_many", "_law_draws_here", "_law_way"] (defScope s__law_square) := ⟨rfl, rfl, rfl, by decide +kernel, rfl, by decide +kernel, by decide +kernel⟩
abbrev s__law_web : Stmt := topS 14
theorem sc__law_web : FnScope ["_law_script", "_law_at", "_law_many", "_law_free", "_law_draws_here", "_law_hues", "_law_draw", "_law_way", "_law_square_here"] ["_law_script", "_law_at", "_law_many", "_law_free"] (defScope s__law_web) := ⟨rfl, rfl, rfl, by decide +kernel, rfl, by decide +kernel, by decide +kernel⟩
abbrev s__law_order : Stmt := topS 15
theorem sc__law_order : FnScope ["_law_cell", "_law_many", "_law_free", "_law_draws_here", "_law_found", "_law_k"] ["_law_cell", "_law_many", "_law_free"] (defScope s__law_order) := ⟨rfl, rfl, rfl, by decide +kernel, rfl, by decide +kernel, by decide +kernel⟩
abbrev s__law_numbered : Stmt := topS 16
theorem sc__law_numbered : FnScope ["_law_things", "_law_seen", "_law_found", "_law_thing"] ["_law_things"] (defScope s__law_numbered) := ⟨rfl, rfl, rfl, by decide +kernel, rfl, by decide +kernel, by decide +kernel⟩
abbrev s__law_even : Stmt := topS 17
theorem sc__law_even : FnScope ["_law_web_here", "_law_lots", "_law_hues", "_law_rows", "_law_looks", "_law_u", "_law_lot", "_law_sums", "_law_other", "_law_weight", "_law_one"] ["_law_web_here", "_law_lots"] (defScope s__law_even) := ⟨rfl, rfl, rfl, by decide +kernel, rfl, by decide +kernel, by decide +kernel⟩
abbrev s__law_all : Stmt := topS 18
theorem sc__law_all : FnScope ["_law_many", "_law_found", "_law_k", "_law_more", "_law_lots", "_law_lot"] ["_law_many"] (defScope s__law_all) := ⟨rfl, rfl, rfl, by decide +kernel, rfl, by decide +kernel, by decide +kernel⟩
abbrev s__law_told : Stmt := topS 19
theorem sc__law_told : FnScope ["_law_lots", "_law_many", "_law_lot"] ["_law_lots", "_law_many"] (defScope s__law_told) := ⟨rfl, rfl, rfl, by decide +kernel, rfl, by decide +kernel, by decide +kernel⟩
abbrev s__law_within : Stmt := topS 20
theorem sc__law_within : FnScope ["_law_lots", "_law_told_here", "_law_u", "_law_lot", "_law_v"] ["_law_lots", "_law_told_here"] (defScope s__law_within) := ⟨rfl, rfl, rfl, by decide +kernel, rfl, by decide +kernel, by decide +kernel⟩
abbrev s_law : Stmt := topS 21
theorem sc_law : FnScope ["_law_script", "_law_free", "_law_many", "_law_web_here", "_law_copy", "_law_row", "_law_told_here", "_law_lots", "_law_cell", "_law_order_here", "_law_place"] ["_law_script"] (defScope s_law) := ⟨rfl, rfl, rfl, by decide +kernel, rfl, by decide +kernel, by decide +kernel⟩
/-- what the top has left -/
structure Txt (K : PySem.W.Frag) (mg : Str → Option Value) where
  a_web_renamed : Addr
  d_web_renamed : FuncData
  F_web_renamed : Fun K "web_renamed" "web_renamed" s_web_renamed a_web_renamed d_web_renamed
  g_web_renamed : mg "web_renamed" = some (.ref a_web_renamed)
  b_web_renamed : Binds K d_web_renamed ["web", "order"] []
  a_numbered : Addr
  d_numbered : FuncData
  F_numbered : Fun K "numbered" "numbered" s_numbered a_numbered d_numbered
  g_numbered : mg "numbered" = some (.ref a_numbered)
  b_numbered : Binds K d_numbered ["things"] []
  a_weights_to : Addr
  d_weights_to : FuncData
  F_weights_to : Fun K "weights_to" "weights_to" s_weights_to a_weights_to d_weights_to
  g_weights_to : mg "weights_to" = some (.ref a_weights_to)
  b_weights_to : Binds K d_weights_to ["web", "lots", "place"] []
  a_looks_of : Addr
  d_looks_of : FuncData
  F_looks_of : Fun K "looks_of" "looks_of" s_looks_of a_looks_of d_looks_of
  g_looks_of : mg "looks_of" = some (.ref a_looks_of)
  b_looks_of : Binds K d_looks_of ["web", "lots"] []
  a_coarsest_parting : Addr
  d_coarsest_parting : FuncData
  F_coarsest_parting : Fun K "coarsest_parting" "coarsest_parting" s_coarsest_parting a_coarsest_parting d_coarsest_parting
  g_coarsest_parting : mg "coarsest_parting" = some (.ref a_coarsest_parting)
  b_coarsest_parting : Binds K d_coarsest_parting ["web"] []
  a__law_cell_at : Addr
  d__law_cell_at : FuncData
  F__law_cell_at : Fun K "_law_cell_at" "_law_cell_at" s__law_cell_at a__law_cell_at d__law_cell_at
  g__law_cell_at : mg "_law_cell_at" = some (.ref a__law_cell_at)
  b__law_cell_at : Binds K d__law_cell_at ["_law_script", "_law_k"] []
  a__law_draws : Addr
  d__law_draws : FuncData
  F__law_draws : Fun K "_law_draws" "_law_draws" s__law_draws a__law_draws d__law_draws
  g__law_draws : mg "_law_draws" = some (.ref a__law_draws)
  b__law_draws : Binds K d__law_draws ["_law_cell", "_law_many", "_law_base", "_law_free"] []
  a__law_square : Addr
  d__law_square : FuncData
  F__law_square : Fun K "_law_square" "_law_square" s__law_square a__law_square d__law_square
  g__law_square : mg "_law_square" = some (.ref a__law_square)
  b__law_square : Binds K d__law_square ["_law_many", "_law_draws_here", "_law_way"] []
  a__law_web : Addr
  d__law_web : FuncData
  F__law_web : Fun K "_law_web" "_law_web" s__law_web a__law_web d__law_web
  g__law_web : mg "_law_web" = some (.ref a__law_web)
  b__law_web : Binds K d__law_web ["_law_script", "_law_at", "_law_many", "_law_free"] []
  a__law_order : Addr
  d__law_order : FuncData
  F__law_order : Fun K "_law_order" "_law_order" s__law_order a__law_order d__law_order
  g__law_order : mg "_law_order" = some (.ref a__law_order)
  b__law_order : Binds K d__law_order ["_law_cell", "_law_many", "_law_free"] []
  a__law_numbered : Addr
  d__law_numbered : FuncData
  F__law_numbered : Fun K "_law_numbered" "_law_numbered" s__law_numbered a__law_numbered d__law_numbered
  g__law_numbered : mg "_law_numbered" = some (.ref a__law_numbered)
  b__law_numbered : Binds K d__law_numbered ["_law_things"] []
  a__law_even : Addr
  d__law_even : FuncData
  F__law_even : Fun K "_law_even" "_law_even" s__law_even a__law_even d__law_even
  g__law_even : mg "_law_even" = some (.ref a__law_even)
  b__law_even : Binds K d__law_even ["_law_web_here", "_law_lots"] []
  a__law_all : Addr
  d__law_all : FuncData
  F__law_all : Fun K "_law_all" "_law_all" s__law_all a__law_all d__law_all
  g__law_all : mg "_law_all" = some (.ref a__law_all)
  b__law_all : Binds K d__law_all ["_law_many"] []
  a__law_told : Addr
  d__law_told : FuncData
  F__law_told : Fun K "_law_told" "_law_told" s__law_told a__law_told d__law_told
  g__law_told : mg "_law_told" = some (.ref a__law_told)
  b__law_told : Binds K d__law_told ["_law_lots", "_law_many"] []
  a__law_within : Addr
  d__law_within : FuncData
  F__law_within : Fun K "_law_within" "_law_within" s__law_within a__law_within d__law_within
  g__law_within : mg "_law_within" = some (.ref a__law_within)
  b__law_within : Binds K d__law_within ["_law_lots", "_law_told_here"] []
  a_law : Addr
  d_law : FuncData
  F_law : Fun K "law" "law" s_law a_law d_law
  g_law : mg "law" = some (.ref a_law)
  b_law : Binds K d_law ["_law_script"] []
  n_bool : mg "bool" = none
  n_enumerate : mg "enumerate" = none
  n_int : mg "int" = none
  n_isinstance : mg "isinstance" = none
  n_len : mg "len" = none
  n_list : mg "list" = none
  n_max : mg "max" = none
  n_range : mg "range" = none
  n_sorted : mg "sorted" = none
  n_sum : mg "sum" = none
  n_zip : mg "zip" = none
section
variable {P : Program} {w : World} {K : PySem.W.Frag} {mg : Str → Option Value} {base : Heap}
/-! ### the script's cells -/
abbrev spCellAt (K : PySem.W.Frag) : Sp := sp0 K (fun p : List Int × Int => [.sc p.1, .dt (.int p.2)]) (fun p => 0 ≤ p.2) (fun p => .dt (.int (cellZ p.1 p.2)))
theorem ok__law_cell_at (T : Txt K mg) : FnOk P w K mg base CX0 1 T.a__law_cell_at T.d__law_cell_at ["_law_script", "_law_k"] (spCellAt K) :=
  fn0 T.F__law_cell_at sc__law_cell_at (fun _ => rfl) fun cdv R outer s H E hr => ⟨_, (pss_cons (ps_if (pt_cmpR op_lt (pv 1) (pe_callB (o_len : CallR _ (.builtin "len") (rLenU K)) (by rfl) T.n_len PySem.boot_len (pa_cons (pv 0) pa_nil)) (nomark _)) (pss_one (ps_ret (pe_ix (ix_seq : IxR _ (rIx K)) (pv 0) (pv 1) (fun _ _ => rfl)))) pss_nil)
  (pss_one (ps_ret pe_int))), fun (ns, k) hk => by
    have hk : 0 ≤ k := hk
    refine bs_when (by walk_at "ekt") (fun h => ?_) (fun h => ?_)
    · have h1 : k < ns.length := of_decide_eq_true h
      exact blk_ret (ee_op (ee_var rfl) (ee_var rfl) (x_scr (atI_getD (d := 0) hk h1))) (.inl rfl)
    · have h1 : ¬ k < ns.length := of_decide_eq_false h
      refine blk_ret (by walk_at "ek") (.inl ?_)
      show GV.dt (.int 0) = .dt (.int (cellZ ns k))
      unfold cellZ
      rw [List.getD_eq_getElem?_getD, List.getElem?_eq_none (by omega)] <;> rfl⟩
theorem use_cell_at {E : GE} {M M1 : GM} {tr : TA} {X : XK} {ns : List Int} {k : Int} (h : EA K tr E M [.sc ns, .dt (.int k)] M1) (hk : 0 ≤ k) : EE K (tCall (spCellAt K) [] X tr) E M (.dt (.int (cellZ ns k))) M1 := ee_call0 (ns, k) h hk
local macro_rules | `(tactic| walk_at "ekc") => `(tactic| (refine' use_cell_at ?e1 ?e2; (case e1 => walk_at "eka"); (case e2 => walk_at "eks")))
/-! ### draws of a cell -/
abbrev spDraws (K : PySem.W.Frag) : Sp := sp0 K (fun p : Int × Nat × Int × Bool => [.dt (.int p.1), .dt (.int (p.2.1 : Int)), .dt (.int p.2.2.1), .dt (.bool p.2.2.2)]) (fun p => p.2.1 ≤ 1000 ∧ (p.2.1 = 0 ∨ 0 < p.2.2.1) ∧ p.2.2.1.natAbs < 1048576) (fun p => .dt (eIs (drawsM p.1 p.2.1 p.2.2.1 p.2.2.2)))
theorem ok__law_draws (T : Txt K mg) : FnOk P w K mg base CX0 1 T.a__law_draws T.d__law_draws ["_law_cell", "_law_many", "_law_base", "_law_free"] (spDraws K) :=
  fn0 T.F__law_draws sc__law_draws (fun _ => rfl) fun cdv R outer s H E hr => ⟨_, (pss_cons (ps_set (i := 4) sc__law_draws.nd rfl (Or.inl rfl) (pe_lst pa_nil))
  (pss_cons (ps_set (i := 5) sc__law_draws.nd rfl (Or.inl rfl) (pv 0))
  (pss_cons (ps_for PassesOwn.never rfl (pi_range1 (by rfl) T.n_range (pa_cons (pv 1) pa_nil)) (pg_name (i := 6) sc__law_draws.nd rfl (Or.inl rfl)) (pss_one (ps_if (PW.pt (pw_and (pt_val (pv 3)) (pw_and (pt_cmpR (op_neD (hu64 hr) : OpR _ (compareOp .NotEq) (rNeD K)) (pv 5) pe_int (nomark _)) (pw_and1 (pt_cmpR (op_neD (hu64 hr) : OpR _ (compareOp .NotEq) (rNeD K)) (pv 5) (pe_un un_neg pe_int) (nomark _)))))) (pss_cons (ps_expr (pe_bm PySem.F.plainAttrs_list PySem.F.slot_list_append PySem.F.type_list_append mt_append (pv 4) (pa_cons (pe_op op_mod (pv 5) (pv 2)) pa_nil)))
  (pss_one (ps_set (i := 5) sc__law_draws.nd rfl (Or.inl rfl) (pe_op o_fdiv (pv 5) (pv 2))))) (pss_cons (ps_set (i := 7) sc__law_draws.nd rfl (Or.inl rfl) (pe_op op_mod (pe_op o_plus (pv 0) (pe_op o_times pe_int (pv 6))) pe_int))
  (pss_cons (ps_set (i := 7) sc__law_draws.nd rfl (Or.inl rfl) (pe_op op_mod (pe_op o_plus (pe_op o_times (pv 7) (pv 7)) (pv 6)) pe_int))
  (pss_one (ps_expr (pe_bm PySem.F.plainAttrs_list PySem.F.slot_list_append PySem.F.type_list_append mt_append (pv 4) (pa_cons (pe_op op_mod (pe_op op_mod (pe_op o_times (pv 7) (pv 7)) pe_int) (pv 2)) pa_nil)))))))))
  (pss_one (ps_ret (pv 4)))))), fun (c, m, b, fr) ⟨h1, h2, h3⟩ => by
    have h1 : m ≤ 1000 := h1
    have h2 : m = 0 ∨ 0 < b := h2
    have h3 : b.natAbs < 1048576 := h3
    refine bs_asgF (by walk_at "ekf") fun p => ?_
    refine bs_asg (ee_var rfl) ?_
    refine blk_mid (Mid := fun E' M' => ∃ x y z, E' = [some (.dt (.int c)), some (.dt (.int (m : Int))), some (.dt (.int b)), some (.dt (.bool fr)), some (.rf p), x, y, z] ∧ M' = [(p, true, .lst (iG ((List.range m).map (drAt c b fr))))]) ?_ ?_
    · refine blk_for (ei_range1 (by walk_at "eka") (by omega) (by omega)) (fun i E' M' => ∃ y z, E' = [some (.dt (.int c)), some (.dt (.int (m : Int))), some (.dt (.int b)), some (.dt (.bool fr)), some (.rf p), some (.dt (.int (drRest c b fr i))), y, z] ∧ M' = [(p, true, .lst (iG ((List.range i).map (drAt c b fr))))]) ⟨_, _, rfl, rfl⟩ ?_ ?_
      · rintro i E1 N1 hi ⟨y, z, rfl, rfl⟩
        have hi : i < ((m : Nat) : Int).toNat := hi
        have hi : i < m := by omega
        have hb : 0 < b := h2.resolve_left (Nat.pos_iff_ne_zero.mp (Nat.lt_of_le_of_lt (Nat.zero_le i) hi))
        have hz : (iG ((List.range i).map (drAt c b fr))).length < sizeLine := by rw [iG_len, List.length_map, List.length_range, sizeLine_eq]; omega
        have hlog : b.natAbs.log2 < 9000 := log2S (by omega)
        have ea : drAt c b fr i = if fr = true ∧ drRest c b fr i ≠ 0 ∧ drRest c b fr i ≠ -1 then drRest c b fr i % b else dm2 c i * dm2 c i % 2147483587 % b := rfl
        have er : drRest c b fr (i + 1) = if fr = true ∧ drRest c b fr i ≠ 0 ∧ drRest c b fr i ≠ -1 then drRest c b fr i / b else drRest c b fr i := rfl
        rw [rmap_succ, iG_snoc, er, ea]
        generalize drRest c b fr i = r at *
        refine blk_if (b := fr && (!decide (r = 0) && !decide (r = -1))) (M1 := [(p, true, .lst (iG ((List.range i).map (drAt c b fr))))]) (by walk_at "ekt") (fun h => ?_) (fun h => ?_)
        · have hc : fr = true ∧ r ≠ 0 ∧ r ≠ -1 := by simpa using h
          rw [if_pos hc, if_pos hc]
          refine blk_seq (blk_app (j := 0) (M1 := [(p, true, .lst (iG ((List.range i).map (drAt c b fr))))]) (ee_var rfl) (by walk_at "ek") rfl rfl hz ?_)
          exact blk_asg (ee_op (ee_var rfl) (ee_var rfl) (d_pos ⟨hb, hlog⟩)) ⟨_, _, rfl, rfl⟩
        · have hc : ¬ (fr = true ∧ r ≠ 0 ∧ r ≠ -1) := by
            rintro ⟨k1, k2, k3⟩
            rw [k1, decide_eq_false k2, decide_eq_false k3] at h; cases h
          rw [if_neg hc, if_neg hc]
          obtain ⟨a1, a2⟩ := dm1_rng c i
          obtain ⟨b1, b2⟩ := dm2_rng c i
          refine bs_asg (g := .dt (.int (dm1 c i))) (M1 := [(p, true, .lst (iG ((List.range i).map (drAt c b fr))))]) (by walk_at "ek") ?_
          refine bs_asg (g := .dt (.int (dm2 c i))) (M1 := [(p, true, .lst (iG ((List.range i).map (drAt c b fr))))]) ?_ ?_
          · unfold dm2
            generalize dm1 c i = x at *
            walk_at "ek"
          generalize dm2 c i = x at *
          exact blk_app (j := 0) (M1 := [(p, true, .lst (iG ((List.range i).map (drAt c b fr))))]) (ee_var rfl) (by walk_at "ek") rfl rfl hz ⟨_, _, rfl, rfl⟩
      · rintro E1 N1 ⟨y, z, rfl, rfl⟩
        exact ⟨_, _, _, rfl, rfl⟩
    · rintro E1 N1 ⟨x, y, z, rfl, rfl⟩
      exact blk_ret (ee_var rfl) (.inr ⟨p, _, rfl, rfl, .head _⟩)⟩
theorem use_draws {E : GE} {M M1 : GM} {tr : TA} {X : XK} {c b : Int} {m : Nat} {fr : Bool} (h : EA K tr E M [.dt (.int c), .dt (.int (m : Int)), .dt (.int b), .dt (.bool fr)] M1) (h1 : m ≤ 1000) (h2 : m = 0 ∨ 0 < b) (h3 : b.natAbs < 1048576) : EE K (tCall (spDraws K) [] X tr) E M (.dt (eIs (drawsM c m b fr))) M1 := ee_call0 (c, m, b, fr) h ⟨h1, h2, h3⟩
/-! ### a square -/
abbrev spSquare (K : PySem.W.Frag) : Sp := spN0 K (A := Nat × List Int × Int) (R := List (List Int)) (fun p => [.dt (.int (p.1 : Int)), .dt (eIs p.2.1), .dt (.int p.2.2)]) (fun p => p.1 ≤ 20 ∧ p.2.1.length = tri p.1) (fun p r => SqOk p.1 r) (fun _ _ => []) (fun _ r => .dt (eIss r))
theorem ok__law_square (T : Txt K mg) : FnOk P w K mg base CX0 1 T.a__law_square T.d__law_square ["_law_many", "_law_draws_here", "_law_way"] (spSquare K) :=
  fnN0 T.F__law_square sc__law_square (fun _ => rfl) fun cdv R outer s H E hr => ⟨_, (pss_cons (ps_set (i := 3) sc__law_square.nd rfl (Or.inl rfl) (pe_lst pa_nil))
  (pss_cons (ps_for PassesOwn.never rfl (pi_range1 (by rfl) T.n_range (pa_cons (pv 0) pa_nil)) (pg_name (i := 4) sc__law_square.nd rfl (Or.inl rfl)) (pss_one (ps_expr (pe_bm PySem.F.plainAttrs_list PySem.F.slot_list_append PySem.F.type_list_append mt_append (pv 3) (pa_cons (pe_op o_times (pe_lst (pa_cons pe_int pa_nil)) (pv 0)) pa_nil)))))
  (pss_cons (ps_set (i := 5) sc__law_square.nd rfl (Or.inl rfl) pe_int)
  (pss_cons (ps_for PassesOwn.never rfl (pi_range1 (by rfl) T.n_range (pa_cons (pv 0) pa_nil)) (pg_name (i := 4) sc__law_square.nd rfl (Or.inl rfl)) (pss_one (ps_for PassesOwn.never rfl (pi_range2 (by rfl) T.n_range (pa_cons (pv 4) (pa_cons (pv 0) pa_nil))) (pg_name (i := 6) sc__law_square.nd rfl (Or.inl rfl)) (pss_cons (ps_set (i := 7) sc__law_square.nd rfl (Or.inl rfl) (pe_op o_times (pe_op op_mod (pe_ix (ix_seq : IxR _ (rIx K)) (pv 1) (pv 5) (fun _ _ => rfl)) pe_int) (pe_callTy o_int (by rfl) T.n_int (by decide +kernel) (pa_cons (pe_cmpR op_lt (pv 4) (pv 6) (nomark _)) pa_nil))))
  (pss_cons (ps_if (pt_cmpR (op_eqD (hu64 hr) : OpR _ (compareOp .Eq) (rEqD K)) (pv 2) pe_int (nomark _)) (pss_one (ps_set (i := 7) sc__law_square.nd rfl (Or.inl rfl) (pe_op op_sub (pe_op op_mod (pe_ix (ix_seq : IxR _ (rIx K)) (pv 1) (pv 5) (fun _ _ => rfl)) pe_int) pe_int))) pss_nil)
  (pss_cons (ps_if (pt_cmpR (op_eqD (hu64 hr) : OpR _ (compareOp .Eq) (rEqD K)) (pv 2) pe_int (nomark _)) (pss_one (ps_set (i := 7) sc__law_square.nd rfl (Or.inl rfl) (pe_op o_plus (pe_op o_times (pe_op op_sub (pe_op op_mod (pe_ix (ix_seq : IxR _ (rIx K)) (pv 1) (pv 5) (fun _ _ => rfl)) pe_int) pe_int) (pe_op op_pow pe_int pe_int)) (pe_op op_mod (pe_ix (ix_seq : IxR _ (rIx K)) (pv 1) (pv 5) (fun _ _ => rfl)) pe_int)))) pss_nil)
  (pss_cons (ps_asg (pv 7) (pg_sub (pe_ix (ix_seq : IxR _ (rIx K)) (pv 3) (pv 4) (fun _ _ => rfl)) (pv 6) set_list))
  (pss_cons (ps_asg (pv 7) (pg_sub (pe_ix (ix_seq : IxR _ (rIx K)) (pv 3) (pv 6) (fun _ _ => rfl)) (pv 4) set_list))
  (pss_one (ps_set (i := 5) sc__law_square.nd rfl (Or.inl rfl) (pe_op o_plus (pv 5) pe_int)))))))))))
  (pss_one (ps_ret (pv 3))))))), fun (m, ds, way) ⟨h1, h2⟩ => by
    have h1 : m ≤ 20 := h1
    have h2 : ds.length = tri m := h2
    have h3 := tri_le h1
    refine bs_asgF (xs := []) (M1 := []) (by walk_at "ekf") fun r => ?_
    refine blk_mid (Mid := fun E' M' => ∃ u a, E' = [some (.dt (.int (m : Int))), some (.dt (eIs ds)), some (.dt (.int way)), some (.rf r), u, none, none, none] ∧ M'.Perm ((r, true, .lst ((List.range m).map fun c => .rf (a c))) :: rCells a (fun _ _ => 0) m m)) ?_ ?_
    · refine blk_for (ei_range1 (by walk_at "eka") (by omega) (by omega)) (fun i E' M' => ∃ u a, E' = [some (.dt (.int (m : Int))), some (.dt (eIs ds)), some (.dt (.int way)), some (.rf r), u, none, none, none] ∧ M'.Perm ((r, true, .lst ((List.range i).map fun c => .rf (a c))) :: rCells a (fun _ _ => 0) i m)) ⟨none, fun _ => 0, rfl, .refl _⟩ ?_ ?_
      · rintro i E1 N1 hi ⟨u, a, rfl, hp⟩
        refine blk_perm ?_ hp
        refine blk_app' (ee_var rfl) (seq_of_mem (fl := true) (.head _)) (EF.ex (xs := iG ((List.range m).map fun _ => 0)) (M1 := (r, true, .lst ((List.range i).map fun c => .rf (a c))) :: rCells a (fun _ _ => 0) i m) (F := fun g M' => ∃ p, g = .rf p ∧ M' = (p, true, GO.lst (iG ((List.range m).map fun _ => 0))) :: (r, true, .lst ((List.range i).map fun c => .rf (a c))) :: rCells a (fun _ _ => 0) i m) ?_ fun p => ⟨p, rfl, rfl⟩) ?_
        · refine EF.eq (by walk_at "ekf") ?_
          rw [iG, List.map_map, List.map_map]
          exact (List.map_replicate).trans (by rw [Int.toNat_natCast]; exact (List.eq_replicate_iff.mpr ⟨by simp, fun b hb => by obtain ⟨_, _, rfl⟩ := List.mem_map.mp hb; rfl⟩).symm)
        · rintro g M1 ⟨p, rfl, rfl⟩
          refine ⟨1, true, _, rfl, by rw [List.length_map, List.length_range, sizeLine_eq]; omega, ?_⟩
          refine ⟨_, fun c => if c = i then p else a c, rfl, ?_⟩
          rw [← rf_succ, ← rCells_succ a (fun _ _ => 0) i m p _ rfl]
          show List.Perm ((p, true, _) :: (r, true, _) :: _) _
          refine (List.Perm.swap _ _ _).trans (List.Perm.cons _ ?_)
          exact (List.perm_append_singleton _ _).symm
      · rintro E1 N1 ⟨u, a, rfl, hp⟩
        exact ⟨u, a, rfl, hp⟩
    rintro E1 N1 ⟨u, a, rfl, hp⟩
    refine blk_perm ?_ hp
    refine bs_asg ee_int ?_
    refine blk_mid (Mid := fun E' M' => ∃ u at_ v wt f, E' = [some (.dt (.int (m : Int))), some (.dt (eIs ds)), some (.dt (.int way)), some (.rf r), u, some (.dt (.int at_)), v, wt] ∧ M' = (r, true, .lst ((List.range m).map fun c => .rf (a c))) :: rCells a f m m ∧ (∀ u v, f u v = f v u) ∧ ∀ u v, (f u v).natAbs < 2 ^ 70) ?_ ?_
    · refine blk_for (ei_range1 (by walk_at "eka") (by omega) (by omega)) (fun i E' M' => ∃ u at_ v wt f, E' = [some (.dt (.int (m : Int))), some (.dt (eIs ds)), some (.dt (.int way)), some (.rf r), u, some (.dt (.int ((at_ : Nat) : Int))), v, wt] ∧ M' = (r, true, .lst ((List.range m).map fun c => .rf (a c))) :: rCells a f m m ∧ (∀ u v, f u v = f v u) ∧ (∀ u v, (f u v).natAbs < 2 ^ 70) ∧ at_ + tri (m - i) = tri m) ⟨_, 0, _, _, _, rfl, rfl, fun _ _ => rfl, fun _ _ => by decide, by rw [Nat.sub_zero, Nat.zero_add]⟩ ?_ ?_
      · rintro i E1 N1 hi ⟨u, at_, v, wt, f, rfl, rfl, hf, hb, ht⟩
        have hi : i < m := by omega
        have htri : tri (m - i) = tri (m - (i + 1)) + (m - i) := by rw [show m - i = m - (i + 1) + 1 by omega, tri]
        refine blk_for (ei_range2 (by walk_at "eka") (by omega)) (fun j E' M' => ∃ v wt f, E' = [some (.dt (.int (m : Int))), some (.dt (eIs ds)), some (.dt (.int way)), some (.rf r), some (.dt (.int (i : Int))), some (.dt (.int ((at_ + j : Nat) : Int))), v, wt] ∧ M' = (r, true, .lst ((List.range m).map fun c => .rf (a c))) :: rCells a f m m ∧ (∀ u v, f u v = f v u) ∧ (∀ u v, (f u v).natAbs < 2 ^ 70)) ⟨_, _, f, rfl, rfl, hf, hb⟩ ?_ ?_
        · rintro j E1 N1 hj ⟨v, wt, f, rfl, rfl, hf, hb⟩
          have hj : i + j < m := by omega
          have hat : at_ + j < ds.length := by omega
          have ej : (i : Int) + (j : Int) = ((i + j : Nat) : Int) := by omega
          rw [ej]
          generalize hv : i + j = v at *
          have hxd := ix_nat hat
          generalize ht' : at_ + j = t at *
          generalize ds.getD t 0 = x at *
          have hx5 : 0 ≤ x % 2 ∧ x % 2 < 2 := by omega
          have hx7 : 0 ≤ x % 5 ∧ x % 5 < 5 := by omega
          refine blk_mid (Mid := fun E' M' => ∃ wt : Int, wt.natAbs < 2 ^ 70 ∧ E' = [some (.dt (.int (m : Int))), some (.dt (eIs ds)), some (.dt (.int way)), some (.rf r), some (.dt (.int (i : Int))), some (.dt (.int ((t : Nat) : Int))), some (.dt (.int ((v : Nat) : Int))), some (.dt (.int wt))] ∧ M' = (r, true, .lst ((List.range m).map fun c => .rf (a c))) :: rCells a f m m) ?_ ?_
          · refine blk_asg (g := .dt (.int (x % 2 * (if decide ((i : Int) < (v : Int)) = true then 1 else 0)))) (M1 := (r, true, .lst ((List.range m).map fun c => .rf (a c))) :: rCells a f m m) ?_ ⟨_, ?_, rfl, rfl⟩
            · refine ee_op (ee_op (ee_op (ee_var rfl) (ee_var rfl) (x_list hxd)) ee_int (m_int (by decide))) (ee_cb (ea_p1 (ee_op (ee_var rfl) (ee_var rfl) lt_int')) l_intB) (t_int (mulS (by omega) (by split <;> decide)))
            · split
              · rw [Int.mul_one]; omega
              · rw [Int.mul_zero]; decide
          rintro E1 N1 ⟨wt, hw, rfl, rfl⟩
          refine blk_mid (Mid := fun E' M' => ∃ wt : Int, wt.natAbs < 2 ^ 70 ∧ E' = [some (.dt (.int (m : Int))), some (.dt (eIs ds)), some (.dt (.int way)), some (.rf r), some (.dt (.int (i : Int))), some (.dt (.int ((t : Nat) : Int))), some (.dt (.int ((v : Nat) : Int))), some (.dt (.int wt))] ∧ M' = (r, true, .lst ((List.range m).map fun c => .rf (a c))) :: rCells a f m m) ?_ ?_
          · refine blk_when (b := decide (way = 1)) (M1 := (r, true, .lst ((List.range m).map fun c => .rf (a c))) :: rCells a f m m) (by walk_at "ekt") (fun _ => ?_) (fun _ => ⟨wt, hw, rfl, rfl⟩)
            exact blk_asg (g := .dt (.int (x % 7 - 3))) (ee_op (ee_op (ee_op (ee_var rfl) (ee_var rfl) (x_list hxd)) ee_int (m_int (by decide))) ee_int s_int) ⟨_, by omega, rfl, rfl⟩
          rintro E1 N1 ⟨wt, hw, rfl, rfl⟩
          refine blk_mid (Mid := fun E' M' => ∃ wt : Int, wt.natAbs < 2 ^ 70 ∧ E' = [some (.dt (.int (m : Int))), some (.dt (eIs ds)), some (.dt (.int way)), some (.rf r), some (.dt (.int (i : Int))), some (.dt (.int ((t : Nat) : Int))), some (.dt (.int ((v : Nat) : Int))), some (.dt (.int wt))] ∧ M' = (r, true, .lst ((List.range m).map fun c => .rf (a c))) :: rCells a f m m) ?_ ?_
          · refine blk_when (b := decide (way = 2)) (M1 := (r, true, .lst ((List.range m).map fun c => .rf (a c))) :: rCells a f m m) (by walk_at "ekt") (fun _ => ?_) (fun _ => ⟨wt, hw, rfl, rfl⟩)
            refine blk_asg (g := .dt (.int ((x % 5 - 2) * 100000000000000000000 + x % 3))) (ee_op (ee_op (ee_op (ee_op (ee_op (ee_var rfl) (ee_var rfl) (x_list hxd)) ee_int (m_int (by decide))) ee_int s_int) (ee_op ee_int ee_int w_1020) (t_int (mulW (n := 64) (m := 70) (by omega) (by decide) (by decide)))) (ee_op (ee_op (ee_var rfl) (ee_var rfl) (x_list hxd)) ee_int (m_int (by decide))) p_int) ⟨_, by omega, rfl, rfl⟩
          rintro E1 N1 ⟨wt, hw, rfl, rfl⟩
          have hlen : ∀ f : Nat → Nat → Int, ∀ c, (iG ((List.range m).map (f c))).length = m := fun f c => by rw [iG_len, List.length_map, List.length_range]
          have hix : ∀ {c : Nat}, c < m → atI ((List.range m).map fun c => GV.rf (a c)) (c : Int) = some (.rf (a c)) := fun {c} h => atI_nat (getElem_range_map _ h)
          have hn : ∀ {c : Nat} (f : Nat → Nat → Int) (d : Nat), c < m → ixN (iG ((List.range m).map (f d))).length (c : Int) = some c := fun {c} f d h => by
            rw [hlen]
            exact Evl.ixN_nat h
          refine blk_seq (blk_setL (j := 1 + i) (n0 := v) (fl := true) (xs := iG ((List.range m).map (f i))) (M1 := (r, true, .lst ((List.range m).map fun c => .rf (a c))) :: rCells a f m m) (ee_var rfl) (ee_op (ee_var rfl) (ee_var rfl) (x_own (.head _) (hix hi))) (ee_var rfl) (by rw [Nat.add_comm, List.getElem?_cons_succ]; exact rCells_get a f hi) (hn f i hj) ?_)
          rw [Nat.add_comm 1 i, List.set_cons_succ, rCells_set a f wt hj]
          refine blk_seq (blk_setL (j := 1 + v) (n0 := i) (fl := true) (xs := iG ((List.range m).map (updF f i v wt v))) (M1 := (r, true, .lst ((List.range m).map fun c => .rf (a c))) :: rCells a (updF f i v wt) m m) (ee_var rfl) (ee_op (ee_var rfl) (ee_var rfl) (x_own (.head _) (hix hj))) (ee_var rfl) (by rw [Nat.add_comm, List.getElem?_cons_succ]; exact rCells_get a _ hj) (hn _ v hi) ?_)
          rw [Nat.add_comm 1 v, List.set_cons_succ, rCells_set a _ wt hi]
          refine blk_asg (ee_op (ee_var rfl) ee_int p_int) ⟨some (.dt (.int ((v : Nat) : Int))), some (.dt (.int wt)), updF (updF f i v wt) v i wt, ?_, rfl, fun c d => ?_, fun c d => ?_⟩
          · rw [show ((at_ + (j + 1) : Nat) : Int) = (t : Int) + 1 by omega]; rfl
          · unfold updF
            have := hf c d
            by_cases k1 : c = v ∧ d = i
            · rw [if_pos k1]
              by_cases k2 : d = v ∧ c = i
              · rw [if_pos k2]
              · rw [if_neg k2, if_pos ⟨k1.2, k1.1⟩]
            · rw [if_neg k1]
              by_cases k2 : d = v ∧ c = i
              · rw [if_pos k2, if_pos ⟨k2.2, k2.1⟩]
              · rw [if_neg k2, if_neg fun z => k2 ⟨z.2, z.1⟩, if_neg fun z => k1 ⟨z.2, z.1⟩, this]
          · unfold updF
            split
            · exact hw
            · split
              · exact hw
              · exact hb c d
        · rintro E1 N1 ⟨v, wt, f, rfl, rfl, hf, hb⟩
          exact ⟨_, at_ + ((m : Int) - (i : Int)).toNat, _, _, f, rfl, rfl, hf, hb, by omega⟩
      · rintro E1 N1 ⟨u, at_, v, wt, f, rfl, rfl, hf, hb, _⟩
        exact ⟨_, _, _, _, f, rfl, rfl, hf, hb⟩
    · rintro E1 N1 ⟨u, at_, v, wt, f, rfl, rfl, hf, hb⟩
      refine blk_ret (ee_var rfl) ⟨(List.range m).map fun c => (List.range m).map (f c), mat_ok hf hb, (fun c hc => nomatch hc), .inr ⟨rfl, _, _, rfl, mat_reads (.head _) fun c hc => .tail _ (rCells_mem a f hc), fun c hc => ⟨hc, ?_⟩⟩⟩
      rcases List.mem_cons.mp hc with rfl | hc
      · rfl
      · obtain ⟨_, _, rfl⟩ := List.mem_map.mp hc; rfl⟩
/-! ### a drawn web -/
abbrev spWeb2 (K : PySem.W.Frag) : Sp := spN0 K (A := List Int × Nat × Nat × Bool) (R := Web) (fun p => [.sc p.1, .dt (.int (p.2.1 : Int)), .dt (.int (p.2.2.1 : Int)), .dt (.bool p.2.2.2)]) (fun p => p.2.2.1 ≤ 20) (fun p r => WebOk p.2.2.1 r) (fun _ _ => []) (fun _ r => .dt (eWeb r))
theorem ok__law_web (T : Txt K mg) : FnOk P w K mg base CX0 2 T.a__law_web T.d__law_web ["_law_script", "_law_at", "_law_many", "_law_free"] (spWeb2 K) :=
  fnN0 T.F__law_web sc__law_web (fun _ => rfl) fun cdv R outer s H E hr => ⟨_, (pss_cons (ps_set (i := 4) sc__law_web.nd rfl (Or.inr rfl) (pe_call (ok__law_draws T) (hr.mono (by omega)) (by rfl) T.g__law_draws T.F__law_draws.kp T.b__law_draws .nil pass0 (pa_cons (pe_call (ok__law_cell_at T) (hr.mono (by omega)) (by rfl) T.g__law_cell_at T.F__law_cell_at.kp T.b__law_cell_at .nil pass0 (pa_cons (pv 0) (pa_cons (pv 1) pa_nil))) (pa_cons (pe_op o_plus (pv 2) pe_int) (pa_cons pe_int (pa_cons (pv 3) pa_nil))))))
  (pss_cons (ps_setLc (i := 5) (own := [("_law_draw", 6)]) (g := gName 6) rfl sc__law_web.nd rfl rfl (sw_true rfl rfl rfl (by decide +kernel)) (pi_list (pe_slice (o_slice : SlR _ (rSlU K)) (pv 4) po_none (po_some (pv 2))) : PI _ _ _ (iList K _)) (blkOk_by (own := [("_law_draw", 6)]) (N := ["_law_script", "_law_at", "_law_many", "_law_free", "_law_draws_here", "_law_hues", "_law_draw", "_law_way", "_law_square_here"]) (sc := defScope s__law_web) (by decide +kernel)) (fun _ _ _ _ _ => (pg_name (i := 6) sc__law_web.nd rfl (Or.inl rfl))) (fun _ _ _ _ _ => pts_nil) (fun _ _ _ _ _ => (pe_op o_times (pv 6) (pe_callTy o_int (by rfl) T.n_int (by decide +kernel) (pa_cons (pe_cmpR op_gt (pe_ix (ix_seq : IxR _ (rIx K)) (pv 4) (pv 2) (fun _ _ => rfl)) pe_int (nomark _)) pa_nil)))))
  (pss_cons (ps_set (i := 7) sc__law_web.nd rfl (Or.inl rfl) (pe_op op_mod (pe_call (ok__law_cell_at T) (hr.mono (by omega)) (by rfl) T.g__law_cell_at T.F__law_cell_at.kp T.b__law_cell_at .nil pass0 (pa_cons (pv 0) (pa_cons (pe_op o_plus (pv 1) pe_int) pa_nil))) pe_int))
  (pss_cons (ps_set (i := 8) sc__law_web.nd rfl (Or.inl rfl) (pe_call (ok__law_square T) (hr.mono (by omega)) (by rfl) T.g__law_square T.F__law_square.kp T.b__law_square .nil pass0 (pa_cons (pv 2) (pa_cons (pe_call (ok__law_draws T) (hr.mono (by omega)) (by rfl) T.g__law_draws T.F__law_draws.kp T.b__law_draws .nil pass0 (pa_cons (pe_call (ok__law_cell_at T) (hr.mono (by omega)) (by rfl) T.g__law_cell_at T.F__law_cell_at.kp T.b__law_cell_at .nil pass0 (pa_cons (pv 0) (pa_cons (pe_op o_plus (pv 1) pe_int) pa_nil))) (pa_cons (pe_op o_fdiv (pe_op o_times (pv 2) (pe_op o_plus (pv 2) pe_int)) pe_int) (pa_cons pe_int (pa_cons (pv 3) pa_nil))))) (pa_cons (pv 7) pa_nil)))))
  (pss_one (ps_ret (pe_tup (pa_cons (pv 5) (pa_cons (pv 8) pa_nil))))))))), fun (ns, at_, m, fr) h1 => by
    have h1 : m ≤ 20 := h1
    have h3 := tri_le h1
    have hm1 : (m : Int) + 1 = ((m + 1 : Nat) : Int) := by omega
    refine bs_asg (g := .dt (eIs (drawsM (cellZ ns at_) (m + 1) 3 fr))) (M1 := []) (use_draws (by rw [← hm1]; walk_at "eka") (by omega) (.inr (by decide)) (by decide)) ?_
    have k1 := drawsM_len (cellZ ns at_) (m + 1) 3 fr
    have k2 := drawsM_rng (c := cellZ ns at_) (m := m + 1) (show (0 : Int) < 3 by decide) fr
    generalize drawsM (cellZ ns at_) (m + 1) 3 fr = ds at *
    have hm : m < ds.length := by omega
    have hds : ∀ i, 0 ≤ ds.getD i 0 ∧ ds.getD i 0 < 3 := fun i => by
      by_cases hi : i < ds.length
      · rw [getD_of hi]; exact k2 _ (List.getElem_mem hi)
      · rw [List.getD_eq_getElem?_getD, List.getElem?_eq_none (by omega)]; decide
    have hcut : cutD (ds.map PyData.int) none (some (m : Int)) = (ds.take m).map PyData.int := by rw [cut_take _ _ (by rw [List.length_map]; omega), List.map_take]
    refine bs_asg (g := .dt (eIs ((List.range m).map fun i => ds.getD i 0 * (if decide ((0 : Int) < ds.getD m 0) = true then 1 else 0)))) (M1 := []) ?_ ?_
    · refine ee_fz ?_
      refine ef_map (M1 := []) (fun i => .dt (.int (ds.getD i 0 * (if decide ((0 : Int) < ds.getD m 0) = true then 1 else 0)))) (ei_list (ds := (ds.take m).map PyData.int) (M1 := []) (by rw [← hcut]; exact ee_fz (by walk_at "ekf"))) (fun i hi => ?_) ?_ (by decide) ?_
      · rw [List.length_map, List.length_take] at hi
        have hi : i < m := by omega
        have e : ((ds.take m).map PyData.int).getD i .none = .int (ds.getD i 0) := by
          rw [getD_map PyData.int (by rw [List.length_take]; omega), List.getElem_take, getD_of (by omega)]
        rw [e]
        refine ee_op (ee_var rfl) (ee_cb (ea_p1 (ee_op (ee_op (ee_var rfl) (ee_var rfl) (x_list (ix_nat hm))) ee_int gt_int')) l_intB) (t_int (mulS ?_ (by split <;> decide)))
        have := hds i; omega
      · rw [List.length_map, List.length_take, Nat.min_eq_left (by omega), List.map_map, List.map_map]
        rfl
      · rw [List.length_map, List.length_take]; omega
    refine bs_asg (g := .dt (.int (cellZ ns ((at_ : Int) + 2) % 4))) (M1 := []) (by walk_at "ek") ?_
    refine bs_asgX (F := fun g M' => ∃ R, SqOk m R ∧ g = .dt (eIss R) ∧ M' = []) (EX.imp (ex_callN0 (m, drawsM (cellZ ns ((at_ : Int) + 1)) (tri m) 210 fr, cellZ ns ((at_ : Int) + 2) % 4) (M1 := []) ?_ ⟨h1, drawsM_len _ _ _ _⟩ fun _ c hc => nomatch hc) fun g M' ⟨r, h, e1, e2⟩ => ⟨r, h, e1, e2⟩) fun g M' ⟨R, hR, e1, e2⟩ => ?_
    · refine ea_p3 (ee_var rfl) (use_draws ?_ (by omega) (.inr (by decide)) (by decide)) (ee_var rfl)
      refine ea_p4 (by walk_at "ek") ?_ ee_int (ee_var rfl)
      rw [← tri_int]
      exact ee_op (ee_op (ee_var rfl) (ee_op (ee_var rfl) ee_int p_int) (t_int (mulS (by omega) (by omega)))) ee_int (d_pos ⟨by decide, by decide +kernel⟩)
    subst e1 e2
    refine blk_ret (g := .dt (eWeb (_, R))) (M1 := []) (by unfold eWeb; walk_at "ek") ⟨(_, R), ⟨?_, fun h hh => ?_, hR⟩, (fun c hc => nomatch hc), .inl ⟨rfl, List.nil_sublist _, fun c hc => nomatch hc⟩⟩
    · rw [List.length_map, List.length_range]
    · obtain ⟨i, _, rfl⟩ := List.mem_map.mp hh
      have := hds i
      split
      · rw [Int.mul_one]; exact this
      · rw [Int.mul_zero]; decide⟩
theorem use_web2 {E : GE} {M M1 : GM} {tr : TA} {X : XK} {ns : List Int} {at_ m : Nat} {fr : Bool} (h : EA K tr E M [.sc ns, .dt (.int (at_ : Int)), .dt (.int (m : Int)), .dt (.bool fr)] M1) (h1 : m ≤ 20) : EX K (tCall (spWeb2 K) [] X tr) E M (fun g M' => ∃ w, WebOk m w ∧ g = .dt (eWeb w) ∧ M' = M1) :=
  EX.imp (ex_callN0 (ns, at_, m, fr) h h1 fun _ c hc => nomatch hc) fun g M' ⟨r, h, e1, e2⟩ => ⟨r, h, e1, e2⟩
/-! ### things by numbers: _law_numbered -/
abbrev sp__law_numbered (K : PySem.W.Frag) : Sp := spF K (fun ds : List PyData => [.dt (.list ds)]) (fun ds => ds.length ≤ 1000 ∧ ∀ d ∈ ds, d.canLay0 = true ∧ d.depth ≤ 60) (fun ds => iG (numbM ds))
theorem ok__law_numbered (T : Txt K mg) : FnOk P w K mg base CX0 1 T.a__law_numbered T.d__law_numbered ["_law_things"] (sp__law_numbered K) :=
  fnF T.F__law_numbered sc__law_numbered (fun _ => rfl) fun cdv R outer s H E hr => ⟨_, (pss_cons (ps_set (i := 1) sc__law_numbered.nd rfl (Or.inl rfl) (pe_lst pa_nil))
  (pss_cons (ps_set (i := 2) sc__law_numbered.nd rfl (Or.inl rfl) (pe_lst pa_nil))
  (pss_cons (ps_for PassesOwn.never rfl (pi_list (pv 0) : PI _ _ _ (iList K _)) (pg_name (i := 3) sc__law_numbered.nd rfl (Or.inl rfl)) (pss_cons (ps_if (pt_cmpR (o_notin (hu65 hr) : OpR _ (compareOp .NotIn) (rNotInU K)) (pv 3) (pv 1) (by rfl)) (pss_one (ps_expr (pe_bm PySem.F.plainAttrs_list PySem.F.slot_list_append PySem.F.type_list_append mt_append (pv 1) (pa_cons (pv 3) pa_nil)))) pss_nil)
  (pss_one (ps_expr (pe_bm PySem.F.plainAttrs_list PySem.F.slot_list_append PySem.F.type_list_append mt_append (pv 2) (pa_cons (pe_bm PySem.F.plainAttrs_list PySem.F.slot_list_index PySem.F.type_list_index (mt_indexD (hu65 hr)) (pv 1) (pa_cons (pv 3) pa_nil)) pa_nil))))))
  (pss_one (ps_ret (pv 2)))))), fun ds ⟨h1, h2⟩ => by
    have h1 : ds.length ≤ 1000 := h1
    refine bs_asgF (xs := []) (M1 := []) (by walk_at "ekf") fun p => ?_
    refine bs_asgF (xs := []) (M1 := [(p, true, .lst [])]) (by walk_at "ekf") fun q => ?_
    refine blk_mid (Mid := fun E' M' => ∃ x, E' = [some (.dt (.list ds)), some (.rf p), some (.rf q), x] ∧ M' = [(q, true, .lst (iG (numbM ds))), (p, true, .lst ((numbSt ds).1.map .dt))]) ?_ ?_
    · refine blk_for (ei_list (ds := ds) (ee_var rfl)) (fun i E' M' => ∃ x, E' = [some (.dt (.list ds)), some (.rf p), some (.rf q), x] ∧ M' = [(q, true, .lst (iG (numbSt (ds.take i)).2)), (p, true, .lst ((numbSt (ds.take i)).1.map .dt))]) ⟨_, rfl, rfl⟩ ?_ ?_
      · rintro i E1 N1 hi ⟨x, rfl, rfl⟩
        rw [getD_of hi]
        have hd := h2 ds[i] (List.getElem_mem hi)
        have hin := numbSt_inv (ds.take i)
        rw [take_snoc hi, numbSt_snoc]
        have hti : (ds.take i).length = i := by rw [List.length_take]; omega
        have hmem : ∀ d ∈ ds.take i, d ∈ ds := fun d h => List.mem_of_mem_take h
        generalize numbSt (ds.take i) = z at hin ⊢
        obtain ⟨s, f⟩ := z
        obtain ⟨i1, i2, i3, i4⟩ := hin
        have i1 : f.length = (ds.take i).length := i1
        have i2 : s.length ≤ (ds.take i).length := i2
        have hsh : ∀ l : List PyData, (∀ d ∈ l, d ∈ ds) → SeqAt.shaped (.list l) = true := fun l h => shaped_iff.mpr ⟨by rw [canLay_list]; exact (canLayAll_iff _).mpr fun d hd => (h2 d (h d hd)).1, by rw [depth_list]; exact Nat.le_trans (Nat.succ_le_succ (m := 60) ((depthAll_le _).mpr fun d hd => (h2 d (h d hd)).2)) (by decide)⟩
        have hd1 : SeqAt.shaped ds[i] = true := shaped_iff.mpr ⟨hd.1, Nat.le_trans hd.2 (by decide)⟩
        have hs1 : ∀ d ∈ s, d ∈ ds := fun d h => hmem d (i4 d h)
        have hs2 : ∀ d ∈ (if (s.any fun e => PyData.eqv e ds[i]) = true then s else s ++ [ds[i]]), d ∈ ds := fun d h => by
          split at h
          · exact hs1 d h
          · rcases List.mem_append.mp h with h | h
            · exact hs1 d h
            · rw [List.mem_singleton] at h; rw [h]; exact List.getElem_mem hi
        obtain ⟨j, zz, j1, j2, j3, j4⟩ := numb_idx (s := s) (d := ds[i]) (eqv_self _ hd.1)
        rw [j4 f, iG_snoc]
        generalize hs' : (if (s.any fun e => PyData.eqv e ds[i]) = true then s else s ++ [ds[i]]) = s' at *
        refine blk_mid (Mid := fun E' M' => E' = [some (.dt (.list ds)), some (.rf p), some (.rf q), some (.dt ds[i])] ∧ M' = [(q, true, .lst (iG f)), (p, true, .lst (s'.map .dt))]) ?_ ?_
        · refine blk_when (et_test (ee_op (M3 := [(q, true, .lst (iG f)), (p, true, .lst (s.map .dt))]) (ee_var rfl) (ee_var rfl) (ni_ownU (.tail _ (.head _)) hd1 (hsh s hs1)))) (fun hb => ?_) (fun hb => ?_)
          · refine blk_app (j := 1) (M1 := [(q, true, .lst (iG f)), (p, true, .lst (s.map .dt))]) (ee_var rfl) (ee_var rfl) rfl rfl (by rw [List.length_map, sizeLine_eq]; omega) ⟨rfl, ?_⟩
            rw [← hs', if_neg (by rw [Bool.not_eq_true'] at hb; rw [hb]; exact Bool.false_ne_true), List.map_append]; rfl
          · refine ⟨rfl, ?_⟩
            rw [← hs', if_pos (by cases h : (s.any fun e => PyData.eqv e ds[i]) with | true => rfl | false => rw [h] at hb; cases hb)]
        · rintro E1 N1 ⟨rfl, rfl⟩
          exact blk_app (j := 0) (M1 := [(q, true, .lst (iG f)), (p, true, .lst (s'.map .dt))]) (ee_var rfl) (ee_index (ee_var rfl) (.tail _ (.head _)) (ee_var rfl) (.tail _ (.head _)) (hsh s' hs2) hd1 j1 j2 j3) rfl rfl (by rw [iG_len, sizeLine_eq]; omega) ⟨_, rfl, rfl⟩
      · rintro E1 N1 ⟨x, rfl, rfl⟩
        rw [List.take_length]
        exact ⟨_, rfl, rfl⟩
    · rintro E1 N1 ⟨x, rfl, rfl⟩
      exact blk_ret (ee_var rfl) ⟨q, rfl, .head _⟩⟩
theorem usef__law_numbered {E : GE} {M M1 : GM} {tr : TA} {X : XK} {ds : List PyData} (h : EA K tr E M [.dt (.list ds)] M1) (h1 : ds.length ≤ 1000) (h2 : ∀ d ∈ ds, d.canLay0 = true ∧ d.depth ≤ 60) : EF K (tCall (sp__law_numbered K) [] X tr) E M (iG (numbM ds)) M1 := ef_callF ds h ⟨h1, h2⟩
theorem use__law_numbered {E : GE} {M M1 : GM} {tr : TA} {X : XK} {ds : List PyData} (h : EA K tr E M [.dt (.list ds)] M1) (h1 : ds.length ≤ 1000) (h2 : ∀ d ∈ ds, d.canLay0 = true ∧ d.depth ≤ 60) : EE K (tCall (sp__law_numbered K) [] X tr) E M (.dt (eIs (numbM ds))) M1 := ee_fz (usef__law_numbered h h1 h2)
/-! ### things by numbers: numbered -/
abbrev sp_numbered (K : PySem.W.Frag) : Sp := spF K (fun ds : List PyData => [.dt (.list ds)]) (fun ds => ds.length ≤ 1000 ∧ ∀ d ∈ ds, d.canLay0 = true ∧ d.depth ≤ 60) (fun ds => iG (numbM ds))
theorem ok_numbered (T : Txt K mg) : FnOk P w K mg base CX0 1 T.a_numbered T.d_numbered ["things"] (sp_numbered K) :=
  fnF T.F_numbered sc_numbered (fun _ => rfl) fun cdv R outer s H E hr => ⟨_, (pss_cons (ps_set (i := 1) sc_numbered.nd rfl (Or.inl rfl) (pe_lst pa_nil))
  (pss_cons (ps_set (i := 2) sc_numbered.nd rfl (Or.inl rfl) (pe_lst pa_nil))
  (pss_cons (ps_for PassesOwn.never rfl (pi_list (pv 0) : PI _ _ _ (iList K _)) (pg_name (i := 3) sc_numbered.nd rfl (Or.inl rfl)) (pss_cons (ps_if (pt_cmpR (o_notin (hu65 hr) : OpR _ (compareOp .NotIn) (rNotInU K)) (pv 3) (pv 1) (by rfl)) (pss_one (ps_expr (pe_bm PySem.F.plainAttrs_list PySem.F.slot_list_append PySem.F.type_list_append mt_append (pv 1) (pa_cons (pv 3) pa_nil)))) pss_nil)
  (pss_one (ps_expr (pe_bm PySem.F.plainAttrs_list PySem.F.slot_list_append PySem.F.type_list_append mt_append (pv 2) (pa_cons (pe_bm PySem.F.plainAttrs_list PySem.F.slot_list_index PySem.F.type_list_index (mt_indexD (hu65 hr)) (pv 1) (pa_cons (pv 3) pa_nil)) pa_nil))))))
  (pss_one (ps_ret (pv 2)))))), fun ds ⟨h1, h2⟩ => by
    have h1 : ds.length ≤ 1000 := h1
    refine bs_asgF (xs := []) (M1 := []) (by walk_at "ekf") fun p => ?_
    refine bs_asgF (xs := []) (M1 := [(p, true, .lst [])]) (by walk_at "ekf") fun q => ?_
    refine blk_mid (Mid := fun E' M' => ∃ x, E' = [some (.dt (.list ds)), some (.rf p), some (.rf q), x] ∧ M' = [(q, true, .lst (iG (numbM ds))), (p, true, .lst ((numbSt ds).1.map .dt))]) ?_ ?_
    · refine blk_for (ei_list (ds := ds) (ee_var rfl)) (fun i E' M' => ∃ x, E' = [some (.dt (.list ds)), some (.rf p), some (.rf q), x] ∧ M' = [(q, true, .lst (iG (numbSt (ds.take i)).2)), (p, true, .lst ((numbSt (ds.take i)).1.map .dt))]) ⟨_, rfl, rfl⟩ ?_ ?_
      · rintro i E1 N1 hi ⟨x, rfl, rfl⟩
        rw [getD_of hi]
        have hd := h2 ds[i] (List.getElem_mem hi)
        have hin := numbSt_inv (ds.take i)
        rw [take_snoc hi, numbSt_snoc]
        have hti : (ds.take i).length = i := by rw [List.length_take]; omega
        have hmem : ∀ d ∈ ds.take i, d ∈ ds := fun d h => List.mem_of_mem_take h
        generalize numbSt (ds.take i) = z at hin ⊢
        obtain ⟨s, f⟩ := z
        obtain ⟨i1, i2, i3, i4⟩ := hin
        have i1 : f.length = (ds.take i).length := i1
        have i2 : s.length ≤ (ds.take i).length := i2
        have hsh : ∀ l : List PyData, (∀ d ∈ l, d ∈ ds) → SeqAt.shaped (.list l) = true := fun l h => shaped_iff.mpr ⟨by rw [canLay_list]; exact (canLayAll_iff _).mpr fun d hd => (h2 d (h d hd)).1, by rw [depth_list]; exact Nat.le_trans (Nat.succ_le_succ (m := 60) ((depthAll_le _).mpr fun d hd => (h2 d (h d hd)).2)) (by decide)⟩
        have hd1 : SeqAt.shaped ds[i] = true := shaped_iff.mpr ⟨hd.1, Nat.le_trans hd.2 (by decide)⟩
        have hs1 : ∀ d ∈ s, d ∈ ds := fun d h => hmem d (i4 d h)
        have hs2 : ∀ d ∈ (if (s.any fun e => PyData.eqv e ds[i]) = true then s else s ++ [ds[i]]), d ∈ ds := fun d h => by
          split at h
          · exact hs1 d h
          · rcases List.mem_append.mp h with h | h
            · exact hs1 d h
            · rw [List.mem_singleton] at h; rw [h]; exact List.getElem_mem hi
        obtain ⟨j, zz, j1, j2, j3, j4⟩ := numb_idx (s := s) (d := ds[i]) (eqv_self _ hd.1)
        rw [j4 f, iG_snoc]
        generalize hs' : (if (s.any fun e => PyData.eqv e ds[i]) = true then s else s ++ [ds[i]]) = s' at *
        refine blk_mid (Mid := fun E' M' => E' = [some (.dt (.list ds)), some (.rf p), some (.rf q), some (.dt ds[i])] ∧ M' = [(q, true, .lst (iG f)), (p, true, .lst (s'.map .dt))]) ?_ ?_
        · refine blk_when (et_test (ee_op (M3 := [(q, true, .lst (iG f)), (p, true, .lst (s.map .dt))]) (ee_var rfl) (ee_var rfl) (ni_ownU (.tail _ (.head _)) hd1 (hsh s hs1)))) (fun hb => ?_) (fun hb => ?_)
          · refine blk_app (j := 1) (M1 := [(q, true, .lst (iG f)), (p, true, .lst (s.map .dt))]) (ee_var rfl) (ee_var rfl) rfl rfl (by rw [List.length_map, sizeLine_eq]; omega) ⟨rfl, ?_⟩
            rw [← hs', if_neg (by rw [Bool.not_eq_true'] at hb; rw [hb]; exact Bool.false_ne_true), List.map_append]; rfl
          · refine ⟨rfl, ?_⟩
            rw [← hs', if_pos (by cases h : (s.any fun e => PyData.eqv e ds[i]) with | true => rfl | false => rw [h] at hb; cases hb)]
        · rintro E1 N1 ⟨rfl, rfl⟩
          exact blk_app (j := 0) (M1 := [(q, true, .lst (iG f)), (p, true, .lst (s'.map .dt))]) (ee_var rfl) (ee_index (ee_var rfl) (.tail _ (.head _)) (ee_var rfl) (.tail _ (.head _)) (hsh s' hs2) hd1 j1 j2 j3) rfl rfl (by rw [iG_len, sizeLine_eq]; omega) ⟨_, rfl, rfl⟩
      · rintro E1 N1 ⟨x, rfl, rfl⟩
        rw [List.take_length]
        exact ⟨_, rfl, rfl⟩
    · rintro E1 N1 ⟨x, rfl, rfl⟩
      exact blk_ret (ee_var rfl) ⟨q, rfl, .head _⟩⟩
theorem usef_numbered {E : GE} {M M1 : GM} {tr : TA} {X : XK} {ds : List PyData} (h : EA K tr E M [.dt (.list ds)] M1) (h1 : ds.length ≤ 1000) (h2 : ∀ d ∈ ds, d.canLay0 = true ∧ d.depth ≤ 60) : EF K (tCall (sp_numbered K) [] X tr) E M (iG (numbM ds)) M1 := ef_callF ds h ⟨h1, h2⟩
theorem use_numbered {E : GE} {M M1 : GM} {tr : TA} {X : XK} {ds : List PyData} (h : EA K tr E M [.dt (.list ds)] M1) (h1 : ds.length ≤ 1000) (h2 : ∀ d ∈ ds, d.canLay0 = true ∧ d.depth ≤ 60) : EE K (tCall (sp_numbered K) [] X tr) E M (.dt (eIs (numbM ds))) M1 := ee_fz (usef_numbered h h1 h2)
/-! ### what a place weighs to each lot; looks -/
abbrev spWts (K : PySem.W.Frag) : Sp := sp0 K (fun p : Web × List Int × Nat => [.dt (eWeb p.1), .dt (eIs p.2.1), .dt (.int (p.2.2 : Int))]) (fun p => Fit p.1 p.2.1 ∧ p.2.2 < p.2.1.length) (fun p => .dt (eIs (wtM p.2.1 (p.1.2.getD p.2.2 []))))
theorem ok_weights_to (T : Txt K mg) : FnOk P w K mg base CX0 1 T.a_weights_to T.d_weights_to ["web", "lots", "place"] (spWts K) :=
  fn0 T.F_weights_to sc_weights_to (fun _ => rfl) fun cdv R outer s H E hr => ⟨_, (pss_cons (ps_set (i := 3) sc_weights_to.nd rfl (Or.inl rfl) (pe_op o_times (pe_lst (pa_cons pe_int pa_nil)) (pe_op o_plus (pe_callB (cr_max rfl : CallR _ (.builtin "max") (rMax K)) (by rfl) T.n_max (by decide +kernel) (pa_cons (pv 1) pa_nil)) pe_int)))
  (pss_cons (ps_for PassesOwn.never rfl (pi_zip (by rfl) T.n_zip (pa_cons (pv 1) (pa_cons (pe_ix (ix_seq : IxR _ (rIx K)) (pe_ix (ix_seq : IxR _ (rIx K)) (pv 0) pe_int (fun _ _ => rfl)) (pv 2) (fun _ _ => rfl)) pa_nil)) : PI _ _ _ (iZip K _)) (pg_tup rfl (pgs_cons (pg_name (i := 4) sc_weights_to.nd rfl (Or.inl rfl)) (pgs_cons (pg_name (i := 5) sc_weights_to.nd rfl (Or.inl rfl)) pgs_nil))) (pss_one (ps_augS (pv 3) (pv 4) o_getL' (pv 5) ip_add set_list)))
  (pss_one (ps_ret (pv 3))))), fun (w, ls, u) ⟨hf, hu⟩ => by
    have hf : Fit w ls := hf
    have hu : u < ls.length := hu
    have hrow := hf.row hu
    obtain ⟨f1, f2, f3, f4, f5⟩ := hf
    obtain ⟨m1, m2⟩ := mxL_spec (fun x hx => (f5 x hx).1) (by omega)
    have m3 := f5 _ m1
    have hix := ix_isN (xs := w.2) (i := u) (by omega)
    show Blk K _ (begin_ _ [.dt (.tuple [eIs w.1, eIss w.2]), .dt (eIs ls), .dt (.int (u : Int))]) [] (ends0 (.dt (eIs (wtM ls (w.2.getD u [])))))
    generalize w.2.getD u [] = row at *
    refine bs_asgF (xs := iG ((List.range (mxL ls + 1)).map fun l : Nat => sumTo (ls.take 0) (row.take 0) l)) (M1 := []) ?_ fun p => ?_
    · refine EF.eq (ef_op (ee_fzU (ef_lst (ea_p1 ee_int) (lenB rfl)) rfl) (ee_op (y := .dt (.int 1)) (g := .dt (.int ((mxL ls : Int) + 1))) (ee_maxL (ee_var rfl) (by omega) _ m1 m2) ee_int p_int) (t_oneF (by omega) (by omega) (by omega))) ?_
      rw [iG, List.map_map, List.map_map, show ((mxL ls : Int) + 1).toNat = mxL ls + 1 by omega]
      exact (List.map_replicate).trans (List.eq_replicate_iff.mpr ⟨by simp, fun b hb => by obtain ⟨_, _, rfl⟩ := List.mem_map.mp hb; rfl⟩).symm
    refine blk_mid (Mid := fun E' M' => ∃ x y, E' = [some (.dt (.tuple [eIs w.1, eIss w.2])), some (.dt (eIs ls)), some (.dt (.int (u : Int))), some (.rf p), x, y] ∧ M' = [(p, true, .lst (iG (wtM ls row)))]) ?_ ?_
    · refine blk_for (ei_zip (ds := ls.map .int) (es := row.map .int) (ee_var rfl) (ee_op (ee_op (ee_var rfl) ee_int (x_tup rfl)) (ee_var rfl) (x_list hix))) (fun i E' M' => ∃ x y, E' = [some (.dt (.tuple [eIs w.1, eIss w.2])), some (.dt (eIs ls)), some (.dt (.int (u : Int))), some (.rf p), x, y] ∧ M' = [(p, true, .lst (iG ((List.range (mxL ls + 1)).map fun l : Nat => sumTo (ls.take i) (row.take i) l)))]) ⟨_, _, rfl, rfl⟩ ?_ ?_
      · rintro i E1 N1 hi ⟨x, y, rfl, rfl⟩
        rw [List.length_map, List.length_map] at hi
        have hi1 : i < ls.length := by omega
        have hi2 : i < row.length := by omega
        rw [getD_map PyData.int hi1, getD_map PyData.int hi2]
        have hm := List.getElem_mem hi1
        have a1 := f5 _ hm
        have a2 := m2 _ hm
        rw [take_snoc hi1, take_snoc hi2]
        have hst : ∀ l : Int, sumTo (ls.take i ++ [ls[i]]) (row.take i ++ [row[i]]) l = sumTo (ls.take i) (row.take i) l + if ls[i] = l then row[i] else 0 := fun l => sumTo_snoc (by rw [List.length_take, List.length_take]; omega) _ _ _
        have e2 : (List.range (mxL ls + 1)).map (fun l : Nat => sumTo (ls.take i ++ [ls[i]]) (row.take i ++ [row[i]]) l) = (List.range (mxL ls + 1)).map fun l : Nat => sumTo (ls.take i) (row.take i) l + if ls[i] = (l : Int) then row[i] else 0 := List.map_congr_left fun l _ => hst l
        rw [e2]
        generalize row[i] = b at *
        generalize ls[i] = a at *
        obtain ⟨k, rfl⟩ : ∃ k : Nat, a = (k : Int) := ⟨a.toNat, by omega⟩
        have hk : k < mxL ls + 1 := by omega
        refine blk_augL (j := 0) (n0 := k) (i := (k : Int)) (a := sumTo (ls.take i) (row.take i) k) (c := b) (xs := iG ((List.range (mxL ls + 1)).map fun l : Nat => sumTo (ls.take i) (row.take i) l)) (ee_var rfl) (ee_var rfl) (.head _) (by omega) (atI_nat ?_) (ee_var rfl) rfl (by rw [iG_len, List.length_map, List.length_range]; exact Evl.ixN_nat hk) ⟨_, _, rfl, ?_⟩
        · rw [List.getElem?_map, List.getElem?_map, getElem_range_map _ hk]; rfl
        · rw [iG_set, set_range]
          show [(p, true, GO.lst (iG _))] = [(p, true, GO.lst (iG _))]
          congr 5
          refine List.map_congr_left fun l _ => ?_
          by_cases e : l = k
          · subst e; rw [if_pos rfl, if_pos rfl]
          · rw [if_neg e, if_neg (by omega), Int.add_zero]
      · rintro E1 N1 ⟨x, y, rfl, rfl⟩
        rw [List.length_map, List.length_map, hrow, Nat.min_self, List.take_length, List.take_of_length_le (by omega)]
        exact ⟨_, _, rfl, rfl⟩
    · rintro E1 N1 ⟨x, y, rfl, rfl⟩
      exact blk_ret (ee_var rfl) (.inr ⟨p, _, rfl, rfl, .head _⟩)⟩
theorem use_weights_to {E : GE} {M M1 : GM} {tr : TA} {X : XK} {w : Web} {ls : List Int} {u : Nat} (h : EA K tr E M [.dt (eWeb w), .dt (eIs ls), .dt (.int (u : Int))] M1) (hf : Fit w ls) (hu : u < ls.length) : EE K (tCall (spWts K) [] X tr) E M (.dt (eIs (wtM ls (w.2.getD u [])))) M1 := ee_call0 (w, ls, u) h ⟨hf, hu⟩
abbrev spLooks (K : PySem.W.Frag) : Sp := sp0 K (fun p : Web × List Int => [.dt (eWeb p.1), .dt (eIs p.2)]) (fun p => Fit p.1 p.2) (fun p => .dt (.list ((List.range p.2.length).map (lookD p.1 p.2))))
theorem ok_looks_of (T : Txt K mg) : FnOk P w K mg base CX0 2 T.a_looks_of T.d_looks_of ["web", "lots"] (spLooks K) :=
  fn0 T.F_looks_of sc_looks_of (fun _ => rfl) fun cdv R outer s H E hr => ⟨_, (pss_one (ps_ret (pe_lc (own := [("place", 2), ("lot", 3)]) (g := gTup K 2 (gCons (gName 2) (gCons (gName 3) gNil))) rfl sc_looks_of.nd (pi_enum (by rfl) T.n_enumerate (pa_cons (pv 1) pa_nil) : PI _ _ _ (iEnum K _)) (blkOk_by (own := [("place", 2), ("lot", 3)]) (N := ["web", "lots", "place", "lot"]) (sc := defScope s_looks_of) (by decide +kernel)) (fun _ _ _ _ _ => (pg_tup rfl (pgs_cons (pg_name (i := 2) sc_looks_of.nd rfl (Or.inl rfl)) (pgs_cons (pg_name (i := 3) sc_looks_of.nd rfl (Or.inl rfl)) pgs_nil)))) (fun _ _ _ _ _ => pts_nil) (fun _ _ _ _ _ => (pe_tup (pa_cons (pv 3) (pa_cons (pe_ix (ix_seq : IxR _ (rIx K)) (pe_ix (ix_seq : IxR _ (rIx K)) (pv 0) pe_int (fun _ _ => rfl)) (pv 2) (fun _ _ => rfl)) (pa_cons (pe_call (ok_weights_to T) (hr.mono (by omega)) (by rfl) T.g_weights_to T.F_weights_to.kp T.b_weights_to .nil pass0 (pa_cons (pv 0) (pa_cons (pv 1) (pa_cons (pv 2) pa_nil)))) pa_nil)))))))), fun (w, ls) hf => by
    have hf : Fit w ls := hf
    refine blk_ret (g := .dt (.list ((List.range ls.length).map (lookD w ls)))) (M1 := []) (ee_fz (ef_map (M1 := []) (fun i => .dt (lookD w ls i)) (ei_enum (ds := ls.map .int) (ee_var rfl)) (fun i hi => ?_) ?_ (by decide) ?_)) (.inl rfl)
    · rw [List.length_map] at hi
      rw [getD_map PyData.int hi, ← getD_of hi 0]
      exact ee_tupU (ea_p3 (ee_var rfl) (ee_op (ee_op (ee_var rfl) ee_int (x_tup rfl)) (ee_var rfl) (x_list (ix_nat (by rw [hf.1]; exact hi)))) (use_weights_to (ea_p3 (ee_var rfl) (ee_var rfl) (ee_var rfl)) hf hi)) rfl (lenB rfl)
    · rw [List.length_map, List.map_map]; rfl
    · rw [List.length_map]; have := hf.2.2.2.1; omega⟩
theorem use_looks_of {E : GE} {M M1 : GM} {tr : TA} {X : XK} {w : Web} {ls : List Int} (h : EA K tr E M [.dt (eWeb w), .dt (eIs ls)] M1) (hf : Fit w ls) : EE K (tCall (spLooks K) [] X tr) E M (.dt (.list ((List.range ls.length).map (lookD w ls)))) M1 := ee_call0 (w, ls) h hf
/-! ### the coarsest parting -/
theorem ints_lay (xs : List Int) : ∀ d ∈ xs.map PyData.int, d.canLay0 = true ∧ d.depth ≤ 60 := fun d h => by
  obtain ⟨_, _, rfl⟩ := List.mem_map.mp h
  exact ⟨rfl, Nat.zero_le _⟩
noncomputable abbrev spCoarse (K : PySem.W.Frag) : Sp := spF K (fun w : Web => [.dt (eWeb w)]) (fun w => WFit w) (fun w => iG (coarseM w))
theorem ok_coarsest_parting (T : Txt K mg) : FnOk P w K mg base CX0 3 T.a_coarsest_parting T.d_coarsest_parting ["web"] (spCoarse K) :=
  fnF T.F_coarsest_parting sc_coarsest_parting (fun _ => rfl) fun cdv R outer s H E hr => ⟨_, (pss_cons (ps_set (i := 1) sc_coarsest_parting.nd rfl (Or.inl rfl) (pe_call (ok_numbered T) (hr.mono (by omega)) (by rfl) T.g_numbered T.F_numbered.kp T.b_numbered .nil pass0 (pa_cons (pe_ix (ix_seq : IxR _ (rIx K)) (pv 0) pe_int (fun _ _ => rfl)) pa_nil)))
  (pss_cons (ps_set (i := 2) sc_coarsest_parting.nd rfl (Or.inl rfl) (pe_call (ok_numbered T) (hr.mono (by omega)) (by rfl) T.g_numbered T.F_numbered.kp T.b_numbered .nil pass0 (pa_cons (pe_call (ok_looks_of T) (hr.mono (by omega)) (by rfl) T.g_looks_of T.F_looks_of.kp T.b_looks_of .nil pass0 (pa_cons (pv 0) (pa_cons (pv 1) pa_nil))) pa_nil)))
  (pss_cons (ps_while PassesOwn.never (pt_cmpR (op_neD (hu64 hr) : OpR _ (compareOp .NotEq) (rNeD K)) (pv 2) (pv 1) (nomark _)) (pss_cons (ps_set (i := 1) sc_coarsest_parting.nd rfl (Or.inl rfl) (pv 2))
  (pss_one (ps_set (i := 2) sc_coarsest_parting.nd rfl (Or.inl rfl) (pe_call (ok_numbered T) (hr.mono (by omega)) (by rfl) T.g_numbered T.F_numbered.kp T.b_numbered .nil pass0 (pa_cons (pe_call (ok_looks_of T) (hr.mono (by omega)) (by rfl) T.g_looks_of T.F_looks_of.kp T.b_looks_of .nil pass0 (pa_cons (pv 0) (pa_cons (pv 1) pa_nil))) pa_nil))))))
  (pss_one (ps_ret (pv 1)))))), fun w hw => by
    have hw : WFit w := hw
    have hm := hw.2.2
    have hfin : ∀ {ls : List Int} {x : Option GV} {p : Addr} {M0 : GM} {X1 X2 : XK}, CI w ls → (p, true, GO.lst (iG ls)) ∈ M0 → EF K (tCall (sp_numbered K) [] X1 (tCons (tCall (spLooks K) [] X2 (tCons (tVar 0) (tCons (tVar 1) tNil))) tNil)) [some (.dt (eWeb w)), some (.rf p), x] M0 (iG (crs w ls)) M0 := fun {ls x p M0 X1 X2} hc hmem => by
      have hf := hc.fit hw
      refine ef_lend [some (.dt (eWeb w)), some (.dt (eIs ls)), x] (usef_numbered (ea_p1 (use_looks_of (ea_p2 (ee_var rfl) (ee_var rfl)) hf)) ?_ fun d hd => ?_) (lends_one (i := 1) rfl hmem) (atom_ints _)
      · rw [List.length_map, List.length_range]; exact hf.2.2.2.1
      · obtain ⟨u, _, rfl⟩ := List.mem_map.mp hd
        exact ⟨pl_lay _ (pl_look w ls u), Nat.le_trans (dep_look w ls u) (by decide)⟩
    refine bs_asgF (usef_numbered (ds := w.1.map .int) (M1 := []) (by walk_at "eka") (by rw [List.length_map]; exact hm) (ints_lay _)) fun p => ?_
    refine bs_asgF (M1 := [(p, true, .lst (iG (numbM (w.1.map .int))))]) (hfin ci_start (.head _)) fun q => ?_
    refine blk_mid (Mid := fun E' M' => ∃ p x, E' = [some (.dt (eWeb w)), some (.rf p), x] ∧ (p, true, GO.lst (iG (coarseM w))) ∈ M') ?_ ?_
    · refine blk_while (fun k E' M' => ∃ ls p q N, E' = [some (.dt (eWeb w)), some (.rf p), some (.rf q)] ∧ M' = (q, true, .lst (iG (crs w ls))) :: (p, true, .lst (iG ls)) :: N ∧ CI w ls ∧ cntP w.1.length ls ≤ k) (cntP w.1.length (numbM (w.1.map .int))) ⟨_, p, q, [], rfl, rfl, ci_start, Nat.le_refl _⟩ ?_
      rintro k E1 N1 ⟨ls, p, q, N, rfl, rfl, hc, hk⟩
      refine ⟨_, _, et_lend [some (.dt (eWeb w)), some (.dt (eIs ls)), some (.dt (eIs (crs w ls)))] (et_test (ee_op (ee_var rfl) (ee_var rfl) (r2_neD (sh_is _) (sh_is _)))) (Lends.trans (lends_one (i := 1) (fl := true) (p := p) (ds := ls.map .int) rfl (.tail _ (.head _))) (lends_one (i := 2) (fl := true) (p := q) (ds := (crs w ls).map .int) rfl (.head _))), fun hb => ?_, fun hb => ?_⟩
      · rw [eqv_is] at hb
        have hne : crs w ls ≠ ls := by simpa using hb
        refine bs_asg (ee_var rfl) ?_
        refine blk_asgF (M1 := (q, true, .lst (iG (crs w ls))) :: (p, true, .lst (iG ls)) :: N) (hfin (ci_step hw hc) (.head _)) fun q2 => ?_
        have hlt := cnt_lt hw hc hne
        exact ⟨cntP w.1.length (crs w ls), by omega, crs w ls, q, q2, _, rfl, rfl, ci_step hw hc, Nat.le_refl _⟩
      · rw [eqv_is] at hb
        have he : crs w ls = ls := by simpa using hb
        refine ⟨p, _, rfl, ?_⟩
        rw [← coarse_of hw (ci_end hc he)]
        exact .tail _ (.head _)
    · rintro E1 N1 ⟨p, x, rfl, hmem⟩
      exact blk_ret (ee_var rfl) ⟨p, rfl, hmem⟩⟩
theorem usef_coarsest {E : GE} {M M1 : GM} {tr : TA} {X : XK} {w : Web} (h : EA K tr E M [.dt (eWeb w)] M1) (hw : WFit w) : EF K (tCall (spCoarse K) [] X tr) E M (iG (coarseM w)) M1 := ef_callF w h hw
/-! ### a web renamed by an order: web_renamed -/
abbrev spRen_web_renamed (K : PySem.W.Frag) : Sp := sp0 K (fun p : Web × List Nat => [.dt (eWeb p.1), .dt (eIs (nI p.2))]) (fun p => WFit p.1 ∧ Ord p.1.1.length p.2) (fun p => .dt (eWeb (renW p.1 p.2)))
theorem ok_web_renamed (T : Txt K mg) : FnOk P w K mg base CX0 1 T.a_web_renamed T.d_web_renamed ["web", "order"] (spRen_web_renamed K) :=
  fn0 T.F_web_renamed sc_web_renamed (fun _ => rfl) fun cdv R outer s H E hr => ⟨_, (pss_cons (ps_asg (pv 0) (pg_tup rfl (pgs_cons (pg_name (i := 2) sc_web_renamed.nd rfl (Or.inr rfl)) (pgs_cons (pg_name (i := 3) sc_web_renamed.nd rfl (Or.inr rfl)) pgs_nil))))
  (pss_cons (ps_if (pt_cmpR (op_neD (hu64 hr) : OpR _ (compareOp .NotEq) (rNeD K)) (pe_callB (cr_sortedI : CallR _ (.builtin "sorted") (rSortedI K)) (by rfl) T.n_sorted (by decide +kernel) (pa_cons (pv 1) pa_nil)) (pe_listRg rfl (by rfl) T.n_list (prg_1 (by rfl) T.n_range (pe_callB (o_len : CallR _ (.builtin "len") (rLenU K)) (by rfl) T.n_len PySem.boot_len (pa_cons (pv 2) pa_nil)))) (nomark _)) (pss_one ps_never) pss_nil)
  (pss_one (ps_ret (pe_tup (pa_cons (pe_lc (own := [("u", 4)]) (g := gName 4) rfl sc_web_renamed.nd (pi_list (pv 1) : PI _ _ _ (iList K _)) (blkOk_by (own := [("u", 4)]) (N := ["web", "order", "hues", "rows", "u", "v"]) (sc := defScope s_web_renamed) (by decide +kernel)) (fun _ _ _ _ _ => (pg_name (i := 4) sc_web_renamed.nd rfl (Or.inl rfl))) (fun _ _ _ _ _ => pts_nil) (fun _ _ _ _ _ => (pe_ix (ix_seq : IxR _ (rIx K)) (pv 2) (pv 4) (fun _ _ => rfl)))) (pa_cons (pe_lc (own := [("u", 4)]) (g := gName 4) rfl sc_web_renamed.nd (pi_list (pv 1) : PI _ _ _ (iList K _)) (blkOk_by (own := [("u", 4)]) (N := ["web", "order", "hues", "rows", "u", "v"]) (sc := defScope s_web_renamed) (by decide +kernel)) (fun _ _ _ _ _ => (pg_name (i := 4) sc_web_renamed.nd rfl (Or.inr rfl))) (fun _ _ _ _ _ => pts_nil) (fun _ _ _ _ _ => (pe_lc (own := [("v", 5)]) (g := gName 5) rfl sc_web_renamed.nd (pi_list (pv 1) : PI _ _ _ (iList K _)) (blkOk_by (own := [("v", 5)]) (by rfl)) (fun _ _ _ _ _ => (pg_name (i := 5) sc_web_renamed.nd rfl (Or.inl rfl))) (fun _ _ _ _ _ => pts_nil) (fun _ _ _ _ _ => (pe_ix (ix_seq : IxR _ (rIx K)) (pe_ix (ix_seq : IxR _ (rIx K)) (pv 3) (pv 4) (fun _ _ => rfl)) (pv 5) (fun _ _ => rfl)))))) pa_nil))))))), fun (w, o) ⟨hw, ho⟩ => by
    have hw : WFit w := hw
    have ho : Ord w.1.length o := ho
    have hlen := ho.len
    have hm := hw.2.2
    have hat : ∀ {i : Nat}, i < o.length → o.getD i 0 < w.1.length := fun {i} h => ho.lt (by omega)
    show Blk K _ (begin_ _ [.dt (.tuple [eIs w.1, eIss w.2]), .dt (eIs (nI o))]) [] (ends0 (.dt (.tuple [eIs (renW w o).1, eIss (renW w o).2])))
    refine blk_seq (blk_asgT2 (ee_var rfl) ?_)
    refine bs_when (b := false) (M1 := []) ?_ (fun h => by cases h) (fun _ => ?_)
    · refine et_test (EE.eq (ee_op (x := .dt (eIs (nI (List.range w.1.length)))) (y := .dt (eIs (nI (List.range w.1.length)))) (M1 := []) (M2 := []) ?_ ?_ (r2_neD (sh_is _) (sh_is _))) ?_)
      · exact ee_fz (ef_sorted (ns := nI o) (ms := nI (List.range w.1.length)) (M1 := []) (ee_var rfl) (List.Perm.map _ ho).symm (nI_srt _))
      · refine ee_fz (ef_listRg (n := w.1.length) ?_ (by omega))
        exact EE.eq (ee_cb (ea_p1 (ee_var rfl)) l_list) (by rw [List.length_map])
      · rw [eqv_refl' (sh_is _)]; rfl
    refine blk_ret (ee_tupU (ea_p2 (ee_fz (ds := (renW w o).1.map .int) (M1 := []) (ef_map (M1 := []) (fun i => .dt (.int (w.1.getD (o.getD i 0) 0))) (ei_list (ds := (nI o).map .int) (ee_var rfl)) (fun i hi => ?_) ?_ (by decide) ?_)) (ee_fz (ds := (renW w o).2.map eIs) (M1 := []) (ef_map (M1 := []) (fun u => .dt (eIs (o.map fun v => (w.2.getD (o.getD u 0) []).getD v 0))) (ei_list (ds := (nI o).map .int) (ee_var rfl)) (fun u hu => ?_) ?_ (by decide) ?_))) rfl (lenB rfl)) (.inl rfl)
    · rw [List.length_map, List.length_map] at hi
      rw [getD_int (by rw [List.length_map]; exact hi), nI_get hi]
      exact ee_op (ee_var rfl) (ee_var rfl) (x_list (ix_nat (hat hi)))
    · rw [List.length_map, List.length_map]
      show _ = ((o.map fun p => w.1.getD p 0).map PyData.int).map GV.dt
      rw [List.map_map, List.map_map]
      exact range_getD o 0 (fun p => GV.dt (.int (w.1.getD p 0)))
    · rw [List.length_map, List.length_map]; omega
    · rw [List.length_map, List.length_map] at hu
      rw [getD_int (by rw [List.length_map]; exact hu), nI_get hu]
      have hr := hw.row (hat hu)
      refine ee_fz (ds := (o.map fun v => (w.2.getD (o.getD u 0) []).getD v 0).map .int) (ef_map (M1 := []) (fun i => .dt (.int ((w.2.getD (o.getD u 0) []).getD (o.getD i 0) 0))) (ei_list (ds := (nI o).map .int) (ee_var rfl)) (fun i hi => ?_) ?_ (by decide) ?_)
      · rw [List.length_map, List.length_map] at hi
        rw [getD_int (by rw [List.length_map]; exact hi), nI_get hi]
        exact ee_op (ee_op (ee_var rfl) (ee_var rfl) (x_list (ix_isN (by rw [hw.1]; exact hat hu)))) (ee_var rfl) (x_list (ix_nat (by rw [hr]; exact hat hi)))
      · rw [List.length_map, List.length_map, List.map_map, List.map_map]
        exact range_getD o 0 (fun p => GV.dt (.int ((w.2.getD (o.getD u 0) []).getD p 0)))
      · rw [List.length_map, List.length_map]; omega
    · rw [List.length_map, List.length_map]
      show _ = ((o.map fun u => o.map fun v => (w.2.getD u []).getD v 0).map eIs).map GV.dt
      rw [List.map_map, List.map_map]
      exact range_getD o 0 (fun p => GV.dt (eIs (o.map fun v => (w.2.getD p []).getD v 0)))
    · rw [List.length_map, List.length_map]; omega⟩
theorem use_ren_web_renamed {E : GE} {M M1 : GM} {tr : TA} {X : XK} {w : Web} {o : List Nat} (h : EA K tr E M [.dt (eWeb w), .dt (eIs (nI o))] M1) (hw : WFit w) (ho : Ord w.1.length o) : EE K (tCall (spRen_web_renamed K) [] X tr) E M (.dt (eWeb (renW w o))) M1 := ee_call0 (w, o) h ⟨hw, ho⟩
/-! ### a drawn order -/
abbrev spOrder (K : PySem.W.Frag) : Sp := spN0 K (A := Int × Nat × Bool) (R := List Nat) (fun p => [.dt (.int p.1), .dt (.int (p.2.1 : Int)), .dt (.bool p.2.2)]) (fun p => p.2.1 ≤ 1000) (fun p r => Ord p.2.1 r) (fun _ _ => []) (fun _ r => .dt (eIs (nI r)))
theorem ok__law_order (T : Txt K mg) : FnOk P w K mg base CX0 2 T.a__law_order T.d__law_order ["_law_cell", "_law_many", "_law_free"] (spOrder K) :=
  fnN0 T.F__law_order sc__law_order (fun _ => rfl) fun cdv R outer s H E hr => ⟨_, (pss_cons (ps_set (i := 3) sc__law_order.nd rfl (Or.inl rfl) (pe_call (ok__law_draws T) (hr.mono (by omega)) (by rfl) T.g__law_draws T.F__law_draws.kp T.b__law_draws .nil pass0 (pa_cons (pv 0) (pa_cons (pv 1) (pa_cons pe_int (pa_cons (pv 2) pa_nil))))))
  (pss_cons (ps_set (i := 4) sc__law_order.nd rfl (Or.inl rfl) (pe_lst pa_nil))
  (pss_cons (ps_for PassesOwn.never rfl (pi_range1 (by rfl) T.n_range (pa_cons (pv 1) pa_nil)) (pg_name (i := 5) sc__law_order.nd rfl (Or.inl rfl)) (pss_one (ps_expr (pe_bm PySem.F.plainAttrs_list PySem.F.slot_list_insert PySem.F.type_list_insert o_insert (pv 4) (pa_cons (pe_op op_mod (pe_ix (ix_seq : IxR _ (rIx K)) (pv 3) (pv 5) (fun _ _ => rfl)) (pe_op o_plus (pv 5) pe_int)) (pa_cons (pv 5) pa_nil))))))
  (pss_one (ps_ret (pv 4)))))), fun (c, m, fr) h1 => by
    have h1 : m ≤ 1000 := h1
    refine bs_asg (use_draws (M1 := []) (by walk_at "eka") h1 (.inr (by decide)) (by decide)) ?_
    have k1 := drawsM_len c m 5040 fr
    generalize drawsM c m 5040 fr = ds at *
    refine bs_asgF (xs := []) (M1 := []) (by walk_at "ekf") fun p => ?_
    refine blk_mid (Mid := fun E' M' => ∃ x o, E' = [some (.dt (.int c)), some (.dt (.int (m : Int))), some (.dt (.bool fr)), some (.dt (eIs ds)), some (.rf p), x] ∧ M' = [(p, true, .lst (iG (nI o)))] ∧ Ord m o) ?_ ?_
    · refine blk_for (EI.n_eq (ei_range1 (M1 := [(p, true, .lst [])]) (by walk_at "eka") (by omega) (by omega)) (Int.toNat_natCast m)) (fun i E' M' => ∃ x o, E' = [some (.dt (.int c)), some (.dt (.int (m : Int))), some (.dt (.bool fr)), some (.dt (eIs ds)), some (.rf p), x] ∧ M' = [(p, true, .lst (iG (nI o)))] ∧ Ord i o) ⟨_, [], rfl, rfl, .refl _⟩ ?_ ?_
      · rintro i E1 N1 hi ⟨x, o, rfl, rfl, ho⟩
        have hl := ho.len
        have r0 : 0 ≤ ds.getD i 0 % ((i : Int) + 1) := Int.emod_nonneg _ (by omega)
        have r1 : ds.getD i 0 % ((i : Int) + 1) < (i : Int) + 1 := Int.emod_lt_of_pos _ (by omega)
        obtain ⟨j, hj⟩ : ∃ j : Nat, ds.getD i 0 % ((i : Int) + 1) = (j : Int) := ⟨(ds.getD i 0 % ((i : Int) + 1)).toNat, by omega⟩
        refine blk_insert (j := 0) (i := (j : Int)) (g := .dt (.int (i : Int))) (M1 := [(p, true, .lst (iG (nI o)))]) (ee_var rfl) (.head _) ?_ rfl (by rw [iG_len, List.length_map, sizeLine_eq]; omega) (by omega) (by omega) ⟨_, o.take j ++ [i] ++ o.drop j, rfl, ?_, ord_ins ho (by omega)⟩
        · refine ea_p2 (EE.eq (ee_op (ee_op (ee_var rfl) (ee_var rfl) (x_list (ix_nat (by omega)))) (ee_op (ee_var rfl) ee_int p_int) (m_int (by omega))) (by rw [hj])) (ee_var rfl)
        · rw [iG_ins, Int.toNat_natCast]; rfl
      · rintro E1 N1 ⟨x, o, rfl, rfl, ho⟩
        exact ⟨_, o, rfl, rfl, ho⟩
    · rintro E1 N1 ⟨x, o, rfl, rfl, ho⟩
      exact blk_ret (ee_var rfl) ⟨o, ho, (fun c hc => nomatch hc), .inr ⟨rfl, _, _, rfl, .lst (.head _) (RelDs.of_data _), fun c hc => ⟨hc, by rw [List.mem_singleton] at hc; rw [hc]⟩⟩⟩⟩
theorem use_order {E : GE} {M M1 : GM} {tr : TA} {X : XK} {c : Int} {m : Nat} {fr : Bool} (h : EA K tr E M [.dt (.int c), .dt (.int (m : Int)), .dt (.bool fr)] M1) (h1 : m ≤ 1000) : EX K (tCall (spOrder K) [] X tr) E M (fun g M' => ∃ o, Ord m o ∧ g = .dt (eIs (nI o)) ∧ M' = M1) :=
  EX.imp (ex_callN0 (c, m, fr) h h1 fun _ c hc => nomatch hc) fun g M' ⟨r, h, e1, e2⟩ => ⟨r, h, e1, e2⟩
/-! ### the law's own looking: k22 -/
noncomputable abbrev spEven2 (K : PySem.W.Frag) : Sp := sp0 K (fun p : Web × List Int => [.dt (eWeb p.1), .dt (eIs p.2)]) (fun p => Fit p.1 p.2 ∧ ∀ x ∈ p.2, 0 ≤ x ∧ x < p.2.length) (fun p => .dt (.bool (evenB p.1 p.2)))
theorem ok__law_even (T : Txt K mg) : FnOk P w K mg base CX0 1 T.a__law_even T.d__law_even ["_law_web_here", "_law_lots"] (spEven2 K) :=
  fn0 T.F__law_even sc__law_even (fun _ => rfl) fun cdv R outer s H E hr => ⟨_, (pss_cons (ps_asg (pv 0) (pg_tup rfl (pgs_cons (pg_name (i := 2) sc__law_even.nd rfl (Or.inl rfl)) (pgs_cons (pg_name (i := 3) sc__law_even.nd rfl (Or.inl rfl)) pgs_nil))))
  (pss_cons (ps_set (i := 4) sc__law_even.nd rfl (Or.inl rfl) pe_dnewK)
  (pss_cons (ps_for PassesOwn.never rfl (pi_enum (by rfl) T.n_enumerate (pa_cons (pv 1) pa_nil) : PI _ _ _ (iEnum K _)) (pg_tup rfl (pgs_cons (pg_name (i := 5) sc__law_even.nd rfl (Or.inl rfl)) (pgs_cons (pg_name (i := 6) sc__law_even.nd rfl (Or.inl rfl)) pgs_nil))) (pss_cons (ps_set (i := 7) sc__law_even.nd rfl (Or.inl rfl) (pe_lst pa_nil))
  (pss_cons (ps_for PassesOwn.never rfl (pi_range1 (by rfl) T.n_range (pa_cons (pe_callB (o_len : CallR _ (.builtin "len") (rLenU K)) (by rfl) T.n_len PySem.boot_len (pa_cons (pv 1) pa_nil)) pa_nil)) (pg_name (i := 8) sc__law_even.nd rfl (Or.inr rfl)) (pss_one (ps_expr (pe_bm PySem.F.plainAttrs_list PySem.F.slot_list_append PySem.F.type_list_append mt_append (pv 7) (pa_cons (pe_callB (cr_sum rfl : CallR _ (.builtin "sum") (rSum K)) (by rfl) T.n_sum (by decide +kernel) (pa_cons (pe_lc (own := [("_law_weight", 9), ("_law_one", 10)]) (g := gTup K 2 (gCons (gName 9) (gCons (gName 10) gNil))) rfl sc__law_even.nd (pi_zip (by rfl) T.n_zip (pa_cons (pe_ix (ix_seq : IxR _ (rIx K)) (pv 3) (pv 5) (fun _ _ => rfl)) (pa_cons (pv 1) pa_nil)) : PI _ _ _ (iZip K _)) (blkOk_by (own := [("_law_weight", 9), ("_law_one", 10)]) (N := ["_law_web_here", "_law_lots", "_law_hues", "_law_rows", "_law_looks", "_law_u", "_law_lot", "_law_sums", "_law_other", "_law_weight", "_law_one"]) (sc := defScope s__law_even) (by decide +kernel)) (fun _ _ _ _ _ => (pg_tup rfl (pgs_cons (pg_name (i := 9) sc__law_even.nd rfl (Or.inl rfl)) (pgs_cons (pg_name (i := 10) sc__law_even.nd rfl (Or.inl rfl)) pgs_nil)))) (fun _ _ _ _ _ => (pts_one (pt_cmpR (op_eqD (hu64 hr) : OpR _ (compareOp .Eq) (rEqD K)) (pv 10) (pv 8) (nomark _)))) (fun _ _ _ _ _ => (pv 9))) pa_nil)) pa_nil)))))
  (pss_cons (ps_if (pt_cmpR (op_neD (hu64 hr) : OpR _ (compareOp .NotEq) (rNeD K)) (pe_dget2 (hu_of hr) (pv 4) (pv 6) (pe_tup (pa_cons (pe_ix (ix_seq : IxR _ (rIx K)) (pv 2) (pv 5) (fun _ _ => rfl)) (pa_cons (pv 7) pa_nil))) ⟨rfl, rfl, rfl, rfl⟩) (pe_tup (pa_cons (pe_ix (ix_seq : IxR _ (rIx K)) (pv 2) (pv 5) (fun _ _ => rfl)) (pa_cons (pv 7) pa_nil))) (nomark _)) (pss_one (ps_ret pe_bl)) pss_nil)
  (pss_one (ps_dput (hu_of hr) (pv 4) (pv 6) (pe_tup (pa_cons (pe_ix (ix_seq : IxR _ (rIx K)) (pv 2) (pv 5) (fun _ _ => rfl)) (pa_cons (pv 7) pa_nil))) rfl))))))
  (pss_one (ps_ret pe_bl))))), fun (w, ls) ⟨hf, hr'⟩ => by
    have hf : Fit w ls := hf
    have hx : ∀ x ∈ ls, 0 ≤ x ∧ x < ls.length := hr'
    have hrow := fun u (hu : u < ls.length) => hf.row hu
    have hev := even_look2 (w := w) hx
    have hsh : ∀ u, SeqAt.shaped (look2 w ls u) = true := fun u => sh_of (pl_look2 w ls u) (Nat.le_trans (dep_look2 w ls u) (by decide))
    obtain ⟨f1, f2, f3, f4, f5⟩ := hf
    have hix := fun u (hu : u < ls.length) => ix_isN (xs := w.2) (i := u) (by omega)
    show Blk K _ (begin_ _ [.dt (.tuple [eIs w.1, eIss w.2]), .dt (eIs ls)]) [] (ends0 (.dt (.bool (evenB w ls))))
    refine blk_seq (blk_asgT2 (ee_var rfl) ?_)
    refine bs_dnewK fun p => ?_
    refine blk_mid (Mid := fun E' M' => EvenW w ls) ?_ ?_
    · refine blk_for (ei_enum (ds := ls.map .int) (M1 := [(p, true, .dk [])]) (ee_var rfl)) (fun i E' M' => ∃ x5 x6 x7 x8 x9 x10 kvs, E' = [some (.dt (.tuple [eIs w.1, eIss w.2])), some (.dt (eIs ls)), some (.dt (eIs w.1)), some (.dt (eIss w.2)), some (.rf p), x5, x6, x7, x8, x9, x10] ∧ M' = [(p, true, .dk kvs)] ∧ DInv (look2 w ls) ls i kvs) ⟨_, _, _, _, _, _, _, rfl, rfl, dinv_zero _ _⟩ ?_ ?_
      · rintro i E1 N1 hi ⟨x5, x6, x7, x8, x9, x10, kvs, rfl, rfl, hd⟩
        rw [List.length_map] at hi
        rw [getD_map PyData.int hi, ← getD_of hi 0]
        refine bs_asgF (xs := []) (M1 := [(p, true, .dk kvs)]) (by walk_at "ekf") fun q => ?_
        refine blk_mid (Mid := fun E' M' => ∃ x8 x9 x10, E' = [some (.dt (.tuple [eIs w.1, eIss w.2])), some (.dt (eIs ls)), some (.dt (eIs w.1)), some (.dt (eIss w.2)), some (.rf p), some (.dt (.int (i : Int))), some (.dt (.int (ls.getD i 0))), some (.rf q), x8, x9, x10] ∧ M' = [(q, true, .lst (iG ((List.range ls.length).map fun c : Nat => sumTo ls (w.2.getD i []) c))), (p, true, .dk kvs)]) ?_ ?_
        · refine blk_for (EI.n_eq (ei_range1 (m := (ls.length : Int)) (M1 := [(q, true, .lst []), (p, true, .dk kvs)]) (ea_p1 (EE.eq (ee_cb (ea_p1 (ee_var rfl)) l_list) (by rw [List.length_map]))) (by omega) (by omega)) (Int.toNat_natCast _)) (fun c E' M' => ∃ x8 x9 x10, E' = [some (.dt (.tuple [eIs w.1, eIss w.2])), some (.dt (eIs ls)), some (.dt (eIs w.1)), some (.dt (eIss w.2)), some (.rf p), some (.dt (.int (i : Int))), some (.dt (.int (ls.getD i 0))), some (.rf q), x8, x9, x10] ∧ M' = [(q, true, .lst (iG ((List.range c).map fun c : Nat => sumTo ls (w.2.getD i []) c))), (p, true, .dk kvs)]) ⟨_, _, _, rfl, rfl⟩ ?_ ?_
          · rintro c E1 N1 hc ⟨x8, x9, x10, rfl, rfl⟩
            rw [rmap_succ, iG_snoc]
            refine blk_app (j := 0) (g := .dt (.int (sumTo ls (w.2.getD i []) c))) (M1 := [(q, true, .lst (iG ((List.range c).map fun c : Nat => sumTo ls (w.2.getD i []) c))), (p, true, .dk kvs)]) (ee_var rfl) ?_ rfl rfl (by rw [iG_len, List.length_map, List.length_range, sizeLine_eq]; omega) ⟨_, _, _, rfl, rfl⟩
            refine ee_cb (ea_p1 (ee_fz (ds := (((ls.zip (w.2.getD i [])).filter fun p => decide (p.1 = (c : Int))).map (·.2)).map .int) (EF.eq (ef_filter (n := ls.length) (M1 := [(q, true, .lst (iG ((List.range c).map fun c : Nat => sumTo ls (w.2.getD i []) c))), (p, true, .dk kvs)]) (fun a => decide (ls.getD a 0 = (c : Int))) (fun a => .dt (((w.2.getD i []).map PyData.int).getD a .none)) (EI.n_eq (ei_zip (ds := (w.2.getD i []).map .int) (es := ls.map .int) (ee_op (ee_var rfl) (ee_var rfl) (x_list (hix i hi))) (ee_var rfl)) (by rw [List.length_map, List.length_map, hrow i hi, Nat.min_self])) (fun a ha => ?_) (fun a ha _ => ee_var rfl) (by decide) (by omega)) (made_sum rfl (hrow i hi) c)))) l_sum
            rw [getD_map PyData.int ha, getD_of ha]
            exact et_test (ee_op (ee_var rfl) (ee_var rfl) eq_int')
          · rintro E1 N1 ⟨x8, x9, x10, rfl, rfl⟩
            exact ⟨_, _, _, rfl, rfl⟩
        rintro E1 N1 ⟨x8, x9, x10, rfl, rfl⟩
        refine blk_freeze (j := 0) (i := 7) (p := q) (ds := ((List.range ls.length).map fun c : Nat => sumTo ls (w.2.getD i []) c).map .int) rfl rfl ?_
        show Blk K _ [some (.dt (.tuple [eIs w.1, eIss w.2])), some (.dt (eIs ls)), some (.dt (eIs w.1)), some (.dt (eIss w.2)), some (.rf p), some (.dt (.int (i : Int))), some (.dt (.int (ls.getD i 0))), some (.dt (eIs ((List.range ls.length).map fun c : Nat => sumTo ls (w.2.getD i []) c))), x8, x9, x10] [(p, true, .dk kvs)] _
        have htup : ∀ {tt : TE} {E : GE}, EE K tt E [(p, true, .dk kvs)] (.dt (.tuple [.int (w.1.getD i 0), eIs ((List.range ls.length).map fun c : Nat => sumTo ls (w.2.getD i []) c)])) [(p, true, .dk kvs)] → EE K tt E [(p, true, .dk kvs)] (.dt (look2 w ls i)) [(p, true, .dk kvs)] := fun h => h
        have hval : valG kvs (.inl (ls.getD i 0)) = none ∨ ∃ j0, valG kvs (.inl (ls.getD i 0)) = some (.dt (look2 w ls j0)) := by
          cases h : valG kvs (.inl (ls.getD i 0)) with
          | none => exact .inl rfl
          | some g =>
            obtain ⟨j0, e⟩ := dinv_has hd (k := ls.getD i 0) (by rw [h]; intro z; cases z)
            exact .inr ⟨j0, by rw [← h]; exact e⟩
        obtain ⟨d, hd1, hd2, hd3⟩ : ∃ d, (valG kvs (.inl (ls.getD i 0))).getD (.dt (look2 w ls i)) = .dt d ∧ plB d = true ∧ SeqAt.shaped d = true := by
          rcases hval with h | ⟨j0, h⟩
          · rw [h]; exact ⟨_, rfl, pl_look2 w ls i, hsh i⟩
          · rw [h]; exact ⟨_, rfl, pl_look2 w ls j0, hsh j0⟩
        refine bs_when (et_test (ee_op (EE.eq (ee_dget2 (k := .inl (ls.getD i 0)) (x := .dt (look2 w ls i)) (ee_var rfl) (.head _) (ee_var rfl) (htup (ee_tupU (ea_p2 (ee_op (ee_var rfl) (ee_var rfl) (x_list (ix_nat (by omega)))) (ee_var rfl)) rfl (lenB rfl))) (.head _)) hd1) (htup (ee_tupU (ea_p2 (ee_op (ee_var rfl) (ee_var rfl) (x_list (ix_nat (by omega)))) (ee_var rfl)) rfl (lenB rfl))) (r2_neD hd3 (hsh i)))) (fun hb => ?_) (fun hb => ?_)
        · refine blk_ret ee_bl (.inl ?_)
          rw [evenB_no fun h => ?_]
          rw [eqv_pl hd2 (pl_look2 w ls i)] at hb
          have hne : d ≠ look2 w ls i := by simpa using hb
          rcases hval with k | ⟨j0, k⟩
          · rw [k] at hd1
            injection hd1 with hd1
            exact hne hd1.symm
          · rw [k] at hd1
            injection hd1 with hd1
            obtain ⟨v, v1, v2, v3⟩ := dinv_bad hd k (by rw [hd1]; exact hne)
            exact v3 (hev.mp h i v v1 hi v2).symm
        · rw [eqv_pl hd2 (pl_look2 w ls i)] at hb
          have he : d = look2 w ls i := by simpa using hb
          refine blk_dput (j := 0) (k := .inl (ls.getD i 0)) (htup (ee_tupU (ea_p2 (ee_op (ee_var rfl) (ee_var rfl) (x_list (ix_nat (by omega)))) (ee_var rfl)) rfl (lenB rfl))) (ee_var rfl) (ee_var rfl) rfl (by have := hd.1; rw [sizeLine_eq]; omega) ⟨_, _, _, _, _, _, _, rfl, rfl, dinv_put hd ?_⟩
          rcases hval with k | ⟨j0, k⟩
          · exact .inl k
          · right
            rw [k] at hd1
            injection hd1 with hd1
            rw [k, hd1, he]
      · rintro E1 N1 ⟨x5, x6, x7, x8, x9, x10, kvs, rfl, rfl, hd⟩
        rw [List.length_map] at hd
        exact hev.mpr fun u v h1 h2 h3 => dinv_end hd (by omega) h2 h3
    · rintro E1 N1 hE
      refine blk_ret ee_bl (.inl ?_)
      rw [evenB_yes hE]⟩
theorem use_law_even {E : GE} {M M1 : GM} {tr : TA} {X : XK} {w : Web} {ls : List Int} (h : EA K tr E M [.dt (eWeb w), .dt (eIs ls)] M1) (hf : Fit w ls) (hx : ∀ x ∈ ls, 0 ≤ x ∧ x < ls.length) : EE K (tCall (spEven2 K) [] X tr) E M (.dt (.bool (evenB w ls))) M1 := ee_call0 (w, ls) h ⟨hf, hx⟩
/-! ### all partings -/
abbrev spAll (K : PySem.W.Frag) : Sp := sp0 K (fun m : Nat => [.dt (.int (m : Int))]) (fun m => m ≤ 6) (fun m => .dt (eIss (allM m)))
theorem ok__law_all (T : Txt K mg) : FnOk P w K mg base CX0 1 T.a__law_all T.d__law_all ["_law_many"] (spAll K) :=
  fn0 T.F__law_all sc__law_all (fun _ => rfl) fun cdv R outer s H E hr => ⟨_, (pss_cons (ps_set (i := 1) sc__law_all.nd rfl (Or.inl rfl) (pe_lst (pa_cons (pe_lst pa_nil) pa_nil)))
  (pss_cons (ps_for PassesOwn.never rfl (pi_range1 (by rfl) T.n_range (pa_cons (pv 0) pa_nil)) (pg_name (i := 2) sc__law_all.nd rfl (Or.inl rfl)) (pss_cons (ps_set (i := 3) sc__law_all.nd rfl (Or.inl rfl) (pe_lst pa_nil))
  (pss_cons (ps_for PassesOwn.never rfl (pi_list (pv 1) : PI _ _ _ (iList K _)) (pg_name (i := 4) sc__law_all.nd rfl (Or.inl rfl)) (pss_one (ps_for PassesOwn.never rfl (pi_range1 (by rfl) T.n_range (pa_cons (pe_op o_plus (pe_callB (cr_max rfl : CallR _ (.builtin "max") (rMax K)) (by rfl) T.n_max (by decide +kernel) (pa_cons (pe_op o_plus (pv 4) (pe_lst (pa_cons (pe_un un_neg pe_int) pa_nil))) pa_nil)) pe_int) pa_nil)) (pg_name (i := 5) sc__law_all.nd rfl (Or.inl rfl)) (pss_one (ps_expr (pe_bm PySem.F.plainAttrs_list PySem.F.slot_list_append PySem.F.type_list_append mt_append (pv 3) (pa_cons (pe_op o_plus (pv 4) (pe_lst (pa_cons (pv 5) pa_nil))) pa_nil)))))))
  (pss_one (ps_set (i := 1) sc__law_all.nd rfl (Or.inl rfl) (pv 3))))))
  (pss_one (ps_ret (pv 1))))), fun m hm => by
    have hm : m ≤ 6 := hm
    refine bs_asg (g := .dt (eIss (allM 0))) (M1 := []) (ee_fzU (by walk_at "ekf") rfl) ?_
    refine blk_mid (Mid := fun E' M' => ∃ x2 x3 x4 x5 N, E' = [some (.dt (.int (m : Int))), some (.dt (eIss (allM m))), x2, x3, x4, x5] ∧ M' = N) ?_ ?_
    · refine blk_for (EI.n_eq (ei_range1 (M1 := []) (by walk_at "eka") (by omega) (by omega)) (Int.toNat_natCast m)) (fun k E' M' => ∃ x2 x3 x4 x5, E' = [some (.dt (.int (m : Int))), some (.dt (eIss (allM k))), x2, x3, x4, x5] ∧ M' = []) ⟨_, _, _, _, rfl, rfl⟩ ?_ ?_
      · rintro k E1 N1 hk ⟨x2, x3, x4, x5, rfl, rfl⟩
        have hfac := fac_le (show k + 1 ≤ 6 by omega)
        have hL := allM_len k
        refine bs_asgF (xs := []) (M1 := []) (by walk_at "ekf") fun q => ?_
        have e1 : allM (k + 1) = (allM k).flatMap fun ls => (List.range (brd ls)).map fun c : Nat => ls ++ [(c : Int)] := rfl
        have hok := allM_ok k
        rw [e1]
        generalize allM k = L at *
        refine blk_mid (Mid := fun E' M' => ∃ x4 x5, E' = [some (.dt (.int (m : Int))), some (.dt (eIss L)), some (.dt (.int (k : Int))), some (.rf q), x4, x5] ∧ M' = [(q, true, .lst (((L.flatMap fun ls => (List.range (brd ls)).map fun c : Nat => ls ++ [(c : Int)]).map eIs).map .dt))]) ?_ ?_
        · refine blk_for (ei_list (ds := L.map eIs) (M1 := [(q, true, .lst [])]) (ee_var rfl)) (fun i E' M' => ∃ x4 x5, E' = [some (.dt (.int (m : Int))), some (.dt (eIss L)), some (.dt (.int (k : Int))), some (.rf q), x4, x5] ∧ M' = [(q, true, .lst ((((L.take i).flatMap fun ls => (List.range (brd ls)).map fun c : Nat => ls ++ [(c : Int)]).map eIs).map .dt))]) ⟨_, _, rfl, rfl⟩ ?_ ?_
          · rintro i E1 N1 hi ⟨x4, x5, rfl, rfl⟩
            rw [List.length_map] at hi
            rw [getD_map eIs hi, take_snoc hi]
            obtain ⟨o1, o2⟩ := hok _ (List.getElem_mem hi)
            have hbr := brd_le o1 o2
            obtain ⟨m1, m2⟩ := brd_max fun x hx => (o2 x hx).1
            have hpre : ((L.take i).flatMap fun ls => (List.range (brd ls)).map fun c : Nat => ls ++ [(c : Int)]).length ≤ 720 := by
              refine Nat.le_trans (flat_le _ (k + 1) _ fun ls h => ?_) (Nat.le_trans (Nat.mul_le_mul_right _ (show (L.take i).length ≤ fac k by rw [List.length_take]; omega)) hfac)
              rw [List.length_map, List.length_range]
              obtain ⟨a, b⟩ := hok ls (List.mem_of_mem_take h)
              exact brd_le a b
            rw [List.flatMap_append, List.flatMap_cons, List.flatMap_nil, List.append_nil]
            generalize (L.take i).flatMap (fun ls => (List.range (brd ls)).map fun c : Nat => ls ++ [(c : Int)]) = pre at *
            generalize L[i] = ls at *
            refine blk_for (EI.n_eq (ei_range1 (m := ((brd ls : Nat) : Int)) (M1 := [(q, true, .lst ((pre.map eIs).map .dt))]) (ea_p1 (EE.eq (ee_op (ee_maxL (ns := ls ++ [-1]) (EE.eq (ee_op (y := .dt (.list [.int (-1)])) (ee_var rfl) (ee_fzU (by walk_at "ekf") rfl) (p_list ?_)) ?_) ?_ _ m1 m2) ee_int p_int) ?_)) (by omega) (by omega)) (Int.toNat_natCast _)) (fun c E' M' => ∃ x5, E' = [some (.dt (.int (m : Int))), some (.dt (eIss L)), some (.dt (.int (k : Int))), some (.rf q), some (.dt (eIs ls)), x5] ∧ M' = [(q, true, .lst (((pre ++ (List.range c).map fun c : Nat => ls ++ [(c : Int)]).map eIs).map .dt))]) ⟨_, rfl, by rw [List.range_zero, List.map_nil, List.append_nil]⟩ ?_ ?_
            · rw [List.length_map, o1, sizeLine_eq]; show k + 1 ≤ _; omega
            · rw [List.map_append]; rfl
            · rw [List.length_append]; exact Nat.succ_pos _
            · rw [Int.sub_add_cancel]
            · rintro c E1 N1 hc ⟨x5, rfl, rfl⟩
              have er : ((pre ++ (List.range (c + 1)).map fun c : Nat => ls ++ [(c : Int)]).map eIs).map GV.dt = ((pre ++ (List.range c).map fun c : Nat => ls ++ [(c : Int)]).map eIs).map GV.dt ++ [.dt (eIs (ls ++ [(c : Int)]))] := by
                simp only [rmap_succ, ← List.append_assoc, List.map_append, List.map_cons, List.map_nil]
              rw [er]
              refine blk_app (j := 0) (g := .dt (eIs (ls ++ [(c : Int)]))) (M1 := [(q, true, .lst (((pre ++ (List.range c).map fun c : Nat => ls ++ [(c : Int)]).map eIs).map .dt))]) (ee_var rfl) (EE.eq (ee_op (y := .dt (.list [.int (c : Int)])) (ee_var rfl) (ee_fzU (by walk_at "ekf") rfl) (p_list ?_)) ?_) rfl rfl ?_ ⟨_, rfl, rfl⟩
              · rw [List.length_map, o1, sizeLine_eq]; show k + 1 ≤ _; omega
              · show GV.dt (.list (ls.map PyData.int ++ [.int (c : Int)])) = .dt (.list ((ls ++ [(c : Int)]).map .int))
                rw [List.map_append]; rfl
              · rw [List.length_map, List.length_map, List.length_append, List.length_map, List.length_range, sizeLine_eq]; omega
            · rintro E1 N1 ⟨x5, rfl, rfl⟩
              exact ⟨_, _, rfl, rfl⟩
          · rintro E1 N1 ⟨x4, x5, rfl, rfl⟩
            rw [List.length_map, List.take_length]
            exact ⟨_, _, rfl, rfl⟩
        rintro E1 N1 ⟨x4, x5, rfl, rfl⟩
        refine blk_freeze (j := 0) (i := 3) (p := q) (ds := (L.flatMap fun ls => (List.range (brd ls)).map fun c : Nat => ls ++ [(c : Int)]).map eIs) rfl rfl ?_
        exact blk_asg (ee_var rfl) ⟨_, _, _, _, rfl, rfl⟩
      · rintro E1 N1 ⟨x2, x3, x4, x5, rfl, rfl⟩
        exact ⟨_, _, _, _, _, rfl, rfl⟩
    · rintro E1 N1 ⟨x2, x3, x4, x5, N, rfl, rfl⟩
      exact blk_ret (ee_var rfl) (.inl rfl)⟩
theorem use_law_all {E : GE} {M M1 : GM} {tr : TA} {X : XK} {m : Nat} (h : EA K tr E M [.dt (.int (m : Int))] M1) (hm : m ≤ 6) : EE K (tCall (spAll K) [] X tr) E M (.dt (eIss (allM m))) M1 := ee_call0 m h hm
/-! ### what the law asks of the told one -/
abbrev spTold (K : PySem.W.Frag) : Sp := sp0 K (fun p : List Int × Nat => [.dt (eIs p.1), .dt (.int (p.2 : Int))]) (fun p => p.1.length = p.2 ∧ p.2 ≤ 1000 ∧ numbM (p.1.map .int) = p.1) (fun _ => .dt (.bool true))
theorem ok__law_told (T : Txt K mg) : FnOk P w K mg base CX0 2 T.a__law_told T.d__law_told ["_law_lots", "_law_many"] (spTold K) :=
  fn0 T.F__law_told sc__law_told (fun _ => rfl) fun cdv R outer s H E hr => ⟨_, (pss_cons (ps_if (PW.pt (pw_or (pt_not (pt_val (pe_callB (call_isi : CallR _ (.builtin "isinstance") (rIsi K)) (by rfl) T.n_isinstance (by decide +kernel) (pa_cons (pv 0) (pa_cons (pe_bltn (v := .ty "list") (u := .type "list") (by rfl) T.n_list (by decide +kernel) rfl) pa_nil))))) (pw_or1 (pt_cmpR (op_neD (hu64 hr) : OpR _ (compareOp .NotEq) (rNeD K)) (pe_callB (o_len : CallR _ (.builtin "len") (rLenU K)) (by rfl) T.n_len PySem.boot_len (pa_cons (pv 0) pa_nil)) (pv 1) (nomark _))))) (pss_one (ps_ret pe_bl)) pss_nil)
  (pss_cons (ps_for PassesOwn.never rfl (pi_list (pv 0) : PI _ _ _ (iList K _)) (pg_name (i := 2) sc__law_told.nd rfl (Or.inl rfl)) (pss_one (ps_if (PW.pt (pw_or (pt_not (pt_val (pe_callB (call_isi : CallR _ (.builtin "isinstance") (rIsi K)) (by rfl) T.n_isinstance (by decide +kernel) (pa_cons (pv 2) (pa_cons (pe_bltn (v := .ty "int") (u := .type "int") (by rfl) T.n_int (by decide +kernel) rfl) pa_nil))))) (pw_or1 (pt_val (pe_callB (call_isi : CallR _ (.builtin "isinstance") (rIsi K)) (by rfl) T.n_isinstance (by decide +kernel) (pa_cons (pv 2) (pa_cons (pe_bltn (v := .ty "bool") (u := .type "bool") (by rfl) T.n_bool (by decide +kernel) rfl) pa_nil))))))) (pss_one (ps_ret pe_bl)) pss_nil)))
  (pss_one (ps_ret (pe_cmpR (op_eqD (hu64 hr) : OpR _ (compareOp .Eq) (rEqD K)) (pv 0) (pe_call (ok__law_numbered T) (hr.mono (by omega)) (by rfl) T.g__law_numbered T.F__law_numbered.kp T.b__law_numbered .nil pass0 (pa_cons (pv 0) pa_nil)) (nomark _)))))), fun (ls, m) ⟨h1, h2, h3⟩ => by
    have h1 : ls.length = m := h1
    have h2 : m ≤ 1000 := h2
    have h3 : numbM (ls.map .int) = ls := h3
    refine bs_when (b := false) (M1 := []) (et_or (b := false) (c := false) (et_not (b := true) (et_B (by walk_at "ek"))) fun _ => et_test (EE.eq (ee_op (ee_cb (ea_p1 (ee_var rfl)) l_list) (ee_var rfl) ne_int') ?_)) (fun h => by cases h) (fun _ => ?_)
    · rw [List.length_map, h1, decide_eq_true rfl]; rfl
    refine blk_mid (Mid := fun E' M' => ∃ x, E' = [some (.dt (eIs ls)), some (.dt (.int (m : Int))), x] ∧ M' = []) ?_ ?_
    · refine blk_for (ei_list (ds := ls.map .int) (M1 := []) (ee_var rfl)) (fun i E' M' => ∃ x, E' = [some (.dt (eIs ls)), some (.dt (.int (m : Int))), x] ∧ M' = []) ⟨_, rfl, rfl⟩ ?_ (fun E1 N1 h => h)
      rintro i E1 N1 hi ⟨x, rfl, rfl⟩
      rw [List.length_map] at hi
      rw [getD_map PyData.int hi]
      exact blk_when (b := false) (et_or (b := false) (c := false) (et_not (b := true) (et_B (by walk_at "ek"))) fun _ => et_B (by walk_at "ek")) (fun h => by cases h) (fun _ => ⟨_, rfl, rfl⟩)
    · rintro E1 N1 ⟨x, rfl, rfl⟩
      refine blk_ret (EE.eq (ee_op (ee_var rfl) (use__law_numbered (ea_p1 (ee_var rfl)) (by rw [List.length_map]; omega) (ints_lay ls)) (r2_eqD (sh_is _) (sh_is _))) ?_) (.inl rfl)
      rw [eqv_is, h3, decide_eq_true rfl]⟩
theorem use_law_told {E : GE} {M M1 : GM} {tr : TA} {X : XK} {ls : List Int} {m : Nat} (h : EA K tr E M [.dt (eIs ls), .dt (.int (m : Int))] M1) (h1 : ls.length = m) (h2 : m ≤ 1000) (h3 : numbM (ls.map .int) = ls) : EE K (tCall (spTold K) [] X tr) E M (.dt (.bool true)) M1 := ee_call0 (ls, m) h ⟨h1, h2, h3⟩
abbrev spWithin (K : PySem.W.Frag) : Sp := sp0 K (fun p : List Int × List Int => [.dt (eIs p.1), .dt (eIs p.2)]) (fun p => p.1.length = p.2.length ∧ p.1.length ≤ 1000 ∧ Rf p.1.length p.1 p.2) (fun _ => .dt (.bool true))
theorem ok__law_within (T : Txt K mg) : FnOk P w K mg base CX0 1 T.a__law_within T.d__law_within ["_law_lots", "_law_told_here"] (spWithin K) :=
  fn0 T.F__law_within sc__law_within (fun _ => rfl) fun cdv R outer s H E hr => ⟨_, (pss_cons (ps_for PassesOwn.never rfl (pi_enum (by rfl) T.n_enumerate (pa_cons (pv 0) pa_nil) : PI _ _ _ (iEnum K _)) (pg_tup rfl (pgs_cons (pg_name (i := 2) sc__law_within.nd rfl (Or.inl rfl)) (pgs_cons (pg_name (i := 3) sc__law_within.nd rfl (Or.inl rfl)) pgs_nil))) (pss_one (ps_for PassesOwn.never rfl (pi_range1 (by rfl) T.n_range (pa_cons (pv 2) pa_nil)) (pg_name (i := 4) sc__law_within.nd rfl (Or.inl rfl)) (pss_one (ps_if (PW.pt (pw_and (pt_cmpR (op_eqD (hu64 hr) : OpR _ (compareOp .Eq) (rEqD K)) (pe_ix (ix_seq : IxR _ (rIx K)) (pv 0) (pv 4) (fun _ _ => rfl)) (pv 3) (nomark _)) (pw_and1 (pt_cmpR (op_neD (hu64 hr) : OpR _ (compareOp .NotEq) (rNeD K)) (pe_ix (ix_seq : IxR _ (rIx K)) (pv 1) (pv 4) (fun _ _ => rfl)) (pe_ix (ix_seq : IxR _ (rIx K)) (pv 1) (pv 2) (fun _ _ => rfl)) (nomark _))))) (pss_one (ps_ret pe_bl)) pss_nil)))))
  (pss_one (ps_ret pe_bl))), fun (ls, ts) ⟨h1, h2, h3⟩ => by
    have h1 : ls.length = ts.length := h1
    have h2 : ls.length ≤ 1000 := h2
    have h3 : Rf ls.length ls ts := h3
    refine blk_mid (Mid := fun E' M' => ∃ x y z, E' = [some (.dt (eIs ls)), some (.dt (eIs ts)), x, y, z] ∧ M' = []) ?_ ?_
    · refine blk_for (ei_enum (ds := ls.map .int) (M1 := []) (ee_var rfl)) (fun i E' M' => ∃ x y z, E' = [some (.dt (eIs ls)), some (.dt (eIs ts)), x, y, z] ∧ M' = []) ⟨_, _, _, rfl, rfl⟩ ?_ (fun E1 N1 h => h)
      rintro i E1 N1 hi ⟨x, y, z, rfl, rfl⟩
      rw [List.length_map] at hi
      rw [getD_map PyData.int hi, ← getD_of hi 0]
      refine blk_for (EI.n_eq (ei_range1 (M1 := []) (by walk_at "eka") (by omega) (by omega)) (Int.toNat_natCast i)) (fun j E' M' => ∃ z, E' = [some (.dt (eIs ls)), some (.dt (eIs ts)), some (.dt (.int (i : Int))), some (.dt (.int (ls.getD i 0))), z] ∧ M' = []) ⟨_, rfl, rfl⟩ ?_ ?_
      · rintro j E1 N1 hj ⟨z, rfl, rfl⟩
        refine blk_when (b := false) (ET.eq (et_and (b := decide (ls.getD j 0 = ls.getD i 0)) (c := !decide (ts.getD j 0 = ts.getD i 0)) (et_test (ee_op (ee_op (ee_var rfl) (ee_var rfl) (x_list (ix_nat (by omega)))) (ee_var rfl) eq_int')) fun _ => et_test (ee_op (ee_op (ee_var rfl) (ee_var rfl) (x_list (ix_nat (by omega)))) (ee_op (ee_var rfl) (ee_var rfl) (x_list (ix_nat (by omega)))) ne_int')) ?_) (fun h => by cases h) (fun _ => ⟨_, rfl, rfl⟩)
        by_cases e : ls.getD j 0 = ls.getD i 0
        · rw [decide_eq_true (h3 j i (by omega) hi e)]; simp
        · rw [decide_eq_false e]; rfl
      · rintro E1 N1 ⟨z, rfl, rfl⟩
        exact ⟨_, _, _, rfl, rfl⟩
    · rintro E1 N1 ⟨x, y, z, rfl, rfl⟩
      exact blk_ret ee_bl (.inl rfl)⟩
theorem use_law_within {E : GE} {M M1 : GM} {tr : TA} {X : XK} {ls ts : List Int} (h : EA K tr E M [.dt (eIs ls), .dt (eIs ts)] M1) (h1 : ls.length = ts.length) (h2 : ls.length ≤ 1000) (h3 : Rf ls.length ls ts) : EE K (tCall (spWithin K) [] X tr) E M (.dt (.bool true)) M1 := ee_call0 (ls, ts) h ⟨h1, h2, h3⟩
theorem web_fit {m : Nat} {w : Web} (h : WebOk m w) (hm : m ≤ 1000) : WFit w := ⟨by rw [h.2.2.1, h.1], fun r hr => by rw [h.2.2.2.1 r hr, h.1], by rw [h.1]; exact hm⟩
theorem ok_law (T : Txt K mg) : FnOk P w K mg base CX0 5 T.a_law T.d_law ["_law_script"] (spLaw K) :=
  fn0 T.F_law sc_law (fun _ => rfl) fun cdv R outer s H E hr => ⟨_, (pss_cons (ps_set (i := 1) sc_law.nd rfl (Or.inl rfl) (pe_cmpR (op_eqD (hu64 hr) : OpR _ (compareOp .Eq) (rEqD K)) (pe_op op_mod (pe_call (ok__law_cell_at T) (hr.mono (by omega)) (by rfl) T.g__law_cell_at T.F__law_cell_at.kp T.b__law_cell_at .nil pass0 (pa_cons (pv 0) (pa_cons pe_int pa_nil))) pe_int) pe_int (nomark _)))
  (pss_cons (ps_set (i := 2) sc_law.nd rfl (Or.inl rfl) (pe_op op_mod (pe_op o_fdiv (pe_call (ok__law_cell_at T) (hr.mono (by omega)) (by rfl) T.g__law_cell_at T.F__law_cell_at.kp T.b__law_cell_at .nil pass0 (pa_cons (pv 0) (pa_cons pe_int pa_nil))) pe_int) pe_int))
  (pss_cons (ps_set (i := 3) sc_law.nd rfl (Or.inl rfl) (pe_call (ok__law_web T) (hr.mono (by omega)) (by rfl) T.g__law_web T.F__law_web.kp T.b__law_web .nil pass0 (pa_cons (pv 0) (pa_cons pe_int (pa_cons (pv 2) (pa_cons (pv 1) pa_nil))))))
  (pss_cons (ps_set (i := 4) sc_law.nd rfl (Or.inl rfl) (pe_tup (pa_cons (pe_callTy (o_list : CallR _ (.type "list") (rListOf K)) (by rfl) T.n_list (by decide +kernel) (pa_cons (pe_ix (ix_seq : IxR _ (rIx K)) (pv 3) pe_int (fun _ _ => rfl)) pa_nil)) (pa_cons (pe_lc (own := [("_law_row", 5)]) (g := gName 5) rfl sc_law.nd (pi_list (pe_ix (ix_seq : IxR _ (rIx K)) (pv 3) pe_int (fun _ _ => rfl)) : PI _ _ _ (iList K _)) (blkOk_by (own := [("_law_row", 5)]) (N := ["_law_script", "_law_free", "_law_many", "_law_web_here", "_law_copy", "_law_row", "_law_told_here", "_law_lots", "_law_cell", "_law_order_here", "_law_place"]) (sc := defScope s_law) (by decide +kernel)) (fun _ _ _ _ _ => (pg_name (i := 5) sc_law.nd rfl (Or.inl rfl))) (fun _ _ _ _ _ => pts_nil) (fun _ _ _ _ _ => (pe_callTy (o_list : CallR _ (.type "list") (rListOf K)) (by rfl) T.n_list (by decide +kernel) (pa_cons (pv 5) pa_nil)))) pa_nil))))
  (pss_cons (ps_set (i := 6) sc_law.nd rfl (Or.inr rfl) (pe_call (ok_coarsest_parting T) (hr.mono (by omega)) (by rfl) T.g_coarsest_parting T.F_coarsest_parting.kp T.b_coarsest_parting .nil pass0 (pa_cons (pv 3) pa_nil)))
  (pss_cons (ps_if (PW.pt (pw_or (pt_not (pt_val (pe_call (ok__law_told T) (hr.mono (by omega)) (by rfl) T.g__law_told T.F__law_told.kp T.b__law_told .nil pass0 (pa_cons (pv 6) (pa_cons (pv 2) pa_nil))))) (pw_or1 (pt_not (pt_val (pe_call (ok__law_even T) (hr.mono (by omega)) (by rfl) T.g__law_even T.F__law_even.kp T.b__law_even .nil pass0 (pa_cons (pv 3) (pa_cons (pv 6) pa_nil)))))))) (pss_one (ps_ret pe_bl)) pss_nil)
  (pss_cons (ps_for PassesOwn.never rfl (pi_list (pe_call (ok__law_all T) (hr.mono (by omega)) (by rfl) T.g__law_all T.F__law_all.kp T.b__law_all .nil pass0 (pa_cons (pv 2) pa_nil)) : PI _ _ _ (iList K _)) (pg_name (i := 7) sc_law.nd rfl (Or.inl rfl)) (pss_one (ps_if (PW.pt (pw_and (pt_val (pe_call (ok__law_even T) (hr.mono (by omega)) (by rfl) T.g__law_even T.F__law_even.kp T.b__law_even .nil pass0 (pa_cons (pv 3) (pa_cons (pv 7) pa_nil)))) (pw_and1 (pt_not (pt_val (pe_call (ok__law_within T) (hr.mono (by omega)) (by rfl) T.g__law_within T.F__law_within.kp T.b__law_within .nil pass0 (pa_cons (pv 7) (pa_cons (pv 6) pa_nil)))))))) (pss_one (ps_ret pe_bl)) pss_nil)))
  (pss_cons (ps_for PassesOwn.never rfl (pi_list (pe_lst (pa_cons (pe_call (ok__law_cell_at T) (hr.mono (by omega)) (by rfl) T.g__law_cell_at T.F__law_cell_at.kp T.b__law_cell_at .nil pass0 (pa_cons (pv 0) (pa_cons pe_int pa_nil))) (pa_cons (pe_callB (cr_sum rfl : CallR _ (.builtin "sum") (rSum K)) (by rfl) T.n_sum (by decide +kernel) (pa_cons (pe_slice (o_slice : SlR _ (rSlU K)) (pv 0) (po_some pe_int) (po_some pe_int)) pa_nil)) pa_nil))) : PI _ _ _ (iList K _)) (pg_name (i := 8) sc_law.nd rfl (Or.inl rfl)) (pss_cons (ps_set (i := 9) sc_law.nd rfl (Or.inl rfl) (pe_call (ok__law_order T) (hr.mono (by omega)) (by rfl) T.g__law_order T.F__law_order.kp T.b__law_order .nil pass0 (pa_cons (pv 8) (pa_cons (pv 2) (pa_cons (pv 1) pa_nil)))))
  (pss_one (ps_if (pt_cmpR (op_neD (hu64 hr) : OpR _ (compareOp .NotEq) (rNeD K)) (pe_call (ok_coarsest_parting T) (hr.mono (by omega)) (by rfl) T.g_coarsest_parting T.F_coarsest_parting.kp T.b_coarsest_parting .nil pass0 (pa_cons (pe_call (ok_web_renamed T) (hr.mono (by omega)) (by rfl) T.g_web_renamed T.F_web_renamed.kp T.b_web_renamed .nil pass0 (pa_cons (pv 3) (pa_cons (pv 9) pa_nil))) pa_nil)) (pe_call (ok__law_numbered T) (hr.mono (by omega)) (by rfl) T.g__law_numbered T.F__law_numbered.kp T.b__law_numbered .nil pass0 (pa_cons (pe_lc (own := [("_law_place", 10)]) (g := gName 10) rfl sc_law.nd (pi_list (pv 9) : PI _ _ _ (iList K _)) (blkOk_by (own := [("_law_place", 10)]) (N := ["_law_script", "_law_free", "_law_many", "_law_web_here", "_law_copy", "_law_row", "_law_told_here", "_law_lots", "_law_cell", "_law_order_here", "_law_place"]) (sc := defScope s_law) (by decide +kernel)) (fun _ _ _ _ _ => (pg_name (i := 10) sc_law.nd rfl (Or.inl rfl))) (fun _ _ _ _ _ => pts_nil) (fun _ _ _ _ _ => (pe_ix (ix_seq : IxR _ (rIx K)) (pv 6) (pv 10) (fun _ _ => rfl)))) pa_nil)) (nomark _)) (pss_one (ps_ret pe_bl)) pss_nil))))
  (pss_cons (ps_set (i := 7) sc_law.nd rfl (Or.inl rfl) (pe_callTy (o_list : CallR _ (.type "list") (rListOf K)) (by rfl) T.n_list (by decide +kernel) (pa_cons (pv 6) pa_nil)))
  (pss_cons (ps_expr (pe_bm PySem.F.plainAttrs_list PySem.F.slot_list_append PySem.F.type_list_append mt_append (pv 6) (pa_cons pe_int pa_nil)))
  (pss_one (ps_ret (pe_and (pe_cmpR (op_eqD (hu64 hr) : OpR _ (compareOp .Eq) (rEqD K)) (pe_call (ok_coarsest_parting T) (hr.mono (by omega)) (by rfl) T.g_coarsest_parting T.F_coarsest_parting.kp T.b_coarsest_parting .nil pass0 (pa_cons (pv 3) pa_nil)) (pv 7) (nomark _)) (pe_one (pe_cmpR (op_eqD (hu64 hr) : OpR _ (compareOp .Eq) (rEqD K)) (pv 3) (pv 4) (nomark _)))))))))))))))), fun ns hl => by
    have hl : ns.length ≤ 63 := hl
    refine bs_asg (g := .dt (.bool (decide (cellZ ns 0 % 2 = 0)))) (M1 := []) (by walk_at "ek") ?_
    obtain ⟨m, hm⟩ : ∃ m : Nat, (m : Int) = cellZ ns 0 / 2 % 6 := ⟨(cellZ ns 0 / 2 % 6).toNat, by omega⟩
    have hm8 : m < 6 := by omega
    refine bs_asg (g := .dt (.int (m : Int))) (M1 := []) (by rw [hm]; walk_at "ek") ?_
    generalize decide (cellZ ns 0 % 2 = 0) = fr
    refine bs_asgX (use_web2 (m := m) (at_ := 1) (fr := fr) (M1 := []) (by walk_at "eka") (by omega)) fun g M' ⟨w, hw, e1, e2⟩ => ?_
    subst e1 e2
    have hfw : WFit w := web_fit hw (by omega)
    obtain ⟨hw1, hw2, hw3⟩ := id hw
    refine bs_asg (g := .dt (.tuple [eIs w.1, eIss w.2])) (M1 := []) (ee_tupU (ea_p2 (ee_fz (ef_cb (ea_p1 (ee_op (ee_var rfl) ee_int (x_tup rfl))) li_list)) (ee_fz (ds := w.2.map eIs) (ef_map (M1 := []) (fun i => .dt ((w.2.map eIs).getD i .none)) (ei_list (ds := w.2.map eIs) (ee_op (ee_var rfl) ee_int (x_tup rfl))) (fun i hi => ?_) ?_ (by decide) (by rw [List.length_map, hw3.1]; omega)))) rfl (lenB rfl)) ?_
    · rw [List.length_map] at hi
      rw [getD_map eIs hi]
      exact ee_fz (ef_cb (ea_p1 (ee_var rfl)) li_list)
    · exact range_getD (w.2.map eIs) .none GV.dt
    refine bs_asgF (usef_coarsest (M1 := []) (by walk_at "eka") hfw) fun p => ?_
    have hcs := coarse_is hfw
    have hren := fun o (ho : Ord w.1.length o) => coarse_ren hfw ho
    have hcm : coarseM w = coarseM w := rfl
    generalize hc0 : coarseM w = cs at *
    have hfit := hcs.toCI.fit hfw
    have hlen : cs.length = m := by rw [hcs.len, hw1]
    have hrng : ∀ x ∈ cs, 0 ≤ x ∧ x < cs.length := fun x hx => by have := hcs.toCI.rng x hx; rw [hcs.len]; exact this
    have lend : ∀ {x5 x7 x8 x9 x10 : Option GV}, Lends [(p, true, GO.lst (iG cs))] [some (.sc ns), some (.dt (.bool fr)), some (.dt (.int (m : Int))), some (.dt (eWeb w)), some (.dt (eWeb w)), x5, some (.rf p), x7, x8, x9, x10] [some (.sc ns), some (.dt (.bool fr)), some (.dt (.int (m : Int))), some (.dt (eWeb w)), some (.dt (eWeb w)), x5, some (.dt (eIs cs)), x7, x8, x9, x10] := fun {x5 x7 x8 x9 x10} => lends_one (i := 6) (fl := true) (p := p) (ds := cs.map .int) rfl (.head _)
    refine bs_when (b := false) (M1 := [(p, true, .lst (iG cs))]) (et_lend [some (.sc ns), some (.dt (.bool fr)), some (.dt (.int (m : Int))), some (.dt (eWeb w)), some (.dt (eWeb w)), none, some (.dt (eIs cs)), none, none, none, none] (et_or (b := false) (c := false) (et_not (b := true) (et_B (use_law_told (by walk_at "eka") hlen (by omega) hcs.can))) fun _ => et_not (b := true) (et_B (EE.eq (use_law_even (by walk_at "eka") hfit hrng) (by rw [evenB_yes hcs.even])))) lend) (fun h => by cases h) (fun _ => ?_)
    refine blk_mid (Mid := fun E' M' => ∃ x5 x7 x8 x9 x10, E' = [some (.sc ns), some (.dt (.bool fr)), some (.dt (.int (m : Int))), some (.dt (eWeb w)), some (.dt (eWeb w)), x5, some (.rf p), x7, x8, x9, x10] ∧ M' = [(p, true, .lst (iG cs))]) ?_ ?_
    · refine blk_for (ei_list (ds := (allM m).map eIs) (M1 := [(p, true, .lst (iG cs))]) (use_law_all (by walk_at "eka") (by omega))) (fun i E' M' => ∃ x5 x7 x8 x9 x10, E' = [some (.sc ns), some (.dt (.bool fr)), some (.dt (.int (m : Int))), some (.dt (eWeb w)), some (.dt (eWeb w)), x5, some (.rf p), x7, x8, x9, x10] ∧ M' = [(p, true, .lst (iG cs))]) ⟨_, _, _, _, _, rfl, rfl⟩ ?_ (fun E1 N1 h => h)
      rintro i E1 N1 hi ⟨x5, x7, x8, x9, x10, rfl, rfl⟩
      rw [List.length_map] at hi
      rw [getD_map eIs hi]
      obtain ⟨l1, l2⟩ := allM_ok m _ (List.getElem_mem hi)
      generalize (allM m)[i] = ls at *
      have hf2 : Fit w ls := fit_of hw (by omega) l1 fun x hx => by have := l2 x hx; omega
      refine blk_when (b := false) (M1 := [(p, true, .lst (iG cs))]) (et_lend [some (.sc ns), some (.dt (.bool fr)), some (.dt (.int (m : Int))), some (.dt (eWeb w)), some (.dt (eWeb w)), x5, some (.dt (eIs cs)), some (.dt (eIs ls)), x8, x9, x10] (ET.eq (et_and (b := evenB w ls) (c := false) (et_B (use_law_even (by walk_at "eka") hf2 fun x hx => by rw [l1]; exact l2 x hx)) fun he => et_not (b := true) (et_B (use_law_within (by walk_at "eka") (by rw [l1, hlen]) (by omega) (by rw [l1, ← hw1]; exact hcs.top ls hf2 (evenB_iff.mp he))))) (by rw [Bool.and_false])) lend) (fun h => by cases h) (fun _ => ⟨_, _, _, _, _, rfl, rfl⟩)
    rintro E1 N1 ⟨x5, x7, x8, x9, x10, rfl, rfl⟩
    refine blk_mid (Mid := fun E' M' => ∃ x5 x7 x8 x9 x10, E' = [some (.sc ns), some (.dt (.bool fr)), some (.dt (.int (m : Int))), some (.dt (eWeb w)), some (.dt (eWeb w)), x5, some (.rf p), x7, x8, x9, x10] ∧ M' = [(p, true, .lst (iG cs))]) ?_ ?_
    · refine blk_for (ei_list (ds := [cellZ ns 4, (cutD ns (some 5) (some 63)).sum].map .int) (M1 := [(p, true, .lst (iG cs))]) (ee_fzU (by walk_at "ekf") rfl)) (fun i E' M' => ∃ x5 x7 x8 x9 x10, E' = [some (.sc ns), some (.dt (.bool fr)), some (.dt (.int (m : Int))), some (.dt (eWeb w)), some (.dt (eWeb w)), x5, some (.rf p), x7, x8, x9, x10] ∧ M' = [(p, true, .lst (iG cs))]) ⟨_, _, _, _, _, rfl, rfl⟩ ?_ (fun E1 N1 h => h)
      rintro i E1 N1 hi ⟨x5, x7, x8, x9, x10, rfl, rfl⟩
      rw [List.length_map] at hi
      rw [getD_map PyData.int hi]
      generalize [cellZ ns 4, (cutD ns (some 5) (some 63)).sum][i] = c at *
      refine bs_asgX (use_order (c := c) (m := m) (fr := fr) (M1 := [(p, true, .lst (iG cs))]) (by walk_at "eka") (by omega)) fun g M' ⟨o, ho, e1, e2⟩ => ?_
      subst e1 e2
      have ho' : Ord w.1.length o := by rw [hw1]; exact ho
      have hol := ho.len
      refine blk_when (b := false) (M1 := [(p, true, .lst (iG cs))]) (et_test (EE.eq (ee_op (x := .dt (eIs (numbM ((o.map fun p => cs.getD p 0).map .int)))) (y := .dt (eIs (numbM ((o.map fun p => cs.getD p 0).map .int)))) (M1 := [(p, true, .lst (iG cs))]) (M2 := [(p, true, .lst (iG cs))]) ?_ ?_ (r2_neD (sh_is _) (sh_is _))) ?_)) (fun h => by cases h) (fun _ => ⟨_, _, _, _, _, rfl, rfl⟩)
      · rw [← hren o ho']
        exact ee_fz (usef_coarsest (ea_p1 (use_ren_web_renamed (by walk_at "eka") hfw ho')) (ren_fit hfw ho').1)
      · refine use__law_numbered (ea_p1 (ee_fz (ef_map (M1 := [(p, true, .lst (iG cs))]) (fun i => .dt (.int (cs.getD (o.getD i 0) 0))) (ei_list (ds := (nI o).map .int) (ee_var rfl)) (fun i hi => ?_) ?_ (by decide) ?_))) (by rw [List.length_map, List.length_map]; omega) (ints_lay _)
        · rw [List.length_map, List.length_map] at hi
          have hlt := ho.lt (show i < m by omega)
          rw [getD_int (by rw [List.length_map]; exact hi), nI_get hi]
          exact ee_op (ee_var rfl) (ee_var rfl) (x_own (.head _) (atI_nat (by rw [iG_get (by omega), getD_of (l := cs) (by omega)])))
        · rw [List.length_map, List.length_map, List.map_map, List.map_map]
          exact range_getD o 0 (fun p => GV.dt (.int (cs.getD p 0)))
        · rw [List.length_map, List.length_map]; omega
      · rw [eqv_refl' (sh_is _)]; rfl
    rintro E1 N1 ⟨x5, x7, x8, x9, x10, rfl, rfl⟩
    refine bs_asg (ee_fz (ds := cs.map .int) (M1 := [(p, true, .lst (iG cs))]) (ef_lend [some (.sc ns), some (.dt (.bool fr)), some (.dt (.int (m : Int))), some (.dt (eWeb w)), some (.dt (eWeb w)), x5, some (.dt (eIs cs)), x7, x8, x9, x10] (ef_cb (ea_p1 (ee_var rfl)) li_list) lend (atom_ints cs))) ?_
    refine blk_seq (blk_app (j := 0) (M1 := [(p, true, .lst (iG cs))]) (ee_var rfl) ee_int rfl rfl (by rw [iG_len, sizeLine_eq]; omega) ?_)
    refine blk_ret (EE.eq (ee_andV (b := true) (c := true) (EE.eq (ee_op (ee_fz (usef_coarsest (by walk_at "eka") hfw)) (ee_var rfl) (r2_eqD (sh_is _) (sh_is _))) ?_) fun _ => EE.eq (ee_op (ee_var rfl) (ee_var rfl) (r2_eqD (sh_web w) (sh_web w))) ?_) ?_) (.inl rfl)
    · rw [hc0, eqv_refl' (sh_is _)]
    · rw [eqv_refl' (sh_web w)]
    · rfl⟩
end
theorem all_mk {w : World} {K : PySem.W.Frag} {h : Heap} {mg : Str → Option Value} {fa : Addr} (X : K.In h) (G : h.Ns mainGlobals mg) (hfa : mg "law" = some (.ref fa))
    {f_web_renamed : Addr} {od_web_renamed an_web_renamed : Option Addr} {sl_web_renamed : Array (Option Value)} {oc_web_renamed kV_web_renamed dc_web_renamed pm_web_renamed cd_web_renamed ct_web_renamed : Value}
    (a_web_renamed : PySem.W.nsIn K mainGlobals "web_renamed" = some (some (.ref f_web_renamed))) (l_web_renamed : K.lookup f_web_renamed = some ⟨oc_web_renamed, od_web_renamed, .func (PySem.W.fnOf "web_renamed" "web_renamed" (defArgs s_web_renamed) (defBody s_web_renamed) (defScope s_web_renamed) .none kV_web_renamed dc_web_renamed pm_web_renamed an_web_renamed cd_web_renamed ct_web_renamed), sl_web_renamed⟩) (c_web_renamed : PySem.W.codeIn K cd_web_renamed "web_renamed" = true) (k_web_renamed : PySem.W.keepIn K (.ref f_web_renamed) = true)
    {f_numbered : Addr} {od_numbered an_numbered : Option Addr} {sl_numbered : Array (Option Value)} {oc_numbered kV_numbered dc_numbered pm_numbered cd_numbered ct_numbered : Value}
    (a_numbered : PySem.W.nsIn K mainGlobals "numbered" = some (some (.ref f_numbered))) (l_numbered : K.lookup f_numbered = some ⟨oc_numbered, od_numbered, .func (PySem.W.fnOf "numbered" "numbered" (defArgs s_numbered) (defBody s_numbered) (defScope s_numbered) .none kV_numbered dc_numbered pm_numbered an_numbered cd_numbered ct_numbered), sl_numbered⟩) (c_numbered : PySem.W.codeIn K cd_numbered "numbered" = true) (k_numbered : PySem.W.keepIn K (.ref f_numbered) = true)
    {f_weights_to : Addr} {od_weights_to an_weights_to : Option Addr} {sl_weights_to : Array (Option Value)} {oc_weights_to kV_weights_to dc_weights_to pm_weights_to cd_weights_to ct_weights_to : Value}
    (a_weights_to : PySem.W.nsIn K mainGlobals "weights_to" = some (some (.ref f_weights_to))) (l_weights_to : K.lookup f_weights_to = some ⟨oc_weights_to, od_weights_to, .func (PySem.W.fnOf "weights_to" "weights_to" (defArgs s_weights_to) (defBody s_weights_to) (defScope s_weights_to) .none kV_weights_to dc_weights_to pm_weights_to an_weights_to cd_weights_to ct_weights_to), sl_weights_to⟩) (c_weights_to : PySem.W.codeIn K cd_weights_to "weights_to" = true) (k_weights_to : PySem.W.keepIn K (.ref f_weights_to) = true)
    {f_looks_of : Addr} {od_looks_of an_looks_of : Option Addr} {sl_looks_of : Array (Option Value)} {oc_looks_of kV_looks_of dc_looks_of pm_looks_of cd_looks_of ct_looks_of : Value}
    (a_looks_of : PySem.W.nsIn K mainGlobals "looks_of" = some (some (.ref f_looks_of))) (l_looks_of : K.lookup f_looks_of = some ⟨oc_looks_of, od_looks_of, .func (PySem.W.fnOf "looks_of" "looks_of" (defArgs s_looks_of) (defBody s_looks_of) (defScope s_looks_of) .none kV_looks_of dc_looks_of pm_looks_of an_looks_of cd_looks_of ct_looks_of), sl_looks_of⟩) (c_looks_of : PySem.W.codeIn K cd_looks_of "looks_of" = true) (k_looks_of : PySem.W.keepIn K (.ref f_looks_of) = true)
    {f_coarsest_parting : Addr} {od_coarsest_parting an_coarsest_parting : Option Addr} {sl_coarsest_parting : Array (Option Value)} {oc_coarsest_parting kV_coarsest_parting dc_coarsest_parting pm_coarsest_parting cd_coarsest_parting ct_coarsest_parting : Value}
    (a_coarsest_parting : PySem.W.nsIn K mainGlobals "coarsest_parting" = some (some (.ref f_coarsest_parting))) (l_coarsest_parting : K.lookup f_coarsest_parting = some ⟨oc_coarsest_parting, od_coarsest_parting, .func (PySem.W.fnOf "coarsest_parting" "coarsest_parting" (defArgs s_coarsest_parting) (defBody s_coarsest_parting) (defScope s_coarsest_parting) .none kV_coarsest_parting dc_coarsest_parting pm_coarsest_parting an_coarsest_parting cd_coarsest_parting ct_coarsest_parting), sl_coarsest_parting⟩) (c_coarsest_parting : PySem.W.codeIn K cd_coarsest_parting "coarsest_parting" = true) (k_coarsest_parting : PySem.W.keepIn K (.ref f_coarsest_parting) = true)
    {f__law_cell_at : Addr} {od__law_cell_at an__law_cell_at : Option Addr} {sl__law_cell_at : Array (Option Value)} {oc__law_cell_at kV__law_cell_at dc__law_cell_at pm__law_cell_at cd__law_cell_at ct__law_cell_at : Value}
    (a__law_cell_at : PySem.W.nsIn K mainGlobals "_law_cell_at" = some (some (.ref f__law_cell_at))) (l__law_cell_at : K.lookup f__law_cell_at = some ⟨oc__law_cell_at, od__law_cell_at, .func (PySem.W.fnOf "_law_cell_at" "_law_cell_at" (defArgs s__law_cell_at) (defBody s__law_cell_at) (defScope s__law_cell_at) .none kV__law_cell_at dc__law_cell_at pm__law_cell_at an__law_cell_at cd__law_cell_at ct__law_cell_at), sl__law_cell_at⟩) (c__law_cell_at : PySem.W.codeIn K cd__law_cell_at "_law_cell_at" = true) (k__law_cell_at : PySem.W.keepIn K (.ref f__law_cell_at) = true)
    {f__law_draws : Addr} {od__law_draws an__law_draws : Option Addr} {sl__law_draws : Array (Option Value)} {oc__law_draws kV__law_draws dc__law_draws pm__law_draws cd__law_draws ct__law_draws : Value}
    (a__law_draws : PySem.W.nsIn K mainGlobals "_law_draws" = some (some (.ref f__law_draws))) (l__law_draws : K.lookup f__law_draws = some ⟨oc__law_draws, od__law_draws, .func (PySem.W.fnOf "_law_draws" "_law_draws" (defArgs s__law_draws) (defBody s__law_draws) (defScope s__law_draws) .none kV__law_draws dc__law_draws pm__law_draws an__law_draws cd__law_draws ct__law_draws), sl__law_draws⟩) (c__law_draws : PySem.W.codeIn K cd__law_draws "_law_draws" = true) (k__law_draws : PySem.W.keepIn K (.ref f__law_draws) = true)
    {f__law_square : Addr} {od__law_square an__law_square : Option Addr} {sl__law_square : Array (Option Value)} {oc__law_square kV__law_square dc__law_square pm__law_square cd__law_square ct__law_square : Value}
    (a__law_square : PySem.W.nsIn K mainGlobals "_law_square" = some (some (.ref f__law_square))) (l__law_square : K.lookup f__law_square = some ⟨oc__law_square, od__law_square, .func (PySem.W.fnOf "_law_square" "_law_square" (defArgs s__law_square) (defBody s__law_square) (defScope s__law_square) .none kV__law_square dc__law_square pm__law_square an__law_square cd__law_square ct__law_square), sl__law_square⟩) (c__law_square : PySem.W.codeIn K cd__law_square "_law_square" = true) (k__law_square : PySem.W.keepIn K (.ref f__law_square) = true)
    {f__law_web : Addr} {od__law_web an__law_web : Option Addr} {sl__law_web : Array (Option Value)} {oc__law_web kV__law_web dc__law_web pm__law_web cd__law_web ct__law_web : Value}
    (a__law_web : PySem.W.nsIn K mainGlobals "_law_web" = some (some (.ref f__law_web))) (l__law_web : K.lookup f__law_web = some ⟨oc__law_web, od__law_web, .func (PySem.W.fnOf "_law_web" "_law_web" (defArgs s__law_web) (defBody s__law_web) (defScope s__law_web) .none kV__law_web dc__law_web pm__law_web an__law_web cd__law_web ct__law_web), sl__law_web⟩) (c__law_web : PySem.W.codeIn K cd__law_web "_law_web" = true) (k__law_web : PySem.W.keepIn K (.ref f__law_web) = true)
    {f__law_order : Addr} {od__law_order an__law_order : Option Addr} {sl__law_order : Array (Option Value)} {oc__law_order kV__law_order dc__law_order pm__law_order cd__law_order ct__law_order : Value}
    (a__law_order : PySem.W.nsIn K mainGlobals "_law_order" = some (some (.ref f__law_order))) (l__law_order : K.lookup f__law_order = some ⟨oc__law_order, od__law_order, .func (PySem.W.fnOf "_law_order" "_law_order" (defArgs s__law_order) (defBody s__law_order) (defScope s__law_order) .none kV__law_order dc__law_order pm__law_order an__law_order cd__law_order ct__law_order), sl__law_order⟩) (c__law_order : PySem.W.codeIn K cd__law_order "_law_order" = true) (k__law_order : PySem.W.keepIn K (.ref f__law_order) = true)
    {f__law_numbered : Addr} {od__law_numbered an__law_numbered : Option Addr} {sl__law_numbered : Array (Option Value)} {oc__law_numbered kV__law_numbered dc__law_numbered pm__law_numbered cd__law_numbered ct__law_numbered : Value}
    (a__law_numbered : PySem.W.nsIn K mainGlobals "_law_numbered" = some (some (.ref f__law_numbered))) (l__law_numbered : K.lookup f__law_numbered = some ⟨oc__law_numbered, od__law_numbered, .func (PySem.W.fnOf "_law_numbered" "_law_numbered" (defArgs s__law_numbered) (defBody s__law_numbered) (defScope s__law_numbered) .none kV__law_numbered dc__law_numbered pm__law_numbered an__law_numbered cd__law_numbered ct__law_numbered), sl__law_numbered⟩) (c__law_numbered : PySem.W.codeIn K cd__law_numbered "_law_numbered" = true) (k__law_numbered : PySem.W.keepIn K (.ref f__law_numbered) = true)
    {f__law_even : Addr} {od__law_even an__law_even : Option Addr} {sl__law_even : Array (Option Value)} {oc__law_even kV__law_even dc__law_even pm__law_even cd__law_even ct__law_even : Value}
    (a__law_even : PySem.W.nsIn K mainGlobals "_law_even" = some (some (.ref f__law_even))) (l__law_even : K.lookup f__law_even = some ⟨oc__law_even, od__law_even, .func (PySem.W.fnOf "_law_even" "_law_even" (defArgs s__law_even) (defBody s__law_even) (defScope s__law_even) .none kV__law_even dc__law_even pm__law_even an__law_even cd__law_even ct__law_even), sl__law_even⟩) (c__law_even : PySem.W.codeIn K cd__law_even "_law_even" = true) (k__law_even : PySem.W.keepIn K (.ref f__law_even) = true)
    {f__law_all : Addr} {od__law_all an__law_all : Option Addr} {sl__law_all : Array (Option Value)} {oc__law_all kV__law_all dc__law_all pm__law_all cd__law_all ct__law_all : Value}
    (a__law_all : PySem.W.nsIn K mainGlobals "_law_all" = some (some (.ref f__law_all))) (l__law_all : K.lookup f__law_all = some ⟨oc__law_all, od__law_all, .func (PySem.W.fnOf "_law_all" "_law_all" (defArgs s__law_all) (defBody s__law_all) (defScope s__law_all) .none kV__law_all dc__law_all pm__law_all an__law_all cd__law_all ct__law_all), sl__law_all⟩) (c__law_all : PySem.W.codeIn K cd__law_all "_law_all" = true) (k__law_all : PySem.W.keepIn K (.ref f__law_all) = true)
    {f__law_told : Addr} {od__law_told an__law_told : Option Addr} {sl__law_told : Array (Option Value)} {oc__law_told kV__law_told dc__law_told pm__law_told cd__law_told ct__law_told : Value}
    (a__law_told : PySem.W.nsIn K mainGlobals "_law_told" = some (some (.ref f__law_told))) (l__law_told : K.lookup f__law_told = some ⟨oc__law_told, od__law_told, .func (PySem.W.fnOf "_law_told" "_law_told" (defArgs s__law_told) (defBody s__law_told) (defScope s__law_told) .none kV__law_told dc__law_told pm__law_told an__law_told cd__law_told ct__law_told), sl__law_told⟩) (c__law_told : PySem.W.codeIn K cd__law_told "_law_told" = true) (k__law_told : PySem.W.keepIn K (.ref f__law_told) = true)
    {f__law_within : Addr} {od__law_within an__law_within : Option Addr} {sl__law_within : Array (Option Value)} {oc__law_within kV__law_within dc__law_within pm__law_within cd__law_within ct__law_within : Value}
    (a__law_within : PySem.W.nsIn K mainGlobals "_law_within" = some (some (.ref f__law_within))) (l__law_within : K.lookup f__law_within = some ⟨oc__law_within, od__law_within, .func (PySem.W.fnOf "_law_within" "_law_within" (defArgs s__law_within) (defBody s__law_within) (defScope s__law_within) .none kV__law_within dc__law_within pm__law_within an__law_within cd__law_within ct__law_within), sl__law_within⟩) (c__law_within : PySem.W.codeIn K cd__law_within "_law_within" = true) (k__law_within : PySem.W.keepIn K (.ref f__law_within) = true)
    {f_law : Addr} {od_law an_law : Option Addr} {sl_law : Array (Option Value)} {oc_law kV_law dc_law pm_law cd_law ct_law : Value}
    (a_law : PySem.W.nsIn K mainGlobals "law" = some (some (.ref f_law))) (l_law : K.lookup f_law = some ⟨oc_law, od_law, .func (PySem.W.fnOf "law" "law" (defArgs s_law) (defBody s_law) (defScope s_law) .none kV_law dc_law pm_law an_law cd_law ct_law), sl_law⟩) (c_law : PySem.W.codeIn K cd_law "law" = true) (k_law : PySem.W.keepIn K (.ref f_law) = true)
    (z_bool : PySem.W.nsIn K mainGlobals "bool" = some none)
    (z_enumerate : PySem.W.nsIn K mainGlobals "enumerate" = some none)
    (z_int : PySem.W.nsIn K mainGlobals "int" = some none)
    (z_isinstance : PySem.W.nsIn K mainGlobals "isinstance" = some none)
    (z_len : PySem.W.nsIn K mainGlobals "len" = some none)
    (z_list : PySem.W.nsIn K mainGlobals "list" = some none)
    (z_max : PySem.W.nsIn K mainGlobals "max" = some none)
    (z_range : PySem.W.nsIn K mainGlobals "range" = some none)
    (z_sorted : PySem.W.nsIn K mainGlobals "sorted" = some none)
    (z_sum : PySem.W.nsIn K mainGlobals "sum" = some none)
    (z_zip : PySem.W.nsIn K mainGlobals "zip" = some none)
    : ∃ fd : FuncData, (∀ (s : Shared) (v : Value), BindsTo s fd ⟨[v], []⟩ [("_law_script", v)]) ∧ ∀ base : Heap, K.In base → base.Ns mainGlobals mg → FnOk PySem.Challenge.rw_evenkin_k22_whole_coarsest_parting.prog w K mg base CX0 5 fa fd ["_law_script"] (spLaw K) := by
  have e := hfa.symm.trans (PySem.W.mg_of X G a_law)
  rw [show fa = f_law by cases e; rfl]
  have F_web_renamed := fun_mk (st := s_web_renamed) l_web_renamed c_web_renamed k_web_renamed
  have F_numbered := fun_mk (st := s_numbered) l_numbered c_numbered k_numbered
  have F_weights_to := fun_mk (st := s_weights_to) l_weights_to c_weights_to k_weights_to
  have F_looks_of := fun_mk (st := s_looks_of) l_looks_of c_looks_of k_looks_of
  have F_coarsest_parting := fun_mk (st := s_coarsest_parting) l_coarsest_parting c_coarsest_parting k_coarsest_parting
  have F__law_cell_at := fun_mk (st := s__law_cell_at) l__law_cell_at c__law_cell_at k__law_cell_at
  have F__law_draws := fun_mk (st := s__law_draws) l__law_draws c__law_draws k__law_draws
  have F__law_square := fun_mk (st := s__law_square) l__law_square c__law_square k__law_square
  have F__law_web := fun_mk (st := s__law_web) l__law_web c__law_web k__law_web
  have F__law_order := fun_mk (st := s__law_order) l__law_order c__law_order k__law_order
  have F__law_numbered := fun_mk (st := s__law_numbered) l__law_numbered c__law_numbered k__law_numbered
  have F__law_even := fun_mk (st := s__law_even) l__law_even c__law_even k__law_even
  have F__law_all := fun_mk (st := s__law_all) l__law_all c__law_all k__law_all
  have F__law_told := fun_mk (st := s__law_told) l__law_told c__law_told k__law_told
  have F__law_within := fun_mk (st := s__law_within) l__law_within c__law_within k__law_within
  have F_law := fun_mk (st := s_law) l_law c_law k_law
  have b_web_renamed := F_web_renamed.binds (ps := ["web", "order"]) fun _ _ _ _ _ _ us hl => match us, hl with | [_, _], _ => rfl
  have b_numbered := F_numbered.binds (ps := ["things"]) fun _ _ _ _ _ _ us hl => match us, hl with | [_], _ => rfl
  have b_weights_to := F_weights_to.binds (ps := ["web", "lots", "place"]) fun _ _ _ _ _ _ us hl => match us, hl with | [_, _, _], _ => rfl
  have b_looks_of := F_looks_of.binds (ps := ["web", "lots"]) fun _ _ _ _ _ _ us hl => match us, hl with | [_, _], _ => rfl
  have b_coarsest_parting := F_coarsest_parting.binds (ps := ["web"]) fun _ _ _ _ _ _ us hl => match us, hl with | [_], _ => rfl
  have b__law_cell_at := F__law_cell_at.binds (ps := ["_law_script", "_law_k"]) fun _ _ _ _ _ _ us hl => match us, hl with | [_, _], _ => rfl
  have b__law_draws := F__law_draws.binds (ps := ["_law_cell", "_law_many", "_law_base", "_law_free"]) fun _ _ _ _ _ _ us hl => match us, hl with | [_, _, _, _], _ => rfl
  have b__law_square := F__law_square.binds (ps := ["_law_many", "_law_draws_here", "_law_way"]) fun _ _ _ _ _ _ us hl => match us, hl with | [_, _, _], _ => rfl
  have b__law_web := F__law_web.binds (ps := ["_law_script", "_law_at", "_law_many", "_law_free"]) fun _ _ _ _ _ _ us hl => match us, hl with | [_, _, _, _], _ => rfl
  have b__law_order := F__law_order.binds (ps := ["_law_cell", "_law_many", "_law_free"]) fun _ _ _ _ _ _ us hl => match us, hl with | [_, _, _], _ => rfl
  have b__law_numbered := F__law_numbered.binds (ps := ["_law_things"]) fun _ _ _ _ _ _ us hl => match us, hl with | [_], _ => rfl
  have b__law_even := F__law_even.binds (ps := ["_law_web_here", "_law_lots"]) fun _ _ _ _ _ _ us hl => match us, hl with | [_, _], _ => rfl
  have b__law_all := F__law_all.binds (ps := ["_law_many"]) fun _ _ _ _ _ _ us hl => match us, hl with | [_], _ => rfl
  have b__law_told := F__law_told.binds (ps := ["_law_lots", "_law_many"]) fun _ _ _ _ _ _ us hl => match us, hl with | [_, _], _ => rfl
  have b__law_within := F__law_within.binds (ps := ["_law_lots", "_law_told_here"]) fun _ _ _ _ _ _ us hl => match us, hl with | [_, _], _ => rfl
  have b_law := F_law.binds (ps := ["_law_script"]) fun _ _ _ _ _ _ us hl => match us, hl with | [_], _ => rfl
  have T : ∃ T : Txt K mg, T.a_law = f_law ∧ T.d_law = (PySem.W.fnOf "law" "law" (defArgs s_law) (defBody s_law) (defScope s_law) .none kV_law dc_law pm_law an_law cd_law ct_law) := ⟨{
    a_web_renamed := _, d_web_renamed := _, F_web_renamed := F_web_renamed, g_web_renamed := PySem.W.mg_of X G a_web_renamed, b_web_renamed := b_web_renamed,
    a_numbered := _, d_numbered := _, F_numbered := F_numbered, g_numbered := PySem.W.mg_of X G a_numbered, b_numbered := b_numbered,
    a_weights_to := _, d_weights_to := _, F_weights_to := F_weights_to, g_weights_to := PySem.W.mg_of X G a_weights_to, b_weights_to := b_weights_to,
    a_looks_of := _, d_looks_of := _, F_looks_of := F_looks_of, g_looks_of := PySem.W.mg_of X G a_looks_of, b_looks_of := b_looks_of,
    a_coarsest_parting := _, d_coarsest_parting := _, F_coarsest_parting := F_coarsest_parting, g_coarsest_parting := PySem.W.mg_of X G a_coarsest_parting, b_coarsest_parting := b_coarsest_parting,
    a__law_cell_at := _, d__law_cell_at := _, F__law_cell_at := F__law_cell_at, g__law_cell_at := PySem.W.mg_of X G a__law_cell_at, b__law_cell_at := b__law_cell_at,
    a__law_draws := _, d__law_draws := _, F__law_draws := F__law_draws, g__law_draws := PySem.W.mg_of X G a__law_draws, b__law_draws := b__law_draws,
    a__law_square := _, d__law_square := _, F__law_square := F__law_square, g__law_square := PySem.W.mg_of X G a__law_square, b__law_square := b__law_square,
    a__law_web := _, d__law_web := _, F__law_web := F__law_web, g__law_web := PySem.W.mg_of X G a__law_web, b__law_web := b__law_web,
    a__law_order := _, d__law_order := _, F__law_order := F__law_order, g__law_order := PySem.W.mg_of X G a__law_order, b__law_order := b__law_order,
    a__law_numbered := _, d__law_numbered := _, F__law_numbered := F__law_numbered, g__law_numbered := PySem.W.mg_of X G a__law_numbered, b__law_numbered := b__law_numbered,
    a__law_even := _, d__law_even := _, F__law_even := F__law_even, g__law_even := PySem.W.mg_of X G a__law_even, b__law_even := b__law_even,
    a__law_all := _, d__law_all := _, F__law_all := F__law_all, g__law_all := PySem.W.mg_of X G a__law_all, b__law_all := b__law_all,
    a__law_told := _, d__law_told := _, F__law_told := F__law_told, g__law_told := PySem.W.mg_of X G a__law_told, b__law_told := b__law_told,
    a__law_within := _, d__law_within := _, F__law_within := F__law_within, g__law_within := PySem.W.mg_of X G a__law_within, b__law_within := b__law_within,
    a_law := _, d_law := _, F_law := F_law, g_law := PySem.W.mg_of X G a_law, b_law := b_law,
    n_bool := PySem.W.mg_none_of X G z_bool,
    n_enumerate := PySem.W.mg_none_of X G z_enumerate,
    n_int := PySem.W.mg_none_of X G z_int,
    n_isinstance := PySem.W.mg_none_of X G z_isinstance,
    n_len := PySem.W.mg_none_of X G z_len,
    n_list := PySem.W.mg_none_of X G z_list,
    n_max := PySem.W.mg_none_of X G z_max,
    n_range := PySem.W.mg_none_of X G z_range,
    n_sorted := PySem.W.mg_none_of X G z_sorted,
    n_sum := PySem.W.mg_none_of X G z_sum,
    n_zip := PySem.W.mg_none_of X G z_zip
  }, rfl, rfl⟩
  obtain ⟨T, ea, ed⟩ := T
  rw [← ea]
  exact ⟨T.d_law, by rw [ed]; exact fun s v => .of_eq rfl, fun base _ _ => ok_law T⟩
end Ek
open PySem PySem.W PyProof.Rows
set_option maxHeartbeats 0 in
theorem PySem.Challenge.cw_evenkin_k22_whole_coarsest_parting_holds : PySem.Challenge.rw_evenkin_k22_whole_coarsest_parting.Holds := by
  w_on; o_law; k_head; (case hw => w_witness2)
  k_fill
  refine L2.walk_of (l := PySem.Challenge.rw_evenkin_k22_whole_coarsest_parting) (n := 63) (k := 5) (x := "_law_script") (CX := fun _ => L2.CX0) (sp := fun w => Ek.spLaw _) rfl (by decide) rfl ⟨rfl, by decide, by decide⟩ (fun w h Y => PySem.W.kIn_of Y) ?F (fun w H a ns hl hO hS => Ek.law_begin hl hS) (fun _ _ _ _ _ h => h)
  case F =>
    intro w mg fa h KX G hmg
    refine' Ek.all_mk KX G hmg ?a_web_renamed ?l_web_renamed ?c_web_renamed ?k_web_renamed ?a_numbered ?l_numbered ?c_numbered ?k_numbered ?a_weights_to ?l_weights_to ?c_weights_to ?k_weights_to ?a_looks_of ?l_looks_of ?c_looks_of ?k_looks_of ?a_coarsest_parting ?l_coarsest_parting ?c_coarsest_parting ?k_coarsest_parting ?a__law_cell_at ?l__law_cell_at ?c__law_cell_at ?k__law_cell_at ?a__law_draws ?l__law_draws ?c__law_draws ?k__law_draws ?a__law_square ?l__law_square ?c__law_square ?k__law_square ?a__law_web ?l__law_web ?c__law_web ?k__law_web ?a__law_order ?l__law_order ?c__law_order ?k__law_order ?a__law_numbered ?l__law_numbered ?c__law_numbered ?k__law_numbered ?a__law_even ?l__law_even ?c__law_even ?k__law_even ?a__law_all ?l__law_all ?c__law_all ?k__law_all ?a__law_told ?l__law_told ?c__law_told ?k__law_told ?a__law_within ?l__law_within ?c__law_within ?k__law_within ?a_law ?l_law ?c_law ?k_law ?z_bool ?z_enumerate ?z_int ?z_isinstance ?z_len ?z_list ?z_max ?z_range ?z_sorted ?z_sum ?z_zip
    (case a_web_renamed => k_is); (case l_web_renamed => k_is); (case c_web_renamed => k_is); (case k_web_renamed => k_is); (case a_numbered => k_is); (case l_numbered => k_is); (case c_numbered => k_is); (case k_numbered => k_is); (case a_weights_to => k_is); (case l_weights_to => k_is); (case c_weights_to => k_is); (case k_weights_to => k_is); (case a_looks_of => k_is); (case l_looks_of => k_is); (case c_looks_of => k_is); (case k_looks_of => k_is); (case a_coarsest_parting => k_is); (case l_coarsest_parting => k_is); (case c_coarsest_parting => k_is); (case k_coarsest_parting => k_is); (case a__law_cell_at => k_is); (case l__law_cell_at => k_is); (case c__law_cell_at => k_is); (case k__law_cell_at => k_is); (case a__law_draws => k_is); (case l__law_draws => k_is); (case c__law_draws => k_is); (case k__law_draws => k_is); (case a__law_square => k_is); (case l__law_square => k_is); (case c__law_square => k_is); (case k__law_square => k_is); (case a__law_web => k_is); (case l__law_web => k_is); (case c__law_web => k_is); (case k__law_web => k_is); (case a__law_order => k_is); (case l__law_order => k_is); (case c__law_order => k_is); (case k__law_order => k_is); (case a__law_numbered => k_is); (case l__law_numbered => k_is); (case c__law_numbered => k_is); (case k__law_numbered => k_is); (case a__law_even => k_is); (case l__law_even => k_is); (case c__law_even => k_is); (case k__law_even => k_is); (case a__law_all => k_is); (case l__law_all => k_is); (case c__law_all => k_is); (case k__law_all => k_is); (case a__law_told => k_is); (case l__law_told => k_is); (case c__law_told => k_is); (case k__law_told => k_is); (case a__law_within => k_is); (case l__law_within => k_is); (case c__law_within => k_is); (case k__law_within => k_is); (case a_law => k_is); (case l_law => k_is); (case c_law => k_is); (case k_law => k_is); (case z_bool => k_is); (case z_enumerate => k_is); (case z_int => k_is); (case z_isinstance => k_is); (case z_len => k_is); (case z_list => k_is); (case z_max => k_is); (case z_range => k_is); (case z_sorted => k_is); (case z_sum => k_is); (case z_zip => k_is)

