import PyProof.Rows.All
import Wide.All
import OpenK.AllK
import Wide.FinOn
import HandS.ForMost
import HandS.IsInst
import HandS.DictComp
import HandS.TupAny
import HandS.Zip
import HandS.Rev
import HandS.Walk
import HandS.Flow
import HandS.Style
import HandS.Deep
import HandS.Wide
import HandS.Conv
import KE.KIndexWalk
import KE.DataMinMax
import KE.GoesMore
import PySem.Challenge.RW_rankswithin_k47_whole_evidence_about_two
set_option Elab.async false
set_option linter.all false
set_option maxRecDepth 100000
set_option maxHeartbeats 4000000
/-! Data logic: judgements over PyData. -/
namespace DL
open PySem PySem.Spec PyProof.Rows L2

def Ex (H H' : Hp) : Prop := ∀ a o, H a = some o → H' a = some o
theorem Ex.refl (H : Hp) : Ex H H := fun _ _ h => h
theorem Ex.trans {H H1 H2 : Hp} (a : Ex H H1) (b : Ex H1 H2) : Ex H H2 := fun x o h => b x o (a x o h)
theorem Ex.back {H H' : Hp} {p : Addr} (e : Ex H H') (h : H' p = none) : H p = none := by
  cases h1 : H p with
  | none => rfl
  | some o =>
    rw [e p o h1] at h
    cases h

mutual
inductive Dd (B : Hp) : V → PyData → Prop
  | non : Dd B .non .none
  | bl (b : Bool) : Dd B (.bl b) (.bool b)
  | int (i : Int) : Dd B (.int i) (.int i)
  | str (x : Str) : Dd B (.str x) (.str x)
  | lst {a : Addr} {xs : List V} {ds : List PyData} : B a = some (.lst xs) → DdAll B xs ds → Dd B (.ref a) (.list ds)
  | tup {a : Addr} {o : Obj} {xs : List V} {ds : List PyData} : B a = some (.frz o (.tup xs)) → o.dict = none → DdAll B xs ds → Dd B (.ref a) (.tuple ds)
  | dic {a : Addr} {ks : List (Key × V)} {ps : List (PyData × PyData)} : B a = some (.dK ks) → DdKV B ks ps → Dd B (.ref a) (.dict ps)
inductive DdAll (B : Hp) : List V → List PyData → Prop
  | nil : DdAll B [] []
  | cons {v : V} {d : PyData} {vs : List V} {ds : List PyData} : Dd B v d → DdAll B vs ds → DdAll B (v :: vs) (d :: ds)
inductive DdKV (B : Hp) : List (Key × V) → List (PyData × PyData) → Prop
  | nil : DdKV B [] []
  | cons {i : Int} {v : V} {d : PyData} {ks : List (Key × V)} {ps : List (PyData × PyData)} : Dd B v d → DdKV B ks ps → DdKV B ((.inl i, v) :: ks) ((.int i, d) :: ps)
end

mutual
theorem Dd.mono {B B' : Hp} (e : Ex B B') : ∀ {v : V} {d : PyData}, Dd B v d → Dd B' v d
  | _, _, .non => .non
  | _, _, .bl b => .bl b
  | _, _, .int i => .int i
  | _, _, .str x => .str x
  | _, _, .lst h r => .lst (e _ _ h) (DdAll.mono e r)
  | _, _, .tup h z r => .tup (e _ _ h) z (DdAll.mono e r)
  | _, _, .dic h r => .dic (e _ _ h) (DdKV.mono e r)
theorem DdAll.mono {B B' : Hp} (e : Ex B B') : ∀ {v : List V} {d : List PyData}, DdAll B v d → DdAll B' v d
  | _, _, .nil => .nil
  | _, _, .cons h r => .cons (Dd.mono e h) (DdAll.mono e r)
theorem DdKV.mono {B B' : Hp} (e : Ex B B') : ∀ {v : List (Key × V)} {d : List (PyData × PyData)}, DdKV B v d → DdKV B' v d
  | _, _, .nil => .nil
  | _, _, .cons h r => .cons (Dd.mono e h) (DdKV.mono e r)
end

section
variable {B B' H H' : Hp} {v u : V} {vs us : List V} {d x : PyData} {ds es : List PyData}
theorem DdAll.len : ∀ {vs : List V} {ds : List PyData}, DdAll B vs ds → vs.length = ds.length
  | _, _, .nil => rfl
  | _, _, .cons _ r => by rw [List.length_cons, List.length_cons, DdAll.len r]
theorem DdAll.get : ∀ {vs : List V} {ds : List PyData} {i : Nat} {d : PyData}, DdAll B vs ds → ds[i]? = some d → ∃ v, vs[i]? = some v ∧ Dd B v d
  | _, _, _, _, .nil, e => by simp at e
  | _, _, 0, _, .cons h r, e => by
    simp at e
    subst e
    exact ⟨_, rfl, h⟩
  | _, _, i + 1, d, .cons h r, e => by
    obtain ⟨v, h1, h2⟩ := DdAll.get (i := i) r (by simpa using e)
    exact ⟨v, by simpa using h1, h2⟩
theorem DdAll.app : ∀ {vs us : List V} {ds es : List PyData}, DdAll B vs ds → DdAll B us es → DdAll B (vs ++ us) (ds ++ es)
  | _, _, _, _, .nil, s => s
  | _, _, _, _, .cons h r, s => .cons h (DdAll.app r s)
theorem DdAll.take : ∀ {vs : List V} {ds : List PyData} (n : Nat), DdAll B vs ds → DdAll B (vs.take n) (ds.take n)
  | _, _, 0, _ => .nil
  | _, _, _ + 1, .nil => .nil
  | _, _, n + 1, .cons h r => .cons h (DdAll.take n r)
theorem DdAll.drop : ∀ {vs : List V} {ds : List PyData} (n : Nat), DdAll B vs ds → DdAll B (vs.drop n) (ds.drop n)
  | _, _, 0, r => r
  | _, _, _ + 1, .nil => .nil
  | _, _, n + 1, .cons h r => DdAll.drop n r
theorem DdAll.rev {vs : List V} {ds : List PyData} (h : DdAll B vs ds) : DdAll B vs.reverse ds.reverse := by
  induction vs generalizing ds with
  | nil =>
    cases h
    exact .nil
  | cons v vs ih =>
    cases h with
    | cons h r =>
      rw [List.reverse_cons, List.reverse_cons]
      exact (ih r).app (.cons h .nil)
theorem DdAll.set : ∀ {vs : List V} {ds : List PyData} (i : Nat), DdAll B vs ds → Dd B v d → DdAll B (vs.set i v) (ds.set i d)
  | _, _, _, .nil, _ => .nil
  | _, _, 0, .cons _ r, h => .cons h r
  | _, _, i + 1, .cons q r, h => .cons q (DdAll.set i r h)
theorem DdAll.ints : ∀ {vs : List V} {ns : List Int}, DdAll B vs (ns.map PyData.int) → vs = ns.map V.int
  | _, [], h => by
    cases h
    rfl
  | _, n :: ns, h => by
    cases h with
    | cons q r =>
      cases q
      rw [DdAll.ints r]
      rfl
theorem DdAll.bools : ∀ {vs : List V} {ns : List Bool}, DdAll B vs (ns.map PyData.bool) → vs = ns.map V.bl
  | _, [], h => by
    cases h
    rfl
  | _, n :: ns, h => by
    cases h with
    | cons q r =>
      cases q
      rw [DdAll.bools r]
      rfl
theorem ddAll_ints : ∀ {ns : List Int}, DdAll B (ns.map V.int) (ns.map PyData.int)
  | [] => .nil
  | n :: ns => .cons (.int n) ddAll_ints
end

mutual
theorem Dd.dp {K : PySem.W.Frag} {H : Hp} : ∀ {v : V} {d : PyData}, Dd H v d → d.canLay0 = true → Dp K H v d
  | _, _, .non, _ => .non
  | _, _, .bl b, _ => .bl b
  | _, _, .int i, _ => .int i
  | _, _, .str x, _ => .str x
  | _, _, .lst h r, c => .lst (.of h) (DdAll.dp r (by simpa only [PyData.canLay0] using c))
  | _, _, .tup h _ r, c => .tup (.inl (.inr ⟨_, h⟩)) (DdAll.dp r (by simpa only [PyData.canLay0] using c))
  | _, _, .dic h r, c => by simp [PyData.canLay0] at c
theorem DdAll.dp {K : PySem.W.Frag} {H : Hp} : ∀ {v : List V} {d : List PyData}, DdAll H v d → PyData.canLayAll0 d = true → DpAll K H v d
  | _, _, .nil, _ => .nil
  | _, _, .cons h r, c => by
    simp only [PyData.canLayAll0, Bool.and_eq_true] at c
    exact .cons (Dd.dp h c.1) (DdAll.dp r c.2)
end

/-! ### frames -/
structure Wf (mu : List Addr) (B0 H0 B H : Hp) : Prop where
  b : Ex B0 B
  s : Ex B H
  k : ∀ a o, a ∉ mu → H0 a = some o → H a = some o
  n : ∀ a, H0 a ≠ none → B0 a = none → B a = none
  t : ∀ a, H0 a ≠ none → H a ≠ none
section
variable {mu : List Addr} {B0 H0 B H B' H' : Hp}
theorem Wf.refl (e : Ex B H) : Wf mu B H B H := ⟨Ex.refl B, e, fun _ _ _ h => h, fun _ _ h => h, fun _ h => h⟩
theorem Wf.step (w : Wf mu B0 H0 B H) (p : Wf [] B H B' H') : Wf mu B0 H0 B' H' :=
  ⟨w.b.trans p.b, p.s, fun a o h1 h2 => p.k a o (by simp) (w.k a o h1 h2), fun a h1 h2 => p.n a (w.t a h1) (w.n a h1 h2), fun a h => p.t a (w.t a h)⟩
/-- the floor raised to what stands now -/
theorem Wf.floor (w : Wf mu B0 H0 B H) : Wf mu B H0 B H := ⟨Ex.refl B, w.s, w.k, fun _ _ h => h, w.t⟩
theorem Wf.under (w : Wf mu B0 H0 B H) (p : Wf mu B H0 B' H') : Wf mu B0 H0 B' H' :=
  ⟨w.b.trans p.b, p.s, p.k, fun a h1 h2 => p.n a h1 (w.n a h1 h2), p.t⟩
/-- a new object, known -/
theorem Wf.new {p : Addr} {o : HO} (e : Ex B H) (h : H p = none) : Wf [] B H (upd B p o) (upd H p o) where
  b := fun a u q => by
    have hne : a ≠ p := ne_of_none (e a u q) h
    rw [upd_ne hne]
    exact q
  s := fun a u q => by
    by_cases hp : a = p
    · subst hp
      rw [upd_same] at q ⊢
      exact q
    · rw [upd_ne hp] at q ⊢
      exact e a u q
  k := fun a u _ q => by
    rw [upd_ne (ne_of_none q h)]
    exact q
  n := fun a q1 q2 => by
    have hne : a ≠ p := fun z => q1 (by rw [z]; exact h)
    rw [upd_ne hne]
    exact q2
  t := fun a q => by
    have hne : a ≠ p := fun z => q (by rw [z]; exact h)
    rw [upd_ne hne]
    exact q
/-- a new object, not known -/
theorem Wf.newU {p : Addr} {o : HO} (e : Ex B H) (h : H p = none) : Wf [] B H B (upd H p o) where
  b := Ex.refl B
  s := fun a u q => by
    rw [upd_ne (ne_of_none (e a u q) h)]
    exact e a u q
  k := fun a u _ q => by
    rw [upd_ne (ne_of_none q h)]
    exact q
  n := fun a _ q2 => q2
  t := fun a q => by
    have hne : a ≠ p := fun z => q (by rw [z]; exact h)
    rw [upd_ne hne]
    exact q
end

/-! ### slots -/
inductive Sl where
  | d (x : PyData)
  | own (a : Addr) (ds : List PyData)
abbrev Gm := List (Option Sl)
structure SOk (mu : List Addr) (H0 B H : Hp) (sg : L2.St) (G : Gm) : Prop where
  len : sg.length = G.length
  dat : ∀ (i : Nat) (x : PyData), G[i]? = some (some (.d x)) → ∃ v, sg[i]? = some (some v) ∧ Dd B v x
  own : ∀ (i : Nat) (a : Addr) (ds : List PyData), G[i]? = some (some (.own a ds)) → sg[i]? = some (some (.ref a)) ∧ B a = none ∧ (H0 a = none ∨ a ∈ mu) ∧ ∃ vs, H a = some (.lst vs) ∧ DdAll B vs ds
  sep : ∀ (i j : Nat) (a : Addr) (ds es : List PyData), G[i]? = some (some (.own a ds)) → G[j]? = some (some (.own a es)) → i = j
section
variable {mu : List Addr} {B0 H0 B H B' H' : Hp} {sg : L2.St} {G G' : Gm}
theorem SOk.step (h : SOk mu H0 B H sg G) (p : Wf [] B H B' H') : SOk mu H0 B' H' sg G :=
  ⟨h.len, fun i x e => let ⟨v, h1, h2⟩ := h.dat i x e; ⟨v, h1, h2.mono p.b⟩, fun i a ds e =>
    let ⟨h1, h2, h3, vs, h4, h5⟩ := h.own i a ds e
    ⟨h1, p.n a (by rw [h4]; exact nofun) h2, h3, vs, p.k a _ (by simp) h4, h5.mono p.b⟩, h.sep⟩
theorem SOk.fresh (h : SOk mu H0 B H sg G) {p : Addr} (hp : H p = none) {i : Nat} {a : Addr} {ds : List PyData} (e : G[i]? = some (some (.own a ds))) : a ≠ p := by
  obtain ⟨_, _, _, vs, h4, _⟩ := h.own i a ds e
  exact ne_of_none h4 hp
/-- a slot that comes to hold data -/
theorem SOk.setD (h : SOk mu H0 B H sg G) {i : Nat} {v : V} {x : PyData} (hd : Dd B v x) : SOk mu H0 B H (sg.set i (some v)) (G.set i (some (.d x))) where
  len := by rw [List.length_set, List.length_set, h.len]
  dat := fun j y e => by
    by_cases hj : i = j
    · subst hj
      by_cases hl : i < G.length
      · rw [List.getElem?_set_self hl] at e
        have e1 : x = y := by
          have e2 := Option.some.inj (Option.some.inj e)
          injection e2
        subst e1
        exact ⟨v, by rw [List.getElem?_set_self (by rw [h.len]; exact hl)], hd⟩
      · rw [List.getElem?_eq_none (by rw [List.length_set]; omega)] at e
        cases e
    · rw [List.getElem?_set_ne hj] at e ⊢
      exact h.dat j y e
  own := fun j a ds e => by
    by_cases hj : i = j
    · subst hj
      by_cases hl : i < G.length
      · rw [List.getElem?_set_self hl] at e
        have e2 := Option.some.inj (Option.some.inj e)
        cases e2
      · rw [List.getElem?_eq_none (by rw [List.length_set]; omega)] at e
        cases e
    · rw [List.getElem?_set_ne hj] at e ⊢
      exact h.own j a ds e
  sep := fun j k a ds es e1 e2 => by
    have ne : ∀ {j ds}, (G.set i (some (Sl.d x)))[j]? = some (some (Sl.own a ds)) → i ≠ j := fun {j ds} e hj => by
      subst hj
      by_cases hl : i < G.length
      · rw [List.getElem?_set_self hl] at e
        have e2 := Option.some.inj (Option.some.inj e)
        cases e2
      · rw [List.getElem?_eq_none (by rw [List.length_set]; omega)] at e
        cases e
    have n1 := ne e1
    have n2 := ne e2
    rw [List.getElem?_set_ne n1] at e1
    rw [List.getElem?_set_ne n2] at e2
    exact h.sep j k a ds es e1 e2
theorem SOk.setN (h : SOk mu H0 B H sg G) {i : Nat} {o : Option V} : SOk mu H0 B H (sg.set i o) (G.set i none) where
  len := by rw [List.length_set, List.length_set, h.len]
  dat := fun j y e => by
    by_cases hj : i = j
    · subst hj
      by_cases hl : i < G.length
      · rw [List.getElem?_set_self hl] at e
        cases e
      · rw [List.getElem?_eq_none (by rw [List.length_set]; omega)] at e
        cases e
    · rw [List.getElem?_set_ne hj] at e ⊢
      exact h.dat j y e
  own := fun j a ds e => by
    by_cases hj : i = j
    · subst hj
      by_cases hl : i < G.length
      · rw [List.getElem?_set_self hl] at e
        cases e
      · rw [List.getElem?_eq_none (by rw [List.length_set]; omega)] at e
        cases e
    · rw [List.getElem?_set_ne hj] at e ⊢
      exact h.own j a ds e
  sep := fun j k a ds es e1 e2 => by
    have ne : ∀ {j ds}, (G.set i none)[j]? = some (some (Sl.own a ds)) → i ≠ j := fun {j ds} e hj => by
      subst hj
      by_cases hl : i < G.length
      · rw [List.getElem?_set_self hl] at e
        cases e
      · rw [List.getElem?_eq_none (by rw [List.length_set]; omega)] at e
        cases e
    have n1 := ne e1
    have n2 := ne e2
    rw [List.getElem?_set_ne n1] at e1
    rw [List.getElem?_set_ne n2] at e2
    exact h.sep j k a ds es e1 e2
/-- a slot that comes to hold a list of its own: a new one, or its own one changed -/
theorem SOk.setO (h : SOk mu H0 B H sg G) {i : Nat} {a : Addr} {vs : List V} {ds : List PyData} (hB : B a = none) (h0 : H0 a = none ∨ a ∈ mu) (hd : DdAll B vs ds) (hH : H' a = some (.lst vs))
    (keep : ∀ b o, b ≠ a → H b = some o → H' b = some o) (only : ∀ (j : Nat) (es : List PyData), G[j]? = some (some (.own a es)) → j = i) : SOk mu H0 B H' (sg.set i (some (.ref a))) (G.set i (some (.own a ds))) where
  len := by rw [List.length_set, List.length_set, h.len]
  dat := fun j y e => by
    by_cases hj : i = j
    · subst hj
      by_cases hl : i < G.length
      · rw [List.getElem?_set_self hl] at e
        have e2 := Option.some.inj (Option.some.inj e)
        cases e2
      · rw [List.getElem?_eq_none (by rw [List.length_set]; omega)] at e
        cases e
    · rw [List.getElem?_set_ne hj] at e ⊢
      exact h.dat j y e
  own := fun j b es e => by
    by_cases hj : i = j
    · subst hj
      by_cases hl : i < G.length
      · rw [List.getElem?_set_self hl] at e
        have e2 := Option.some.inj (Option.some.inj e)
        injection e2 with e3 e4
        subst e3 e4
        exact ⟨by rw [List.getElem?_set_self (by rw [h.len]; exact hl)], hB, h0, vs, hH, hd⟩
      · rw [List.getElem?_eq_none (by rw [List.length_set]; omega)] at e
        cases e
    · rw [List.getElem?_set_ne hj] at e ⊢
      have hb : b ≠ a := fun z => hj (only j es (by rw [← z]; exact e)).symm
      obtain ⟨h1, h2, h3, ws, h4, h5⟩ := h.own j b es e
      exact ⟨h1, h2, h3, ws, keep b _ hb h4, h5⟩
  sep := fun j k b es fs e1 e2 => by
    by_cases hj : i = j
    · by_cases hk : i = k
      · rw [← hj, ← hk]
      · subst hj
        have hl : i < G.length := by
          rcases Nat.lt_or_ge i G.length with z | z
          · exact z
          · rw [List.getElem?_eq_none (by rw [List.length_set]; omega)] at e1
            cases e1
        rw [List.getElem?_set_self hl] at e1
        have e3 := Option.some.inj (Option.some.inj e1)
        injection e3 with e4 e5
        subst e4
        rw [List.getElem?_set_ne hk] at e2
        exact (only k fs e2).symm
    · by_cases hk : i = k
      · subst hk
        have hl : i < G.length := by
          rcases Nat.lt_or_ge i G.length with z | z
          · exact z
          · rw [List.getElem?_eq_none (by rw [List.length_set]; omega)] at e2
            cases e2
        rw [List.getElem?_set_self hl] at e2
        have e3 := Option.some.inj (Option.some.inj e2)
        injection e3 with e4 e5
        subst e4
        rw [List.getElem?_set_ne hj] at e1
        exact only j es e1
      · rw [List.getElem?_set_ne hj] at e1
        rw [List.getElem?_set_ne hk] at e2
        exact h.sep j k b es fs e1 e2
/-- an own list is left as it is, for good -/
theorem SOk.freeze (h : SOk mu H0 B H sg G) {i : Nat} {a : Addr} {ds : List PyData} (e : G[i]? = some (some (.own a ds))) (w : Wf mu B0 H0 B H) (ha : a ∉ mu) :
    ∃ B1, Wf mu B0 H0 B1 H ∧ Ex B B1 ∧ SOk mu H0 B1 H sg (G.set i (some (.d (.list ds)))) := by
  obtain ⟨h1, h2, h3, vs, h4, h5⟩ := h.own i a ds e
  have h0 : H0 a = none := h3.elim id fun z => absurd z ha
  have eb : Ex B (upd B a (.lst vs)) := fun b o q => by
    rw [upd_ne (ne_of_none q h2)]
    exact q
  have w1 : Wf mu B0 H0 (upd B a (.lst vs)) H := ⟨w.b.trans eb, fun b o q => by
      by_cases hb : b = a
      · subst hb
        rw [upd_same] at q
        rw [← q]
        exact h4
      · rw [upd_ne hb] at q
        exact w.s b o q, w.k, fun b q1 q2 => by
      have hb : b ≠ a := fun z => q1 (by rw [z]; exact h0)
      rw [upd_ne hb]
      exact w.n b q1 q2, w.t⟩
  refine ⟨_, w1, eb, ?_⟩
  have hs : sg.set i (some (.ref a)) = sg := by
    apply List.ext_getElem?
    intro j
    by_cases hj : i = j
    · subst hj
      have hl : i < sg.length := by
        rcases Nat.lt_or_ge i sg.length with z | z
        · exact z
        · rw [List.getElem?_eq_none z] at h1
          cases h1
      rw [List.getElem?_set_self hl, h1]
    · rw [List.getElem?_set_ne hj]
  have base : SOk mu H0 (upd B a (.lst vs)) H (sg.set i none) (G.set i none) := by
    have q := h.setN (i := i) (o := none)
    refine ⟨q.len, fun j x ej => ?_, fun j b es ej => ?_, q.sep⟩
    · obtain ⟨v, z1, z2⟩ := q.dat j x ej
      exact ⟨v, z1, z2.mono eb⟩
    · obtain ⟨z1, z2, z3, ws, z4, z5⟩ := q.own j b es ej
      have hij : i ≠ j := fun z => by
        subst z
        by_cases hl : i < G.length
        · rw [List.getElem?_set_self hl] at ej
          cases ej
        · rw [List.getElem?_eq_none (by rw [List.length_set]; omega)] at ej
          cases ej
      have ej' : G[j]? = some (some (.own b es)) := by
        rw [List.getElem?_set_ne hij] at ej
        exact ej
      have hb : b ≠ a := fun z => hij (h.sep i j a ds es e (by rw [← z]; exact ej'))
      exact ⟨z1, by rw [upd_ne hb]; exact z2, z3, ws, z4, z5.mono eb⟩
  have q := base.setD (i := i) (v := .ref a) (x := .list ds) (.lst upd_same (h5.mono eb))
  rw [List.set_set, List.set_set, hs] at q
  exact q
end
end DL

/-! Further rules over the hand layer: tuples whose object is known (no dict of its own), deep in, min of data, enumerate of a tuple. -/
namespace DL
open PySem PySem.Spec PyProof.Rows L2
section
variable {X : Cx} {pins : List (Addr × Obj)} {sg : L2.St} {H : Hp} {s : Shared} {E : Value → Shared → Prop}

theorem sqt_frz {K : PySem.W.Frag} {H : Hp} {a : Addr} {o : Obj} {xs : List V} (h : H a = some (.frz o (.tup xs))) : SqT K H a xs := .inl (.inr ⟨o, h⟩)
theorem laidT {its : List Value} {xs : List V} {t' : Nat} (I : Inv X pins sg H s) (hv : Vals xs its) (hz : xs.length ≤ sizeLine) :
    Inv X pins sg (upd H s.heap.objs.size (.frz { cls := .type "tuple", data := .seq its.toArray } (.tup xs))) { s with heap := s.heap.push { cls := .type "tuple", data := .seq its.toArray }, toks := t' } :=
  I.laid (fun b u e => Heap.get?_push_of_some _ e) (Nat.le_refl _) ⟨Heap.get?_push_size _ rfl, hz, its, hv, IsTup.new _ _⟩
/-- what is wanted of a new tuple -/
def NewT (xs : List V) (H : Hp) (Q : VK) : Prop := ∀ p o, H p = none → o.dict = none → Q (.ref p) (upd H p (.frz o (.tup xs)))

def tTupF (t : TA) : TE := fun sg H Q => t sg H fun xs H1 => xs.length ≤ sizeLine ∧ NewT xs H1 Q
theorem pe_tupF {es : List Expr} {t : TA} {x1} {pos : Pos} (h : PA X es t) : PE X (.Tuple es x1 pos) (tTupF t) := by
  refine ⟨fun pins s sg H Q I hq => ?_⟩
  refine wpAny_Tuple_spliced (thn (h.run pos pins s sg H _ I hq) fun us s1 ⟨xs, H1, I1, r, z, q⟩ => ⟨by rw [← r.length]; exact z, ?_⟩)
  exact ⟨.ref s1.heap.objs.size, _, laidT (t' := s1.toks) I1 r z, rfl, q _ _ (I1.hok.fresh (Nat.le_refl _)) rfl⟩

def rCatF (K : PySem.W.Frag) : R2 := fun x y H Q => ∃ a b xs ys, x = .ref a ∧ y = .ref b ∧ SqT K H a xs ∧ SqT K H b ys ∧ xs.length + ys.length ≤ sizeLine ∧
  (xs = [] → Q (.ref b) H) ∧ (xs ≠ [] → ys = [] → Q (.ref a) H) ∧ (xs ≠ [] → ys ≠ [] → NewT (xs ++ ys) H Q)
theorem op_catF : OpR X (binaryOp .Add) (rCatF X.K) := by
  intro pins s sg H x y v u Q I rx ry h
  obtain ⟨a, b, xs, ys, rfl, rfl, ha, hb, hz, q0, q1, q2⟩ := h
  cases rx
  cases ry
  obtain ⟨its, r1, p1, _⟩ := I.tuple ha
  obtain ⟨its2, r2, p2, _⟩ := I.tuple hb
  by_cases hx : xs = []
  · subst hx
    cases r1
    exact cat_tup0 p1 p2 ⟨.ref b, H, I, rfl, q0 rfl⟩
  · refine HT.cat_tup p1 p2 (fun z => hx (r1.nil_iff.mp z)) (fun z => ⟨.ref a, H, I, rfl, q1 hx (r2.nil_iff.mp z)⟩) (fun z => ?_) (by rw [← r1.length, ← r2.length]; exact hz)
    exact ⟨.ref s.heap.objs.size, _, laidT (t' := s.toks) I (r1.append r2) (by rw [List.length_append]; exact hz), rfl, q2 hx (fun w => z (r2.nil_iff.mpr w)) _ _ (I.hok.fresh (Nat.le_refl _)) rfl⟩

def rSlF (K : PySem.W.Frag) : V → Option Int → Option Int → Hp → VK → Prop := fun x lo hi H Q => ∃ a xs, x = .ref a ∧ SqT K H a xs ∧
  (HT.sIx xs.length 0 lo = 0 ∧ HT.sIx xs.length xs.length hi = xs.length → Q (.ref a) H) ∧ (¬ (HT.sIx xs.length 0 lo = 0 ∧ HT.sIx xs.length xs.length hi = xs.length) → NewT (cutV xs lo hi) H Q)
theorem sl_tupF : SlR X (rSlF X.K) := by
  intro pins s sg H x v vl vu lo hi sl Q I rx hs pl pu h
  obtain ⟨a, xs, rfl, hx, q1, q2⟩ := h
  cases rx
  obtain ⟨its, r, ht, hz⟩ := I.tuple hx
  have hlen : its.toArray.size = xs.length := by rw [List.size_toArray]; exact r.length.symm
  refine ⟨"tuple", _, PyProof.Rows.slot_tuple_getitem.lookup, ht.typeIs, ?_⟩
  by_cases hw : HT.sIx xs.length 0 lo = 0 ∧ HT.sIx xs.length xs.length hi = xs.length
  · exact getItem_tuple_whole ht hs pl pu (by rw [hlen]; exact hw) ⟨.ref a, H, I, rfl, q1 hw⟩
  · refine HT.getItem_tuple_cut ht hs pl pu (by rw [hlen]; exact hw) ?_ (by rw [hlen]; exact hz)
    rw [hlen]
    exact ⟨.ref s.heap.objs.size, _, laidT (t' := s.toks) I ((r.drop (HT.sIx xs.length 0 lo)).take (HT.sIx xs.length xs.length hi - HT.sIx xs.length 0 lo)) (Nat.le_trans (cutV_length xs lo hi) hz), rfl, q2 hw _ _ (I.hok.fresh (Nat.le_refl _)) rfl⟩

def rTupOfF (K : PySem.W.Frag) : List V → Hp → VK → Prop := fun xs H Q => ∃ p ys, xs = [.ref p] ∧ ((SqL K H p ys ∧ NewT ys H Q) ∨ (SqT K H p ys ∧ Q (.ref p) H))
theorem call_tuple_ofF : CallR X (.type "tuple") (rTupOfF X.K) := by
  intro pins s sg H xs us Q I r h
  obtain ⟨p, ys, rfl, h⟩ := h
  obtain ⟨u, rfl, rx⟩ := vals1 r
  cases rx
  rcases h with ⟨hq, q⟩ | ⟨hq, q⟩
  · obtain ⟨its, r', pl, hz⟩ := I.list hq
    have hlen := r'.length
    refine call_tuple_list pl.isList (fun h' kp => ?_) (by simp only [List.size_toArray] <;> omega)
    have I1 : Inv X pins sg H { s with heap := h' } := I.kept (t' := s.toks) kp
    exact ⟨.ref h'.objs.size, _, laidT (t' := s.toks) I1 r' hz, rfl, q _ _ (I1.hok.fresh (Nat.le_refl _)) rfl⟩
  · obtain ⟨its, r', pl, hz⟩ := I.tuple hq
    exact call_tuple_same pl ⟨.ref p, H, I, rfl, q⟩

/-! ### in, over lists and tuples of data of any depth -/
def rInS (K : PySem.W.Frag) : R2 := fun x y H Q => ∃ d ds, Dp K H x d ∧ (Dp K H y (.list ds) ∨ Dp K H y (.tuple ds)) ∧ SeqAt.shaped d = true ∧ PyData.canLayAll0 ds = true ∧ Q (.bl (ds.any fun z => PyData.eqv z d)) H
def rNotInS (K : PySem.W.Frag) : R2 := fun x y H Q => ∃ d ds, Dp K H x d ∧ (Dp K H y (.list ds) ∨ Dp K H y (.tuple ds)) ∧ SeqAt.shaped d = true ∧ PyData.canLayAll0 ds = true ∧ Q (.bl (!ds.any fun z => PyData.eqv z d)) H
theorem room_s {A : Around} {d : PyData} {n : Nat} (h : SeqAt.shaped d = true) (hu : A.units + 65 < cLine) : A.units + 1 + min n d.depth < cLine := by
  have h1 := SeqAt.depth_of_shaped h
  have h2 : min n d.depth ≤ d.depth := Nat.min_le_right _ _
  omega
theorem op_inS (hu : X.A.units + 65 < cLine) : OpR X (compareOp .In) (rInS X.K) := by
  intro pins s sg H x y v u Q I rx ry h
  obtain ⟨d, ds, hd, he, sd, se, q⟩ := h
  obtain ⟨as, r1⟩ := Dp.reads I d x v hd rx
  rcases he with he | he
  · obtain ⟨bs, r2⟩ := Dp.reads I (.list ds) y u he ry
    exact SeqAt.in_list_reads r2 r1 se (SeqAt.canLay_of_shaped sd) (room_s sd hu) ⟨.bl _, H, I, rfl, q⟩
  · obtain ⟨bs, r2⟩ := Dp.reads I (.tuple ds) y u he ry
    exact SeqAt.in_tuple_reads r2 r1 se (SeqAt.canLay_of_shaped sd) (room_s sd hu) ⟨.bl _, H, I, rfl, q⟩
theorem op_notInS (hu : X.A.units + 65 < cLine) : OpR X (compareOp .NotIn) (rNotInS X.K) := by
  intro pins s sg H x y v u Q I rx ry h
  obtain ⟨d, ds, hd, he, sd, se, q⟩ := h
  obtain ⟨as, r1⟩ := Dp.reads I d x v hd rx
  rcases he with he | he
  · obtain ⟨bs, r2⟩ := Dp.reads I (.list ds) y u he ry
    exact SeqAt.notIn_list_reads r2 r1 se (SeqAt.canLay_of_shaped sd) (room_s sd hu) ⟨.bl _, H, I, rfl, q⟩
  · obtain ⟨bs, r2⟩ := Dp.reads I (.tuple ds) y u he ry
    exact SeqAt.notIn_tuple_reads r2 r1 se (SeqAt.canLay_of_shaped sd) (room_s sd hu) ⟨.bl _, H, I, rfl, q⟩

/-! ### t.index(k), a tuple of ints, where it is -/
def tIxT (to : TE) (t : TA) : TE := fun sg H Q => to sg H fun x H1 => ∃ p o ns, x = .ref p ∧ H1 p = some (.frz o (.tup (List.map V.int ns))) ∧ o.dict = none ∧ t sg H1 fun ys H2 => ∃ k, H2 p = some (.frz o (.tup (List.map V.int ns))) ∧ ys = [.int k] ∧ k ∈ ns ∧ Q (.int (ns.idxOf k : Nat)) H2
theorem pe_ixT {o e : Expr} {to : TE} {t : TA} {apos cpos : Pos} (hA : X.A.handled = none) (ho : PE X o to) (ha : PA X [e] t)
    (hbase : attributeBase o "index" X.env (eval o X.env) = eval o X.env := by rfl)
    (hfew : ((backTo cpos (starEach [e] X.env)).all (fun x => !x.1) && (backToKw cpos (keywordEach [] X.env)).all (fun x => x.1.isSome)
      && decide ([e].length + ([] : List Keyword).length + (if ([] : List Keyword).isEmpty then 0 else 1) < 30)) = true := by rfl)
    (hline : (apos.endLine == cpos.line) = true := by rfl) (hs : starEach [e] X.env = (false, eval e X.env) :: starEach [] X.env := by rfl) (hplain : (backTo cpos (starEach [] X.env)).any (·.1) = false := by rfl) :
    PE X (.Call (.Attribute o "index" apos) [e] [] cpos) (tIxT to t) := by
  refine ⟨fun pins s sg H Q I h => ?_⟩
  refine wpAny_Call_method_late hbase hfew hline rfl (thn (ho.run pins s sg H _ I h) fun v s1 ⟨x, H1, I1, r1, q1⟩ => ?_)
  obtain ⟨p, ob, ns, ex, hp, hd, q1⟩ := q1
  subst ex
  cases r1
  obtain ⟨its, rv, tp, hz⟩ := I1.tuple (sqt_frz hp)
  have hg : s1.heap.get? p = some ob := (I1.hok p _ hp).1
  refine ⟨"tuple", "tuple.index", PySem.F.plainAttrs_tuple, PySem.F.slot_tuple_index, PySem.F.type_tuple_index, tp.typeIs, fun a e => ?_, ?_⟩
  · cases e
    exact ⟨ob, hg, hd⟩
  · have hA' := ha.run cpos pins s1 sg H1 _ I1 q1
    rw [hs] at hA' ⊢
    refine Calls.callWith_builtin (by show (false || (backTo cpos (starEach [] X.env)).any (·.1)) = false; rw [hplain] <;> rfl) (Calls.evalArgs_plain ?_)
    refine thn hA' fun us s2 ⟨vs, H2, I2, r2, q2⟩ => ?_
    obtain ⟨k, hp2, ey, hk, q2⟩ := q2
    subst ey
    obtain ⟨u, rfl, t, rfl⟩ := vals1 r2
    obtain ⟨its2, rv2, tp2, hz2⟩ := I2.tuple (sqt_frz hp2)
    have hl' : s2.heap.IsTuple p its2.toArray.toList.toArray := by rw [Array.toArray_toList]; exact tp2
    exact PySem.W.kix_tup tp2 (intsAre_of rv2) hA (fun _ => ⟨.int (ns.idxOf k : Nat), H2, I2.tok _, ⟨_, rfl⟩, q2⟩) (fun z => absurd hk z)
end
end DL

/-! enumerate of a tuple; min of alike data; t[::-1]. -/
namespace DL
open PySem PySem.Spec PyProof.Rows L2
open AutoSeq1 (wpAny_loadPart')

theorem meets_enumT (l : Addr) (items : Array Value) (n : Nat) (dct : Option Addr) (sl : Array (Option Value)) :
    Meets (Builtin.«enumerate.__new__» ⟨[.type "enumerate", .ref l], []⟩) (fun _ R s => s.heap.get? l = some { cls := .type "tuple", dict := dct, data := .seq items n, slots := sl } ∧
      R (.ok (.ret (.ref (s.heap.push { cls := .type "tuple_iterator", data := .fields #[.ref l, .int 0 0] }).objs.size)))
        { s with heap := (s.heap.push { cls := .type "tuple_iterator", data := .fields #[.ref l, .int 0 0] }).push { cls := .type "enumerate", data := .fields #[.none, .bool false, .ref s.heap.objs.size, rawInt 0, .none, .none] } }) :=
  .of_wp fun prog w A R s h => by
    obtain ⟨hp, g, d, tk, os⟩ := s; obtain ⟨hl, h⟩ := h
    have hsub := sub_enumerate
    have hL : Heap.IsTuple (Shared.heap ⟨hp, g, d, tk, os⟩) l items := ⟨_, hl, rfl, n, rfl⟩
    wp_walk using wpAny_loadPart' hl
    refine wpAny_stack_any fun st => wpAny_pure ?_
    split
    · rename_i c _ _ _ _ _
      cases (c == Value.type "enumerate")
      · wp_walk using wpAny_loadPart' hl, wpAny_pyIter_tuple hL
        exact ⟨_, rfl, h⟩
      · wp_walk using wpAny_loadPart' hl, wpAny_pyIter_tuple hL
        exact ⟨_, rfl, h⟩
    · wp_walk using wpAny_loadPart' hl, wpAny_pyIter_tuple hL
      exact ⟨_, rfl, h⟩
section
variable {prog : Program} {w : World} {A : Around} {E : Value → Shared → Prop} {s : Shared}
theorem call_enumT {l : Addr} {items : Array Value} {Q : Value → Shared → Prop} (hL : s.heap.IsTuple l items)
    (h : ∀ h', IsEnum h' (s.heap.objs.size + 1) s.heap.objs.size 0 .none → h'.IsTupleIter s.heap.objs.size l 0 → h'.objs.size = s.heap.objs.size + 2 →
      (∀ b o, s.heap.get? b = some o → h'.get? b = some o) → Q (.ref (s.heap.objs.size + 1)) { s with heap := h' }) :
    wpAny (model prog w) A (call (.type "enumerate") [.ref l]) Q E s := by
  obtain ⟨⟨c, dct, dt, sl⟩, hl, hc, n, hd⟩ := hL
  replace hc : c = .type "tuple" := hc
  replace hd : dt = .seq items n := hd
  subst hc hd
  refine callType_new F.called_enumerate (by decide) (F.typeCall_enumerate_1 _) (F.newCall_enumerate_1 _) (fun obj => F.args_object_init_2 obj _) F.entry_enumerate_new
    (meets_enumT l items n dct sl) ⟨hl, ?_⟩
  have hz : (s.heap.push { cls := .type "tuple_iterator", data := .fields #[.ref l, .int 0 0] }).objs.size = s.heap.objs.size + 1 := Heap.size_push ..
  show _ ∧ _
  rw [hz]
  have he : IsEnum ((s.heap.push { cls := .type "tuple_iterator", data := .fields #[.ref l, .int 0 0] }).push
      { cls := .type "enumerate", data := .fields #[.none, .bool false, .ref s.heap.objs.size, rawInt 0, .none, .none] }) (s.heap.objs.size + 1) s.heap.objs.size 0 .none := by
    have := Heap.get?_push_size (s.heap.push { cls := .type "tuple_iterator", data := .fields #[.ref l, .int 0 0] })
      (o := { cls := .type "enumerate", data := .fields #[.none, .bool false, .ref s.heap.objs.size, rawInt 0, .none, .none] }) rfl
    rw [hz] at this; exact this
  refine ⟨⟨_, he, rfl⟩, h _ he ⟨_, Heap.get?_push_of_some _ (Heap.get?_push_size _ rfl), rfl, rfl⟩ (by rw [Heap.size_push, hz]) fun b o x => Heap.get?_push_of_some _ (Heap.get?_push_of_some _ x)⟩
end

def IteT (K : PySem.W.Frag) (a : Addr) : It :=
  ⟨fun i H => ∃ (xs : List V) (x : V), SqT K H a xs ∧ xs[i]? = some x, fun i H v H' => ∃ T x, v = .ref T ∧ H T = none ∧ H' = upd H T (.tup [.int (i : Nat), x]) ∧ ∀ xs, SqT K H a xs → xs[i]? = some x, fun i H => ∃ xs : List V, SqT K H a xs ∧ xs.length = i⟩
theorem turn_enumT {P : Program} {w : World} {K : PySem.W.Frag} {elts : List Expr} {kk : Nat} {tpos : Pos} (a e it : Addr) :
    Turn P w K (.Tuple elts kk tpos) (IteT K a) [e, it] e (fun i h => (∃ old, IsEnum h e it ((i : Nat) : Int) old) ∧ h.IsTupleIter it a i ∧ e ≠ it ∧ e ≠ a ∧ a ≠ it) where
  mem := by simp
  obj := fun i h st b hb => by
    obtain ⟨⟨old, he⟩, ⟨o, ho, hc, hd⟩, _⟩ := st
    have e' : b = e ∨ b = it := by simpa using hb
    rcases e' with z | z
    · rw [z]; exact ⟨_, he, fun v q => nomatch q⟩
    · rw [z]; exact ⟨o, ho, fun v q => by rw [hd] at q; cases q⟩
  keep := fun i h h' st k => let ⟨⟨old, he⟩, hi, hne⟩ := st; ⟨⟨old, k e (by simp) _ he⟩, hi.at fun o q => k it (by simp) o q, hne⟩
  item := by
    intro X hP hw hK hc i pins s sg H E I hf st hg
    subst hP hw hK
    obtain ⟨⟨old, he⟩, hit, hne, hea, hai⟩ := st
    obtain ⟨xs, x, hq, hx⟩ := hg
    obtain ⟨its, rv, p, hz⟩ := I.tuple hq
    obtain ⟨u, hu, ru⟩ := rv.get hx
    have hel : e < s.heap.objs.size := Heap.lt_size he
    have hil : it < s.heap.objs.size := by obtain ⟨_, q, _⟩ := hit; exact Heap.lt_size q
    have hlt : i < its.toArray.size := by
      have h1 := (List.getElem?_eq_some_iff.mp hu).1
      simpa using h1
    refine wpAny_pyNext_enum_itemD (Draws.tuple (A := X.A.in1) (I.ok.hd hc) it a hai its.toArray) he ⟨hit, p⟩ hlt hne (by simp [hne, hea]) fun y h' tk hP ho hst hT hsz hk => ?_
    have hy : y = u := by
      have h1 : its.toArray[i]? = some u := by simpa using hu
      exact Option.some.inj (hP.symm.trans h1)
    subst hy
    refine ⟨_, rfl, wpAny_letOwnedTupleGo_enum (s := { s with heap := h', toks := tk + 1 }) ho fun h'' he' sb => ?_⟩
    have hT2 : h''.get? s.heap.objs.size = some { cls := .type "tuple", data := .seq #[.int i tk, y] } := (sb.2 _ (Nat.ne_of_gt hel)).trans hT
    have new : ObjOk X.prog X.w (upd H s.heap.objs.size (.tup [.int (i : Nat), x])) h'' s.heap.objs.size (.tup [.int (i : Nat), x]) :=
      ⟨by show 2 ≤ sizeLine; decide, [.int i tk, y], .cons ⟨_, rfl⟩ (.cons ru .nil), ⟨_, hT2, rfl, _, rfl⟩⟩
    have I1 : Inv X pins sg (upd H s.heap.objs.size (.tup [.int (i : Nat), x])) { s with heap := h'', toks := tk + 1 } :=
      I.turnedNew (ch := [e, it]) (fun b ob hb q => (sb.2 b (fun z => hb (by simp [z]))).trans (hk b ob (fun z => hb (by simp [z])) (fun z => hb (by simp [z])) q)) hf (Nat.le_refl _) new
    refine ⟨.ref s.heap.objs.size, _, I1, rfl, ⟨_, x, rfl, I.hok.fresh (Nat.le_refl _), rfl, fun ys hy => by rw [I.tuple_inj hy hq]; exact hx⟩, ⟨⟨y, ?_⟩, hst.1.at fun o q => (sb.2 it (Ne.symm hne)).trans q, hne, hea, hai⟩, fun b hb => ?_⟩
    · have e1 : ((i + 1 : Nat) : Int) = (i : Int) + 1 := by omega
      rw [e1]; exact he'
    · have hb' : b < s.heap.objs.size := by
        have e' : b = e ∨ b = it := by simpa using hb
        rcases e' with z | z
        · rw [z]; exact hel
        · rw [z]; exact hil
      rw [upd_ne (Nat.ne_of_lt hb')]
      exact (hf b hb).1
  done := by
    intro X hP hw hK hc i pins s sg H E I hf st hg
    subst hP hw hK
    obtain ⟨⟨old, he⟩, hit, hne, hea, hai⟩ := st
    obtain ⟨xs, hq, hx⟩ := hg
    obtain ⟨its, rv, p, hz⟩ := I.tuple hq
    obtain ⟨f0, f1, f2, f3, f4, f5⟩ := hf it (by simp)
    have hl := rv.length
    have hi : i = its.toArray.size := by
      rw [List.size_toArray, ← hl]
      exact hx.symm
    subst hi
    exact wpAny_pyNext_enum_endD (Draws.tuple (A := X.A.in1) (I.ok.hd hc) it a hai its.toArray) he ⟨hit, p⟩ fun h' eb => ⟨rfl, I.turned (t' := s.toks) (fun b o hb q => eb b o hb q) f0 f1 f3 f4 f5⟩
  self := fun A i s Q E st h => let ⟨⟨_, he⟩, _⟩ := st; wpAny_pyIter_enum he h

def iEnumT (K : PySem.W.Frag) (ta : TA) : TI := fun sg H R => ta sg H fun vs H1 => ∃ a xs, vs = [.ref a] ∧ SqT K H1 a xs ∧ R (IteT K a) H1
theorem pi_enumT {X : Cx} {e : Expr} {ta : TA} {p pos tpos : Pos} {elts : List Expr} {kk : Nat} (hg : Gl X "enumerate") (hm : X.mg "enumerate" = none) (ha : PA X [e] ta) (hs : starEach [e] X.env = [(false, eval e X.env)] := by rfl) :
    PI X (.Tuple elts kk tpos) (.Call (.Name "enumerate" p) [e] [] pos) (iEnumT X.K ta) := by
  refine ⟨fun pins s sg H R I h => ?_⟩
  refine Call_ (ld_blt I hg hm boot_enumerate (PyProof.Rows.callWith_type1 (thn (ha.run pos pins s sg H _ I h) fun us s1 ⟨vs, H1, I1, r1, q1⟩ => ?_) hs rfl))
  obtain ⟨a, xs, ex, hq, q⟩ := q1
  subst ex
  cases r1 with
  | cons r rr =>
    cases rr
    cases r
    obtain ⟨its, rv, p', hz⟩ := I1.tuple hq
    have hal : a < s1.heap.objs.size := p'.lt
    refine call_enumT p' fun h' he hit hsz hk => wpAny_pyIter_enum he ?_
    have I2 : Inv X pins sg H1 { s1 with heap := h' } := I1.kept (t' := s1.toks) hk
    refine ⟨s1.heap.objs.size + 1, [s1.heap.objs.size + 1, s1.heap.objs.size], _, _, H1, rfl, I2, turn_enumT a (s1.heap.objs.size + 1) s1.heap.objs.size, ⟨⟨.none, he⟩, hit, Nat.succ_ne_self _, Nat.ne_of_gt (Nat.lt_succ_of_lt hal), Nat.ne_of_lt hal⟩, fun b hb => ?_, q⟩
    have e' : b = s1.heap.objs.size + 1 ∨ b = s1.heap.objs.size := by simpa using hb
    have hle : s1.heap.objs.size ≤ b := by
      rcases e' with z | z
      · rw [z]; exact Nat.le_add_right _ _
      · rw [z]; exact Nat.le_refl _
    exact I1.fpOk hle (I1.hok.fresh hle)

/-! ### min of a list of alike data -/
def rMinD (K : PySem.W.Frag) : List V → Hp → VK → Prop := fun vs H Q => ∃ (a : Addr) (xs : List V) (d : PyData) (ds : List PyData), vs = [V.ref a] ∧ SqL K H a xs ∧ DpAll K H xs (d :: ds) ∧ PySem.W.AlikeAll (d :: ds) ∧ PyData.canLayAll0 (d :: ds) = true ∧ PyData.depthAll (d :: ds) ≤ 60 ∧
  ∀ (i : Nat) (v : V), xs[i]? = some v → (d :: ds)[i]? = some (PySem.W.minD d ds) → Q v H
theorem dpAll_get {K : PySem.W.Frag} {H : Hp} : ∀ {xs : List V} {ds : List PyData} {i : Nat} {v : V}, DpAll K H xs ds → xs[i]? = some v → ∃ d, ds[i]? = some d ∧ Dp K H v d
  | _, _, _, _, .nil, e => by simp at e
  | _, _, 0, _, .cons h r, e => by
    simp at e
    subst e
    exact ⟨_, rfl, h⟩
  | _, _, i + 1, v, .cons h r, e => by
    obtain ⟨d, h1, h2⟩ := dpAll_get (i := i) r (by simpa using e)
    exact ⟨d, by simpa using h1, h2⟩
theorem canLayAll_get : ∀ {ds : List PyData} {i : Nat} {d : PyData}, PyData.canLayAll0 ds = true → ds[i]? = some d → d.canLay0 = true
  | [], _, _, _, e => by simp at e
  | x :: xs, 0, d, c, e => by
    simp at e
    subst e
    simp only [PyData.canLayAll0, Bool.and_eq_true] at c
    exact c.1
  | x :: xs, i + 1, d, c, e => by
    simp only [PyData.canLayAll0, Bool.and_eq_true] at c
    exact canLayAll_get c.2 (by simpa using e)
section
variable {X : Cx}
theorem cr_minD (hA : X.A.handled = none) (hu : X.A.units + 62 < cLine) : CallR X (.builtin "min") (rMinD X.K) := by
  intro pins s sg H vs us Q I r h
  obtain ⟨a, xs, d, ds, rfl, hq, hd, hal, hcl, hdp, q⟩ := h
  obtain ⟨u, rfl, rx⟩ := vals1 r
  cases rx
  obtain ⟨its, rv, pl, hz⟩ := I.list hq
  obtain ⟨as, hr⟩ := Dp.readsAll I (d :: ds) xs its hd rv
  refine PySem.W.min_list_data hA pl.isList hr hal (by omega) fun i v h' tk bs hv hrd hk => ?_
  have I' : Inv X pins sg H { s with heap := h', toks := tk } := I.kept hk
  have hv' : its[i]? = some v := by simpa using hv
  have hlen := rv.length
  have hi : i < xs.length := by
    have h1 := (List.getElem?_eq_some_iff.mp hv').1
    omega
  obtain ⟨u', hu', ru⟩ := rv.get (List.getElem?_eq_getElem hi)
  have eu : u' = v := Option.some.inj (hu'.symm.trans hv')
  subst eu
  obtain ⟨e, he, hde⟩ := dpAll_get hd (List.getElem?_eq_getElem hi)
  obtain ⟨cs, hrc⟩ := Dp.reads I' e _ _ hde ru
  have ee : e = PySem.W.minD d ds := SeqAt.Reads.unique e _ _ _ _ (canLayAll_get hcl he) hrc hrd
  exact ⟨xs[i], H, I', ru, q i _ (List.getElem?_eq_getElem hi) (by rw [he, ee])⟩
end

/-! ### t[::-1] -/
def tRevT (K : PySem.W.Frag) (te : TE) : TE := fun sg H Q => te sg H fun x H1 => ∃ a xs, x = .ref a ∧ SqT K H1 a xs ∧ NewT xs.reverse H1 Q
section
variable {prog : Program} {w : World} {A : Around} {E : Value → Shared → Prop} {s : Shared}
theorem fm_congr {α β : Type} {f g : α → Option β} : ∀ {l : List α}, (∀ x ∈ l, f x = g x) → l.filterMap f = l.filterMap g
  | [], _ => rfl
  | x :: l, h => by
    rw [List.filterMap_cons, List.filterMap_cons, h x List.mem_cons_self, fm_congr fun y hy => h y (List.mem_cons_of_mem _ hy)]
theorem adjust_rev (n : Nat) : Builtin.Slice.sliceAdjust none none (-1) (n : Int) = ((n : Int) - 1, -1) := by
  unfold Builtin.Slice.sliceAdjust
  simp
theorem places_rev (n : Nat) : Builtin.Slice.slicePlaces ((n : Int) - 1) (-1) (-1) = n := by
  unfold Builtin.Slice.slicePlaces
  rw [if_neg (by decide)]
  by_cases h : (n : Int) - 1 > -1
  · rw [if_pos h]
    have e : (((n : Int) - 1 - -1 - 1) / (- -1) + 1) = (n : Int) := by
      rw [show (- -1 : Int) = 1 by decide, Int.ediv_one]
      omega
    rw [e]
    exact Int.toNat_natCast n
  · rw [if_neg h]
    have e : n = 0 := by omega
    rw [e]
    rfl
theorem pick_rev (xs : Array Value) : ((List.range xs.size).filterMap fun (m : Nat) => xs[(((xs.size : Int) - 1) + (m : Int) * -1).toNat]?).toArray = xs.toList.reverse.toArray := by
  congr 1
  have e : (List.range xs.size).filterMap (fun (m : Nat) => xs[(((xs.size : Int) - 1) + (m : Int) * -1).toNat]?) = ((List.range xs.size).map (fun k => xs.size - 1 - k)).filterMap (xs[·]?) := by
    rw [List.filterMap_map]
    refine fm_congr fun m hm => ?_
    have h1 := List.mem_range.mp hm
    show xs[(((xs.size : Int) - 1) + (m : Int) * -1).toNat]? = xs[xs.size - 1 - m]?
    congr 1
    omega
  rw [e, PySem.W.krv_range, List.filterMap_reverse, PySem.W.krv_all]
theorem sliceApplied_rev {sl : Addr} {vl vu vs : Value} {n : Nat} {Q : Int × Int × Nat → Shared → Prop} (hs : s.heap.IsSliceOf sl vl vu vs) (pl : IsPart vl none) (pu : IsPart vu none) (ps : IsPart vs (some (-1)))
    (h : Q ((n : Int) - 1, -1, n) s) : wpAny (model prog w) A (Builtin.Slice.sliceApplied (.ref sl) (pure (n : Int))) Q E s := by
  obtain ⟨os, hos, hcs, hds⟩ := id hs
  unfold Builtin.Slice.sliceApplied Builtin.Slice.sliceFields
  refine wpAny_bind (wpAny_bind (wpAny_field hos hds (x := vl) rfl (wpAny_bind (wpAny_field hos hds (x := vu) rfl (wpAny_bind (wpAny_field hos hds (x := vs) rfl (wpAny_pure ?_)))))))
  refine wpAny_bind (HT.slicePart_ ps ?_)
  show wpAny _ _ (if ((-1 : Int) == 0) = true then _ else _) _ _ s
  rw [if_neg (by decide)]
  refine wpAny_bind (HT.slicePart_ pl (wpAny_bind (HT.slicePart_ pu (wpAny_bind (wpAny_pure ?_)))))
  show wpAny _ _ (match Builtin.Slice.sliceAdjust none none (-1) (n : Int) with | (lo, hi) => pure (lo, (-1 : Int), Builtin.Slice.slicePlaces lo hi (-1))) _ _ s
  rw [adjust_rev n]
  show wpAny _ _ (pure ((n : Int) - 1, (-1 : Int), Builtin.Slice.slicePlaces ((n : Int) - 1) (-1) (-1))) _ _ s
  rw [places_rev]
  exact wpAny_pure h
theorem getItem_tuple_rev {t sl : Addr} {items : Array Value} {vl vu vs : Value} {Q : Value → Shared → Prop} (ht : IsTup s.heap t items) (hs : s.heap.IsSliceOf sl vl vu vs) (pl : IsPart vl none) (pu : IsPart vu none) (ps : IsPart vs (some (-1)))
    (h : Q (.ref s.heap.objs.size) { s with heap := s.heap.push { cls := .type "tuple", data := .seq items.toList.reverse.toArray } })
    (hsz : items.size ≤ sizeLine) : wpAny (model prog w) A (getItem (.ref t) (.ref sl)) Q E s := by
  obtain ⟨os, hos, hcs, hds⟩ := id hs
  have hTs : s.TypeIs (.ref sl) "slice" := ⟨os, hos, hcs⟩
  unfold getItem
  try with_reducible refine wpAny_holding ?_
  first | refine wpAny_bind (wpAny_pure ?_) | skip
  refine wpAny_bind (wpAny_sequenceKey ht.typeIs (by decide) ?_)
  refine wpAny_bind (wpAny_callSpecial?_slot (name := Str.ofString "__getitem__") ht.typeIs PyProof.Rows.slot_tuple_getitem
    (wpAny_call_entry PyProof.Rows.slot_tuple_getitem ht.typeIs entry_tuple_getitem ?_ (args_tuple_getitem _ _)))
  show wpAny _ _ (Builtin.Tuple.tupleItemsOf (.ref t) >>= _) _ _ s
  refine wpAny_bind (tupleItemsOf_ ht ?_)
  refine wpAny_bind (wpAny_typeOf hTs ?_)
  rw [if_pos (by decide)]
  refine wpAny_bind (sliceApplied_rev hs pl pu ps ?_)
  show wpAny _ _ (if ((((items.size : Int) - 1) == 0 && (-1 : Int) == 1 && items.size == items.size) = true) then _ else _) _ _ s
  have hno : ¬ (((((items.size : Int) - 1) == 0) && ((-1 : Int) == 1) && (items.size == items.size)) = true) := by
    intro q
    rw [Bool.and_eq_true, Bool.and_eq_true] at q
    exact absurd q.1.2 (by decide)
  rw [if_neg hno, pick_rev]
  have htake : sizeOk (.seq items.toList.reverse.toArray) := by
    show items.toList.reverse.toArray.size ≤ sizeLine
    rw [List.size_toArray, List.length_reverse, Array.length_toList]
    exact hsz
  first
    | exact wpAny_bind (m := Builtin.Tuple.tupleExact _) (wpAny_newObj_type (wpAny_pure ⟨_, rfl, wpAny_pure h⟩) htake)
    | exact wpAny_bind (m := Builtin.Tuple.tupleExact _) (wpAny_newObj_type (wpAny_bind (wpAny_pure (wpAny_pure ⟨_, rfl, wpAny_pure h⟩))) htake)
    | exact wpAny_bind (wpAny_bind (m := Builtin.Tuple.tupleExact _) (wpAny_newObj_type (wpAny_pure (wpAny_pure ⟨_, rfl, wpAny_pure h⟩)) htake))
    | exact wpAny_bind (wpAny_bind (m := Builtin.Tuple.tupleExact _) (wpAny_newObj_type (wpAny_pure ⟨_, rfl, wpAny_pure h⟩) htake))
end
section
variable {X : Cx}
theorem pe_revT {e : Expr} {te : TE} {k : Nat} {p1 p2 p3 pos : Pos} (he : PE X e te) : PE X (.Subscript e (.Slice none none (some (.UnaryOp .USub (.Constant (.int 1) k p1) p2)) p3) pos) (tRevT X.K te) := by
  refine ⟨fun pins s sg H Q I h => ?_⟩
  refine Subscript_ (thn (he.run pins s sg H _ I h) fun v s1 ⟨x, H1, I1, r1, q1⟩ => ?_)
  obtain ⟨a, xs, ex, hx, q⟩ := q1
  subst ex
  cases r1
  have hst : PO X (some (.UnaryOp .USub (.Constant (.int 1) k p1) p2)) (tPart (tUn (rU fun i => .int (-i)) (tC (.int 1)))) := po_some (pe_un un_neg pe_int)
  refine wpAny_Slice (thn (po_none.run pins s1 sg H1 (fun o H2 => o = none ∧ H2 = H1) I1 ⟨rfl, rfl⟩) fun vl s2 ⟨l, H2, I2, pl, el, e2⟩ => ?_)
  subst el e2
  refine thn (po_none.run pins s2 sg H2 (fun o H3 => o = none ∧ H3 = H2) I2 ⟨rfl, rfl⟩) fun vu s3 ⟨u, H3, I3, pu, eu, e3⟩ => ?_
  subst eu e3
  refine thn (hst.run pins s3 sg H3 (fun o H4 => o = some (-1) ∧ H4 = H3) I3 ⟨1, rfl, -1, rfl, rfl, rfl⟩) fun vs s4 ⟨o, H4, I4, ps, eo, e4⟩ => ?_
  subst eo e4
  have I5 : Inv X pins sg H4 { s4 with heap := s4.heap.push { cls := .type "slice", data := .fields #[vl, vu, vs] } } := I4.kept (t' := s4.toks) fun b ob q => Heap.get?_push_of_some _ q
  obtain ⟨its, r, ht, hz⟩ := I5.tuple hx
  have hlen := r.length
  show wpAny (model X.prog X.w) X.A (subscriptTail e (.Slice none none (some (.UnaryOp .USub (.Constant (.int 1) k p1) p2)) p3) (.ref a) (.ref s4.heap.objs.size)) (EP X pins sg Q) X.xe { s4 with heap := s4.heap.push { cls := .type "slice", data := .fields #[vl, vu, vs] } }
  refine tail_any (ops := [.ref a, .ref s4.heap.objs.size]) ht.typeIs (PyProof.Rows.slot_tuple_getitem.lookup) ?_ (by with_unfolding_all rfl)
  refine getItem_tuple_rev ht (Heap.IsSliceOf.new _ vl vu vs) pl pu ps ?_ (by rw [List.size_toArray]; omega)
  exact ⟨.ref _, _, laidT (t' := s4.toks) I5 (by simpa using r.reverse) (by rw [List.length_reverse]; exact hz), rfl, q _ _ (I5.hok.fresh (Nat.le_refl _)) rfl⟩
end
end DL

/-! The judgements' canonical readings, and expressions. -/
namespace DL
open PySem PySem.Spec PyProof.Rows L2

def rdE (mu : List Addr) (G : Gm) (d : PyData) (G' : Gm) : TE := fun sg H Q => ∃ H0 B0 B, Wf mu B0 H0 B H ∧ SOk mu H0 B H sg G ∧
  ∀ v B' H', Ex B B' → Wf mu B0 H0 B' H' → SOk mu H0 B' H' sg G' → Dd B' v d → Q v H'
def rdT (mu : List Addr) (G : Gm) (b : Bool) (G' : Gm) : TT := fun sg H Q => ∃ H0 B0 B, Wf mu B0 H0 B H ∧ SOk mu H0 B H sg G ∧
  ∀ B' H', Ex B B' → Wf mu B0 H0 B' H' → SOk mu H0 B' H' sg G' → Q b H'
def rdA (mu : List Addr) (G : Gm) (ds : List PyData) (G' : Gm) : TA := fun sg H Q => ∃ H0 B0 B, Wf mu B0 H0 B H ∧ SOk mu H0 B H sg G ∧
  ∀ vs B' H', Ex B B' → Wf mu B0 H0 B' H' → SOk mu H0 B' H' sg G' → DdAll B' vs ds → Q vs H'
def rdO (mu : List Addr) (G : Gm) (o : Option Int) (G' : Gm) : TO := fun sg H Q => ∃ H0 B0 B, Wf mu B0 H0 B H ∧ SOk mu H0 B H sg G ∧
  ∀ B' H', Ex B B' → Wf mu B0 H0 B' H' → SOk mu H0 B' H' sg G' → Q o H'
/-- a new list, its items data -/
def rdF (mu : List Addr) (G : Gm) (ds : List PyData) (G' : Gm) : TE := fun sg H Q => ∃ H0 B0 B, Wf mu B0 H0 B H ∧ SOk mu H0 B H sg G ∧
  ∀ p vs B' H', Ex B B' → Wf mu B0 H0 B' H' → SOk mu H0 B' H' sg G' → B' p = none → H0 p = none → (∀ (i : Nat) (a : Addr) (es : List PyData), G'[i]? = some (some (.own a es)) → a ≠ p) → H' p = some (.lst vs) → DdAll B' vs ds → Q (.ref p) H'

section
variable {X : Cx}
theorem pe_w {e : Expr} {t t' : TE} (h : PE X e t) (w : ∀ sg H Q, t' sg H Q → t sg H Q) : PE X e t' := ⟨fun pins s sg H Q I q => h.run pins s sg H Q I (w sg H Q q)⟩
theorem pt_w {e : Expr} {t t' : TT} (h : PT X e t) (w : ∀ sg H Q, t' sg H Q → t sg H Q) : PT X e t' := ⟨fun pins s sg H Q I q => h.run pins s sg H Q I (w sg H Q q)⟩
theorem pw_w {e : Expr} {t t' : TT} (h : PW X e t) (w : ∀ sg H Q, t' sg H Q → t sg H Q) : PW X e t' := ⟨fun wh pins s sg H Q I q => h.run wh pins s sg H Q I (w sg H Q q)⟩
theorem pts_w {e : List Expr} {t t' : TT} (h : PTs X e t) (w : ∀ sg H Q, t' sg H Q → t sg H Q) : PTs X e t' := ⟨fun pins s sg H Q I q => h.run pins s sg H Q I (w sg H Q q)⟩
theorem pa_w {e : List Expr} {t t' : TA} (h : PA X e t) (w : ∀ sg H Q, t' sg H Q → t sg H Q) : PA X e t' := ⟨fun ps pins s sg H Q I q => h.run ps pins s sg H Q I (w sg H Q q)⟩
theorem po_w {e : Option Expr} {t t' : TO} (h : PO X e t) (w : ∀ sg H Q, t' sg H Q → t sg H Q) : PO X e t' := ⟨fun pins s sg H Q I q => h.run pins s sg H Q I (w sg H Q q)⟩
theorem pi_w {tg e : Expr} {t t' : TI} (h : PI X tg e t) (w : ∀ sg H Q, t' sg H Q → t sg H Q) : PI X tg e t' := ⟨fun pins s sg H Q I q => h.run pins s sg H Q I (w sg H Q q)⟩
theorem ps_w {e : Stmt} {t t' : TS} (h : PS X e t) (w : ∀ D sg H, t' D sg H → t D sg H) : PS X e t' := ⟨fun pins s sg H D I q => h.run pins s sg H D I (w D sg H q)⟩
theorem pss_w {e : List Stmt} {t t' : TS} (h : PSs X e t) (w : ∀ D sg H, t' D sg H → t D sg H) : PSs X e t' := ⟨fun pins s sg H D I q => h.run pins s sg H D I (w D sg H q)⟩
end

/-! ### operations on data -/
def R2D (r : R2) (x y z : PyData) : Prop := ∀ u v B H, Ex B H → Dd B u x → Dd B v y → ∀ Q : VK, (∀ w B' H', Wf [] B H B' H' → Dd B' w z → Q w H') → r u v H Q
def RUD (r : V → Hp → VK → Prop) (x z : PyData) : Prop := ∀ u B H, Ex B H → Dd B u x → ∀ Q : VK, (∀ w B' H', Wf [] B H B' H' → Dd B' w z → Q w H') → r u H Q
def RCD (r : List V → Hp → VK → Prop) (ds : List PyData) (z : PyData) : Prop := ∀ vs B H, Ex B H → DdAll B vs ds → ∀ Q : VK, (∀ w B' H', Wf [] B H B' H' → Dd B' w z → Q w H') → r vs H Q
def RSD (r : V → Option Int → Option Int → Hp → VK → Prop) (x : PyData) (lo hi : Option Int) (z : PyData) : Prop := ∀ u B H, Ex B H → Dd B u x → ∀ Q : VK, (∀ w B' H', Wf [] B H B' H' → Dd B' w z → Q w H') → r u lo hi H Q

section
variable {X : Cx} {mu : List Addr} {G G1 G2 G3 : Gm} {x y z d : PyData} {ds : List PyData} {a b e : Expr} {es : List Expr} {pos p : Pos}

/-! ### leaves -/
theorem pd_var {i : Nat} {n : Str} (hG : G[i]? = some (some (.d d))) (hN : X.N[i]? = some n) (hv : Vis X.env.scope n) (hd : (n == ("__debug__" : Str)) = false := by decide) (hcd : (n == ("__classdict__" : Str)) = false := by decide) :
    PE X (.Name n pos) (rdE mu G d G) :=
  pe_w (pe_var hN hv hd hcd) fun sg H Q ⟨H0, B0, B, w, s, k⟩ =>
    let ⟨v, e, dv⟩ := s.dat i d hG
    ⟨v, e, k v B H (Ex.refl B) w s dv⟩
theorem pd_c {v : V} (h : PE X e (tC v)) (hd : ∀ B, Dd B v d) : PE X e (rdE mu G d G) :=
  pe_w h fun sg H Q ⟨H0, B0, B, w, s, k⟩ => k v B H (Ex.refl B) w s (hd B)
theorem pd_int {i : Int} {j : Nat} : PE X (.Constant (.int i) j pos) (rdE mu G (.int i) G) := pd_c pe_int fun _ => .int i
theorem pd_bl {i : Bool} {j : Nat} : PE X (.Constant (.bool i) j pos) (rdE mu G (.bool i) G) := pd_c pe_bl fun _ => .bl i
theorem pd_non {j : Nat} : PE X (.Constant .none j pos) (rdE mu G .none G) := pd_c pe_non fun _ => .non
theorem pd_str {i : String} {j : Nat} : PE X (.Constant (.str i) j pos) (rdE mu G (.str (Str.ofString i)) G) := pd_c pe_str fun _ => .str _

/-! ### glue -/
theorem t_op {r : R2} (hr : R2D r x y z) (sg : L2.St) (H : Hp) (Q : VK) (h : rdE mu G z G2 sg H Q) : tOp r (rdE mu G x G1) (rdE mu G1 y G2) sg H Q := by
  obtain ⟨H0, B0, B, w, s, k⟩ := h
  exact ⟨H0, B0, B, w, s, fun u B1 H1 e1 w1 s1 du => ⟨H0, B0, B1, w1, s1, fun v B2 H2 e2 w2 s2 dv => hr u v B2 H2 w2.s (du.mono e2) dv Q fun z B3 H3 pz dz =>
    k z B3 H3 (e1.trans (e2.trans pz.b)) (w2.step pz) (s2.step pz) dz⟩⟩
theorem pd_bin {op : Operator} {r : R2} (ho : OpR X (binaryOp op) r) (ha : PE X a (rdE mu G x G1)) (hb : PE X b (rdE mu G1 y G2)) (hr : R2D r x y z) : PE X (.BinOp a op b pos) (rdE mu G z G2) :=
  pe_w (pe_op ho ha hb) (t_op hr)
theorem pd_cmp {op : CmpOp} {r : R2} (ho : OpR X (compareOp op) r) (ha : PE X a (rdE mu G x G1)) (hb : PE X b (rdE mu G1 y G2)) (hr : R2D r x y z) (hm : behindInMarks op b = false) : PE X (.Compare a [op] [b] pos) (rdE mu G z G2) :=
  pe_w (pe_cmpR ho ha hb hm) (t_op hr)
theorem pdt_cmp {op : CmpOp} {r : R2} {c : Bool} (ho : OpR X (compareOp op) r) (ha : PE X a (rdE mu G x G1)) (hb : PE X b (rdE mu G1 y G2)) (hr : R2D r x y (.bool c)) (hm : behindInMarks op b = false) : PT X (.Compare a [op] [b] pos) (rdT mu G c G2) :=
  pt_w (pt_cmpR ho ha hb hm) fun sg H Q ⟨H0, B0, B, w, s, k⟩ => t_op hr sg H _ ⟨H0, B0, B, w, s, fun v B' H' e1 w1 s1 dv => by
    cases dv
    exact ⟨c, rfl, k B' H' e1 w1 s1⟩⟩
theorem pd_un {op : UnaryOp} {r : V → Hp → VK → Prop} (ho : UnR X (unaryOp op) r) (ha : PE X a (rdE mu G x G1)) (hr : RUD r x z) : PE X (.UnaryOp op a pos) (rdE mu G z G1) :=
  pe_w (pe_un ho ha) fun sg H Q ⟨H0, B0, B, w, s, k⟩ => ⟨H0, B0, B, w, s, fun u B1 H1 e1 w1 s1 du => hr u B1 H1 w1.s du Q fun z B3 H3 pz dz => k z B3 H3 (e1.trans pz.b) (w1.step pz) (s1.step pz) dz⟩
theorem pd_ix {r : R2} (ho : IxR X r) (ha : PE X a (rdE mu G x G1)) (hb : PE X b (rdE mu G1 y G2)) (hr : R2D r x y z) (hs : PlainIx b) : PE X (.Subscript a b pos) (rdE mu G z G2) :=
  pe_w (pe_ix ho ha hb hs) (t_op hr)
/-! arguments -/
theorem pda_nil : PA X [] (rdA mu G [] G) := pa_w pa_nil fun sg H Q ⟨H0, B0, B, w, s, k⟩ => k [] B H (Ex.refl B) w s .nil
theorem pda_cons (he : PE X e (rdE mu G d G1)) (hr : PA X es (rdA mu G1 ds G2)) (hs : starEach (e :: es) X.env = (false, eval e X.env) :: starEach es X.env := by rfl) : PA X (e :: es) (rdA mu G (d :: ds) G2) :=
  pa_w (pa_cons he hr hs) fun sg H Q ⟨H0, B0, B, w, s, k⟩ => ⟨H0, B0, B, w, s, fun v B1 H1 e1 w1 s1 dv => ⟨H0, B0, B1, w1, s1, fun vs B2 H2 e2 w2 s2 dvs => k (v :: vs) B2 H2 (e1.trans e2) w2 s2 (.cons (dv.mono e2) dvs)⟩⟩
theorem pd_tup {x1} (h : PA X es (rdA mu G ds G1)) (hz : ds.length ≤ sizeLine) : PE X (.Tuple es x1 pos) (rdE mu G (.tuple ds) G1) :=
  pe_w (pe_tupF h) fun sg H Q ⟨H0, B0, B, w, s, k⟩ => ⟨H0, B0, B, w, s, fun vs B1 H1 e1 w1 s1 dv => ⟨by rw [dv.len]; exact hz, fun p o np hd =>
    have pn := Wf.new (o := .frz o (.tup vs)) w1.s np
    k (.ref p) _ _ (e1.trans pn.b) (w1.step pn) (s1.step pn) (.tup upd_same hd (dv.mono pn.b))⟩⟩
theorem pdf_lst (h : PA X es (rdA mu G ds G1)) (hz : ds.length ≤ sizeLine) : PE X (.List es pos) (rdF mu G ds G1) :=
  pe_w (pe_lst h) fun sg H Q ⟨H0, B0, B, w, s, k⟩ => ⟨H0, B0, B, w, s, fun vs B1 H1 e1 w1 s1 dv => ⟨by rw [dv.len]; exact hz, fun p np => by
    have pn := Wf.newU (o := .lst vs) w1.s np
    have h0 : H0 p = none := by
      cases q : H0 p with
      | none => rfl
      | some o => exact absurd np (w1.t p (by rw [q]; exact nofun))
    exact k p vs B1 _ e1 (w1.step pn) (s1.step pn) (w1.s.back np) h0 (fun i a es q => s1.fresh np q) upd_same dv⟩⟩
/-- a new list as data -/
theorem pd_of (h : PE X e (rdF mu G ds G1)) : PE X e (rdE mu G (.list ds) G1) :=
  pe_w h fun sg H Q ⟨H0, B0, B, w, s, k⟩ => ⟨H0, B0, B, w, s, fun p vs B1 H1 e1 w1 s1 hB h0 ho hH dv => by
    have eb : Ex B1 (upd B1 p (.lst vs)) := fun b o q => by
      rw [upd_ne (ne_of_none q hB)]
      exact q
    refine k (.ref p) (upd B1 p (.lst vs)) H1 (e1.trans eb) ⟨w1.b.trans eb, fun b o q => ?_, w1.k, fun b q1 q2 => ?_, w1.t⟩ ⟨s1.len, fun i x q => ?_, fun i a es q => ?_, s1.sep⟩ (.lst upd_same (dv.mono eb))
    · by_cases hb : b = p
      · subst hb
        rw [upd_same] at q
        rw [← q]
        exact hH
      · rw [upd_ne hb] at q
        exact w1.s b o q
    · have hb : b ≠ p := fun z => q1 (by rw [z]; exact h0)
      rw [upd_ne hb]
      exact w1.n b q1 q2
    · obtain ⟨v, z1, z2⟩ := s1.dat i x q
      exact ⟨v, z1, z2.mono eb⟩
    · obtain ⟨z1, z2, z3, ws, z4, z5⟩ := s1.own i a es q
      exact ⟨z1, by rw [upd_ne (ho i a es q)]; exact z2, z3, ws, z4, z5.mono eb⟩⟩
theorem pd_lst (h : PA X es (rdA mu G ds G1)) (hz : ds.length ≤ sizeLine) : PE X (.List es pos) (rdE mu G (.list ds) G1) := pd_of (pdf_lst h hz)
/-! calls of built-ins -/
theorem pd_callB {id : String} {r : List V → Hp → VK → Prop} {n : Str} (hc : CallR X (.builtin id) r) (hg : Gl X n) (hm : X.mg n = none) (hv : bootBuiltins n = some (.builtin id)) (ha : PA X (e :: es) (rdA mu G ds G1)) (hr : RCD r ds z) (hn : n ≠ "__name__" := by decide)
    (hdb : (n == ("__debug__" : Str)) = false := by decide) (he : starEach (e :: es) X.env = (false, eval e X.env) :: starEach es X.env := by rfl) (hpl : (backTo pos (starEach es X.env)).any (·.1) = false := by rfl) : PE X (.Call (.Name n p) (e :: es) [] pos) (rdE mu G z G1) :=
  pe_w (pe_callB hc hg hm hv ha hn hdb he hpl) fun sg H Q ⟨H0, B0, B, w, s, k⟩ => ⟨H0, B0, B, w, s, fun vs B1 H1 e1 w1 s1 dv => hr vs B1 H1 w1.s dv Q fun z B3 H3 pz dz => k z B3 H3 (e1.trans pz.b) (w1.step pz) (s1.step pz) dz⟩
theorem pd_callTy {T : String} {r : List V → Hp → VK → Prop} {n : Str} (hc : CallR X (.type T) r) (hg : Gl X n) (hm : X.mg n = none) (hv : bootBuiltins n = some (.type T)) (ha : PA X (e :: es) (rdA mu G ds G1)) (hr : RCD r ds z) (hn : n ≠ "__name__" := by decide)
    (hdb : (n == ("__debug__" : Str)) = false := by decide) (he : starEach (e :: es) X.env = (false, eval e X.env) :: starEach es X.env := by rfl) (hpl : (backTo pos (starEach es X.env)).any (·.1) = false := by rfl) : PE X (.Call (.Name n p) (e :: es) [] pos) (rdE mu G z G1) :=
  pe_w (pe_callTy hc hg hm hv ha hn hdb he hpl) fun sg H Q ⟨H0, B0, B, w, s, k⟩ => ⟨H0, B0, B, w, s, fun vs B1 H1 e1 w1 s1 dv => hr vs B1 H1 w1.s dv Q fun z B3 H3 pz dz => k z B3 H3 (e1.trans pz.b) (w1.step pz) (s1.step pz) dz⟩
/-! slices -/
theorem pdo_none : PO X none (rdO mu G none G) := po_w po_none fun sg H Q ⟨H0, B0, B, w, s, k⟩ => k B H (Ex.refl B) w s
theorem pdo_some {i : Int} (h : PE X e (rdE mu G (.int i) G1)) : PO X (some e) (rdO mu G (some i) G1) :=
  po_w (po_some h) fun sg H Q ⟨H0, B0, B, w, s, k⟩ => ⟨H0, B0, B, w, s, fun v B1 H1 e1 w1 s1 dv => by
    cases dv
    exact ⟨i, rfl, k B1 H1 e1 w1 s1⟩⟩
theorem pd_slice {r : V → Option Int → Option Int → Hp → VK → Prop} {lo hi : Option Expr} {p2 : Pos} {l h : Option Int} (hr : SlR X r) (he : PE X e (rdE mu G x G1)) (hl : PO X lo (rdO mu G1 l G2)) (hu : PO X hi (rdO mu G2 h G3)) (hz : RSD r x l h z) :
    PE X (.Subscript e (.Slice lo hi none p2) pos) (rdE mu G z G3) :=
  pe_w (pe_slice hr he hl hu) fun sg H Q ⟨H0, B0, B, w, s, k⟩ => ⟨H0, B0, B, w, s, fun v B1 H1 e1 w1 s1 dv => ⟨H0, B0, B1, w1, s1, fun B2 H2 e2 w2 s2 => ⟨H0, B0, B2, w2, s2, fun B3 H3 e3 w3 s3 =>
    hz v B3 H3 w3.s (dv.mono (e2.trans e3)) Q fun z B4 H4 pz dz => k z B4 H4 (e1.trans (e2.trans (e3.trans pz.b))) (w3.step pz) (s3.step pz) dz⟩⟩⟩
theorem pd_revT {k : Nat} {p1 p2 p3 : Pos} (he : PE X e (rdE mu G (.tuple ds) G1)) : PE X (.Subscript e (.Slice none none (some (.UnaryOp .USub (.Constant (.int 1) k p1) p2)) p3) pos) (rdE mu G (.tuple ds.reverse) G1) :=
  pe_w (DL.pe_revT he) fun sg H Q ⟨H0, B0, B, w, s, k⟩ => ⟨H0, B0, B, w, s, fun v B1 H1 e1 w1 s1 dv => by
    cases dv with
    | tup hb hd ha =>
      rename_i a o xs
      refine ⟨a, xs, rfl, sqt_frz (w1.s _ _ hb), fun p o np hd => ?_⟩
      have pn := Wf.new (o := .frz o (.tup xs.reverse)) w1.s np
      exact k (.ref p) _ _ (e1.trans pn.b) (w1.step pn) (s1.step pn) (.tup upd_same hd (ha.rev.mono pn.b))⟩
/-! tests -/
theorem pdt_val {c : Bool} (h : PE X e (rdE mu G (.bool c) G1)) (he : ∀ whole, isTrue e X.env whole = (do let v ← whole; standAt e.pos; holding [v] (truthy v)) := by intro _; rfl) : PT X e (rdT mu G c G1) :=
  pt_w (pt_val h he) fun sg H Q ⟨H0, B0, B, w, s, k⟩ => ⟨H0, B0, B, w, s, fun v B1 H1 e1 w1 s1 dv => by
    cases dv
    exact ⟨c, rfl, k B1 H1 e1 w1 s1⟩⟩
def truD : PyData → Bool
  | .none => false
  | .bool b => b
  | .int i => i != 0
  | .str x => (x.length : Int) != 0
  | .list ds => !ds.isEmpty
  | .tuple ds => !ds.isEmpty
  | .dict ps => !ps.isEmpty
def strFew : PyData → Prop
  | .str x => x.length ≤ sizeLine
  | _ => True
theorem isEmpty_len {α β : Type} {xs : List α} {ys : List β} (h : xs.length = ys.length) : xs.isEmpty = ys.isEmpty := by
  cases xs <;> cases ys <;> simp at h ⊢
theorem DdKV.len {B : Hp} : ∀ {vs : List (Key × V)} {ds : List (PyData × PyData)}, DdKV B vs ds → vs.length = ds.length
  | _, _, .nil => rfl
  | _, _, .cons _ r => by rw [List.length_cons, List.length_cons, DdKV.len r]
theorem tru_d {K : PySem.W.Frag} {B H : Hp} {v : V} (h : Dd B v d) (e : Ex B H) (hs : strFew d) : TruV K v H (truD d) := by
  cases h with
  | non => rfl
  | bl b => rfl
  | int i => rfl
  | str x => exact ⟨hs, rfl⟩
  | lst h1 h2 => exact .inl ⟨_, .of (e _ _ h1), by unfold truD; rw [isEmpty_len h2.len]⟩
  | tup h1 _ h2 => exact .inr (.inl ⟨_, sqt_frz (e _ _ h1), by unfold truD; rw [isEmpty_len h2.len]⟩)
  | dic h1 h2 => exact .inr (.inr ⟨_, e _ _ h1, by unfold truD; rw [isEmpty_len h2.len]⟩)
theorem pdt_tru (h : PE X e (rdE mu G d G1)) (hs : strFew d) (he : ∀ whole, isTrue e X.env whole = (do let v ← whole; standAt e.pos; holding [v] (truthy v)) := by intro _; rfl) : PT X e (rdT mu G (truD d) G1) :=
  pt_w (pt_truth h he) fun sg H Q ⟨H0, B0, B, w, s, k⟩ => ⟨H0, B0, B, w, s, fun v B1 H1 e1 w1 s1 dv => ⟨truD d, tru_d dv w1.s hs, k B1 H1 e1 w1 s1⟩⟩
theorem pdt_not {c : Bool} (h : PT X e (rdT mu G c G1)) : PT X (.UnaryOp .Not e pos) (rdT mu G (!c) G1) :=
  pt_w (pt_not h) fun sg H Q ⟨H0, B0, B, w, s, k⟩ => ⟨H0, B0, B, w, s, fun B1 H1 e1 w1 s1 => k B1 H1 e1 w1 s1⟩
theorem pd_not (h : PE X e (rdE mu G d G1)) (hs : strFew d) : PE X (.UnaryOp .Not e pos) (rdE mu G (.bool (!truD d)) G1) :=
  pe_w (pe_notT h) fun sg H Q ⟨H0, B0, B, w, s, k⟩ => ⟨H0, B0, B, w, s, fun v B1 H1 e1 w1 s1 dv => ⟨truD d, tru_d dv w1.s hs, k _ B1 H1 e1 w1 s1 (.bl _)⟩⟩
theorem pdw_and1 {c : Bool} (h : PT X e (rdT mu G c G1)) : PW X (.BoolOp .And [e] pos) (rdT mu G c G1) := pw_and1 h
theorem pdw_or1 {c : Bool} (h : PT X e (rdT mu G c G1)) : PW X (.BoolOp .Or [e] pos) (rdT mu G c G1) := pw_or1 h
theorem pdw_and {c c' : Bool} (ha : PT X a (rdT mu G c G)) (hb : c = true → PW X (.BoolOp .And (b :: es) pos) (rdT mu G c' G)) : PW X (.BoolOp .And (a :: b :: es) pos) (rdT mu G (c && c') G) := by
  have hb' : PW X (.BoolOp .And (b :: es) pos) (fun sg H Q => c = true ∧ rdT mu G c' G sg H Q) := ⟨fun wh pins s sg H Q I q => (hb q.1).run wh pins s sg H Q I q.2⟩
  refine pw_w (pw_and ha hb') fun sg H Q ⟨H0, B0, B, w, s, k⟩ => ⟨H0, B0, B, w, s, fun B1 H1 e1 w1 s1 => ?_⟩
  cases c with
  | true => exact iteT ⟨rfl, H0, B0, B1, w1, s1, fun B2 H2 e2 w2 s2 => k B2 H2 (e1.trans e2) w2 s2⟩
  | false => exact iteF (k B1 H1 e1 w1 s1)
theorem pdw_or {c c' : Bool} (ha : PT X a (rdT mu G c G)) (hb : c = false → PW X (.BoolOp .Or (b :: es) pos) (rdT mu G c' G)) : PW X (.BoolOp .Or (a :: b :: es) pos) (rdT mu G (c || c') G) := by
  have hb' : PW X (.BoolOp .Or (b :: es) pos) (fun sg H Q => c = false ∧ rdT mu G c' G sg H Q) := ⟨fun wh pins s sg H Q I q => (hb q.1).run wh pins s sg H Q I q.2⟩
  refine pw_w (pw_or ha hb') fun sg H Q ⟨H0, B0, B, w, s, k⟩ => ⟨H0, B0, B, w, s, fun B1 H1 e1 w1 s1 => ?_⟩
  cases c with
  | true => exact iteT (k B1 H1 e1 w1 s1)
  | false => exact iteF ⟨rfl, H0, B0, B1, w1, s1, fun B2 H2 e2 w2 s2 => k B2 H2 (e1.trans e2) w2 s2⟩
/-- .. where the frame changes on the way -/
theorem pdw_andT {c' : Bool} (ha : PT X a (rdT mu G true G1)) (hb : PW X (.BoolOp .And (b :: es) pos) (rdT mu G1 c' G2)) : PW X (.BoolOp .And (a :: b :: es) pos) (rdT mu G c' G2) :=
  pw_w (pw_and ha hb) fun sg H Q ⟨H0, B0, B, w, s, k⟩ => ⟨H0, B0, B, w, s, fun B1 H1 e1 w1 s1 => iteT ⟨H0, B0, B1, w1, s1, fun B2 H2 e2 w2 s2 => k B2 H2 (e1.trans e2) w2 s2⟩⟩
theorem pdw_never {e : Expr} : PW X e (fun _ _ _ => False) := ⟨fun _ _ _ _ _ _ _ q => q.elim⟩
theorem pdw_andF (ha : PT X a (rdT mu G false G1)) : PW X (.BoolOp .And (a :: b :: es) pos) (rdT mu G false G1) :=
  pw_w (pw_and ha pdw_never) fun sg H Q ⟨H0, B0, B, w, s, k⟩ => ⟨H0, B0, B, w, s, fun B1 H1 e1 w1 s1 => iteF (k B1 H1 e1 w1 s1)⟩
theorem pdw_orT (ha : PT X a (rdT mu G true G1)) : PW X (.BoolOp .Or (a :: b :: es) pos) (rdT mu G true G1) :=
  pw_w (pw_or ha pdw_never) fun sg H Q ⟨H0, B0, B, w, s, k⟩ => ⟨H0, B0, B, w, s, fun B1 H1 e1 w1 s1 => iteT (k B1 H1 e1 w1 s1)⟩
theorem pdw_orF {c' : Bool} (ha : PT X a (rdT mu G false G1)) (hb : PW X (.BoolOp .Or (b :: es) pos) (rdT mu G1 c' G2)) : PW X (.BoolOp .Or (a :: b :: es) pos) (rdT mu G c' G2) :=
  pw_w (pw_or ha hb) fun sg H Q ⟨H0, B0, B, w, s, k⟩ => ⟨H0, B0, B, w, s, fun B1 H1 e1 w1 s1 => iteF ⟨H0, B0, B1, w1, s1, fun B2 H2 e2 w2 s2 => k B2 H2 (e1.trans e2) w2 s2⟩⟩
/-- as values -/
theorem pd_one {op} (h : PE X e (rdE mu G d G1)) : PE X (.BoolOp op [e] pos) (rdE mu G d G1) := pe_one h
theorem pd_and {c c' : Bool} (ha : PE X a (rdE mu G (.bool c) G)) (hb : c = true → PE X (.BoolOp .And (b :: es) pos) (rdE mu G (.bool c') G)) : PE X (.BoolOp .And (a :: b :: es) pos) (rdE mu G (.bool (c && c')) G) := by
  have hb' : PE X (.BoolOp .And (b :: es) pos) (fun sg H Q => c = true ∧ rdE mu G (.bool c') G sg H Q) := ⟨fun pins s sg H Q I q => (hb q.1).run pins s sg H Q I q.2⟩
  refine pe_w (pe_and ha hb') fun sg H Q ⟨H0, B0, B, w, s, k⟩ => ⟨H0, B0, B, w, s, fun v B1 H1 e1 w1 s1 dv => ?_⟩
  cases dv
  refine ⟨c, rfl, ?_⟩
  cases c with
  | true => exact iteT ⟨rfl, H0, B0, B1, w1, s1, fun v B2 H2 e2 w2 s2 dv => k v B2 H2 (e1.trans e2) w2 s2 dv⟩
  | false => exact iteF (k _ B1 H1 e1 w1 s1 (.bl false))
theorem pd_or {c c' : Bool} (ha : PE X a (rdE mu G (.bool c) G)) (hb : c = false → PE X (.BoolOp .Or (b :: es) pos) (rdE mu G (.bool c') G)) : PE X (.BoolOp .Or (a :: b :: es) pos) (rdE mu G (.bool (c || c')) G) := by
  have hb' : PE X (.BoolOp .Or (b :: es) pos) (fun sg H Q => c = false ∧ rdE mu G (.bool c') G sg H Q) := ⟨fun pins s sg H Q I q => (hb q.1).run pins s sg H Q I q.2⟩
  refine pe_w (pe_or ha hb') fun sg H Q ⟨H0, B0, B, w, s, k⟩ => ⟨H0, B0, B, w, s, fun v B1 H1 e1 w1 s1 dv => ?_⟩
  cases dv
  refine ⟨c, rfl, ?_⟩
  cases c with
  | true => exact iteT (k _ B1 H1 e1 w1 s1 (.bl true))
  | false => exact iteF ⟨rfl, H0, B0, B1, w1, s1, fun v B2 H2 e2 w2 s2 dv => k v B2 H2 (e1.trans e2) w2 s2 dv⟩
theorem pd_ifx {c : Expr} {q : Bool} (hc : PT X c (rdT mu G q G1)) (ha : q = true → PE X a (rdE mu G1 d G2)) (hb : q = false → PE X b (rdE mu G1 d G2)) : PE X (.IfExp c a b pos) (rdE mu G d G2) := by
  have ha' : PE X a (fun sg H Q => q = true ∧ rdE mu G1 d G2 sg H Q) := ⟨fun pins s sg H Q I r => (ha r.1).run pins s sg H Q I r.2⟩
  have hb' : PE X b (fun sg H Q => q = false ∧ rdE mu G1 d G2 sg H Q) := ⟨fun pins s sg H Q I r => (hb r.1).run pins s sg H Q I r.2⟩
  refine pe_w (pe_ifExp hc ha' hb') fun sg H Q ⟨H0, B0, B, w, s, k⟩ => ⟨H0, B0, B, w, s, fun B1 H1 e1 w1 s1 => ?_⟩
  cases q with
  | true => exact iteT ⟨rfl, H0, B0, B1, w1, s1, fun v B2 H2 e2 w2 s2 dv => k v B2 H2 (e1.trans e2) w2 s2 dv⟩
  | false => exact iteF ⟨rfl, H0, B0, B1, w1, s1, fun v B2 H2 e2 w2 s2 dv => k v B2 H2 (e1.trans e2) w2 s2 dv⟩
theorem pd_chain {op op' : CmpOp} {r r' : R2} {c : Expr} {q q' : Bool} (ho : OpR X (compareOp op) r) (ho' : OpR X (compareOp op') r') (ha : PE X a (rdE mu G x G)) (hb : PE X b (rdE mu G y G)) (hc : PE X c (rdE mu G z G)) (hr : R2D r x y (.bool q)) (hr' : q = true → R2D r' y z (.bool q')) (hm : lastMarks [op, op'] [b, c] = false := by rfl) :
    PE X (.Compare a [op, op'] [b, c] pos) (rdE mu G (.bool (q && q')) G) :=
  pe_w (pe_chain ho ho' ha hb hc hm) fun sg H Q ⟨H0, B0, B, w, s, k⟩ => ⟨H0, B0, B, w, s, fun u B1 H1 e1 w1 s1 du => ⟨H0, B0, B1, w1, s1, fun v B2 H2 e2 w2 s2 dv => hr u v B2 H2 w2.s (du.mono e2) dv _ fun t B3 H3 p3 dt => by
    cases dt
    refine ⟨q, rfl, ?_⟩
    cases q with
    | true => exact iteT ⟨H0, B0, B3, w2.step p3, s2.step p3, fun t B4 H4 e4 w4 s4 dt => hr' rfl v t B4 H4 w4.s (dv.mono (p3.b.trans e4)) dt Q fun t B5 H5 p5 dt => k t B5 H5 (e1.trans (e2.trans (p3.b.trans (e4.trans p5.b)))) (w4.step p5) (s4.step p5) dt⟩
    | false => exact iteF (k _ B3 H3 (e1.trans (e2.trans p3.b)) (w2.step p3) (s2.step p3) (.bl false))⟩⟩
theorem pd_eq (h : PE X e (rdE mu G d G1)) {d' : PyData} (q : d = d') : PE X e (rdE mu G d' G1) := by
  subst q
  exact h
theorem pdt_eq {c c' : Bool} (h : PT X e (rdT mu G c G1)) (q : c = c') : PT X e (rdT mu G c' G1) := by
  subst q
  exact h
/-- an item of an own list -/
theorem pd_ixO {i : Nat} {n : Str} {k : Int} {l : Addr} (hb : PE X b (rdE mu G (.int k) G1)) (hG : G[i]? = some (some (.own l ds))) (hG1 : G1[i]? = some (some (.own l ds))) (hk : atI ds k = some z) (hN : X.N[i]? = some n) (hv : Vis X.env.scope n) (hs : PlainIx b)
    (hd : (n == ("__debug__" : Str)) = false := by decide) (hcd : (n == ("__classdict__" : Str)) = false := by decide) : PE X (.Subscript (.Name n p) b pos) (rdE mu G z G1) :=
  pe_w (pe_ix ix_list (pe_var hN hv hd hcd) hb hs) fun sg H Q ⟨H0, B0, B, w, s, kk⟩ => by
    obtain ⟨h1, _⟩ := s.own i l ds hG
    refine ⟨.ref l, h1, H0, B0, B, w, s, fun v B1 H1 e1 w1 s1 dv => ?_⟩
    cases dv
    obtain ⟨_, _, _, vs, h4, h5⟩ := s1.own i l ds hG1
    have hl := h5.len
    have hk2 : (ixN vs.length k).bind (fun j => ds[j]?) = some z := by rw [hl]; exact hk
    cases hj : ixN vs.length k with
    | none => rw [hj] at hk2; cases hk2
    | some j =>
      rw [hj] at hk2
      obtain ⟨v, hv1, hv2⟩ := h5.get hk2
      exact ⟨l, vs, k, v, rfl, rfl, .of h4, by unfold atI; rw [hj]; exact hv1, kk v B1 H1 e1 w1 s1 hv2⟩
end
end DL

/-! What the operations do on data. -/
namespace DL
open PySem PySem.Spec PyProof.Rows L2

section
variable {K : PySem.W.Frag} {i j : Int} {x y z d : PyData} {ds es xs ys : List PyData}

/-! ### + - * // % ** -/
def rAddAll (K : PySem.W.Frag) : R2 := fun x y H Q => (rI0 fun i j => .int (i + j)) x y H Q ∨ rCatF K x y H Q ∨ rCat x y H Q
theorem op_addAll {X : Cx} : OpR X (binaryOp .Add) (rAddAll X.K) := op_add.or (op_catF.or op_cat)
theorem r2_addI : R2D (rAddAll K) (.int i) (.int j) (.int (i + j)) := fun u v B H e du dv Q q => by
  cases du
  cases dv
  exact .inl ⟨i, j, rfl, rfl, q _ B H (Wf.refl e) (.int _)⟩
theorem r2_addT (hz : xs.length + ys.length ≤ sizeLine) : R2D (rAddAll K) (.tuple xs) (.tuple ys) (.tuple (xs ++ ys)) := fun u v B H e du dv Q q => by
  cases du with
  | tup h1 n1 r1 =>
    rename_i a o vs
    cases dv with
    | tup h2 n2 r2 =>
      rename_i b o2 us
      refine .inr (.inl ⟨a, b, vs, us, rfl, rfl, sqt_frz (e _ _ h1), sqt_frz (e _ _ h2), by rw [r1.len, r2.len]; exact hz, fun z => ?_, fun _ z => ?_, fun _ _ p o np hd => ?_⟩)
      · subst z
        cases r1
        exact q _ B H (Wf.refl e) (.tup h2 n2 r2)
      · subst z
        cases r2
        rw [List.append_nil] at q
        exact q _ B H (Wf.refl e) (.tup h1 n1 r1)
      · have pn := Wf.new (o := .frz o (.tup (vs ++ us))) e np
        exact q _ _ _ pn (.tup upd_same hd ((r1.app r2).mono pn.b))
theorem r2_addL (hz : xs.length + ys.length ≤ sizeLine) : R2D (rAddAll K) (.list xs) (.list ys) (.list (xs ++ ys)) := fun u v B H e du dv Q q => by
  cases du with
  | lst h1 r1 =>
    rename_i a vs
    cases dv with
    | lst h2 r2 =>
      rename_i b us
      refine .inr (.inr ⟨a, b, vs, us, rfl, rfl, e _ _ h1, e _ _ h2, by rw [r1.len, r2.len]; exact hz, fun p np => ?_⟩)
      have pn := Wf.new (o := .lst (vs ++ us)) e np
      exact q _ _ _ pn (.lst upd_same ((r1.app r2).mono pn.b))
theorem r2_I0 {g : Int → Int → Int} : R2D (rI0 fun i j => .int (g i j)) (.int i) (.int j) (.int (g i j)) := fun u v B H e du dv Q q => by
  cases du
  cases dv
  exact ⟨i, j, rfl, rfl, q _ B H (Wf.refl e) (.int _)⟩
theorem r2_B0 {g : Int → Int → Bool} : R2D (rI0 fun i j => .bl (g i j)) (.int i) (.int j) (.bool (g i j)) := fun u v B H e du dv Q q => by
  cases du
  cases dv
  exact ⟨i, j, rfl, rfl, q _ B H (Wf.refl e) (.bl _)⟩
theorem r2_I {C : Int → Int → Prop} {g : Int → Int → Int} (hc : C i j) : R2D (rI C fun i j => .int (g i j)) (.int i) (.int j) (.int (g i j)) := fun u v B H e du dv Q q => by
  cases du
  cases dv
  exact ⟨i, j, rfl, rfl, hc, q _ B H (Wf.refl e) (.int _)⟩
theorem ru_neg : RUD (rU fun i => .int (-i)) (.int i) (.int (-i)) := fun u B H e du Q q => by
  cases du
  exact ⟨i, rfl, q _ B H (Wf.refl e) (.int _)⟩

/-! ### == != in -/
def rEqAll (K : PySem.W.Frag) : R2 := fun x y H Q => rEq x y H Q ∨ rEqD K x y H Q
def rNeAll (K : PySem.W.Frag) : R2 := fun x y H Q => rNe x y H Q ∨ rNeD K x y H Q
theorem op_eqAll {X : Cx} (hu : X.A.units + 64 < cLine) : OpR X (compareOp .Eq) (rEqAll X.K) := op_eq.or (op_eqD hu)
theorem op_neAll {X : Cx} (hu : X.A.units + 64 < cLine) : OpR X (compareOp .NotEq) (rNeAll X.K) := op_ne.or (op_neD hu)
theorem dec_i : decide (V.int i = V.int j) = decide (i = j) := by simp
theorem r2_eqI : R2D (rEqAll K) (.int i) (.int j) (.bool (decide (i = j))) := fun u v B H e du dv Q q => by
  cases du
  cases dv
  exact .inl ⟨rfl, by rw [dec_i]; exact q _ B H (Wf.refl e) (.bl _)⟩
theorem r2_neI : R2D (rNeAll K) (.int i) (.int j) (.bool (!decide (i = j))) := fun u v B H e du dv Q q => by
  cases du
  cases dv
  exact .inl ⟨rfl, by rw [dec_i]; exact q _ B H (Wf.refl e) (.bl _)⟩
theorem r2_eqS {s t : Str} : R2D (rEqAll K) (.str s) (.str t) (.bool (decide (s = t))) := fun u v B H e du dv Q q => by
  cases du
  cases dv
  exact .inl ⟨rfl, by rw [show decide (V.str s = V.str t) = decide (s = t) by simp]; exact q _ B H (Wf.refl e) (.bl _)⟩
theorem r2_neS {s t : Str} : R2D (rNeAll K) (.str s) (.str t) (.bool (!decide (s = t))) := fun u v B H e du dv Q q => by
  cases du
  cases dv
  exact .inl ⟨rfl, by rw [show decide (V.str s = V.str t) = decide (s = t) by simp]; exact q _ B H (Wf.refl e) (.bl _)⟩
theorem r2_eqB {s t : Bool} : R2D (rEqAll K) (.bool s) (.bool t) (.bool (decide (s = t))) := fun u v B H e du dv Q q => by
  cases du
  cases dv
  exact .inl ⟨rfl, by rw [show decide (V.bl s = V.bl t) = decide (s = t) by simp]; exact q _ B H (Wf.refl e) (.bl _)⟩
theorem r2_neB {s t : Bool} : R2D (rNeAll K) (.bool s) (.bool t) (.bool (!decide (s = t))) := fun u v B H e du dv Q q => by
  cases du
  cases dv
  exact .inl ⟨rfl, by rw [show decide (V.bl s = V.bl t) = decide (s = t) by simp]; exact q _ B H (Wf.refl e) (.bl _)⟩
theorem r2_eqD (hx : SeqAt.shaped x = true) (hy : SeqAt.shaped y = true) : R2D (rEqAll K) x y (.bool (PyData.eqv x y)) := fun u v B H e du dv Q q =>
  .inr ⟨x, y, (du.mono e).dp (SeqAt.canLay_of_shaped hx), (dv.mono e).dp (SeqAt.canLay_of_shaped hy), hx, hy, q _ B H (Wf.refl e) (.bl _)⟩
theorem r2_inL (hx : SeqAt.shaped x = true) (hy : PyData.canLayAll0 ds = true) : R2D (rInS K) x (.list ds) (.bool (ds.any fun z => PyData.eqv z x)) := fun u v B H e du dv Q q =>
  ⟨x, ds, (du.mono e).dp (SeqAt.canLay_of_shaped hx), .inl ((dv.mono e).dp (by simpa only [PyData.canLay0] using hy)), hx, hy, q _ B H (Wf.refl e) (.bl _)⟩
theorem r2_inT (hx : SeqAt.shaped x = true) (hy : PyData.canLayAll0 ds = true) : R2D (rInS K) x (.tuple ds) (.bool (ds.any fun z => PyData.eqv z x)) := fun u v B H e du dv Q q =>
  ⟨x, ds, (du.mono e).dp (SeqAt.canLay_of_shaped hx), .inr ((dv.mono e).dp (by simpa only [PyData.canLay0] using hy)), hx, hy, q _ B H (Wf.refl e) (.bl _)⟩
theorem r2_ninL (hx : SeqAt.shaped x = true) (hy : PyData.canLayAll0 ds = true) : R2D (rNotInS K) x (.list ds) (.bool (!ds.any fun z => PyData.eqv z x)) := fun u v B H e du dv Q q =>
  ⟨x, ds, (du.mono e).dp (SeqAt.canLay_of_shaped hx), .inl ((dv.mono e).dp (by simpa only [PyData.canLay0] using hy)), hx, hy, q _ B H (Wf.refl e) (.bl _)⟩
theorem r2_ninT (hx : SeqAt.shaped x = true) (hy : PyData.canLayAll0 ds = true) : R2D (rNotInS K) x (.tuple ds) (.bool (!ds.any fun z => PyData.eqv z x)) := fun u v B H e du dv Q q =>
  ⟨x, ds, (du.mono e).dp (SeqAt.canLay_of_shaped hx), .inr ((dv.mono e).dp (by simpa only [PyData.canLay0] using hy)), hx, hy, q _ B H (Wf.refl e) (.bl _)⟩
theorem canLay_ints : ∀ ns : List Int, PyData.canLayAll0 (ns.map PyData.int) = true
  | [] => by simp [PyData.canLayAll0]
  | n :: ns => by simp [PyData.canLayAll0, PyData.canLay0, canLay_ints ns]
theorem any_ints : ∀ ns : List Int, (ns.map PyData.int).any (fun z => PyData.eqv z (.int i)) = decide (i ∈ ns)
  | [] => by simp
  | n :: ns => by
    rw [List.map_cons, List.any_cons, any_ints ns]
    simp only [PyData.eqv, List.mem_cons, Bool.decide_or]
    congr 1
    by_cases h : n = i
    · simp [h]
    · have h' : ¬ i = n := fun e => h e.symm
      simp [h, h']
theorem shaped_int : SeqAt.shaped (.int i) = true := by simp [SeqAt.shaped, PyData.canLay0, PyData.depth]
theorem r2_inLI {ns : List Int} : R2D (rInS K) (.int i) (.list (ns.map PyData.int)) (.bool (decide (i ∈ ns))) := by
  rw [← any_ints]
  exact r2_inL shaped_int (canLay_ints ns)
theorem r2_inTI {ns : List Int} : R2D (rInS K) (.int i) (.tuple (ns.map PyData.int)) (.bool (decide (i ∈ ns))) := by
  rw [← any_ints]
  exact r2_inT shaped_int (canLay_ints ns)
theorem r2_ninLI {ns : List Int} : R2D (rNotInS K) (.int i) (.list (ns.map PyData.int)) (.bool (!decide (i ∈ ns))) := by
  rw [← any_ints]
  exact r2_ninL shaped_int (canLay_ints ns)
theorem r2_ninTI {ns : List Int} : R2D (rNotInS K) (.int i) (.tuple (ns.map PyData.int)) (.bool (!decide (i ∈ ns))) := by
  rw [← any_ints]
  exact r2_ninT shaped_int (canLay_ints ns)
def isNone : PyData → Bool
  | .none => true
  | _ => false
theorem Dd.isNon {B : Hp} {u : V} (h : Dd B u d) : decide (u = .non) = isNone d := by
  cases h <;> simp [isNone]
theorem r2_isN : R2D (fun x y H Q => y = .non ∧ Q (.bl (decide (x = .non))) H) d .none (.bool (isNone d)) := fun u v B H e du dv Q q => by
  cases dv
  exact ⟨rfl, by rw [du.isNon]; exact q _ B H (Wf.refl e) (.bl _)⟩
theorem r2_notN : R2D (fun x y H Q => y = .non ∧ Q (.bl (!decide (x = .non))) H) d .none (.bool (!isNone d)) := fun u v B H e du dv Q q => by
  cases dv
  exact ⟨rfl, by rw [du.isNon]; exact q _ B H (Wf.refl e) (.bl _)⟩
theorem r2_notB {s t : Bool} : R2D (fun x y H Q => ∃ a b, x = V.bl a ∧ y = V.bl b ∧ Q (.bl (!decide (a = b))) H) (.bool s) (.bool t) (.bool (!decide (s = t))) := fun u v B H e du dv Q q => by
  cases du
  cases dv
  exact ⟨s, t, rfl, rfl, q _ B H (Wf.refl e) (.bl _)⟩

/-! ### items, slices -/
theorem atI_all {B : Hp} {vs : List V} {ds : List PyData} (h : DdAll B vs ds) {k : Int} {d : PyData} (hk : atI ds k = some d) : ∃ v, atI vs k = some v ∧ Dd B v d := by
  have hl := h.len
  unfold atI at hk ⊢
  rw [hl]
  cases hj : ixN ds.length k with
  | none => rw [hj] at hk; cases hk
  | some j =>
    rw [hj] at hk
    exact h.get (show ds[j]? = some d from hk)
theorem r2_ixT {k : Int} (hk : atI ds k = some d) : R2D (rIx K) (.tuple ds) (.int k) d := fun u v B H e du dv Q q => by
  cases dv
  cases du with
  | tup h1 _ r1 =>
    obtain ⟨v, hv, hd⟩ := atI_all r1 hk
    exact .inr (.inl ⟨_, _, k, v, rfl, rfl, sqt_frz (e _ _ h1), hv, q v B H (Wf.refl e) hd⟩)
theorem r2_ixL {k : Int} (hk : atI ds k = some d) : R2D (rIx K) (.list ds) (.int k) d := fun u v B H e du dv Q q => by
  cases dv
  cases du with
  | lst h1 r1 =>
    obtain ⟨v, hv, hd⟩ := atI_all r1 hk
    exact .inl ⟨_, _, k, v, rfl, rfl, .of (e _ _ h1), hv, q v B H (Wf.refl e) hd⟩
def cutD (xs : List PyData) (lo hi : Option Int) : List PyData := (xs.drop (HT.sIx xs.length 0 lo)).take (HT.sIx xs.length xs.length hi - HT.sIx xs.length 0 lo)
theorem cut_all {B : Hp} {vs : List V} {ds : List PyData} (h : DdAll B vs ds) (lo hi : Option Int) : DdAll B (cutV vs lo hi) (cutD ds lo hi) := by
  unfold cutV cutD
  rw [h.len]
  exact (h.drop _).take _
theorem rs_tup {lo hi : Option Int} : RSD (rSlF K) (.tuple ds) lo hi (.tuple (cutD ds lo hi)) := fun u B H e du Q q => by
  cases du with
  | tup h1 n1 r1 =>
    rename_i a o vs
    refine ⟨a, vs, rfl, sqt_frz (e _ _ h1), fun hw => ?_, fun _ p o np hd => ?_⟩
    · have e1 : cutD ds lo hi = ds := by
        unfold cutD
        rw [← r1.len, hw.1, hw.2, List.drop_zero, Nat.sub_zero, r1.len, List.take_length]
      rw [e1] at q
      exact q _ B H (Wf.refl e) (.tup h1 n1 r1)
    · have pn := Wf.new (o := .frz o (.tup (cutV vs lo hi))) e np
      exact q _ _ _ pn (.tup upd_same hd ((cut_all r1 lo hi).mono pn.b))

/-! ### calls of built-ins -/
def rLen (K : PySem.W.Frag) : List V → Hp → VK → Prop := fun xs H Q => ∃ x n, xs = [x] ∧ LenV K x H n ∧ Q (.int n) H
theorem rc_lenT : RCD (rLen K) [.tuple ds] (.int (ds.length : Nat)) := fun vs B H e dv Q q => by
  cases dv with
  | cons h r =>
    cases r
    cases h with
    | tup h1 _ r1 =>
      exact ⟨_, ds.length, rfl, .inr ⟨_, sqt_frz (e _ _ h1), r1.len.symm⟩, q _ B H (Wf.refl e) (.int _)⟩
theorem rc_lenL : RCD (rLen K) [.list ds] (.int (ds.length : Nat)) := fun vs B H e dv Q q => by
  cases dv with
  | cons h r =>
    cases r
    cases h with
    | lst h1 r1 =>
      rename_i a vs
      exact ⟨.ref a, ds.length, rfl, .inl ⟨vs, .of (e _ _ h1), r1.len.symm⟩, q _ B H (Wf.refl e) (.int _)⟩
/-- the greatest, the least of some ints -/
def maxL : List Int → Int
  | [] => 0
  | n :: ns => ns.foldl max n
def minL : List Int → Int
  | [] => 0
  | n :: ns => ns.foldl min n
theorem foldl_max_ge : ∀ (ns : List Int) (n : Int), n ≤ ns.foldl max n
  | [], n => Int.le_refl n
  | m :: ns, n => Int.le_trans (Int.le_max_left n m) (foldl_max_ge ns (max n m))
theorem foldl_max_all : ∀ (ns : List Int) (n : Int), ∀ y ∈ ns, y ≤ ns.foldl max n
  | [], _, _, h => nomatch h
  | m :: ns, n, y, h => by
    rcases List.mem_cons.mp h with e | h
    · subst e
      exact Int.le_trans (Int.le_max_right n y) (foldl_max_ge ns (max n y))
    · exact foldl_max_all ns (max n m) y h
theorem foldl_max_mem : ∀ (ns : List Int) (n : Int), ns.foldl max n ∈ n :: ns
  | [], n => List.mem_cons_self
  | m :: ns, n => by
    have h := foldl_max_mem ns (max n m)
    rw [List.foldl_cons]
    rcases List.mem_cons.mp h with e | h
    · rw [e]
      rcases Int.le_total n m with z | z
      · rw [Int.max_eq_right z]
        simp
      · rw [Int.max_eq_left z]
        simp
    · exact List.mem_cons_of_mem _ (List.mem_cons_of_mem _ h)
theorem foldl_min_le : ∀ (ns : List Int) (n : Int), ns.foldl min n ≤ n
  | [], n => Int.le_refl n
  | m :: ns, n => Int.le_trans (foldl_min_le ns (min n m)) (Int.min_le_left n m)
theorem foldl_min_all : ∀ (ns : List Int) (n : Int), ∀ y ∈ ns, ns.foldl min n ≤ y
  | [], _, _, h => nomatch h
  | m :: ns, n, y, h => by
    rcases List.mem_cons.mp h with e | h
    · subst e
      exact Int.le_trans (foldl_min_le ns (min n y)) (Int.min_le_right n y)
    · exact foldl_min_all ns (min n m) y h
theorem foldl_min_mem : ∀ (ns : List Int) (n : Int), ns.foldl min n ∈ n :: ns
  | [], n => List.mem_cons_self
  | m :: ns, n => by
    have h := foldl_min_mem ns (min n m)
    rw [List.foldl_cons]
    rcases List.mem_cons.mp h with e | h
    · rw [e]
      rcases Int.le_total n m with z | z
      · rw [Int.min_eq_left z]
        simp
      · rw [Int.min_eq_right z]
        simp
    · exact List.mem_cons_of_mem _ (List.mem_cons_of_mem _ h)
theorem maxL_mem {ns : List Int} (h : 0 < ns.length) : maxL ns ∈ ns := by
  cases ns with
  | nil => cases h
  | cons n ns => exact foldl_max_mem ns n
theorem maxL_ge {ns : List Int} {y : Int} (h : y ∈ ns) : y ≤ maxL ns := by
  cases ns with
  | nil => cases h
  | cons n ns =>
    rcases List.mem_cons.mp h with e | h
    · subst e
      exact foldl_max_ge ns y
    · exact foldl_max_all ns n y h
theorem minL_mem {ns : List Int} (h : 0 < ns.length) : minL ns ∈ ns := by
  cases ns with
  | nil => cases h
  | cons n ns => exact foldl_min_mem ns n
theorem minL_le {ns : List Int} {y : Int} (h : y ∈ ns) : minL ns ≤ y := by
  cases ns with
  | nil => cases h
  | cons n ns =>
    rcases List.mem_cons.mp h with e | h
    · subst e
      exact foldl_min_le ns y
    · exact foldl_min_all ns n y h
theorem rc_max {ns : List Int} (h0 : 0 < ns.length) : RCD (rMax K) [.list (ns.map PyData.int)] (.int (maxL ns)) := fun vs B H e dv Q q => by
  cases dv with
  | cons h r =>
    cases r
    cases h with
    | lst h1 r1 =>
      rename_i a vs
      have ev := r1.ints
      subst ev
      refine ⟨a, ns, rfl, .of (e _ _ h1), h0, fun m hm hy => ?_⟩
      have em : m = maxL ns := Int.le_antisymm (maxL_ge hm) (hy _ (maxL_mem h0))
      rw [em]
      exact q _ B H (Wf.refl e) (.int _)
theorem rc_min {ns : List Int} (h0 : 0 < ns.length) : RCD (rMin K) [.list (ns.map PyData.int)] (.int (minL ns)) := fun vs B H e dv Q q => by
  cases dv with
  | cons h r =>
    cases r
    cases h with
    | lst h1 r1 =>
      rename_i a vs
      have ev := r1.ints
      subst ev
      refine ⟨a, ns, rfl, .of (e _ _ h1), h0, fun m hm hy => ?_⟩
      have em : m = minL ns := Int.le_antisymm (hy _ (minL_mem h0)) (minL_le hm)
      rw [em]
      exact q _ B H (Wf.refl e) (.int _)
def rMax2 : List V → Hp → VK → Prop := fun xs H Q => ∃ i j, xs = [.int i, .int j] ∧ Q (.int (if j > i then j else i)) H
theorem rc_max2 : RCD rMax2 [.int i, .int j] (.int (if j > i then j else i)) := fun vs B H e dv Q q => by
  cases dv with
  | cons h r =>
    cases r with
    | cons h' r =>
      cases r
      cases h
      cases h'
      exact ⟨i, j, rfl, q _ B H (Wf.refl e) (.int _)⟩
def rAbs : List V → Hp → VK → Prop := fun xs H Q => ∃ i, xs = [.int i] ∧ Q (.int (if i < 0 then -i else i)) H
theorem rc_abs : RCD rAbs [.int i] (.int (if i < 0 then -i else i)) := fun vs B H e dv Q q => by
  cases dv with
  | cons h r =>
    cases r
    cases h
    exact ⟨i, rfl, q _ B H (Wf.refl e) (.int _)⟩
def rInt1 : List V → Hp → VK → Prop := fun xs H Q => (∃ i, xs = [.int i] ∧ Q (.int i) H) ∨ ∃ k : Bool, xs = [.bl k] ∧ Q (.int (if k then 1 else 0)) H
theorem rc_int : RCD rInt1 [.int i] (.int i) := fun vs B H e dv Q q => by
  cases dv with
  | cons h r =>
    cases r
    cases h
    exact .inl ⟨i, rfl, q _ B H (Wf.refl e) (.int _)⟩
theorem rc_any {bs : List Bool} : RCD (rAny K) [.list (bs.map PyData.bool)] (.bool (bs.any id)) := fun vs B H e dv Q q => by
  cases dv with
  | cons h r =>
    cases r
    cases h with
    | lst h1 r1 =>
      rename_i a vs
      have ev := r1.bools
      subst ev
      exact ⟨a, bs, rfl, .of (e _ _ h1), q _ B H (Wf.refl e) (.bl _)⟩
theorem rc_all {bs : List Bool} : RCD (rAll K) [.list (bs.map PyData.bool)] (.bool (bs.all id)) := fun vs B H e dv Q q => by
  cases dv with
  | cons h r =>
    cases r
    cases h with
    | lst h1 r1 =>
      rename_i a vs
      have ev := r1.bools
      subst ev
      exact ⟨a, bs, rfl, .of (e _ _ h1), q _ B H (Wf.refl e) (.bl _)⟩
theorem rc_tupL : RCD (rTupOfF K) [.list ds] (.tuple ds) := fun vs B H e dv Q q => by
  cases dv with
  | cons h r =>
    cases r
    cases h with
    | lst h1 r1 =>
      rename_i a vs
      refine ⟨a, vs, rfl, .inl ⟨.of (e _ _ h1), fun p o np hd => ?_⟩⟩
      have pn := Wf.new (o := .frz o (.tup vs)) e np
      exact q _ _ _ pn (.tup upd_same hd (r1.mono pn.b))
theorem rc_minD (ha : PySem.W.AlikeAll (d :: ds)) (hc : PyData.canLayAll0 (d :: ds) = true) (hp : PyData.depthAll (d :: ds) ≤ 60) : RCD (rMinD K) [.list (d :: ds)] (PySem.W.minD d ds) := fun vs B H e dv Q q => by
  cases dv with
  | cons h r =>
    cases r
    cases h with
    | lst h1 r1 =>
      rename_i a vs
      refine ⟨a, vs, d, ds, rfl, .of (e _ _ h1), (r1.mono e).dp hc, ha, hc, hp, fun i v hv hm => ?_⟩
      obtain ⟨v', hv', hd⟩ := r1.get hm
      have ev : v' = v := Option.some.inj (hv'.symm.trans hv)
      subst ev
      exact q _ B H (Wf.refl e) hd
/-! dicts with int keys: sorted -/
def sortI (ns : List Int) : List Int := ns.mergeSort (fun a b => decide (a ≤ b))
theorem sortI_perm (ns : List Int) : (sortI ns).Perm ns := List.mergeSort_perm ns _
theorem sortI_pw (ns : List Int) : (sortI ns).Pairwise (· ≤ ·) := by
  have h := List.pairwise_mergeSort (le := fun (a b : Int) => decide (a ≤ b)) (fun a b c h1 h2 => by simp only [decide_eq_true_eq] at *; omega) (fun a b => by simp only [Bool.or_eq_true, decide_eq_true_eq]; omega) ns
  exact h.imp fun {a b} q => by simpa using q
theorem sortI_unique {ys ns : List Int} (h1 : ys.Perm ns) (h2 : ys.Pairwise (· ≤ ·)) : ys = sortI ns :=
  (h1.trans (sortI_perm ns).symm).eq_of_pairwise (fun a b _ _ x y => Int.le_antisymm x y) h2 (sortI_pw ns)
def rSortD : List V → Hp → VK → Prop := fun xs H Q => ∃ (a : Addr) (kvs : List (Key × V)) (ks : List Int), xs = [.ref a] ∧ Rd H a (.dK kvs) ∧ kvs.map (·.1) = ks.map Sum.inl ∧ ks.length < 64 ∧
    ∀ (ys : List Int) (p : Addr), ys.Perm ks → ys.Pairwise (· ≤ ·) → H p = none → Q (.ref p) (upd H p (.lst (ys.map V.int)))
theorem kv_keys {B : Hp} : ∀ {ks : List (Key × V)} {ns : List Int} {vs : List PyData}, ns.length = vs.length → DdKV B ks ((ns.zip vs).map fun p => (PyData.int p.1, p.2)) → ks.map (·.1) = ns.map Sum.inl
  | _, [], [], _, .nil => rfl
  | _, n :: ns, v :: vs, hl, .cons h r => by
    rw [List.map_cons, List.map_cons, kv_keys (by simpa using hl) r]
theorem rc_sortD {ns : List Int} {vs : List PyData} (hl : ns.length = vs.length) (h64 : ns.length < 64) : RCD rSortD [.dict ((ns.zip vs).map fun p => (PyData.int p.1, p.2))] (.list ((sortI ns).map PyData.int)) := fun us B H e dv Q q => by
  cases dv with
  | cons h r =>
    cases r
    cases h with
    | dic h1 r1 =>
      rename_i a ks
      refine ⟨a, ks, ns, rfl, .inl (e _ _ h1), kv_keys hl r1, h64, fun ys p hp hw np => ?_⟩
      have ey := sortI_unique hp hw
      subst ey
      have pn := Wf.new (o := .lst ((sortI ns).map V.int)) e np
      exact q _ _ _ pn (.lst upd_same ddAll_ints)
end
end DL

/-! Calls of defs, isinstance, dicts, what is walked, comprehensions. -/
namespace DL
open PySem PySem.Spec PyProof.Rows L2

/-! ### promises on data -/
def SpP (R : List PyData → PyData → Prop) : Sp := fun vs H Q _ => ∃ B ds d, Ex B H ∧ DdAll B vs ds ∧ R ds d ∧ ∀ v B' H', Wf [] B H B' H' → Dd B' v d → Q v H'
/-- the first argument is a list that may be changed -/
def SpM (R : List PyData → List PyData → PyData → List PyData → Prop) : Sp := fun vs H Q _ => ∃ B l rest ws os ds d os', vs = V.ref l :: rest ∧ Ex B H ∧ B l = none ∧ H l = some (.lst ws) ∧ DdAll B ws os ∧ DdAll B rest ds ∧ R os ds d os' ∧
  ∀ v B' H' ws', Wf [l] B H B' H' → B' l = none → H' l = some (.lst ws') → DdAll B' ws' os' → Dd B' v d → Q v H'
def Cal (P : Program) (w : World) (K : PySem.W.Frag) (mg : Str → Option Value) (base : Heap) (k : Nat) (x : Str) (sp : Sp) : Prop :=
  ∃ f fd ps, FnOk P w K mg base CX0 k f fd ps sp ∧ mg x = some (.ref f) ∧ PySem.W.keepIn K (.ref f) = true ∧ Binds K fd ps []
theorem h0_of {mu : List Addr} {B0 H0 B H : Hp} {p : Addr} (w : Wf mu B0 H0 B H) (np : H p = none) : H0 p = none := by
  cases q : H0 p with
  | none => rfl
  | some o => exact absurd np (w.t p (by rw [q]; exact nofun))
/-- an own list is changed -/
theorem Wf.mut {mu : List Addr} {B0 H0 B H : Hp} {l : Addr} {o : HO} (w : Wf mu B0 H0 B H) (hB : B l = none) (h0 : H0 l = none ∨ l ∈ mu) : Wf mu B0 H0 B (upd H l o) where
  b := w.b
  s := fun a u q => by
    rw [upd_ne (ne_of_none q hB)]
    exact w.s a u q
  k := fun a u q1 q2 => by
    have hne : a ≠ l := fun z => by
      subst z
      rcases h0 with h0 | h0
      · rw [h0] at q2
        cases q2
      · exact q1 h0
    rw [upd_ne hne]
    exact w.k a u q1 q2
  n := w.n
  t := fun a q => by
    by_cases hne : a = l
    · subst hne
      rw [upd_same]
      exact nofun
    · rw [upd_ne hne]
      exact w.t a q
theorem set_back {sg : L2.St} {i : Nat} {v : V} (h : sg[i]? = some (some v)) : sg.set i (some v) = sg := by
  apply List.ext_getElem?
  intro j
  by_cases hj : i = j
  · subst hj
    have hl := (List.getElem?_eq_some_iff.mp h).1
    rw [List.getElem?_set_self hl, h]
  · rw [List.getElem?_set_ne hj]
theorem SOk.mut {mu : List Addr} {H0 B H : Hp} {sg : L2.St} {G : Gm} {i : Nat} {l : Addr} {os os' : List PyData} {ws' : List V} (h : SOk mu H0 B H sg G) (e : G[i]? = some (some (.own l os))) (hd : DdAll B ws' os') :
    SOk mu H0 B (upd H l (.lst ws')) sg (G.set i (some (.own l os'))) := by
  obtain ⟨h1, h2, h3, _⟩ := h.own i l os e
  have q := h.setO (i := i) (a := l) (vs := ws') (ds := os') (H' := upd H l (.lst ws')) h2 h3 hd upd_same (fun b o hb q => by
    rw [upd_ne hb]
    exact q) (fun j es ej => h.sep j i l es os ej e)
  rw [set_back h1] at q
  exact q

section
variable {X : Cx} {mu : List Addr} {G G1 G2 G3 : Gm} {x y z d : PyData} {ds es xs ys : List PyData} {a b e : Expr} {ex : List Expr} {pos p p2 p3 : Pos} {k : Nat} {n : Str}
theorem pd_call {R : List PyData → PyData → Prop} (C : Cal X.prog X.w X.K X.mg X.base k n (SpP R)) (hr : Room k X.A) (hg : Gl X n) (ha : PA X (e :: ex) (rdA mu G ds G1)) (hR : R ds d) (hdb : (n == ("__debug__" : Str)) = false := by decide)
    (he : starEach (e :: ex) X.env = (false, eval e X.env) :: starEach ex X.env := by rfl) (hpl : (backTo pos (starEach ex X.env)).any (·.1) = false := by rfl) : PE X (.Call (.Name n p) (e :: ex) [] pos) (rdE mu G d G1) := by
  obtain ⟨f, fd, ps, F, hm, hk, hb⟩ := C
  refine pe_w (pe_call (E := E0) F hr hg hm hk hb .nil pass0 ha hdb he hpl) fun sg H Q ⟨H0, B0, B, w, s, kk⟩ => ⟨H0, B0, B, w, s, fun vs B1 H1 e1 w1 s1 dv => ?_⟩
  show SpP R (vs ++ []) H1 Q E0
  rw [List.append_nil]
  exact ⟨B1, ds, d, w1.s, dv, hR, fun v B2 H2 p2 d2 => kk v B2 H2 (e1.trans p2.b) (w1.step p2) (s1.step p2) d2⟩
theorem pd_callM {R : List PyData → List PyData → PyData → List PyData → Prop} {i : Nat} {l : Addr} {os os' : List PyData} {m : Str} (C : Cal X.prog X.w X.K X.mg X.base k n (SpM R)) (hr : Room k X.A) (hg : Gl X n)
    (hG : G[i]? = some (some (.own l os))) (hN : X.N[i]? = some m) (hv : Vis X.env.scope m) (ha : PA X ex (rdA mu G ds G)) (hR : R os ds d os') (hdb : (n == ("__debug__" : Str)) = false := by decide)
    (hd : (m == ("__debug__" : Str)) = false := by decide) (hcd : (m == ("__classdict__" : Str)) = false := by decide)
    (he : starEach (.Name m p2 :: ex) X.env = (false, eval (.Name m p2) X.env) :: starEach ex X.env := by rfl) (hpl : (backTo pos (starEach ex X.env)).any (·.1) = false := by rfl) : PE X (.Call (.Name n p) (.Name m p2 :: ex) [] pos) (rdE mu G d (G.set i (some (.own l os')))) := by
  obtain ⟨f, fd, ps, F, hm, hk, hb⟩ := C
  refine pe_w (pe_call (E := E0) F hr hg hm hk hb .nil pass0 (pa_cons (pe_var hN hv hd hcd) ha he) hdb he hpl) fun sg H Q ⟨H0, B0, B, w, s, kk⟩ => ?_
  obtain ⟨h1, _⟩ := s.own i l os hG
  refine ⟨.ref l, h1, H0, B0, B, w, s, fun vs B1 H1 e1 w1 s1 dv => ?_⟩
  show SpM R ((V.ref l :: vs) ++ []) H1 Q E0
  rw [List.append_nil]
  obtain ⟨h1, h2, h3, ws, h4, h5⟩ := s1.own i l os hG
  refine ⟨B1, l, vs, ws, os, ds, d, os', rfl, w1.s, h2, h4, h5, dv, hR, fun v B2 H2 ws' q2 nB hl hw dv2 => ?_⟩
  have w2 : Wf mu B0 H0 B2 H2 := ⟨w1.b.trans q2.b, q2.s, fun a o z1 z2 => q2.k a o (fun z => by
      rw [List.mem_singleton.mp z] at z1 z2
      rcases h3 with h3 | h3
      · rw [h3] at z2
        cases z2
      · exact z1 h3) (w1.k a o z1 z2), fun a z1 z2 => q2.n a (w1.t a z1) (w1.n a z1 z2), fun a z1 => q2.t a (w1.t a z1)⟩
  have s2 : SOk mu H0 B2 H1 sg G := by
    refine ⟨s1.len, fun j x q => let ⟨v, z1, z2⟩ := s1.dat j x q; ⟨v, z1, z2.mono q2.b⟩, fun j c fs q => ?_, s1.sep⟩
    obtain ⟨z1, z2, z3, vs', z4, z5⟩ := s1.own j c fs q
    exact ⟨z1, q2.n c (by rw [z4]; exact nofun) z2, z3, vs', z4, z5.mono q2.b⟩
  have s3 : SOk mu H0 B2 H2 sg (G.set i (some (.own l os'))) := by
    have q := s2.setO (i := i) (a := l) (vs := ws') (ds := os') (H' := H2) nB h3 hw hl (fun b o hb q => q2.k b o (by simpa using hb) q) (fun j fs ej => s1.sep j i l fs os ej hG)
    rw [set_back h1] at q
    exact q
  exact kk v B2 H2 (e1.trans q2.b) w2 s3 dv2

/-! ### isinstance -/
def tyN : PyData → String
  | .none => "NoneType"
  | .bool _ => "bool"
  | .int _ => "int"
  | .str _ => "str"
  | .list _ => "list"
  | .tuple _ => "tuple"
  | .dict _ => "dict"
theorem Dd.tyx {K : PySem.W.Frag} {B H : Hp} {v : V} (h : Dd B v d) (e : Ex B H) : TyX K H v (.type (tyN d)) := by
  cases h with
  | non => exact .base .non
  | bl b => exact .base (.bl b)
  | int i => exact .base (.int i)
  | str t => exact .base (.str t)
  | lst h1 h2 => exact .base (.lst (e _ _ h1))
  | tup h1 _ h2 => exact .fTuple (e _ _ h1)
  | dic h1 h2 => exact .base (.dK (e _ _ h1))
theorem pd_isi {T : String} {c : Bool} {nT : Str} (he : PE X e (rdE mu G d G1)) (hgI : Gl X "isinstance") (hmI : X.mg "isinstance" = none) (hg : Gl X nT) (hm : X.mg nT = none) (hv : bootBuiltins nT = some (.type T)) (hk : kitB (tyN d) T = some c)
    (hn : nT ≠ "__name__" := by decide) (hd : (nT == ("__debug__" : Str)) = false := by decide)
    (hs : starEach [e, .Name nT p2] X.env = (false, eval e X.env) :: starEach [.Name nT p2] X.env := by rfl) (hs2 : starEach [.Name nT p2] X.env = (false, eval (.Name nT p2) X.env) :: starEach [] X.env := by rfl)
    (hpl : (backTo pos (starEach [.Name nT p2] X.env)).any (·.1) = false := by rfl) :
    PE X (.Call (.Name "isinstance" p) [e, .Name nT p2] [] pos) (rdE mu G (.bool c) G1) :=
  pe_w (pe_callB call_isi hgI hmI (by decide +kernel) (pa_cons he (pa_cons (pe_bltn (v := .ty T) hg hm hv rfl hn hd) pa_nil hs2) hs) (he := hs) (hpl := hpl)) fun sg H Q ⟨H0, B0, B, w, s, kk⟩ => ⟨H0, B0, B, w, s, fun v B1 H1 e1 w1 s1 dv =>
    ⟨v, .ty T, .type (tyN d), .type T, c, rfl, .ty T, dv.tyx w1.s, kit_ty hk, kk _ B1 H1 e1 w1 s1 (.bl c)⟩⟩
def isTupB : PyData → Bool
  | .tuple _ => true
  | _ => false
def isIntB : PyData → Bool
  | .int _ => true
  | .bool _ => true
  | _ => false
def isBoolB : PyData → Bool
  | .bool _ => true
  | _ => false
def isStrB : PyData → Bool
  | .str _ => true
  | _ => false
theorem kit_tup : kitB (tyN d) "tuple" = some (isTupB d) := by
  cases d with
  | none => exact (by decide +kernel : kitB "NoneType" "tuple" = some false)
  | bool b => exact (by decide +kernel : kitB "bool" "tuple" = some false)
  | int i => exact (by decide +kernel : kitB "int" "tuple" = some false)
  | str s => exact (by decide +kernel : kitB "str" "tuple" = some false)
  | list l => exact (by decide +kernel : kitB "list" "tuple" = some false)
  | tuple t => exact (by decide +kernel : kitB "tuple" "tuple" = some true)
  | dict q => exact (by decide +kernel : kitB "dict" "tuple" = some false)
theorem kit_int : kitB (tyN d) "int" = some (isIntB d) := by
  cases d with
  | none => exact (by decide +kernel : kitB "NoneType" "int" = some false)
  | bool b => exact (by decide +kernel : kitB "bool" "int" = some true)
  | int i => exact (by decide +kernel : kitB "int" "int" = some true)
  | str s => exact (by decide +kernel : kitB "str" "int" = some false)
  | list l => exact (by decide +kernel : kitB "list" "int" = some false)
  | tuple t => exact (by decide +kernel : kitB "tuple" "int" = some false)
  | dict q => exact (by decide +kernel : kitB "dict" "int" = some false)
theorem kit_bool : kitB (tyN d) "bool" = some (isBoolB d) := by
  cases d with
  | none => exact (by decide +kernel : kitB "NoneType" "bool" = some false)
  | bool b => exact (by decide +kernel : kitB "bool" "bool" = some true)
  | int i => exact (by decide +kernel : kitB "int" "bool" = some false)
  | str s => exact (by decide +kernel : kitB "str" "bool" = some false)
  | list l => exact (by decide +kernel : kitB "list" "bool" = some false)
  | tuple t => exact (by decide +kernel : kitB "tuple" "bool" = some false)
  | dict q => exact (by decide +kernel : kitB "dict" "bool" = some false)
theorem kit_str : kitB (tyN d) "str" = some (isStrB d) := by
  cases d with
  | none => exact (by decide +kernel : kitB "NoneType" "str" = some false)
  | bool b => exact (by decide +kernel : kitB "bool" "str" = some false)
  | int i => exact (by decide +kernel : kitB "int" "str" = some false)
  | str s => exact (by decide +kernel : kitB "str" "str" = some true)
  | list l => exact (by decide +kernel : kitB "list" "str" = some false)
  | tuple t => exact (by decide +kernel : kitB "tuple" "str" = some false)
  | dict q => exact (by decide +kernel : kitB "dict" "str" = some false)

/-! ### ranking.index(item) -/
theorem pd_index {ns : List Int} {i : Int} {o : Expr} {apos cpos : Pos} (hA : X.A.handled = none) (ho : PE X o (rdE mu G (.tuple (ns.map PyData.int)) G1)) (he : PE X e (rdE mu G1 (.int i) G2)) (hi : i ∈ ns)
    (hbase : attributeBase o "index" X.env (eval o X.env) = eval o X.env := by rfl)
    (hfew : ((backTo cpos (starEach [e] X.env)).all (fun x => !x.1) && (backToKw cpos (keywordEach [] X.env)).all (fun x => x.1.isSome)
      && decide ([e].length + ([] : List Keyword).length + (if ([] : List Keyword).isEmpty then 0 else 1) < 30)) = true := by rfl)
    (hline : (apos.endLine == cpos.line) = true := by rfl) (hs : starEach [e] X.env = (false, eval e X.env) :: starEach [] X.env := by rfl) (hplain : (backTo cpos (starEach [] X.env)).any (·.1) = false := by rfl) :
    PE X (.Call (.Attribute o "index" apos) [e] [] cpos) (rdE mu G (.int (ns.idxOf i : Nat)) G2) :=
  pe_w (pe_ixT hA ho (pda_cons he pda_nil hs) hbase hfew hline hs hplain) fun sg H Q ⟨H0, B0, B, w, s, kk⟩ => ⟨H0, B0, B, w, s, fun v B1 H1 e1 w1 s1 dv => by
    cases dv with
    | tup h1 n1 r1 =>
      have ev := r1.ints
      subst ev
      refine ⟨_, _, ns, rfl, w1.s _ _ h1, n1, H0, B0, B1, w1, s1, fun vs B2 H2 e2 w2 s2 dvs => ?_⟩
      cases dvs with
      | cons q r =>
        cases r
        cases q
        exact ⟨i, w2.s _ _ (e2 _ _ h1), rfl, hi, kk _ B2 H2 (e1.trans e2) w2 s2 (.int _)⟩⟩

/-! ### {a: b, c: d} and its uses -/
/-- the dict {i: j, j: i}, i ≠ j -/
def swD (i j : Int) : PyData := .dict [(.int i, .int j), (.int j, .int i)]
def swp (i j c : Int) : Int := if c = i then j else if c = j then i else c
theorem pd_disp2 {i j : Int} {s1 s2 : Nat} {n1 n2 : Str} {q1 q2 q3 q4 : Pos} (hij : i ≠ j) (g1 : G[s1]? = some (some (.d (.int i)))) (g2 : G[s2]? = some (some (.d (.int j)))) (hN1 : X.N[s1]? = some n1) (hN2 : X.N[s2]? = some n2) (hv1 : Vis X.env.scope n1) (hv2 : Vis X.env.scope n2)
    (hd1 : (n1 == ("__debug__" : Str)) = false := by decide) (hcd1 : (n1 == ("__classdict__" : Str)) = false := by decide) (hd2 : (n2 == ("__debug__" : Str)) = false := by decide) (hcd2 : (n2 == ("__classdict__" : Str)) = false := by decide) :
    PE X (.Dict [some (.Name n1 q1), some (.Name n2 q2)] [.Name n2 q3, .Name n1 q4] pos) (rdE mu G (swD i j) G) := by
  refine pe_w (pe_disp (pps_cons (pe_var hN1 hv1 hd1 hcd1) (pe_var hN2 hv2 hd2 hcd2) (pps_cons (pe_var hN2 hv2 hd2 hcd2) (pe_var hN1 hv1 hd1 hcd1) pps_nil)) rfl rfl (fun z => by cases z) (by show 2 ≤ 15; decide)) fun sg H Q ⟨H0, B0, B, w, s, kk⟩ => ?_
  intro p np
  obtain ⟨v1, e1, d1⟩ := s.dat s1 _ g1
  obtain ⟨v2, e2, d2⟩ := s.dat s2 _ g2
  cases d1
  cases d2
  refine ⟨_, e1, _, e2, _, e2, _, e1, upd_same, [(.inl i, .int j), (.inl j, .int i)], rfl, by show 2 ≤ 15; decide, ?_⟩
  have em : mergeK [] [((.inl i : Key), V.int j), (.inl j, .int i)] = [(.inl i, .int j), (.inl j, .int i)] := by
    have h1 : (Sum.inl j : Key) ≠ .inl i := fun z => hij (Sum.inl.inj z).symm
    simp [mergeK, putK, hij]
  rw [em, upd_upd]
  have pn := Wf.new (o := .dK [(.inl i, .int j), (.inl j, .int i)]) w.s np
  exact kk (.ref p) _ _ pn.b (w.step pn) (s.step pn) (.dic upd_same (.cons (.int j) (.cons (.int i) .nil)))
theorem val_sw {i j c : Int} (hij : i ≠ j) : valV [((.inl i : Key), V.int j), (.inl j, .int i)] (.inl c) = if c = i then some (.int j) else if c = j then some (.int i) else none := by
  unfold valV
  by_cases h1 : c = i
  · subst h1
    simp
  · have h1' : ¬ (i = c) := fun z => h1 z.symm
    by_cases h2 : c = j
    · subst h2
      simp [hij, Ne.symm hij]
    · have h2' : ¬ (j = c) := fun z => h2 z.symm
      simp [h1, h2, h1', h2']
theorem pd_swget {i j c : Int} {o f : Expr} {apos cpos : Pos} (hij : i ≠ j) (hu : X.A.units + 1 < cLine) (ho : PE X o (rdE mu G (swD i j) G1)) (he : PE X e (rdE mu G1 (.int c) G2)) (hf : PE X f (rdE mu G2 (.int c) G3)) (m : M2 X o "get" apos e f cpos) :
    PE X (.Call (.Attribute o "get" apos) [e, f] [] cpos) (rdE mu G (.int (swp i j c)) G3) :=
  pe_w (pe_dget2 hu ho he hf m) fun sg H Q ⟨H0, B0, B, w, s, kk⟩ => ⟨H0, B0, B, w, s, fun v B1 H1 e1 w1 s1 dv => by
    unfold swD at dv
    cases dv with
    | dic h1 r1 =>
      rename_i a ks
      refine ⟨a, rfl, .inl ⟨_, .inl (w1.s _ _ h1)⟩, H0, B0, B1, w1, s1, fun v2 B2 H2 e2 w2 s2 dv2 => ⟨H0, B0, B2, w2, s2, fun v3 B3 H3 e3 w3 s3 dv3 => ?_⟩⟩
      cases dv2
      cases dv3
      cases r1 with
      | cons q1 r1 =>
        cases r1 with
        | cons q2 r1 =>
          cases r1
          cases q1
          cases q2
          refine ⟨_, DGet.k (k := .inl c) (w3.s _ _ (e3 _ _ (e2 _ _ h1))), ?_⟩
          rw [val_sw hij]
          have hh : ((if c = i then some (V.int j) else if c = j then some (.int i) else none : Option V)).getD (.int c) = .int (swp i j c) := by
            unfold swp
            by_cases h1 : c = i
            · simp [h1]
            · by_cases h2 : c = j
              · simp [h2, hij, Ne.symm hij]
              · simp [h1, h2]
          rw [hh]
          exact kk _ B3 H3 (e1.trans (e2.trans e3)) w3 s3 (.int _)⟩
theorem pd_swix {i j c : Int} {o : Expr} (hij : i ≠ j) (hc : c = i ∨ c = j) (hu : X.A.units + 1 < cLine) (ho : PE X o (rdE mu G (swD i j) G1)) (he : PE X e (rdE mu G1 (.int c) G2)) (hs : NoSl e) :
    PE X (.Subscript o e pos) (rdE mu G (.int (swp i j c)) G2) :=
  pe_w (pe_dget hu ho he hs) fun sg H Q ⟨H0, B0, B, w, s, kk⟩ => ⟨H0, B0, B, w, s, fun v B1 H1 e1 w1 s1 dv => by
    unfold swD at dv
    cases dv with
    | dic h1 r1 =>
      rename_i a ks
      refine ⟨H0, B0, B1, w1, s1, fun v2 B2 H2 e2 w2 s2 dv2 => ?_⟩
      cases dv2
      cases r1 with
      | cons q1 r1 =>
        cases r1 with
        | cons q2 r1 =>
          cases r1
          cases q1
          cases q2
          have hv : valV [((.inl i : Key), V.int j), (.inl j, .int i)] (.inl c) = some (.int (swp i j c)) := by
            rw [val_sw hij]
            unfold swp
            rcases hc with h | h
            · simp [h]
            · simp [h, hij, Ne.symm hij]
          refine ⟨a, .int (swp i j c), rfl, ?_, kk _ B2 H2 (e1.trans e2) w2 s2 (.int _)⟩
          rw [← hv]
          exact DGet.k (k := .inl c) (w2.s _ _ (e2 _ _ h1))⟩
end
end DL

/-! What is walked; targets; comprehensions. -/
namespace DL
open PySem PySem.Spec PyProof.Rows L2

/-- a tuple of such data, its own object left open -/
def Dq (B : Hp) (v : V) (d : PyData) : Prop := ∃ ds a xs, d = .tuple ds ∧ v = .ref a ∧ Rd B a (.tup xs) ∧ DdAll B xs ds
structure WalkD (R : Hp → V → PyData → Prop) (J : It) (xs : List PyData) (B : Hp) : Prop where
  goes : ∀ i H, i < xs.length → Ex B H → J.go i H
  stops : ∀ H, Ex B H → J.stop xs.length H
  yields : ∀ (i : Nat) H v H' d, xs[i]? = some d → Ex B H → J.yld i H v H' → ∀ B2, Ex B B2 → Ex B2 H → ∃ B3, Wf [] B2 H B3 H' ∧ R B3 v d
def rdI (R : Hp → V → PyData → Prop) (mu : List Addr) (G : Gm) (xs : List PyData) (G' : Gm) : TI := fun sg H Q => ∃ H0 B0 B, Wf mu B0 H0 B H ∧ SOk mu H0 B H sg G ∧
  ∀ J B' H', Ex B B' → Wf mu B0 H0 B' H' → SOk mu H0 B' H' sg G' → WalkD R J xs B' → Q J H'

section
variable {K : PySem.W.Frag} {B : Hp} {a b : Addr} {vs us : List V} {xs ys : List PyData}
theorem getS {α : Type} {l : List α} {i : Nat} (h : i < l.length) : ∃ x, l[i]? = some x := ⟨l[i], List.getElem?_eq_getElem h⟩
theorem walkd_list (h : B a = some (.lst vs)) (hd : DdAll B vs xs) : WalkD Dd (Itl K a) xs B where
  goes := fun i H hi e => by
    obtain ⟨v, hv⟩ := getS (l := vs) (i := i) (by rw [hd.len]; exact hi)
    exact ⟨vs, v, .of (e _ _ h), hv⟩
  stops := fun H e => ⟨vs, .of (e _ _ h), by rw [hd.len]; exact Nat.le_refl _⟩
  yields := fun i H v H' d hx e ⟨eH, hv⟩ B2 e2 e3 => by
    subst eH
    obtain ⟨u, hu, du⟩ := hd.get hx
    have := hv vs (.of (e _ _ h))
    have ev : u = v := Option.some.inj (hu.symm.trans this)
    subst ev
    exact ⟨B2, Wf.refl e3, du.mono e2⟩
theorem walkd_tup {o : Obj} (h : B a = some (.frz o (.tup vs))) (hd : DdAll B vs xs) : WalkD Dd (Itt K a) xs B where
  goes := fun i H hi e => by
    obtain ⟨v, hv⟩ := getS (l := vs) (i := i) (by rw [hd.len]; exact hi)
    exact ⟨vs, v, sqt_frz (e _ _ h), hv⟩
  stops := fun H e => ⟨vs, sqt_frz (e _ _ h), by rw [hd.len]; exact Nat.le_refl _⟩
  yields := fun i H v H' d hx e ⟨eH, hv⟩ B2 e2 e3 => by
    subst eH
    obtain ⟨u, hu, du⟩ := hd.get hx
    have := hv vs (sqt_frz (e _ _ h))
    have ev : u = v := Option.some.inj (hu.symm.trans this)
    subst ev
    exact ⟨B2, Wf.refl e3, du.mono e2⟩
theorem walkd_rev (h : B a = some (.lst vs)) (hd : DdAll B vs xs) : WalkD Dd (Itv K a vs.length) xs.reverse B where
  goes := fun i H hi e => by
    rw [List.length_reverse, ← hd.len] at hi
    obtain ⟨v, hv⟩ := getS (l := vs) (i := vs.length - 1 - i) (by omega)
    exact ⟨hi, vs, v, .of (e _ _ h), hv⟩
  stops := fun H e => by
    show vs.length ≤ xs.reverse.length
    rw [List.length_reverse, hd.len]
    exact Nat.le_refl _
  yields := fun i H v H' d hx e ⟨eH, hv⟩ B2 e2 e3 => by
    subst eH
    have hi : i < xs.length := by
      have h1 := (List.getElem?_eq_some_iff.mp hx).1
      rwa [List.length_reverse] at h1
    rw [List.getElem?_reverse hi] at hx
    obtain ⟨u, hu, du⟩ := hd.get hx
    have h2 := hv vs (.of (e _ _ h))
    rw [hd.len] at h2
    have ev : u = v := Option.some.inj (hu.symm.trans h2)
    subst ev
    exact ⟨B2, Wf.refl e3, du.mono e2⟩
def rng (lo : Int) (n : Nat) : List Int := (List.range n).map fun (k : Nat) => lo + (k : Int)
theorem rng_len {lo : Int} {n : Nat} : (rng lo n).length = n := by
  unfold rng
  rw [List.length_map, List.length_range]
theorem rng_mem {lo i : Int} {n : Nat} : i ∈ rng lo n ↔ lo ≤ i ∧ i < lo + n := by
  unfold rng
  rw [List.mem_map]
  constructor
  · rintro ⟨k, hk, e⟩
    have := List.mem_range.mp hk
    omega
  · intro h
    exact ⟨(i - lo).toNat, List.mem_range.mpr (by omega), by omega⟩
theorem walkd_range {lo : Int} {n : Nat} : WalkD Dd (Itr lo n) ((rng lo n).map PyData.int) B where
  goes := fun i H hi e => by
    rw [List.length_map, rng_len] at hi
    exact hi
  stops := fun H e => by
    show n ≤ _
    rw [List.length_map, rng_len]
    exact Nat.le_refl _
  yields := fun i H v H' d hx e ⟨eH, hv⟩ B2 e2 e3 => by
    subst eH hv
    have hi : i < n := by
      have h1 := (List.getElem?_eq_some_iff.mp hx).1
      rwa [List.length_map, rng_len] at h1
    unfold rng at hx
    rw [List.getElem?_map, List.getElem?_map, List.getElem?_range hi] at hx
    have ed : PyData.int (lo + (i : Int)) = d := Option.some.inj hx
    subst ed
    exact ⟨B2, Wf.refl e3, .int _⟩
theorem pairD {B2 H : Hp} {T : Addr} {x y : V} {d e : PyData} (e3 : Ex B2 H) (hT : H T = none) (hx : Dd B2 x d) (hy : Dd B2 y e) : Wf [] B2 H (upd B2 T (.tup [x, y])) (upd H T (.tup [x, y])) ∧ Dq (upd B2 T (.tup [x, y])) (.ref T) (.tuple [d, e]) := by
  have pn := Wf.new (o := .tup [x, y]) e3 hT
  exact ⟨pn, _, T, [x, y], rfl, rfl, .inl upd_same, .cons (hx.mono pn.b) (.cons (hy.mono pn.b) .nil)⟩
theorem walkd_enum {α : Type} {o : Obj} {zs : List α} {enc : α → PyData} (h : B a = some (.frz o (.tup vs))) (hd : DdAll B vs (zs.map enc)) : WalkD Dq (IteT K a) (zs.zipIdx.map fun q => .tuple [.int (q.2 : Nat), enc q.1]) B where
  goes := fun i H hi e => by
    rw [List.length_map, List.length_zipIdx] at hi
    obtain ⟨v, hv⟩ := getS (l := vs) (i := i) (by rw [hd.len, List.length_map]; exact hi)
    exact ⟨vs, v, sqt_frz (e _ _ h), hv⟩
  stops := fun H e => ⟨vs, sqt_frz (e _ _ h), by rw [hd.len, List.length_map, List.length_map, List.length_zipIdx]⟩
  yields := fun i H v H' d hx e ⟨T, x, ev, hT, eH, hv⟩ B2 e2 e3 => by
    subst ev eH
    have hi : i < zs.length := by
      have h1 := (List.getElem?_eq_some_iff.mp hx).1
      rwa [List.length_map, List.length_zipIdx] at h1
    have h2 := hv vs (sqt_frz (e _ _ h))
    obtain ⟨u, hu, du⟩ := hd.get (i := i) (d := enc zs[i]) (by rw [List.getElem?_map, List.getElem?_eq_getElem hi]; rfl)
    have ev : u = x := Option.some.inj (hu.symm.trans h2)
    subst ev
    have ed : d = .tuple [.int (i : Nat), enc zs[i]] := by
      rw [List.getElem?_map, List.getElem?_zipIdx, List.getElem?_eq_getElem hi] at hx
      have h3 := Option.some.inj hx
      rw [← h3]
      simp
    subst ed
    exact ⟨_, pairD e3 hT (.int _) (du.mono e2)⟩
theorem walkd_zip {o o' : Obj} (h : B a = some (.frz o (.tup vs))) (h' : B b = some (.frz o' (.tup us))) (hd : DdAll B vs xs) (hd' : DdAll B us ys) : WalkD Dq (RZ.ItzT K a b) ((xs.zip ys).map fun q => .tuple [q.1, q.2]) B where
  goes := fun i H hi e => by
    rw [List.length_map, List.length_zip] at hi
    obtain ⟨v, hv⟩ := getS (l := vs) (i := i) (by rw [hd.len]; omega)
    obtain ⟨u, hu⟩ := getS (l := us) (i := i) (by rw [hd'.len]; omega)
    exact ⟨vs, us, v, u, sqt_frz (e _ _ h), sqt_frz (e _ _ h'), hv, hu⟩
  stops := fun H e => ⟨vs, us, sqt_frz (e _ _ h), sqt_frz (e _ _ h'), by rw [hd.len, hd'.len, List.length_map, List.length_zip]; omega⟩
  yields := fun i H v H' d hx e ⟨T, x, y, ev, hT, eH, hv, hv'⟩ B2 e2 e3 => by
    subst ev eH
    have hi := (List.getElem?_eq_some_iff.mp hx).1
    rw [List.length_map, List.length_zip] at hi
    have h2 := hv vs (sqt_frz (e _ _ h))
    have h2' := hv' us (sqt_frz (e _ _ h'))
    obtain ⟨u, hu, du⟩ := hd.get (i := i) (d := xs[i]'(by omega)) (List.getElem?_eq_getElem (by omega))
    obtain ⟨u', hu', du'⟩ := hd'.get (i := i) (d := ys[i]'(by omega)) (List.getElem?_eq_getElem (by omega))
    have ev : u = x := Option.some.inj (hu.symm.trans h2)
    have ev' : u' = y := Option.some.inj (hu'.symm.trans h2')
    subst ev ev'
    have ed : d = .tuple [xs[i]'(by omega), ys[i]'(by omega)] := by
      have h3 := (List.getElem?_eq_some_iff.mp hx).2
      rw [← h3]
      simp
    subst ed
    exact ⟨_, pairD e3 hT (du.mono e2) (du'.mono e2)⟩
end

section
variable {X : Cx} {mu : List Addr} {G G1 G2 G3 : Gm} {x y z d : PyData} {ds es xs ys : List PyData} {a b e tg : Expr} {ex : List Expr} {pos p p2 p3 : Pos} {k : Nat} {n : Str}
theorem pdi_list (h : PE X e (rdE mu G (.list xs) G1)) : PI X tg e (rdI Dd mu G xs G1) :=
  pi_w (pi_list h) fun sg H Q ⟨H0, B0, B, w, s, kk⟩ => ⟨H0, B0, B, w, s, fun v B1 H1 e1 w1 s1 dv => by
    cases dv with
    | lst h1 r1 => exact ⟨_, rfl, ⟨_, .of (w1.s _ _ h1)⟩, kk _ B1 H1 e1 w1 s1 (walkd_list h1 r1)⟩⟩
theorem pdi_tup (h : PE X e (rdE mu G (.tuple xs) G1)) : PI X tg e (rdI Dd mu G xs G1) :=
  pi_w (pi_tup h) fun sg H Q ⟨H0, B0, B, w, s, kk⟩ => ⟨H0, B0, B, w, s, fun v B1 H1 e1 w1 s1 dv => by
    cases dv with
    | tup h1 _ r1 => exact ⟨_, rfl, ⟨_, sqt_frz (w1.s _ _ h1)⟩, kk _ B1 H1 e1 w1 s1 (walkd_tup h1 r1)⟩⟩
theorem pdi_rng1 {i : Int} (hg : Gl X "range") (hm : X.mg "range" = none) (h : PE X a (rdE mu G (.int i) G1)) (hi : i ≤ 1000000 ∧ -1000000 ≤ i) (hs : starEach [a] X.env = (false, eval a X.env) :: starEach [] X.env := by rfl) (hs1 : starEach [a] X.env = [(false, eval a X.env)] := by rfl) :
    PI X tg (.Call (.Name "range" p) [a] [] pos) (rdI Dd mu G ((rng 0 i.toNat).map PyData.int) G1) :=
  pi_w (pi_range1 hg hm (pda_cons h pda_nil hs) hs1) fun sg H Q ⟨H0, B0, B, w, s, kk⟩ => ⟨H0, B0, B, w, s, fun v B1 H1 e1 w1 s1 dv => by
    cases dv with
    | cons q r =>
      cases r
      cases q
      exact ⟨i, rfl, by omega, by omega, kk _ B1 H1 e1 w1 s1 walkd_range⟩⟩
theorem pdi_rng2 {i j : Int} (hg : Gl X "range") (hm : X.mg "range" = none) (h : PE X a (rdE mu G (.int i) G1)) (h' : PE X b (rdE mu G1 (.int j) G2)) (hi : (i ≤ 1000000 ∧ -1000000 ≤ i) ∧ (j ≤ 1000000 ∧ -1000000 ≤ j))
    (hs : starEach [a, b] X.env = (false, eval a X.env) :: starEach [b] X.env := by rfl) (hs' : starEach [b] X.env = (false, eval b X.env) :: starEach [] X.env := by rfl) (hs1 : starEach [a, b] X.env = [(false, eval a X.env), (false, eval b X.env)] := by rfl) (hs2 : starEach [b] X.env = [(false, eval b X.env)] := by rfl) :
    PI X tg (.Call (.Name "range" p) [a, b] [] pos) (rdI Dd mu G ((rng i (j - i).toNat).map PyData.int) G2) :=
  pi_w (pi_range2 hg hm (pda_cons h (pda_cons h' pda_nil hs') hs) hs1 hs2) fun sg H Q ⟨H0, B0, B, w, s, kk⟩ => ⟨H0, B0, B, w, s, fun v B1 H1 e1 w1 s1 dv => by
    cases dv with
    | cons q r =>
      cases r with
      | cons q' r =>
        cases r
        cases q
        cases q'
        exact ⟨i, j, rfl, by omega, kk _ B1 H1 e1 w1 s1 walkd_range⟩⟩
theorem pdi_rev (hg : Gl X "reversed") (hm : X.mg "reversed" = none) (h : PE X a (rdE mu G (.list xs) G1)) (hs : starEach [a] X.env = (false, eval a X.env) :: starEach [] X.env := by rfl) (hs1 : starEach [a] X.env = [(false, eval a X.env)] := by rfl) :
    PI X tg (.Call (.Name "reversed" p) [a] [] pos) (rdI Dd mu G xs.reverse G1) :=
  pi_w (pi_reversed hg hm (pda_cons h pda_nil hs) hs1) fun sg H Q ⟨H0, B0, B, w, s, kk⟩ => ⟨H0, B0, B, w, s, fun v B1 H1 e1 w1 s1 dv => by
    cases dv with
    | cons q r =>
      cases r
      cases q with
      | lst h1 r1 => exact ⟨_, _, rfl, .of (w1.s _ _ h1), kk _ B1 H1 e1 w1 s1 (walkd_rev h1 r1)⟩⟩
theorem pdi_enum {α : Type} {zs : List α} {enc : α → PyData} {elts : List Expr} {kk' : Nat} {tpos : Pos} (hg : Gl X "enumerate") (hm : X.mg "enumerate" = none) (h : PE X a (rdE mu G (.tuple (zs.map enc)) G1)) (hs : starEach [a] X.env = (false, eval a X.env) :: starEach [] X.env := by rfl)
    (hs1 : starEach [a] X.env = [(false, eval a X.env)] := by rfl) : PI X (.Tuple elts kk' tpos) (.Call (.Name "enumerate" p) [a] [] pos) (rdI Dq mu G (zs.zipIdx.map fun q => .tuple [.int (q.2 : Nat), enc q.1]) G1) :=
  pi_w (pi_enumT hg hm (pda_cons h pda_nil hs) hs1) fun sg H Q ⟨H0, B0, B, w, s, kk⟩ => ⟨H0, B0, B, w, s, fun v B1 H1 e1 w1 s1 dv => by
    cases dv with
    | cons q r =>
      cases r
      cases q with
      | tup h1 _ r1 => exact ⟨_, _, rfl, sqt_frz (w1.s _ _ h1), kk _ B1 H1 e1 w1 s1 (walkd_enum h1 r1)⟩⟩
theorem pdi_zip {elts : List Expr} {kk' : Nat} {tpos : Pos} (hg : Gl X "zip") (hm : X.mg "zip" = none) (h : PE X a (rdE mu G (.tuple xs) G1)) (h' : PE X b (rdE mu G1 (.tuple ys) G2))
    (hs : starEach [a, b] X.env = (false, eval a X.env) :: starEach [b] X.env := by rfl) (hs' : starEach [b] X.env = (false, eval b X.env) :: starEach [] X.env := by rfl) (hpl : (backTo pos (starEach [b] X.env)).any (·.1) = false := by rfl) :
    PI X (.Tuple elts kk' tpos) (.Call (.Name "zip" p) [a, b] [] pos) (rdI Dq mu G ((xs.zip ys).map fun q => .tuple [q.1, q.2]) G2) :=
  pi_w (RZ.pi_zipA hg hm (pda_cons h (pda_cons h' pda_nil hs') hs) hs hpl) fun sg H Q ⟨H0, B0, B, w, s, kk⟩ => ⟨H0, B0, B, w, s, fun v B1 H1 e1 w1 s1 dv => by
    cases dv with
    | cons q r =>
      cases r with
      | cons q' r =>
        cases r
        cases q with
        | tup h1 _ r1 =>
          cases q' with
          | tup h2 _ r2 => exact ⟨_, _, _, _, rfl, .inr ⟨sqt_frz (w1.s _ _ h1), sqt_frz (w1.s _ _ h2), kk _ B1 H1 e1 w1 s1 (walkd_zip h1 h2 r1 r2)⟩⟩⟩
end

/-! ### targets -/
def AsgD (R : Hp → V → PyData → Prop) (g : TG) (d : PyData) (G G' : Gm) : Prop := ∀ mu H0 B H sg v, SOk mu H0 B H sg G → Ex B H → R B v d → ∀ Q : L2.St → Hp → Prop, (∀ sg', SOk mu H0 B H sg' G' → Q sg' H) → g v sg H Q
theorem asg_name {d : PyData} {G : Gm} {i : Nat} : AsgD Dd (gName i) d G (G.set i (some (.d d))) := fun mu H0 B H sg v s e dv Q q => q _ (s.setD dv)
theorem dq_sqt {K : PySem.W.Frag} {B H : Hp} {a : Addr} {xs : List V} (h : Rd B a (.tup xs)) (e : Ex B H) : SqT K H a xs := by
  rcases h with h | ⟨o, h⟩
  · exact .inl (.inl (e _ _ h))
  · exact .inl (.inr ⟨o, e _ _ h⟩)
theorem Dd.q {B : Hp} {v : V} {ds : List PyData} (h : Dd B v (.tuple ds)) : Dq B v (.tuple ds) := by
  cases h with
  | tup h1 _ h2 => exact ⟨_, _, _, rfl, rfl, .inr ⟨_, h1⟩, h2⟩
theorem asg_tup2 {K : PySem.W.Frag} {d e : PyData} {G : Gm} {i j : Nat} : AsgD Dq (gTup K 2 (gCons (gName i) (gCons (gName j) gNil))) (.tuple [d, e]) G ((G.set i (some (.d d))).set j (some (.d e))) := fun mu H0 B H sg v s ex dv Q q => by
  obtain ⟨ds, a, xs, ed, ev, hr, ha⟩ := dv
  cases ed
  subst ev
  cases ha with
  | cons h1 ha =>
    cases ha with
    | cons h2 ha =>
      cases ha
      exact ⟨a, _, rfl, dq_sqt hr ex, rfl, _, _, rfl, _, _, rfl, rfl, q _ ((s.setD h1).setD h2)⟩
theorem asg_tup2F {K : PySem.W.Frag} {d e : PyData} {G : Gm} {i j : Nat} : AsgD Dd (gTup K 2 (gCons (gName i) (gCons (gName j) gNil))) (.tuple [d, e]) G ((G.set i (some (.d d))).set j (some (.d e))) := fun mu H0 B H sg v s ex dv Q q => asg_tup2 mu H0 B H sg v s ex dv.q Q q
theorem asg_tup3F {K : PySem.W.Frag} {d e f : PyData} {G : Gm} {i j l : Nat} : AsgD Dd (gTup K 3 (gCons (gName i) (gCons (gName j) (gCons (gName l) gNil)))) (.tuple [d, e, f]) G (((G.set i (some (.d d))).set j (some (.d e))).set l (some (.d f))) := fun mu H0 B H sg v s ex dv Q q => by
  obtain ⟨ds, a, xs, ed, ev, hr, ha⟩ := dv.q
  cases ed
  subst ev
  cases ha with
  | cons h1 ha =>
    cases ha with
    | cons h2 ha =>
      cases ha with
      | cons h3 ha =>
        cases ha
        exact ⟨a, _, rfl, dq_sqt hr ex, rfl, _, _, rfl, _, _, rfl, _, _, rfl, rfl, q _ (((s.setD h1).setD h2).setD h3)⟩

/-! ### within a comprehension: its own names forgotten, own lists hidden -/
def wipeG (G : Gm) : List Nat → Gm
  | [] => G
  | v :: vs => (wipeG G vs).set v none
def hideG (G : Gm) : Gm := G.map fun s => match s with
  | some (.own _ _) => none
  | s => s
theorem SOk.wipe {mu : List Addr} {H0 B H : Hp} {sg : L2.St} {G : Gm} (h : SOk mu H0 B H sg G) : ∀ vs : List Nat, SOk mu H0 B H (wipe sg vs) (wipeG G vs)
  | [] => h
  | v :: vs => (SOk.wipe h vs).setN
theorem SOk.hide {mu mu' : List Addr} {H0 H0' B H : Hp} {sg : L2.St} {G : Gm} (h : SOk mu H0 B H sg G) : SOk mu' H0' B H sg (hideG G) := by
  have no : ∀ {i : Nat} {a : Addr} {ds : List PyData}, ¬ (hideG G)[i]? = some (some (.own a ds)) := fun {i a ds} e => by
    unfold hideG at e
    rw [List.getElem?_map] at e
    cases q : G[i]? with
    | none => rw [q] at e; cases e
    | some s =>
      rw [q] at e
      have e1 := Option.some.inj e
      cases s with
      | none => cases e1
      | some s =>
        cases s with
        | d x => cases e1
        | own b es => cases e1
  refine ⟨by unfold hideG; rw [List.length_map]; exact h.len, fun i x e => ?_, fun i a ds e => absurd e no, fun i j a ds es e => absurd e no⟩
  unfold hideG at e
  rw [List.getElem?_map] at e
  cases q : G[i]? with
  | none => rw [q] at e; cases e
  | some s =>
    rw [q] at e
    have e1 := Option.some.inj e
    cases s with
    | none => cases e1
    | some s =>
      cases s with
      | d y =>
        have e2 : y = x := by
          injection Option.some.inj e1
        subst e2
        exact h.dat i y q
      | own b es => cases e1
theorem wipe_getE : ∀ (vs : List Nat) (sg : L2.St) (i : Nat), (wipe sg vs)[i]? = if i ∈ vs then (if i < sg.length then some none else none) else sg[i]?
  | [], sg, i => by simp [wipe]
  | v :: vs, sg, i => by
    show ((wipe sg vs).set v none)[i]? = _
    by_cases h : v = i
    · subst h
      by_cases hl : v < sg.length
      · rw [List.getElem?_set_self (by rw [wipe_length]; exact hl)]
        simp [hl]
      · rw [List.getElem?_eq_none (by rw [List.length_set, wipe_length]; omega)]
        simp [hl]
    · rw [List.getElem?_set_ne h, wipe_getE vs sg i]
      have h' : ¬ i = v := fun e => h e.symm
      simp [h']
theorem wipe_set {sg : L2.St} {vs : List Nat} {j : Nat} {o : Option V} (hj : j ∈ vs) : wipe (sg.set j o) vs = wipe sg vs := by
  apply List.ext_getElem?
  intro i
  rw [wipe_getE, wipe_getE, List.length_set]
  by_cases h : i ∈ vs
  · simp [h]
  · have hne : j ≠ i := fun e => h (e ▸ hj)
    rw [if_neg h, if_neg h, List.getElem?_set_ne hne]
theorem wipe_wipe {sg : L2.St} {vs : List Nat} : wipe (wipe sg vs) vs = wipe sg vs := by
  apply List.ext_getElem?
  intro i
  rw [wipe_getE vs (wipe sg vs) i, wipe_length]
  by_cases h : i ∈ vs
  · rw [if_pos h, wipe_getE, if_pos h]
  · rw [if_neg h]
/-- a target that stores the comprehension's own names alone -/
def Stays (g : TG) (vs : List Nat) : Prop := ∀ v sg H (Q Q' : L2.St → Hp → Prop), g v sg H Q → (∀ sg' H', wipe sg' vs = wipe sg vs → Q sg' H' → Q' sg' H') → g v sg H Q'
theorem stays_name {j : Nat} {vs : List Nat} (h : j ∈ vs) : Stays (gName j) vs := fun v sg H Q Q' q k => k _ _ (wipe_set h) q
theorem stays_tup2 {K : PySem.W.Frag} {i j : Nat} {vs : List Nat} (h : i ∈ vs) (h' : j ∈ vs) : Stays (gTup K 2 (gCons (gName i) (gCons (gName j) gNil))) vs := fun v sg H Q Q' q k => by
  obtain ⟨a, xs, ev, hs, hl, v1, r1, e1, v2, r2, e2, e3, q⟩ := q
  exact ⟨a, xs, ev, hs, hl, v1, r1, e1, v2, r2, e2, e3, k _ _ (by rw [wipe_set h', wipe_set h]) q⟩
end DL

/-! Comprehensions on data. -/
namespace DL
open PySem PySem.Spec PyProof.Rows L2

section
variable {α : Type}
def made (zs : List α) (pr : α → Bool) (f : α → PyData) (i : Nat) : List PyData := ((zs.take i).filter pr).map f
theorem made_yes {zs : List α} {pr : α → Bool} {f : α → PyData} {i : Nat} {z : α} (h : zs[i]? = some z) (hp : pr z = true) : made zs pr f (i + 1) = made zs pr f i ++ [f z] := by
  unfold made
  rw [List.take_add_one, h, List.filter_append, List.map_append]
  simp [hp]
theorem made_no {zs : List α} {pr : α → Bool} {f : α → PyData} {i : Nat} {z : α} (h : zs[i]? = some z) (hp : pr z = false) : made zs pr f (i + 1) = made zs pr f i := by
  unfold made
  rw [List.take_add_one, h, List.filter_append, List.map_append]
  simp [hp]
theorem made_len {zs : List α} {pr : α → Bool} {f : α → PyData} {i : Nat} : (made zs pr f i).length ≤ zs.length := by
  unfold made
  rw [List.length_map]
  exact Nat.le_trans (List.length_filter_le _ _) (by rw [List.length_take]; omega)
theorem made_all {zs : List α} {pr : α → Bool} {f : α → PyData} : made zs pr f zs.length = (zs.filter pr).map f := by
  unfold made
  rw [List.take_length]
def lcT (zs : List α) (Gz : α → Gm) (pr : α → Bool) : TT := fun sg H Q => ∃ z, z ∈ zs ∧ rdT [] (Gz z) (pr z) (Gz z) sg H Q
def lcE (zs : List α) (Gz : α → Gm) (pr : α → Bool) (f : α → PyData) : TE := fun sg H Q => ∃ z, z ∈ zs ∧ pr z = true ∧ rdE [] (Gz z) (f z) (Gz z) sg H Q
end

/-- a new list, held as data -/
theorem t_of {mu : List Addr} {G G1 : Gm} {ds : List PyData} (sg : L2.St) (H : Hp) (Q : VK) (h : rdE mu G (.list ds) G1 sg H Q) : rdF mu G ds G1 sg H Q := by
  obtain ⟨H0, B0, B, w, s, k⟩ := h
  refine ⟨H0, B0, B, w, s, fun p vs B1 H1 e1 w1 s1 hB h0 ho hH dv => ?_⟩
  have eb : Ex B1 (upd B1 p (.lst vs)) := fun b o q => by
    rw [upd_ne (ne_of_none q hB)]
    exact q
  refine k (.ref p) (upd B1 p (.lst vs)) H1 (e1.trans eb) ⟨w1.b.trans eb, fun b o q => ?_, w1.k, fun b q1 q2 => ?_, w1.t⟩ ⟨s1.len, fun i x q => ?_, fun i a es q => ?_, s1.sep⟩ (.lst upd_same (dv.mono eb))
  · by_cases hb : b = p
    · subst hb
      rw [upd_same] at q
      rw [← q]
      exact hH
    · rw [upd_ne hb] at q
      exact w1.s b o q
  · have hb : b ≠ p := fun z => q1 (by rw [z]; exact h0)
    rw [upd_ne hb]
    exact w1.n b q1 q2
  · obtain ⟨v, z1, z2⟩ := s1.dat i x q
    exact ⟨v, z1, z2.mono eb⟩
  · obtain ⟨z1, z2, z3, ws, z4, z5⟩ := s1.own i a es q
    exact ⟨z1, by rw [upd_ne (ho i a es q)]; exact z2, z3, ws, z4, z5.mono eb⟩

section
variable {α : Type} {X : Cx} {mu : List Addr} {G G1 : Gm} {R : Hp → V → PyData → Prop} {g : TG} {vs : List Nat}
theorem t_lc {zs : List α} {enc : α → PyData} {pr : α → Bool} {f : α → PyData} {Gz : α → Gm} (hst : Stays g vs) (has : ∀ z ∈ zs, AsgD R g (enc z) (wipeG (hideG G1) vs) (Gz z)) (hz : zs.length ≤ 100000)
    (sg : L2.St) (H : Hp) (Q : VK) (h : rdF mu G ((zs.filter pr).map f) G1 sg H Q) : tLc (rdI R mu G (zs.map enc) G1) g (lcT zs Gz pr) (lcE zs Gz pr f) vs sg H Q := by
  obtain ⟨H0, B0, B, w, s, kk⟩ := h
  refine ⟨H0, B0, B, w, s, fun J B1 H1 e1 w1 s1 wk Dl nD => ?_⟩
  refine ⟨fun i m H' => m = zs.length - i ∧ i ≤ zs.length ∧ ∃ B2 acc, Wf [] B1 H1 B2 H' ∧ B2 Dl = none ∧ H' Dl = some (.lst acc) ∧ DdAll B2 acc (made zs pr f i),
    ⟨zs.length, rfl, Nat.zero_le _, B1, [], Wf.newU w1.s nD, w1.s.back nD, upd_same, by unfold made; simp; exact .nil⟩, ?_⟩
  rintro i m H2 ⟨rfl, hi, B2, acc, p2, nB, hD, dd⟩
  have x12 : Ex B1 H2 := p2.b.trans p2.s
  by_cases hlt : i < zs.length
  · refine .inr ⟨wk.goes i H2 (by rw [List.length_map]; exact hlt) x12, fun H' => i + 1 ≤ zs.length ∧ ∃ B2 acc, Wf [] B1 H1 B2 H' ∧ B2 Dl = none ∧ H' Dl = some (.lst acc) ∧ DdAll B2 acc (made zs pr f (i + 1)),
      fun H' q => ⟨zs.length - (i + 1), by omega, rfl, q.1, q.2⟩, fun x H3 y => ?_⟩
    have hzi : zs[i]? = some zs[i] := List.getElem?_eq_getElem hlt
    have hmem : zs[i] ∈ zs := List.getElem_mem hlt
    obtain ⟨B3, p3, hR⟩ := wk.yields i H2 x H3 (enc zs[i]) (by rw [List.getElem?_map, hzi]; rfl) x12 y B2 p2.b p2.s
    have hD3 : H3 Dl = some (.lst acc) := p3.k Dl _ (by simp) hD
    have nB3 : B3 Dl = none := p3.n Dl (by rw [hD]; exact nofun) nB
    have p13 : Wf [] B1 H1 B3 H3 := p2.step p3
    have s3 : SOk [] H3 B3 H3 (wipe sg vs) (wipeG (hideG G1) vs) := ((s1.step p13).hide (mu' := []) (H0' := H3)).wipe vs
    refine hst x (wipe sg vs) H3 _ _ (has zs[i] hmem [] H3 B3 H3 (wipe sg vs) x s3 p3.s hR (fun sg' H' => H' = H3 ∧ SOk [] H3 B3 H3 sg' (Gz zs[i])) fun sg' s' => ⟨rfl, s'⟩) fun sg' H' hw q => ?_
    obtain ⟨eH, s4⟩ := q
    subst eH
    refine ⟨hw.trans wipe_wipe, zs[i], hmem, H', B3, B3, Wf.refl p3.s, s4, fun B5 H5 e5 w5 s5 => ?_⟩
    have hD5 : H5 Dl = some (.lst acc) := w5.k Dl _ (by simp) hD3
    have nB5 : B5 Dl = none := w5.n Dl (by rw [hD3]; exact nofun) nB3
    cases hp : pr zs[i] with
    | true =>
      refine iteT ⟨zs[i], hmem, hp, H', B3, B5, w5, s5, fun v B6 H6 e6 w6 s6 dv => ?_⟩
      have hD6 : H6 Dl = some (.lst acc) := w6.k Dl _ (by simp) hD3
      have nB6 : B6 Dl = none := w6.n Dl (by rw [hD3]; exact nofun) nB3
      have p16 : Wf [] B1 H1 B6 H6 := p13.step w6
      refine ⟨acc, hD6, ?_, by omega, B6, acc ++ [v], p16.mut nB6 (.inl nD), nB6, upd_same, ?_⟩
      · rw [dd.len]
        have h1 := made_len (zs := zs) (pr := pr) (f := f) (i := i)
        rw [sizeLine_eq]
        omega
      · rw [made_yes hzi hp]
        exact (dd.mono (p3.b.trans w6.b)).app (.cons dv .nil)
    | false =>
      refine iteF ⟨by omega, B5, acc, p13.step w5, nB5, hD5, ?_⟩
      rw [made_no hzi hp]
      exact dd.mono (p3.b.trans w5.b)
  · have ei : i = zs.length := by omega
    subst ei
    have h1 := wk.stops H2 x12
    rw [List.length_map] at h1
    refine .inl ⟨h1, kk Dl acc B2 H2 (e1.trans p2.b) (w1.step p2) (s1.step p2) nB (h0_of w1 nD) (fun i a es q => s1.fresh nD q) hD ?_⟩
    rw [← made_all]
    exact dd
theorem ht_lc {zs : List α} {Gz : α → Gm} {pr : α → Bool} {ifs : List Expr} (h : ∀ z ∈ zs, PTs X ifs (rdT [] (Gz z) (pr z) (Gz z))) : PTs X ifs (lcT zs Gz pr) :=
  ⟨fun pins s sg H Q I ⟨z, hz, q⟩ => (h z hz).run pins s sg H Q I q⟩
theorem he_lc {zs : List α} {Gz : α → Gm} {pr : α → Bool} {f : α → PyData} {e : Expr} (h : ∀ z ∈ zs, pr z = true → PE X e (rdE [] (Gz z) (f z) (Gz z))) : PE X e (lcE zs Gz pr f) :=
  ⟨fun pins s sg H Q I ⟨z, hz, hp, q⟩ => (h z hz hp).run pins s sg H Q I q⟩

variable {elt tg iter : Expr} {ifs : List Expr} {scope : Scope} {own : List (Str × Nat)} {pos : Pos}
/-- [elt for target in iter if ..], a new list -/
theorem pdf_lc {zs : List α} {enc : α → PyData} {pr : α → Bool} {f : α → PyData} {Gz : α → Gm} (hc : X.calm = true) (hN : X.N.Nodup) (hi : PI X tg iter (rdI R mu G (zs.map enc) G1)) (ok : BlkOk X.N X.env.scope scope own) (hz : zs.length ≤ 100000)
    (hst : Stays g (own.map (·.2))) (has : ∀ z ∈ zs, AsgD R g (enc z) (wipeG (hideG G1) (own.map (·.2))) (Gz z))
    (hg : ∀ (s : Shared) (H : Hp) (C : Addr) (cl : List (Str × Addr)) (fp : List Addr), PG (X.blk s H scope (compEnvC scope cl C X.env) fp) tg g)
    (ht : ∀ (s : Shared) (H : Hp) (C : Addr) (cl : List (Str × Addr)) (fp : List Addr), ∀ z ∈ zs, PTs (X.blk s H scope (compEnvC scope cl C X.env) fp) ifs (rdT [] (Gz z) (pr z) (Gz z)))
    (he : ∀ (s : Shared) (H : Hp) (C : Addr) (cl : List (Str × Addr)) (fp : List Addr), ∀ z ∈ zs, pr z = true → PE (X.blk s H scope (compEnvC scope cl C X.env) fp) elt (rdE [] (Gz z) (f z) (Gz z)))
    (hs : ∀ x, foldedSetIterable iter X.env x = pure x := by intro _; rfl) : PE X (.ListComp elt [⟨tg, iter, ifs, 0⟩] scope pos) (rdF mu G ((zs.filter pr).map f) G1) :=
  pe_w (pe_lc hc hN hi ok hg (fun s H C cl fp => ht_lc (ht s H C cl fp)) (fun s H C cl fp => he_lc (he s H C cl fp)) hs) (t_lc hst has hz)
theorem pd_lc {zs : List α} {enc : α → PyData} {pr : α → Bool} {f : α → PyData} {Gz : α → Gm} (hc : X.calm = true) (hN : X.N.Nodup) (hi : PI X tg iter (rdI R mu G (zs.map enc) G1)) (ok : BlkOk X.N X.env.scope scope own) (hz : zs.length ≤ 100000)
    (hst : Stays g (own.map (·.2))) (has : ∀ z ∈ zs, AsgD R g (enc z) (wipeG (hideG G1) (own.map (·.2))) (Gz z))
    (hg : ∀ (s : Shared) (H : Hp) (C : Addr) (cl : List (Str × Addr)) (fp : List Addr), PG (X.blk s H scope (compEnvC scope cl C X.env) fp) tg g)
    (ht : ∀ (s : Shared) (H : Hp) (C : Addr) (cl : List (Str × Addr)) (fp : List Addr), ∀ z ∈ zs, PTs (X.blk s H scope (compEnvC scope cl C X.env) fp) ifs (rdT [] (Gz z) (pr z) (Gz z)))
    (he : ∀ (s : Shared) (H : Hp) (C : Addr) (cl : List (Str × Addr)) (fp : List Addr), ∀ z ∈ zs, pr z = true → PE (X.blk s H scope (compEnvC scope cl C X.env) fp) elt (rdE [] (Gz z) (f z) (Gz z)))
    (hs : ∀ x, foldedSetIterable iter X.env x = pure x := by intro _; rfl) : PE X (.ListComp elt [⟨tg, iter, ifs, 0⟩] scope pos) (rdE mu G (.list ((zs.filter pr).map f)) G1) :=
  pd_of (pdf_lc hc hN hi ok hz hst has hg ht he hs)
theorem pdts_nil {b : Bool} (hb : b = true) : PTs X [] (rdT mu G b G) := pts_w pts_nil fun sg H Q ⟨H0, B0, B, w, s, k⟩ => by
  subst hb
  exact k B H (Ex.refl B) w s
theorem pdts_one {c : Expr} {b : Bool} (h : PT X c (rdT mu G b G)) : PTs X [c] (rdT mu G b G) := pts_one h
end
end DL

/-! Comprehensions that read an own list; dict comprehensions. -/
namespace DL
open PySem PySem.Spec PyProof.Rows L2

theorem SOk.view {mu : List Addr} {H0 H0' B H : Hp} {sg : L2.St} {G : Gm} {i : Nat} {a : Addr} {ds : List PyData} (h : SOk mu H0 B H sg G) (e : G[i]? = some (some (.own a ds))) :
    ∃ ws, H a = some (.lst ws) ∧ B a = none ∧ SOk [] H0' (upd B a (.lst ws)) H sg (hideG (G.set i (some (.d (.list ds))))) := by
  obtain ⟨h1, h2, h3, ws, h4, h5⟩ := h.own i a ds e
  have eb : Ex B (upd B a (.lst ws)) := fun b o q => by
    rw [upd_ne (ne_of_none q h2)]
    exact q
  refine ⟨ws, h4, h2, ?_⟩
  have base : SOk [] H0' (upd B a (.lst ws)) H sg (hideG G) := by
    have q := h.hide (mu' := []) (H0' := H0')
    refine ⟨q.len, fun j x ej => ?_, fun j b es ej => ?_, q.sep⟩
    · obtain ⟨v, z1, z2⟩ := q.dat j x ej
      exact ⟨v, z1, z2.mono eb⟩
    · exfalso
      unfold hideG at ej
      rw [List.getElem?_map] at ej
      cases q : G[j]? with
      | none => rw [q] at ej; cases ej
      | some s =>
        rw [q] at ej
        have e1 := Option.some.inj ej
        cases s with
        | none => cases e1
        | some s =>
          cases s with
          | d x => cases e1
          | own b es => cases e1
  have q := base.setD (i := i) (v := .ref a) (x := .list ds) (.lst upd_same (h5.mono eb))
  rw [set_back h1] at q
  have eG : (hideG G).set i (some (.d (.list ds))) = hideG (G.set i (some (.d (.list ds)))) := by
    unfold hideG
    rw [List.map_set]
  rw [eG] at q
  exact q

def lcTI {α : Type} (zs : List α) (Gz : α → Gm) (pr : α → Bool) : TT := lcT zs Gz pr
section
variable {α : Type} {X : Cx} {mu : List Addr} {G G1 : Gm} {R : Hp → V → PyData → Prop} {g : TG} {vs : List Nat}
/-- the items ints; the own list at slot i0 read within -/
theorem t_lcI {zs : List α} {enc : α → PyData} {f : α → Int} {Gz : α → Gm} {i0 : Nat} {a0 : Addr} {ds0 : List PyData} (hG : G1[i0]? = some (some (.own a0 ds0))) (hst : Stays g vs)
    (has : ∀ z ∈ zs, AsgD R g (enc z) (wipeG (hideG (G1.set i0 (some (.d (.list ds0))))) vs) (Gz z)) (hmono : ∀ B B' v d, Ex B B' → R B v d → R B' v d) (hz : zs.length ≤ 100000)
    (sg : L2.St) (H : Hp) (Q : VK) (h : rdF mu G (zs.map fun z => .int (f z)) G1 sg H Q) : tLc (rdI R mu G (zs.map enc) G1) g tYes (lcE zs Gz (fun _ => true) fun z => .int (f z)) vs sg H Q := by
  obtain ⟨H0, B0, B, w, s, kk⟩ := h
  refine ⟨H0, B0, B, w, s, fun J B1 H1 e1 w1 s1 wk Dl nD => ?_⟩
  refine ⟨fun i m H' => m = zs.length - i ∧ i ≤ zs.length ∧ ∃ B2 acc, Wf [] B1 H1 B2 H' ∧ B2 Dl = none ∧ H' Dl = some (.lst acc) ∧ DdAll B2 acc (made zs (fun _ => true) (fun z => .int (f z)) i),
    ⟨zs.length, rfl, Nat.zero_le _, B1, [], Wf.newU w1.s nD, w1.s.back nD, upd_same, by unfold made; simp; exact .nil⟩, ?_⟩
  rintro i m H2 ⟨rfl, hi, B2, acc, p2, nB, hD, dd⟩
  have x12 : Ex B1 H2 := p2.b.trans p2.s
  by_cases hlt : i < zs.length
  · refine .inr ⟨wk.goes i H2 (by rw [List.length_map]; exact hlt) x12, fun H' => i + 1 ≤ zs.length ∧ ∃ B2 acc, Wf [] B1 H1 B2 H' ∧ B2 Dl = none ∧ H' Dl = some (.lst acc) ∧ DdAll B2 acc (made zs (fun _ => true) (fun z => .int (f z)) (i + 1)),
      fun H' q => ⟨zs.length - (i + 1), by omega, rfl, q.1, q.2⟩, fun x H3 y => ?_⟩
    have hzi : zs[i]? = some zs[i] := List.getElem?_eq_getElem hlt
    have hmem : zs[i] ∈ zs := List.getElem_mem hlt
    obtain ⟨B3, p3, hR⟩ := wk.yields i H2 x H3 (enc zs[i]) (by rw [List.getElem?_map, hzi]; rfl) x12 y B2 p2.b p2.s
    have hD3 : H3 Dl = some (.lst acc) := p3.k Dl _ (by simp) hD
    have nB3 : B3 Dl = none := p3.n Dl (by rw [hD]; exact nofun) nB
    have p13 : Wf [] B1 H1 B3 H3 := p2.step p3
    obtain ⟨ws, hHa, hBa, sv⟩ := (s1.step p13).view (H0' := H3) hG
    have s3 := sv.wipe vs
    have xf : Ex B3 (upd B3 a0 (.lst ws)) := fun b o q => by
      rw [upd_ne (ne_of_none q hBa)]
      exact q
    have xfH : Ex (upd B3 a0 (.lst ws)) H3 := fun b o q => by
      by_cases hb : b = a0
      · subst hb
        rw [upd_same] at q
        rw [← q]
        exact hHa
      · rw [upd_ne hb] at q
        exact p3.s b o q
    refine hst x (wipe sg vs) H3 _ _ (has zs[i] hmem [] H3 (upd B3 a0 (.lst ws)) H3 (wipe sg vs) x s3 xfH (hmono _ _ _ _ xf hR) (fun sg' H' => H' = H3 ∧ SOk [] H3 (upd B3 a0 (.lst ws)) H3 sg' (Gz zs[i])) fun sg' s' => ⟨rfl, s'⟩) fun sg' H' hw q => ?_
    obtain ⟨eH, s4⟩ := q
    subst eH
    refine ⟨hw.trans wipe_wipe, ?_⟩
    unfold tYes
    dsimp only
    rw [if_pos rfl]
    refine ⟨zs[i], hmem, rfl, H', _, _, Wf.refl xfH, s4, fun v B6 H6 e6 w6 s6 dv => ?_⟩
    cases dv
    have hD6 : H6 Dl = some (.lst acc) := w6.k Dl _ (by simp) hD3
    have p16 : Wf [] B1 H1 B3 H6 := ⟨p13.b, xf.trans (e6.trans w6.s), fun a o q1 q2 => w6.k a o q1 (p13.k a o q1 q2), p13.n, fun a q => w6.t a (p13.t a q)⟩
    refine ⟨acc, hD6, ?_, by omega, B3, acc ++ [.int (f zs[i])], p16.mut nB3 (.inl nD), nB3, upd_same, ?_⟩
    · rw [dd.len]
      have h1 := made_len (zs := zs) (pr := fun _ => true) (f := fun z => .int (f z)) (i := i)
      rw [sizeLine_eq]
      omega
    · rw [made_yes hzi rfl]
      exact (dd.mono p3.b).app (.cons (.int _) .nil)
  · have ei : i = zs.length := by omega
    subst ei
    have h1 := wk.stops H2 x12
    rw [List.length_map] at h1
    refine .inl ⟨h1, kk Dl acc B2 H2 (e1.trans p2.b) (w1.step p2) (s1.step p2) nB (h0_of w1 nD) (fun i a es q => s1.fresh nD q) hD ?_⟩
    have ef : zs.filter (fun _ => true) = zs := List.filter_eq_self.mpr fun _ _ => rfl
    rw [made_all, ef] at dd
    exact dd
theorem Dd_mono4 : ∀ (B B' : Hp) (v : V) (d : PyData), Ex B B' → Dd B v d → Dd B' v d := fun _ _ _ _ e h => h.mono e
variable {elt tg iter : Expr} {ifs : List Expr} {scope : Scope} {own : List (Str × Nat)} {pos : Pos}
theorem pd_lcI {zs : List α} {enc : α → PyData} {f : α → Int} {Gz : α → Gm} {i0 : Nat} {a0 : Addr} {ds0 : List PyData} (hG : G1[i0]? = some (some (.own a0 ds0))) (hc : X.calm = true) (hN : X.N.Nodup) (hi : PI X tg iter (rdI Dd mu G (zs.map enc) G1)) (ok : BlkOk X.N X.env.scope scope own) (hz : zs.length ≤ 100000)
    (hst : Stays g (own.map (·.2))) (has : ∀ z ∈ zs, AsgD Dd g (enc z) (wipeG (hideG (G1.set i0 (some (.d (.list ds0))))) (own.map (·.2))) (Gz z))
    (hg : ∀ (s : Shared) (H : Hp) (C : Addr) (cl : List (Str × Addr)) (fp : List Addr), PG (X.blk s H scope (compEnvC scope cl C X.env) fp) tg g)
    (he : ∀ (s : Shared) (H : Hp) (C : Addr) (cl : List (Str × Addr)) (fp : List Addr), ∀ z ∈ zs, true = true → PE (X.blk s H scope (compEnvC scope cl C X.env) fp) elt (rdE [] (Gz z) (.int (f z)) (Gz z)))
    (hs : ∀ x, foldedSetIterable iter X.env x = pure x := by intro _; rfl) : PE X (.ListComp elt [⟨tg, iter, [], 0⟩] scope pos) (rdE mu G (.list (zs.map fun z => .int (f z))) G1) :=
  pd_of (pe_w (pe_lc hc hN hi ok hg (fun s H C cl fp => pts_nil) (fun s H C cl fp => he_lc (he s H C cl fp)) hs) (t_lcI hG hst has Dd_mono4 hz))
end

/-! ### {int: True for ..} -/
def addK (ks : List Int) (k : Int) : List Int := if k ∈ ks then ks else ks ++ [k]
def keysOf (l : List Int) : List Int := l.foldl addK []
def kvOf (ks : List Int) : List (Key × V) := ks.map fun k => (.inl k, .bl true)
theorem putK_of (ks : List Int) (k : Int) : putK (kvOf ks) (.inl k) (.bl true) = kvOf (addK ks k) := by
  unfold putK addK
  by_cases h : k ∈ ks
  · have h1 : (kvOf ks).any (fun kv => decide (kv.1 = Sum.inl k)) = true := by
      rw [List.any_eq_true]
      exact ⟨(.inl k, .bl true), by unfold kvOf; exact List.mem_map.mpr ⟨k, h, rfl⟩, by simp⟩
    rw [if_pos h]
    first
      | rw [if_pos h1]
      | simp only [h1, if_true]
    unfold kvOf
    rw [List.map_map]
    apply List.map_congr_left
    intro x hx
    by_cases e : x = k
    · subst e
      simp
    · simp [e]
  · have h1 : ¬ (kvOf ks).any (fun kv => decide (kv.1 = Sum.inl k)) = true := by
      intro q
      rw [List.any_eq_true] at q
      obtain ⟨x, hx, e⟩ := q
      unfold kvOf at hx
      obtain ⟨y, hy, e2⟩ := List.mem_map.mp hx
      subst e2
      simp at e
      exact h (e ▸ hy)
    rw [if_neg h]
    first
      | rw [if_neg h1]
      | simp only [h1, if_false]
    unfold kvOf
    rw [List.map_append]
    rfl
theorem keysOf_mem {l : List Int} {k : Int} : k ∈ keysOf l ↔ k ∈ l := by
  have aux : ∀ (l acc : List Int), k ∈ l.foldl addK acc ↔ k ∈ acc ∨ k ∈ l := by
    intro l
    induction l with
    | nil => intro acc; simp
    | cons x l ih =>
      intro acc
      rw [List.foldl_cons, ih]
      unfold addK
      by_cases h : x ∈ acc
      · rw [if_pos h]
        constructor
        · rintro (q | q)
          · exact .inl q
          · exact .inr (List.mem_cons_of_mem _ q)
        · rintro (q | q)
          · exact .inl q
          · rcases List.mem_cons.mp q with e | q
            · exact .inl (e ▸ h)
            · exact .inr q
      · rw [if_neg h, List.mem_append, List.mem_singleton, List.mem_cons]
        constructor
        · rintro ((q | q) | q)
          · exact .inl q
          · exact .inr (.inl q)
          · exact .inr (.inr q)
        · rintro (q | q | q)
          · exact .inl (.inl q)
          · exact .inl (.inr q)
          · exact .inr q
  unfold keysOf
  rw [aux]
  simp
theorem keysOf_snoc {l : List Int} {k : Int} : keysOf (l ++ [k]) = addK (keysOf l) k := by
  unfold keysOf
  rw [List.foldl_append]
  rfl
theorem keysOf_len (l : List Int) : (keysOf l).length ≤ l.length := by
  have aux : ∀ (l acc : List Int), (l.foldl addK acc).length ≤ acc.length + l.length := by
    intro l
    induction l with
    | nil => intro acc; simp
    | cons x l ih =>
      intro acc
      rw [List.foldl_cons]
      have h1 := ih (addK acc x)
      have h2 : (addK acc x).length ≤ acc.length + 1 := by
        unfold addK
        by_cases h : x ∈ acc
        · rw [if_pos h]; omega
        · rw [if_neg h, List.length_append]; simp
      rw [List.length_cons]
      omega
  have h := aux l []
  simpa [keysOf] using h
def dictT (ks : List Int) : PyData := .dict (ks.map fun k => (.int k, .bool true))
theorem ddKV_of {B : Hp} : ∀ ks : List Int, DdKV B (kvOf ks) (ks.map fun k => (PyData.int k, PyData.bool true))
  | [] => .nil
  | k :: ks => .cons (.bl true) (ddKV_of ks)
theorem rc_sortT {ks : List Int} (h : ks.length < 64) : RCD rSortD [dictT ks] (.list ((sortI ks).map PyData.int)) := by
  have e : dictT ks = .dict ((ks.zip (ks.map fun _ => PyData.bool true)).map fun p => (PyData.int p.1, p.2)) := by
    unfold dictT
    congr 1
    induction ks with
    | nil => rfl
    | cons k ks ih =>
      have h' : ks.length < 64 := by
        rw [List.length_cons] at h
        omega
      rw [List.map_cons, ih h']
      rfl
  rw [e]
  exact rc_sortD (by rw [List.length_map]) h
section
variable {α : Type} {X : Cx} {mu : List Addr} {G G1 : Gm} {R : Hp → V → PyData → Prop} {g : TG} {vs : List Nat}
def madeK (zs : List α) (pr : α → Bool) (f : α → Int) (i : Nat) : List Int := keysOf (((zs.take i).filter pr).map f)
theorem t_dc {zs : List α} {enc : α → PyData} {pr : α → Bool} {f : α → Int} {Gz : α → Gm} (hst : Stays g vs) (has : ∀ z ∈ zs, AsgD R g (enc z) (wipeG (hideG G1) vs) (Gz z)) (hz : zs.length ≤ 100000)
    (sg : L2.St) (H : Hp) (Q : VK) (h : rdE mu G (dictT (keysOf ((zs.filter pr).map f))) G1 sg H Q) : tDc (rdI R mu G (zs.map enc) G1) g (lcT zs Gz pr) (lcE zs Gz pr fun z => .int (f z)) (tC (.bl true)) vs sg H Q := by
  obtain ⟨H0, B0, B, w, s, kk⟩ := h
  refine ⟨H0, B0, B, w, s, fun J B1 H1 e1 w1 s1 wk Dl nD => ?_⟩
  refine ⟨fun i m H' => m = zs.length - i ∧ i ≤ zs.length ∧ ∃ B2, Wf [] B1 H1 B2 H' ∧ B2 Dl = none ∧ H' Dl = some (.dK (kvOf (madeK zs pr f i))),
    ⟨zs.length, rfl, Nat.zero_le _, B1, Wf.newU w1.s nD, w1.s.back nD, upd_same⟩, ?_⟩
  rintro i m H2 ⟨rfl, hi, B2, p2, nB, hD⟩
  have x12 : Ex B1 H2 := p2.b.trans p2.s
  by_cases hlt : i < zs.length
  · refine .inr ⟨wk.goes i H2 (by rw [List.length_map]; exact hlt) x12, fun H' => i + 1 ≤ zs.length ∧ ∃ B2, Wf [] B1 H1 B2 H' ∧ B2 Dl = none ∧ H' Dl = some (.dK (kvOf (madeK zs pr f (i + 1)))),
      fun H' q => ⟨zs.length - (i + 1), by omega, rfl, q.1, q.2⟩, fun x H3 y => ?_⟩
    have hzi : zs[i]? = some zs[i] := List.getElem?_eq_getElem hlt
    have hmem : zs[i] ∈ zs := List.getElem_mem hlt
    obtain ⟨B3, p3, hR⟩ := wk.yields i H2 x H3 (enc zs[i]) (by rw [List.getElem?_map, hzi]; rfl) x12 y B2 p2.b p2.s
    have hD3 := p3.k Dl _ (by simp) hD
    have nB3 : B3 Dl = none := p3.n Dl (by rw [hD]; exact nofun) nB
    have p13 : Wf [] B1 H1 B3 H3 := p2.step p3
    have s3 : SOk [] H3 B3 H3 (wipe sg vs) (wipeG (hideG G1) vs) := ((s1.step p13).hide (mu' := []) (H0' := H3)).wipe vs
    refine hst x (wipe sg vs) H3 _ _ (has zs[i] hmem [] H3 B3 H3 (wipe sg vs) x s3 p3.s hR (fun sg' H' => H' = H3 ∧ SOk [] H3 B3 H3 sg' (Gz zs[i])) fun sg' s' => ⟨rfl, s'⟩) fun sg' H' hw q => ?_
    obtain ⟨eH, s4⟩ := q
    subst eH
    refine ⟨hw.trans wipe_wipe, zs[i], hmem, H', B3, B3, Wf.refl p3.s, s4, fun B5 H5 e5 w5 s5 => ?_⟩
    have hD5 := w5.k Dl _ (by simp) hD3
    have nB5 : B5 Dl = none := w5.n Dl (by rw [hD3]; exact nofun) nB3
    cases hp : pr zs[i] with
    | true =>
      refine iteT ⟨zs[i], hmem, hp, H', B3, B5, w5, s5, fun v B6 H6 e6 w6 s6 dv => ?_⟩
      cases dv
      have hD6 := w6.k Dl _ (by simp) hD3
      have nB6 : B6 Dl = none := w6.n Dl (by rw [hD3]; exact nofun) nB3
      have p16 : Wf [] B1 H1 B6 H6 := p13.step w6
      refine ⟨_, .inl (f zs[i]), rfl, hD6, ?_, by omega, B6, p16.mut nB6 (.inl nD), nB6, ?_⟩
      · unfold kvOf
        rw [List.length_map]
        have h1 := keysOf_len (((zs.take i).filter pr).map f)
        have h2 : (((zs.take i).filter pr).map f).length ≤ zs.length := by
          rw [List.length_map]
          exact Nat.le_trans (List.length_filter_le _ _) (by rw [List.length_take]; omega)
        unfold madeK
        rw [sizeLine_eq]
        omega
      · rw [upd_same, putK_of]
        unfold madeK
        rw [List.take_add_one, hzi, List.filter_append, List.map_append, ← keysOf_snoc]
        simp [hp]
    | false =>
      refine iteF ⟨by omega, B5, p13.step w5, nB5, ?_⟩
      rw [hD5]
      unfold madeK
      rw [List.take_add_one, hzi, List.filter_append, List.map_append]
      simp [hp]
  · have ei : i = zs.length := by omega
    subst ei
    have h1 := wk.stops H2 x12
    rw [List.length_map] at h1
    refine .inl ⟨h1, ?_⟩
    unfold madeK at hD
    rw [List.take_length] at hD
    have eb : Ex B2 (upd B2 Dl (.dK (kvOf (keysOf ((zs.filter pr).map f))))) := fun b o q => by
      rw [upd_ne (ne_of_none q nB)]
      exact q
    have h0 := h0_of w1 nD
    have s2 := s1.step p2
    have w2 := w1.step p2
    refine kk (.ref Dl) (upd B2 Dl _) H2 (e1.trans (p2.b.trans eb)) ⟨w2.b.trans eb, fun b o q => ?_, w2.k, fun b q1 q2 => ?_, w2.t⟩ ⟨s2.len, fun i x q => ?_, fun i a es q => ?_, s2.sep⟩ (.dic upd_same (ddKV_of _))
    · by_cases hb : b = Dl
      · subst hb
        rw [upd_same] at q
        rw [← q]
        exact hD
      · rw [upd_ne hb] at q
        exact w2.s b o q
    · have hb : b ≠ Dl := fun z => q1 (by rw [z]; exact h0)
      rw [upd_ne hb]
      exact w2.n b q1 q2
    · obtain ⟨v, z1, z2⟩ := s2.dat i x q
      exact ⟨v, z1, z2.mono eb⟩
    · obtain ⟨z1, z2, z3, ws, z4, z5⟩ := s2.own i a es q
      exact ⟨z1, by rw [upd_ne (s1.fresh nD q)]; exact z2, z3, ws, z4, z5.mono eb⟩
variable {kx vx elt tg iter : Expr} {ifs : List Expr} {scope : Scope} {own : List (Str × Nat)} {pos : Pos}
/-- name = {k: v for ..} on one line, the name a local -/
theorem ps_setDc {i : Nat} {y : Str} {py spos : Pos} {wi : TI} {tt : TT} {tk tv : TE} (hc : X.calm = true) (hN : X.N.Nodup) (hy : X.N[i]? = some y) (hyl : X.env.scope.names.lookup y = some .local)
    (hsw : swapsWith (.DictComp kx vx [⟨tg, iter, ifs, 0⟩] scope pos) (some (.Name y py)) spos.line X.env = pure true) (hi : PI X tg iter wi) (ok : BlkOk X.N X.env.scope scope own)
    (hg : ∀ (s : Shared) (H : Hp) (C : Addr) (cl : List (Str × Addr)) (fp : List Addr), PG (X.blk s H scope (compEnvC scope cl C X.env) fp) tg g) (ht : ∀ (s : Shared) (H : Hp) (C : Addr) (cl : List (Str × Addr)) (fp : List Addr), PTs (X.blk s H scope (compEnvC scope cl C X.env) fp) ifs tt)
    (hk : ∀ (s : Shared) (H : Hp) (C : Addr) (cl : List (Str × Addr)) (fp : List Addr), PE (X.blk s H scope (compEnvC scope cl C X.env) fp) kx tk)
    (he : ∀ (s : Shared) (H : Hp) (C : Addr) (cl : List (Str × Addr)) (fp : List Addr), PE (X.blk s H scope (compEnvC scope cl C X.env) fp) vx tv) (hs : ∀ x, foldedSetIterable iter X.env x = pure x := by intro _; rfl) :
    PS X (.Assign [.Name y py] (.DictComp kx vx [⟨tg, iter, ifs, 0⟩] scope pos) spos) (tAsg (tDc wi g tt tk tv (own.map (·.2))) (gName i)) := by
  refine ⟨fun pins s sg H D I h => ?_⟩
  rw [exec_Assign_Name_used _ _ _ _ hsw]
  refine wpAny_bind (wpAny_standAt (wpAny_bind ?_))
  show wpAny _ X.A (do let _ ← comprehension (.DictComp kx vx [⟨tg, iter, ifs, 0⟩] scope pos) scope X.env (firstIterPos [⟨tg, iter, ifs, 0⟩] pos) newDict false (eval iter X.env) (some (assign (.Name y py) X.env))) _ _ s
  have h : tDc wi g tt tk tv (own.map (·.2)) sg H (fun x H1 => gName i x sg H1 D.nx) := h
  refine wpAny_bind (thn (dc_core (Qf := fun _ s' => SP X pins D .next s') hc hN I hi ok hg ht hk he hs h fun L C s' m H' I' q hn f => ?_) fun _ s' hq => wpAny_pure (wpAny_pure hq))
  show wpAny _ _ (assign (.Name y py) X.env (.ref L)) _ _ _
  refine wpAny_assign_Name (store_ok2 (v := V.ref L) I' hN hy (.inl hyl) rfl (fun s2 I2 ⟨a, sb, ha⟩ => ?_) (.inr hyl))
  obtain ⟨f0, f1, f2, f3, f4, f5⟩ := f
  have haC : C ≠ a := by
    rcases ha with z | z
    · rw [z]; exact f1
    · exact fun e => f4 y a z e.symm
  refine ⟨m, hn.sameBut sb haC, fun h3 sb3 => ?_⟩
  exact ⟨_, H', I2.turned (t' := s2.toks) (fun b o hb e => (sb3.2 b hb).trans e) f0 f1 f3 f4 f5, q⟩
theorem sw_trueD {scope : Scope} {gs : List Comprehension} {pos py : Pos} {y : Str} {l : Nat} {env : Env} (hk : env.scope.kind = .function) (hy : env.scope.names.lookup y = some .local) (hl : (py.line == pos.line) = true)
    (ha : (scope.names.any fun (n, k) => n == y && (k == .local || k == .cell)) = false) : swapsWith (.DictComp kx vx gs scope pos) (some (.Name y py)) l env = pure true := by
  have ky : env.kindOf y = some .local := hy
  have hb : env.blockKind = .function := by unfold Env.blockKind; rw [hk]; rfl
  unfold swapsWith
  simp only [hb, ky, ha, Expr.pos, hl]
  rfl
end
end DL

/-! Statements, loops, defs on data. -/
namespace DL
open PySem PySem.Spec PyProof.Rows L2

inductive Outc where
  | nx (G : Gm)
  | rt (d : PyData) (G : Gm)
  | bk (G : Gm)
  | ct (G : Gm)
def Holds (mu : List Addr) (D : Ends) (B0 H0 : Hp) : Outc → Prop
  | .nx G => ∀ sg B H, Wf mu B0 H0 B H → SOk mu H0 B H sg G → D.nx sg H
  | .rt d G => ∀ v sg B H, Wf mu B0 H0 B H → SOk mu H0 B H sg G → Dd B v d → D.rt v H
  | .bk G => ∀ sg B H, Wf mu B0 H0 B H → SOk mu H0 B H sg G → D.bk sg H
  | .ct G => ∀ sg B H, Wf mu B0 H0 B H → SOk mu H0 B H sg G → D.ct sg H
def rdS (mu : List Addr) (G : Gm) (O : Outc → Prop) : TS := fun D sg H => ∃ H0 B0 B, Wf mu B0 H0 B H ∧ SOk mu H0 B H sg G ∧ ∀ o, O o → Holds mu D B0 H0 o
def nxO (G : Gm) : Outc → Prop := fun o => o = .nx G

section
variable {X : Cx} {mu : List Addr} {G G1 G2 : Gm} {d : PyData} {ds es : List PyData} {O O1 : Outc → Prop} {e c tg iter : Expr} {st : Stmt} {rest body A B : List Stmt} {pos : Pos} {n : Str} {i : Nat}
theorem t_asgD {te : TE} (hte : ∀ sg H Q, rdE mu G d G1 sg H Q → te sg H Q) (D : Ends) (sg : L2.St) (H : Hp) (h : rdS mu G (nxO (G1.set i (some (.d d)))) D sg H) : tAsg te (gName i) D sg H := by
  obtain ⟨H0, B0, B, w, s, k⟩ := h
  exact hte sg H _ ⟨H0, B0, B, w, s, fun v B1 H1 e1 w1 s1 dv => k _ rfl (sg.set i (some v)) B1 H1 w1 (s1.setD dv)⟩
theorem t_asgO {te : TE} (hte : ∀ sg H Q, rdF mu G ds G1 sg H Q → te sg H Q) (D : Ends) (sg : L2.St) (H : Hp) (h : rdS mu G (fun o => ∃ p, o = .nx (G1.set i (some (.own p ds)))) D sg H) : tAsg te (gName i) D sg H := by
  obtain ⟨H0, B0, B, w, s, k⟩ := h
  exact hte sg H _ ⟨H0, B0, B, w, s, fun p vs B1 H1 e1 w1 s1 hB h0 ho hH dv => k _ ⟨p, rfl⟩ (sg.set i (some (.ref p))) B1 H1 w1 (s1.setO hB (.inl h0) dv hH (fun b o _ q => q) fun j es q => absurd rfl (ho j p es q))⟩
theorem sd_asg (hN : X.N.Nodup) (hi : X.N[i]? = some n) (hx : Loc X.env.scope n) (he : PE X e (rdE mu G d G1)) {p' : Pos} (hs : swapsWith e (some (.Name n p')) pos.line X.env = pure false := by rfl) (hf : X.fn n = true ∨ X.env.scope.names.lookup n = some .local := by first | exact .inl rfl | exact .inr rfl | assumption) :
    PS X (.Assign [.Name n p'] e pos) (rdS mu G (nxO (G1.set i (some (.d d))))) :=
  ps_w (ps_set hN hi hx he hs (hf := hf)) (t_asgD fun _ _ _ h => h)
theorem sd_asgO (hN : X.N.Nodup) (hi : X.N[i]? = some n) (hx : Loc X.env.scope n) (he : PE X e (rdF mu G ds G1)) {p' : Pos} (hs : swapsWith e (some (.Name n p')) pos.line X.env = pure false := by rfl) (hf : X.fn n = true ∨ X.env.scope.names.lookup n = some .local := by first | exact .inl rfl | exact .inr rfl | assumption) :
    PS X (.Assign [.Name n p'] e pos) (rdS mu G (fun o => ∃ p, o = .nx (G1.set i (some (.own p ds))))) :=
  ps_w (ps_set hN hi hx he hs (hf := hf)) (t_asgO fun _ _ _ h => h)

/-! blocks -/
theorem sd_cons (h1 : PS X st (rdS mu G O1)) (h2 : ∀ G', O1 (.nx G') → PSs X rest (rdS mu G' O)) (hr : ∀ d G', O1 (.rt d G') → O (.rt d G')) (hb : ∀ G', O1 (.bk G') → O (.bk G')) (hc : ∀ G', O1 (.ct G') → O (.ct G')) : PSs X (st :: rest) (rdS mu G O) := by
  have hu : PSs X rest (fun D sg H => ∃ G', O1 (.nx G') ∧ rdS mu G' O D sg H) := ⟨fun pins s sg H D I ⟨G', ho, q⟩ => (h2 G' ho).run pins s sg H D I q⟩
  refine pss_w (pss_cons h1 hu) fun D sg H ⟨H0, B0, B, w, s, k⟩ => ⟨H0, B0, B, w, s, fun o ho => ?_⟩
  cases o with
  | nx G' => exact fun sg' B' H' w' s' => ⟨G', ho, H0, B0, B', w', s', k⟩
  | rt d G' => exact k _ (hr d G' ho)
  | bk G' => exact k _ (hb G' ho)
  | ct G' => exact k _ (hc G' ho)
theorem sd_nx (h1 : PS X st (rdS mu G (nxO G1))) (h2 : PSs X rest (rdS mu G1 O)) : PSs X (st :: rest) (rdS mu G O) :=
  sd_cons h1 (fun G' e => by cases e; exact h2) (fun d G' e => nomatch e) (fun G' e => nomatch e) (fun G' e => nomatch e)
theorem sd_nxA {Gp : Addr → Gm} (h1 : PS X st (rdS mu G (fun o => ∃ p, o = .nx (Gp p)))) (h2 : ∀ p, PSs X rest (rdS mu (Gp p) O)) : PSs X (st :: rest) (rdS mu G O) :=
  sd_cons h1 (fun G' ⟨p, e⟩ => by cases e; exact h2 p) (fun d G' ⟨p, e⟩ => nomatch e) (fun G' ⟨p, e⟩ => nomatch e) (fun G' ⟨p, e⟩ => nomatch e)
theorem sd_nil (h : O (.nx G)) : PSs X [] (rdS mu G O) := pss_w pss_nil fun D sg H ⟨H0, B0, B, w, s, k⟩ => k _ h sg B H w s
theorem sd_one (h : PS X st (rdS mu G O)) : PSs X [st] (rdS mu G O) := pss_one h
theorem sd_imp {O' : Outc → Prop} (h : PSs X body (rdS mu G O')) (q : ∀ o, O' o → O o) : PSs X body (rdS mu G O) := pss_w h fun D sg H ⟨H0, B0, B, w, s, k⟩ => ⟨H0, B0, B, w, s, fun o ho => k o (q o ho)⟩
theorem sp_imp {O' : Outc → Prop} (h : PS X st (rdS mu G O')) (q : ∀ o, O' o → O o) : PS X st (rdS mu G O) := ps_w h fun D sg H ⟨H0, B0, B, w, s, k⟩ => ⟨H0, B0, B, w, s, fun o ho => k o (q o ho)⟩
theorem sp_ret (he : PE X e (rdE mu G d G1)) (h : O (.rt d G1)) : PS X (.Return (some e) pos) (rdS mu G O) :=
  ps_w (ps_ret he) fun D sg H ⟨H0, B0, B, w, s, k⟩ => ⟨H0, B0, B, w, s, fun v B1 H1 e1 w1 s1 dv => k _ h v sg B1 H1 w1 s1 dv⟩
theorem sd_ret (he : PE X e (rdE mu G d G1)) (h : O (.rt d G1)) : PSs X (.Return (some e) pos :: rest) (rdS mu G O) :=
  sd_cons (O1 := fun o => o = .rt d G1) (sp_ret he rfl) (fun G' z => nomatch z) (fun d' G' z => by cases z; exact h) (fun G' z => nomatch z) (fun G' z => nomatch z)
/-! if -/
theorem sp_if {b : Bool} (hc : PT X c (rdT mu G b G1)) (hA : b = true → PSs X A (rdS mu G1 O)) (hB : b = false → PSs X B (rdS mu G1 O)) : PS X (.If c A B pos) (rdS mu G O) := by
  have hA' : PSs X A (fun D sg H => b = true ∧ rdS mu G1 O D sg H) := ⟨fun pins s sg H D I q => (hA q.1).run pins s sg H D I q.2⟩
  have hB' : PSs X B (fun D sg H => b = false ∧ rdS mu G1 O D sg H) := ⟨fun pins s sg H D I q => (hB q.1).run pins s sg H D I q.2⟩
  refine ps_w (ps_if hc hA' hB') fun D sg H ⟨H0, B0, B, w, s, k⟩ => ⟨H0, B0, B, w, s, fun B1 H1 e1 w1 s1 => ?_⟩
  cases b with
  | true => exact iteT ⟨rfl, H0, B0, B1, w1, s1, k⟩
  | false => exact iteF ⟨rfl, H0, B0, B1, w1, s1, k⟩
def noNx (O : Outc → Prop) : Outc → Prop
  | .nx _ => False
  | o => O o
/-- an if that is not taken, or whose block leaves -/
theorem sd_ifL {b : Bool} (hc : PT X c (rdT mu G b G1)) (hA : b = true → PSs X A (rdS mu G1 (noNx O))) (hB : b = false → PSs X rest (rdS mu G1 O)) : PSs X (.If c A [] pos :: rest) (rdS mu G O) := by
  refine sd_cons (O1 := fun o => noNx O o ∨ (b = false ∧ o = .nx G1)) (sp_if hc (fun q => sd_imp (hA q) fun o z => .inl z) fun q => sd_nil (.inr ⟨q, rfl⟩)) ?_ ?_ ?_ ?_
  · rintro G' (z | ⟨q, e⟩)
    · exact z.elim
    · cases e
      exact hB q
  · rintro d G' (z | ⟨q, e⟩)
    · exact z
    · cases e
  · rintro G' (z | ⟨q, e⟩)
    · exact z
    · cases e
  · rintro G' (z | ⟨q, e⟩)
    · exact z
    · cases e
def thenO (P : Gm → Prop) (O : Outc → Prop) : Outc → Prop
  | .nx G => P G
  | o => O o
theorem sd_if {b : Bool} {P : Gm → Prop} (hc : PT X c (rdT mu G b G1)) (hA : b = true → PSs X A (rdS mu G1 (thenO P O))) (hB : b = false → PSs X B (rdS mu G1 (thenO P O))) (hR : ∀ G', P G' → PSs X rest (rdS mu G' O)) : PSs X (.If c A B pos :: rest) (rdS mu G O) :=
  sd_cons (O1 := thenO P O) (sp_if hc hA hB) hR (fun _ _ z => z) (fun _ z => z) (fun _ z => z)
/-! own lists -/
theorem freeze {a : Addr} (hG : G[i]? = some (some (.own a ds))) (ha : a ∉ mu) (h : PSs X body (rdS mu (G.set i (some (.d (.list ds)))) O)) : PSs X body (rdS mu G O) :=
  pss_w h fun D sg H ⟨H0, B0, B, w, s, k⟩ => let ⟨B1, w1, _, s1⟩ := s.freeze hG w ha; ⟨H0, B0, B1, w1, s1, k⟩
theorem sd_app {a : Addr} {p1 p2 p3 : Pos} (hN : X.N[i]? = some n) (hv : Vis X.env.scope n) (he : PE X e (rdE mu G d G1)) (hG : G[i]? = some (some (.own a es))) (hG1 : G1[i]? = some (some (.own a ds))) (hz : ds.length < 100000)
    (hd : (n == ("__debug__" : Str)) = false := by decide) (hcd : (n == ("__classdict__" : Str)) = false := by decide)
    (hbase : attributeBase (.Name n p1) "append" X.env (eval (.Name n p1) X.env) = eval (.Name n p1) X.env := by rfl)
    (hfew : ((backTo p3 (starEach [e] X.env)).all (fun x => !x.1) && (backToKw p3 (keywordEach [] X.env)).all (fun x => x.1.isSome)
      && decide ([e].length + ([] : List Keyword).length + (if ([] : List Keyword).isEmpty then 0 else 1) < 30)) = true := by rfl)
    (hline : (p2.endLine == p3.line) = true := by rfl) (hs : starEach [e] X.env = (false, eval e X.env) :: starEach [] X.env := by rfl) (hplain : (backTo p3 (starEach [] X.env)).any (·.1) = false := by rfl)
    (hsw : swapsWith (.Call (.Attribute (.Name n p1) "append" p2) [e] [] p3) none pos.line X.env = pure false := by rfl) :
    PS X (.Expr (.Call (.Attribute (.Name n p1) "append" p2) [e] [] p3) pos) (rdS mu G (nxO (G1.set i (some (.own a (ds ++ [d])))))) :=
  ps_w (ps_expr (pe_bm PySem.F.plainAttrs_list PySem.F.slot_list_append PySem.F.type_list_append mt_append (pe_var hN hv hd hcd) (pa_cons he pa_nil hs) hbase hfew hline hs hplain) hsw) fun D sg H ⟨H0, B0, B, w, s, k⟩ => by
    obtain ⟨h1, h2, h3, ws, h4, h5⟩ := s.own i a es hG
    refine ⟨.ref a, h1, .inl ⟨rfl, ws, .of h4⟩, H0, B0, B, w, s, fun v B1 H1 e1 w1 s1 dv => ?_⟩
    obtain ⟨g1, g2, g3, vs, g4, g5⟩ := s1.own i a ds hG1
    refine ⟨a, vs, v, rfl, rfl, g4, by rw [g5.len, sizeLine_eq]; omega, ?_⟩
    exact k _ rfl sg B1 _ (w1.mut g2 g3) (s1.mut hG1 (g5.app (.cons dv .nil)))
theorem sd_ext {a : Addr} {p1 p2 p3 : Pos} {fs : List PyData} (hN : X.N[i]? = some n) (hv : Vis X.env.scope n) (he : PE X e (rdE mu G (.list fs) G1)) (hG : G[i]? = some (some (.own a es))) (hG1 : G1[i]? = some (some (.own a ds))) (hz : ds.length + fs.length < 100000)
    (hd : (n == ("__debug__" : Str)) = false := by decide) (hcd : (n == ("__classdict__" : Str)) = false := by decide)
    (hbase : attributeBase (.Name n p1) "extend" X.env (eval (.Name n p1) X.env) = eval (.Name n p1) X.env := by rfl)
    (hfew : ((backTo p3 (starEach [e] X.env)).all (fun x => !x.1) && (backToKw p3 (keywordEach [] X.env)).all (fun x => x.1.isSome)
      && decide ([e].length + ([] : List Keyword).length + (if ([] : List Keyword).isEmpty then 0 else 1) < 30)) = true := by rfl)
    (hline : (p2.endLine == p3.line) = true := by rfl) (hs : starEach [e] X.env = (false, eval e X.env) :: starEach [] X.env := by rfl) (hplain : (backTo p3 (starEach [] X.env)).any (·.1) = false := by rfl)
    (hsw : swapsWith (.Call (.Attribute (.Name n p1) "extend" p2) [e] [] p3) none pos.line X.env = pure false := by rfl) :
    PS X (.Expr (.Call (.Attribute (.Name n p1) "extend" p2) [e] [] p3) pos) (rdS mu G (nxO (G1.set i (some (.own a (ds ++ fs)))))) :=
  ps_w (ps_expr (pe_bm PySem.F.plainAttrs_list PySem.F.slot_list_extend PySem.F.type_list_extend mt_extend (pe_var hN hv hd hcd) (pa_cons he pa_nil hs) hbase hfew hline hs hplain) hsw) fun D sg H ⟨H0, B0, B, w, s, k⟩ => by
    obtain ⟨h1, h2, h3, ws, h4, h5⟩ := s.own i a es hG
    refine ⟨.ref a, h1, .inl ⟨rfl, ws, .of h4⟩, H0, B0, B, w, s, fun v B1 H1 e1 w1 s1 dv => ?_⟩
    obtain ⟨g1, g2, g3, vs, g4, g5⟩ := s1.own i a ds hG1
    cases dv with
    | lst q1 q2 =>
      refine ⟨a, _, vs, _, rfl, rfl, g4, w1.s _ _ q1, by rw [g5.len, q2.len, sizeLine_eq]; omega, ?_⟩
      exact k _ rfl sg B1 _ (w1.mut g2 g3) (s1.mut hG1 (g5.app q2))
theorem sd_setI {a : Addr} {j : Nat} {ix : Expr} {p1 p2 : Pos} {G3 : Gm} (hN : X.N[i]? = some n) (hv : Vis X.env.scope n) (he : PE X e (rdE mu G d G1)) (hix : PE X ix (rdE mu G1 (.int (j : Nat)) G3)) (hG1 : G1[i]? = some (some (.own a es))) (hG3 : G3[i]? = some (some (.own a ds))) (hj : j < ds.length)
    (hst : PG X (.Subscript (.Name n p1) ix p2) (gSub (tVar i) (rdE mu G1 (.int (j : Nat)) G3) rSetL)) (hs : swapsWithSole [.Subscript (.Name n p1) ix p2] e pos.line X.env = pure false := by rfl) (hw : swappedStores [.Subscript (.Name n p1) ix p2] e X.env = pure none := by rfl) :
    PS X (.Assign [.Subscript (.Name n p1) ix p2] e pos) (rdS mu G (nxO (G3.set i (some (.own a (ds.set j d)))))) :=
  ps_w (ps_asg he hst hs hw) fun D sg H ⟨H0, B0, B, w, s, k⟩ => ⟨H0, B0, B, w, s, fun v B1 H1 e1 w1 s1 dv => by
    obtain ⟨h1, h2, h3, ws, h4, h5⟩ := s1.own i a es hG1
    refine ⟨.ref a, h1, H0, B0, B1, w1, s1, fun u B2 H2 e2 w2 s2 du => ?_⟩
    cases du
    obtain ⟨g1, g2, g3, vs, g4, g5⟩ := s2.own i a ds hG3
    have hx : ixN vs.length ((j : Nat) : Int) = some j := by
      unfold ixN
      rw [g5.len, if_pos (by omega), if_pos (by omega)]
      simp
    exact ⟨a, vs, (j : Nat), j, rfl, rfl, g4, hx, k _ rfl sg B2 _ (w2.mut g2 g3) (s2.mut hG3 (g5.set j (dv.mono e2)))⟩⟩
end
end DL

/-! Loops and defs on data. -/
namespace DL
open PySem PySem.Spec PyProof.Rows L2

section
variable {X : Cx} {mu : List Addr} {G G1 G2 : Gm} {d : PyData} {xs ds es : List PyData} {O O1 : Outc → Prop} {e c tg iter : Expr} {st : Stmt} {rest body A B : List Stmt} {pos : Pos} {n : Str} {i : Nat}
/-- what a turn may come to: the next turn's word, a return, a break -/
def turnO (P : Gm → Prop) (O : Outc → Prop) : Outc → Prop
  | .nx G => P G
  | .ct G => P G
  | .rt d G => O (.rt d G)
  | .bk G => O (.nx G)
theorem sp_for {R : Hp → V → PyData → Prop} {g : TG} (P : Nat → Gm → Prop) (hp : PassesOwn (model X.prog X.w) X.A X.env X.xe) (hc : X.calm = true) (hi : PI X tg iter (rdI R mu G xs G1)) (hg : PG X tg g) (h0 : P 0 G1)
    (hb : ∀ (i : Nat) d G', xs[i]? = some d → P i G' → ∃ G'', AsgD R g d G' G'' ∧ PSs X body (rdS mu G'' (turnO (P (i + 1)) O))) (hd : ∀ G', P xs.length G' → O (.nx G'))
    (hs : ∀ x, foldedSetIterable iter X.env x = pure x := by intro _; rfl) : PS X (.For tg iter body [] pos) (rdS mu G O) := by
  have hB : PSs X body (fun D sg H => ∃ (i : Nat) (G'' : Gm), PSs X body (rdS mu G'' (turnO (P (i + 1)) O)) ∧ rdS mu G'' (turnO (P (i + 1)) O) D sg H) := ⟨fun pins s sg H D I ⟨i, G'', hps, q⟩ => hps.run pins s sg H D I q⟩
  refine ps_w (ps_for hp hc hi hg hB hs) fun D sg H ⟨H0, B0, B, w, s, k⟩ => ⟨H0, B0, B, w, s, fun J B1 H1 e1 w1 s1 wk => ?_⟩
  refine ⟨fun i m sg H => m = xs.length - i ∧ i ≤ xs.length ∧ ∃ B2 G', Wf mu B1 H0 B2 H ∧ SOk mu H0 B2 H sg G' ∧ P i G', ⟨xs.length, rfl, Nat.zero_le _, B1, G1, w1.floor, s1, h0⟩, ?_⟩
  rintro i m sg2 H2 ⟨rfl, hi, B2, G', w2, s2, hP⟩
  by_cases hlt : i < xs.length
  · refine .inr ⟨wk.goes i H2 hlt (w2.b.trans w2.s), fun sg' H' => i + 1 ≤ xs.length ∧ ∃ B2 G', Wf mu B1 H0 B2 H' ∧ SOk mu H0 B2 H' sg' G' ∧ P (i + 1) G', fun sg' H' q => ⟨xs.length - (i + 1), by omega, rfl, q.1, q.2⟩, fun x H3 y => ?_⟩
    have hx : xs[i]? = some xs[i] := List.getElem?_eq_getElem hlt
    obtain ⟨B3, p3, hR⟩ := wk.yields i H2 x H3 xs[i] hx (w2.b.trans w2.s) y B2 w2.b w2.s
    obtain ⟨G'', ha, hps⟩ := hb i xs[i] G' hx hP
    refine ha mu H0 B3 H3 sg2 x (s2.step p3) p3.s hR _ fun sg' s' => ⟨i, G'', hps, H0, B1, B3, w2.step p3, s', fun o ho => ?_⟩
    cases o with
    | nx G3 => exact fun sg4 B4 H4 w4 s4 => ⟨by omega, B4, G3, w4, s4, ho⟩
    | ct G3 => exact fun sg4 B4 H4 w4 s4 => ⟨by omega, B4, G3, w4, s4, ho⟩
    | rt d G3 => exact fun v sg4 B4 H4 w4 s4 dv => k _ ho v sg4 B4 H4 (w1.under w4) s4 dv
    | bk G3 => exact fun sg4 B4 H4 w4 s4 => k _ ho sg4 B4 H4 (w1.under w4) s4
  · have ei : i = xs.length := by omega
    subst ei
    exact .inl ⟨wk.stops H2 (w2.b.trans w2.s), k _ (hd G' hP) sg2 B2 H2 (w1.under w2) s2⟩
/-- a while: P by a number that falls -/
theorem sp_while (P : Nat → Gm → Prop) (m0 : Nat) (hp : PassesOwn (model X.prog X.w) X.A X.env X.xe) (h0 : P m0 G)
    (hs : ∀ m G', P m G' → ∃ b, PT X c (rdT mu G' b G') ∧ (b = true → PSs X body (rdS mu G' (turnO (fun G3 => ∃ m', m' < m ∧ P m' G3) O))) ∧ (b = false → O (.nx G'))) : PS X (.While c body [] pos) (rdS mu G O) := by
  have hC : PT X c (fun sg H Q => ∃ (G' : Gm) (b : Bool), PT X c (rdT mu G' b G') ∧ rdT mu G' b G' sg H Q) := ⟨fun pins s sg H Q I ⟨G', b, hpt, q⟩ => hpt.run pins s sg H Q I q⟩
  have hB : PSs X body (fun D sg H => ∃ (G'' : Gm) (m : Nat), PSs X body (rdS mu G'' (turnO (fun G3 => ∃ m', m' < m ∧ P m' G3) O)) ∧ rdS mu G'' (turnO (fun G3 => ∃ m', m' < m ∧ P m' G3) O) D sg H) := ⟨fun pins s sg H D I ⟨G'', m, hps, q⟩ => hps.run pins s sg H D I q⟩
  refine ps_w (ps_while hp hC hB) fun D sg H ⟨H0, B0, B, w, s, k⟩ => ?_
  refine ⟨fun m sg H => ∃ B2 G', Wf mu B0 H0 B2 H ∧ SOk mu H0 B2 H sg G' ∧ P m G', ⟨m0, B, G, w, s, h0⟩, ?_⟩
  rintro m sg2 H2 ⟨B2, G', w2, s2, hP⟩
  obtain ⟨b, hpt, h1, h2⟩ := hs m G' hP
  refine ⟨G', b, hpt, H0, B0, B2, w2, s2, fun B3 H3 e3 w3 s3 => ?_⟩
  cases b with
  | true =>
    refine iteT ⟨fun sg' H' => ∃ m', m' < m ∧ ∃ B2 G', Wf mu B0 H0 B2 H' ∧ SOk mu H0 B2 H' sg' G' ∧ P m' G', fun sg' H' q => q, G', m, h1 rfl, H0, B0, B3, w3, s3, fun o ho => ?_⟩
    cases o with
    | nx G3 => exact fun sg4 B4 H4 w4 s4 => let ⟨m', hm, hP'⟩ := ho; ⟨m', hm, B4, G3, w4, s4, hP'⟩
    | ct G3 => exact fun sg4 B4 H4 w4 s4 => let ⟨m', hm, hP'⟩ := ho; ⟨m', hm, B4, G3, w4, s4, hP'⟩
    | rt d G3 => exact fun v sg4 B4 H4 w4 s4 dv => k _ ho v sg4 B4 H4 w4 s4 dv
    | bk G3 => exact fun sg4 B4 H4 w4 s4 => k _ ho sg4 B4 H4 w4 s4
  | false => exact iteF (k _ (h2 rfl) sg2 B3 H3 w3 s3)
end

/-! ### defs -/
def startG (N : List Str) (ds : List PyData) : Gm := ds.map (fun d => some (Sl.d d)) ++ List.replicate (N.length - ds.length) none
abbrev BX (P : Program) (w : World) (K : PySem.W.Frag) (mg : Str → Option Value) (base : Heap) (N : List Str) (qual : Str) (st : Stmt) (f : Addr) (cdv : Value) (A : Around) (outer : List Env) (s : Shared) (H : Hp) (E : XK) : Cx :=
  (cxOf CX0 P w K mg base N qual (defScope st) f cdv A outer s H E).nox
theorem sok_start {mu : List Addr} {H0 B H : Hp} {N : List Str} {vs : List V} {ds : List PyData} (h : DdAll B vs ds) (hl : ds.length ≤ N.length) : SOk mu H0 B H (L2.start N vs) (startG N ds) where
  len := by
    unfold L2.start startG
    rw [List.length_append, List.length_append, List.length_map, List.length_map, List.length_replicate, List.length_replicate, h.len]
  dat := fun i x e => by
    unfold startG at e
    by_cases hi : i < ds.length
    · rw [List.getElem?_append_left (by rw [List.length_map]; exact hi), List.getElem?_map] at e
      cases q : ds[i]? with
      | none => rw [q] at e; cases e
      | some d =>
        rw [q] at e
        have e1 : d = x := by
          have e2 := Option.some.inj (Option.some.inj e)
          injection e2
        subst e1
        obtain ⟨v, hv, hd⟩ := h.get q
        refine ⟨v, ?_, hd⟩
        unfold L2.start
        rw [List.getElem?_append_left (by rw [List.length_map, h.len]; exact hi), List.getElem?_map, hv]
        rfl
    · rw [List.getElem?_append_right (by rw [List.length_map]; omega), List.getElem?_replicate] at e
      split at e
      · cases e
      · cases e
  own := fun i a es e => by
    unfold startG at e
    by_cases hi : i < ds.length
    · rw [List.getElem?_append_left (by rw [List.length_map]; exact hi), List.getElem?_map] at e
      cases q : ds[i]? with
      | none => rw [q] at e; cases e
      | some d =>
        rw [q] at e
        have e2 := Option.some.inj (Option.some.inj e)
        cases e2
    · rw [List.getElem?_append_right (by rw [List.length_map]; omega), List.getElem?_replicate] at e
      split at e
      · cases e
      · cases e
  sep := fun i j a es fs e _ => by
    exfalso
    unfold startG at e
    by_cases hi : i < ds.length
    · rw [List.getElem?_append_left (by rw [List.length_map]; exact hi), List.getElem?_map] at e
      cases q : ds[i]? with
      | none => rw [q] at e; cases e
      | some d =>
        rw [q] at e
        have e2 := Option.some.inj (Option.some.inj e)
        cases e2
    · rw [List.getElem?_append_right (by rw [List.length_map]; omega), List.getElem?_replicate] at e
      split at e
      · cases e
      · cases e
section
variable {P : Program} {w : World} {K : PySem.W.Frag} {mg : Str → Option Value} {base : Heap} {x qual : Str} {st : Stmt} {f : Addr} {fd : FuncData} {N ps : List Str} {k : Nat}
/-- what a def comes to: its value handed back; none at its end -/
def retO (d : PyData) : Outc → Prop
  | .rt d' _ => d' = d
  | .nx _ => d = .none
  | _ => False
theorem fn_pure {R : List PyData → PyData → Prop} (F : Fun K x qual st f fd) (S : FnScope N ps (defScope st)) (len : ∀ ds d, R ds d → ds.length = ps.length)
    (hb : ∀ (cdv : Value) (A : Around) (outer : List Env) (s : Shared) (H : Hp) (E : XK), Room k (A.deeper (envOfC qual (defScope st) s.heap.objs.size f cdv)) → ∀ ds d, R ds d → PSs (BX P w K mg base N qual st f cdv A outer s H E) (defBody st) (rdS [] (startG N ds) (retO d))) :
    FnOk P w K mg base CX0 (k + 1) f fd ps (SpP R) := by
  refine F.ok S (fun vs H Q E ⟨B, ds, d, _, h, hR, _⟩ => h.len.trans (len ds d hR)) fun cdv A outer s H vs Q E hr ⟨B, ds, d, e, h, hR, q⟩ => ?_
  refine ⟨_, hb cdv A outer s H E hr ds d hR, H, B, B, Wf.refl e, sok_start h ?_, fun o ho => ?_⟩
  · have h1 := S.pre
    have h2 := congrArg List.length h1
    rw [List.length_take] at h2
    have h3 := len ds d hR
    omega
  · cases o with
    | nx G => exact fun sg' B' H' w' s' => q _ B' H' w' (by
        have z : d = .none := ho
        rw [z]
        exact .non)
    | rt d' G => exact fun v sg' B' H' w' s' dv => q v B' H' w' (by
        have z : d' = d := ho
        rw [← z]
        exact dv)
    | bk G => exact ho.elim
    | ct G => exact ho.elim
/-- a def whose first argument is a list that may be changed -/
def startM (N : List Str) (l : Addr) (os ds : List PyData) : Gm := some (Sl.own l os) :: (ds.map (fun d => some (Sl.d d)) ++ List.replicate (N.length - (ds.length + 1)) none)
def retM (l : Addr) (os' : List PyData) (d : PyData) : Outc → Prop
  | .rt d' G => d' = d ∧ G[0]? = some (some (.own l os'))
  | _ => False
theorem fn_mut {R : List PyData → List PyData → PyData → List PyData → Prop} (F : Fun K x qual st f fd) (S : FnScope N ps (defScope st)) (len : ∀ os ds d os', R os ds d os' → ds.length + 1 = ps.length)
    (hb : ∀ (cdv : Value) (A : Around) (outer : List Env) (s : Shared) (H : Hp) (E : XK), Room k (A.deeper (envOfC qual (defScope st) s.heap.objs.size f cdv)) → ∀ l os ds d os', R os ds d os' → PSs (BX P w K mg base N qual st f cdv A outer s H E) (defBody st) (rdS [l] (startM N l os ds) (retM l os' d))) :
    FnOk P w K mg base CX0 (k + 1) f fd ps (SpM R) := by
  refine F.ok S (fun vs H Q E ⟨B, l, rest, ws, os, ds, d, os', ev, _, _, _, _, h, hR, _⟩ => by rw [ev, List.length_cons, h.len]; exact len os ds d os' hR) fun cdv A outer s H vs Q E hr ⟨B, l, rest, ws, os, ds, d, os', ev, e, hB, hl, hw, h, hR, q⟩ => ?_
  subst ev
  have hlen := len os ds d os' hR
  have hN : ds.length + 1 ≤ N.length := by
    have h1 := S.pre
    have h2 := congrArg List.length h1
    rw [List.length_take] at h2
    omega
  have hst : SOk [l] H B H (L2.start N (.ref l :: rest)) (startM N l os ds) := by
    have e1 : L2.start N (.ref l :: rest) = some (V.ref l) :: (rest.map some ++ List.replicate (N.length - (rest.length + 1)) none) := by
      unfold L2.start
      rfl
    rw [e1]
    unfold startM
    have hd : ∀ (i : Nat) (s : Option Sl), (ds.map (fun d => some (Sl.d d)) ++ List.replicate (N.length - (ds.length + 1)) none)[i]? = some s → (s = none ∨ ∃ y, ds[i]? = some y ∧ s = some (.d y)) := fun i s e => by
      by_cases hi : i < ds.length
      · rw [List.getElem?_append_left (by rw [List.length_map]; exact hi), List.getElem?_map] at e
        cases q : ds[i]? with
        | none => rw [q] at e; cases e
        | some y =>
          rw [q] at e
          exact .inr ⟨y, rfl, (Option.some.inj e).symm⟩
      · rw [List.getElem?_append_right (by rw [List.length_map]; omega), List.getElem?_replicate] at e
        split at e
        · exact .inl (Option.some.inj e).symm
        · cases e
    refine ⟨?_, fun i y e => ?_, fun i a es e => ?_, fun i j a es fs e e' => ?_⟩
    · rw [List.length_cons, List.length_cons, List.length_append, List.length_append, List.length_map, List.length_map, List.length_replicate, List.length_replicate, h.len]
    · cases i with
      | zero => cases (show some (some (Sl.own l os)) = some (some (Sl.d y)) from e)
      | succ i =>
        rw [List.getElem?_cons_succ] at e ⊢
        rcases hd i _ e with z | ⟨y', hy, z⟩
        · cases z
        · have e2 : y = y' := by
            injection Option.some.inj z
          subst e2
          obtain ⟨v, hv, hdv⟩ := h.get hy
          have hi := (List.getElem?_eq_some_iff.mp hv).1
          exact ⟨v, by rw [List.getElem?_append_left (by rw [List.length_map]; exact hi), List.getElem?_map, hv]; rfl, hdv⟩
    · cases i with
      | zero =>
        have e2 := Option.some.inj (Option.some.inj (show some (some (Sl.own l os)) = some (some (Sl.own a es)) from e))
        injection e2 with e3 e4
        subst e3 e4
        exact ⟨rfl, hB, .inr (by simp), ws, hl, hw⟩
      | succ i =>
        rw [List.getElem?_cons_succ] at e
        rcases hd i _ e with z | ⟨y', hy, z⟩
        · cases z
        · cases (Option.some.inj z)
    · have z0 : ∀ (i : Nat) (es : List PyData), (some (Sl.own l os) :: (ds.map (fun d => some (Sl.d d)) ++ List.replicate (N.length - (ds.length + 1)) none))[i]? = some (some (.own a es)) → i = 0 := fun i es e => by
        cases i with
        | zero => rfl
        | succ i =>
          rw [List.getElem?_cons_succ] at e
          rcases hd i _ e with z | ⟨y', hy, z⟩
          · cases z
          · cases (Option.some.inj z)
      rw [z0 i es e, z0 j fs e']
  refine ⟨_, hb cdv A outer s H E hr l os ds d os' hR, H, B, B, Wf.refl e, hst, fun o ho => ?_⟩
  cases o with
  | nx G => exact ho.elim
  | rt d' G =>
    exact fun v sg' B' H' w' s' dv => by
      obtain ⟨z1, z2⟩ := (show d' = d ∧ G[0]? = some (some (.own l os')) from ho)
      subst z1
      obtain ⟨_, g2, _, us, g4, g5⟩ := s'.own 0 l os' z2
      exact q v B' H' us w' g2 g4 g5 dv
  | bk G => exact ho.elim
  | ct G => exact ho.elim
end
end DL

/-! Short forms. -/
namespace DL
open PySem PySem.Spec PyProof.Rows L2
theorem pd_glob {X : Cx} {mu : List Addr} {G : Gm} {i : Int} {x : Str} {pos : Pos} (hg : Gl X x) (hm : ∃ t, X.mg x = some (.int i t)) (hd : (x == ("__debug__" : Str)) = false := by decide) : PE X (.Name x pos) (rdE mu G (.int i) G) := by
  obtain ⟨t, hm⟩ := hm
  exact pd_c (pe_glob (v := .int i) hg hm ⟨t, rfl⟩ hd) fun _ => .int i
section
variable {X : Cx} {mu : List Addr} {G G1 : Gm} {a : Expr} {p p2 pos pos2 : Pos} {ds : List PyData}
theorem rgV_rng {i : Int} : rgV 0 i = (rng 0 i.toNat).map V.int := by
  unfold rgV rng
  rw [List.map_map, Int.sub_zero]
  rfl
/-- list(range(n)) -/
theorem pd_listRg {i : Int} (hc : X.calm = true) (hgl : Gl X "list") (hml : X.mg "list" = none) (hg : Gl X "range") (hm : X.mg "range" = none) (h : PE X a (rdE mu G (.int i) G1)) (hi : 0 ≤ i ∧ i ≤ 1000000)
    (hs : starEach [a] X.env = (false, eval a X.env) :: starEach [] X.env := by rfl)
    (hs2 : starEach [.Call (.Name "range" p2) [a] [] pos2] X.env = (false, eval (.Call (.Name "range" p2) [a] [] pos2) X.env) :: starEach [] X.env := by rfl) :
    PE X (.Call (.Name "list" p) [.Call (.Name "range" p2) [a] [] pos2] [] pos) (rdE mu G (.list ((rng 0 i.toNat).map PyData.int)) G1) :=
  pe_w (pe_listRg hc hgl hml (prg_1 hg hm h hs) hs2) fun sg H Q ⟨H0, B0, B, w, s, k⟩ => ⟨H0, B0, B, w, s, fun v B1 H1 e1 w1 s1 dv => by
    cases dv
    refine ⟨i, rfl, .of_le (Int.le_refl 0) (by omega) (by decide) (by omega), fun q nq => ?_⟩
    rw [rgV_rng]
    have pn := Wf.new (o := .lst ((rng 0 i.toNat).map V.int)) w1.s nq
    exact k (.ref q) _ _ (e1.trans pn.b) (w1.step pn) (s1.step pn) (.lst upd_same ddAll_ints)⟩
/-- list(t), a new list -/
theorem pdf_listT (hgl : Gl X "list") (hml : X.mg "list" = none) (h : PE X a (rdE mu G (.tuple ds) G1)) (hs : starEach [a] X.env = (false, eval a X.env) :: starEach [] X.env := by rfl) (hpl : (backTo pos (starEach [] X.env)).any (·.1) = false := by rfl) :
    PE X (.Call (.Name "list" p) [a] [] pos) (rdF mu G ds G1) :=
  pe_w (pe_callTy call_list_of hgl hml (by decide +kernel) (pa_cons h pa_nil hs) (he := hs) (hpl := hpl)) fun sg H Q ⟨H0, B0, B, w, s, k⟩ => ⟨H0, B0, B, w, s, fun v B1 H1 e1 w1 s1 dv => by
    cases dv with
    | tup h1 _ r1 =>
      rename_i o vs nd
      refine ⟨_, _, rfl, .inr (sqt_frz (w1.s _ _ h1)), fun q nq => ?_⟩
      have pn := Wf.newU (o := .lst vs) w1.s nq
      exact k q _ B1 _ e1 (w1.step pn) (s1.step pn) (w1.s.back nq) (h0_of w1 nq) (fun i a es q => s1.fresh nq q) upd_same r1⟩
end
section
variable {X : Cx} {mu : List Addr} {G G1 G2 : Gm} {d : PyData} {xs ds es : List PyData} {O O1 : Outc → Prop} {e c tg iter : Expr} {st : Stmt} {rest body A B : List Stmt} {pos : Pos} {n : Str} {i : Nat}
def blkC0 (N : List Str) (scope : Scope) (own : List (Str × Nat)) : Bool :=
  (match scope.kind with | .function => true | _ => false) && (scope.names.all fun y => decide (scope.names.lookup y.1 = some y.2)) && (own.all fun p => decide (N[p.2]? = some p.1)) &&
    (scope.names.all fun y => match y.2 with
      | .local => decide (y.1 ∈ own.map (·.1)) || decide (y.1 ∉ N)
      | .cell => decide (y.1 ∈ own.map (·.1)) || decide (y.1 ∉ N)
      | _ => true)
theorem blkOk_nest {N N' : List Str} {sc scope : Scope} {own : List (Str × Nat)} (hN : N' = N) (h : blkC0 N scope own = true) (hf : ∀ y ∈ scope.names, y.2 = .free → sc.names.lookup y.1 = some .cell ∨ sc.names.lookup y.1 = some .free) : BlkOk N' sc scope own := by
  subst hN
  unfold blkC0 at h
  simp only [Bool.and_eq_true, List.all_eq_true, decide_eq_true_eq] at h
  obtain ⟨⟨⟨h1, h2⟩, h3⟩, h4⟩ := h
  refine ⟨?_, h2, h3, hf, fun y hy e => ?_⟩
  · split at h1
    · assumption
    · cases h1
  · have h5 := h4 y hy
    rcases e with e | e
    · rw [e] at h5
      simpa using h5
    · rw [e] at h5
      simpa using h5
theorem sd_then {Pg : Gm → Prop} (h1 : PS X st (rdS mu G (thenO Pg O))) (h2 : ∀ G', Pg G' → PSs X rest (rdS mu G' O)) : PSs X (st :: rest) (rdS mu G O) := sd_cons h1 h2 (fun _ _ z => z) (fun _ z => z) (fun _ z => z)
theorem sd_ifF {b : Bool} (hc : PT X c (rdT mu G b G1)) (hb : b = false) (hR : PSs X rest (rdS mu G1 O)) : PSs X (.If c A [] pos :: rest) (rdS mu G O) := sd_ifL hc (fun z => by rw [hb] at z; cases z) fun _ => hR
theorem sd_ifT {b : Bool} (hc : PT X c (rdT mu G b G1)) (hb : b = true) (hA : PSs X A (rdS mu G1 (noNx O))) : PSs X (.If c A [] pos :: rest) (rdS mu G O) := sd_ifL hc (fun _ => hA) fun z => by rw [hb] at z; cases z
/-- either way, by the test's value -/
theorem sd_ifE {b b' : Bool} (hc : PT X c (rdT mu G b G1)) (hb : b = b') (hA : b' = true → PSs X A (rdS mu G1 (noNx O))) (hR : b' = false → PSs X rest (rdS mu G1 O)) : PSs X (.If c A [] pos :: rest) (rdS mu G O) := by
  subst hb
  exact sd_ifL hc hA hR
variable {α : Type} {R : Hp → V → PyData → Prop} {g : TG} {elt : Expr} {ifs : List Expr} {scope : Scope} {own : List (Str × Nat)}
theorem pd_lcb {zs : List α} {enc : α → PyData} {f : α → Bool} {Gz : α → Gm} (hc : X.calm = true) (hN : X.N.Nodup) (hi : PI X tg iter (rdI R mu G (zs.map enc) G1)) (ok : BlkOk X.N X.env.scope scope own) (hz : zs.length ≤ 100000)
    (hst : Stays g (own.map (·.2))) (has : ∀ z ∈ zs, AsgD R g (enc z) (wipeG (hideG G1) (own.map (·.2))) (Gz z))
    (hg : ∀ (s : Shared) (H : Hp) (C : Addr) (cl : List (Str × Addr)) (fp : List Addr), PG (X.blk s H scope (compEnvC scope cl C X.env) fp) tg g)
    (he : ∀ (s : Shared) (H : Hp) (C : Addr) (cl : List (Str × Addr)) (fp : List Addr), ∀ z ∈ zs, PE (X.blk s H scope (compEnvC scope cl C X.env) fp) elt (rdE [] (Gz z) (.bool (f z)) (Gz z)))
    (hs : ∀ x, foldedSetIterable iter X.env x = pure x := by intro _; rfl) : PE X (.ListComp elt [⟨tg, iter, [], 0⟩] scope pos) (rdE mu G (.list ((zs.map f).map PyData.bool)) G1) := by
  have h := pd_lc (pos := pos) (pr := fun _ => true) (f := fun z => .bool (f z)) hc hN hi ok hz hst has hg (fun _ _ _ _ _ z _ => pdts_nil rfl) (fun s H C cl fp z hz _ => he s H C cl fp z hz) hs
  have ef : zs.filter (fun _ => true) = zs := List.filter_eq_self.mpr fun _ _ => rfl
  rw [ef] at h
  rw [List.map_map]
  exact h
/-- ints, with a test -/
theorem pd_lci {zs : List α} {enc : α → PyData} {pr : α → Bool} {f : α → Int} {Gz : α → Gm} (hc : X.calm = true) (hN : X.N.Nodup) (hi : PI X tg iter (rdI R mu G (zs.map enc) G1)) (ok : BlkOk X.N X.env.scope scope own) (hz : zs.length ≤ 100000)
    (hst : Stays g (own.map (·.2))) (has : ∀ z ∈ zs, AsgD R g (enc z) (wipeG (hideG G1) (own.map (·.2))) (Gz z))
    (hg : ∀ (s : Shared) (H : Hp) (C : Addr) (cl : List (Str × Addr)) (fp : List Addr), PG (X.blk s H scope (compEnvC scope cl C X.env) fp) tg g)
    (ht : ∀ (s : Shared) (H : Hp) (C : Addr) (cl : List (Str × Addr)) (fp : List Addr), ∀ z ∈ zs, PTs (X.blk s H scope (compEnvC scope cl C X.env) fp) ifs (rdT [] (Gz z) (pr z) (Gz z)))
    (he : ∀ (s : Shared) (H : Hp) (C : Addr) (cl : List (Str × Addr)) (fp : List Addr), ∀ z ∈ zs, pr z = true → PE (X.blk s H scope (compEnvC scope cl C X.env) fp) elt (rdE [] (Gz z) (.int (f z)) (Gz z)))
    (hs : ∀ x, foldedSetIterable iter X.env x = pure x := by intro _; rfl) : PE X (.ListComp elt [⟨tg, iter, ifs, 0⟩] scope pos) (rdE mu G (.list (((zs.filter pr).map f).map PyData.int)) G1) := by
  have h := pd_lc (pos := pos) (pr := pr) (f := fun z => .int (f z)) hc hN hi ok hz hst has hg ht he hs
  rw [List.map_map]
  exact h
/-- y = [ints ..] on one line, y a plain local -/
theorem sd_setLci {zs : List α} {enc : α → PyData} {pr : α → Bool} {f : α → Int} {Gz : α → Gm} {y : Str} {py spos : Pos} (hc : X.calm = true) (hN : X.N.Nodup) (hy : X.N[i]? = some y) (hyl : X.env.scope.names.lookup y = some .local)
    (hsw : swapsWith (.ListComp elt [⟨tg, iter, ifs, 0⟩] scope pos) (some (.Name y py)) spos.line X.env = pure true) (hi : PI X tg iter (rdI R mu G (zs.map enc) G1)) (ok : BlkOk X.N X.env.scope scope own) (hz : zs.length ≤ 100000)
    (hst : Stays g (own.map (·.2))) (has : ∀ z ∈ zs, AsgD R g (enc z) (wipeG (hideG G1) (own.map (·.2))) (Gz z))
    (hg : ∀ (s : Shared) (H : Hp) (C : Addr) (cl : List (Str × Addr)) (fp : List Addr), PG (X.blk s H scope (compEnvC scope cl C X.env) fp) tg g)
    (ht : ∀ (s : Shared) (H : Hp) (C : Addr) (cl : List (Str × Addr)) (fp : List Addr), ∀ z ∈ zs, PTs (X.blk s H scope (compEnvC scope cl C X.env) fp) ifs (rdT [] (Gz z) (pr z) (Gz z)))
    (he : ∀ (s : Shared) (H : Hp) (C : Addr) (cl : List (Str × Addr)) (fp : List Addr), ∀ z ∈ zs, pr z = true → PE (X.blk s H scope (compEnvC scope cl C X.env) fp) elt (rdE [] (Gz z) (.int (f z)) (Gz z)))
    (hs : ∀ x, foldedSetIterable iter X.env x = pure x := by intro _; rfl) : PS X (.Assign [.Name y py] (.ListComp elt [⟨tg, iter, ifs, 0⟩] scope pos) spos) (rdS mu G (nxO (G1.set i (some (.d (.list (((zs.filter pr).map f).map PyData.int))))))) := by
  refine ps_w (ps_setLc hc hN hy hyl hsw hi ok hg (fun s H C cl fp => ht_lc (ht s H C cl fp)) (fun s H C cl fp => he_lc (f := fun z => .int (f z)) (he s H C cl fp)) hs) (t_asgD fun sg H Q h => t_lc hst has hz sg H Q (t_of sg H Q ?_))
  rw [List.map_map] at h
  exact h
theorem sd_setLc {zs : List α} {enc : α → PyData} {pr : α → Bool} {f : α → PyData} {Gz : α → Gm} {y : Str} {py spos : Pos} (hc : X.calm = true) (hN : X.N.Nodup) (hy : X.N[i]? = some y) (hyl : X.env.scope.names.lookup y = some .local)
    (hsw : swapsWith (.ListComp elt [⟨tg, iter, ifs, 0⟩] scope pos) (some (.Name y py)) spos.line X.env = pure true) (hi : PI X tg iter (rdI R mu G (zs.map enc) G1)) (ok : BlkOk X.N X.env.scope scope own) (hz : zs.length ≤ 100000)
    (hst : Stays g (own.map (·.2))) (has : ∀ z ∈ zs, AsgD R g (enc z) (wipeG (hideG G1) (own.map (·.2))) (Gz z))
    (hg : ∀ (s : Shared) (H : Hp) (C : Addr) (cl : List (Str × Addr)) (fp : List Addr), PG (X.blk s H scope (compEnvC scope cl C X.env) fp) tg g)
    (ht : ∀ (s : Shared) (H : Hp) (C : Addr) (cl : List (Str × Addr)) (fp : List Addr), ∀ z ∈ zs, PTs (X.blk s H scope (compEnvC scope cl C X.env) fp) ifs (rdT [] (Gz z) (pr z) (Gz z)))
    (he : ∀ (s : Shared) (H : Hp) (C : Addr) (cl : List (Str × Addr)) (fp : List Addr), ∀ z ∈ zs, pr z = true → PE (X.blk s H scope (compEnvC scope cl C X.env) fp) elt (rdE [] (Gz z) (f z) (Gz z)))
    (hs : ∀ x, foldedSetIterable iter X.env x = pure x := by intro _; rfl) : PS X (.Assign [.Name y py] (.ListComp elt [⟨tg, iter, ifs, 0⟩] scope pos) spos) (rdS mu G (nxO (G1.set i (some (.d (.list ((zs.filter pr).map f))))))) :=
  ps_w (ps_setLc hc hN hy hyl hsw hi ok hg (fun s H C cl fp => ht_lc (ht s H C cl fp)) (fun s H C cl fp => he_lc (he s H C cl fp)) hs) (t_asgD fun sg H Q h => t_lc hst has hz sg H Q (t_of sg H Q h))
/-- y = {int: True for ..} on one line -/
theorem sd_setDc {zs : List α} {enc : α → PyData} {pr : α → Bool} {f : α → Int} {Gz : α → Gm} {y : Str} {py spos : Pos} {j : Nat} {vp : Pos} (hc : X.calm = true) (hN : X.N.Nodup) (hy : X.N[i]? = some y) (hyl : X.env.scope.names.lookup y = some .local)
    (hsw : swapsWith (.DictComp elt (.Constant (.bool true) j vp) [⟨tg, iter, ifs, 0⟩] scope pos) (some (.Name y py)) spos.line X.env = pure true) (hi : PI X tg iter (rdI R mu G (zs.map enc) G1)) (ok : BlkOk X.N X.env.scope scope own) (hz : zs.length ≤ 100000)
    (hst : Stays g (own.map (·.2))) (has : ∀ z ∈ zs, AsgD R g (enc z) (wipeG (hideG G1) (own.map (·.2))) (Gz z))
    (hg : ∀ (s : Shared) (H : Hp) (C : Addr) (cl : List (Str × Addr)) (fp : List Addr), PG (X.blk s H scope (compEnvC scope cl C X.env) fp) tg g)
    (ht : ∀ (s : Shared) (H : Hp) (C : Addr) (cl : List (Str × Addr)) (fp : List Addr), ∀ z ∈ zs, PTs (X.blk s H scope (compEnvC scope cl C X.env) fp) ifs (rdT [] (Gz z) (pr z) (Gz z)))
    (he : ∀ (s : Shared) (H : Hp) (C : Addr) (cl : List (Str × Addr)) (fp : List Addr), ∀ z ∈ zs, pr z = true → PE (X.blk s H scope (compEnvC scope cl C X.env) fp) elt (rdE [] (Gz z) (.int (f z)) (Gz z)))
    (hs : ∀ x, foldedSetIterable iter X.env x = pure x := by intro _; rfl) : PS X (.Assign [.Name y py] (.DictComp elt (.Constant (.bool true) j vp) [⟨tg, iter, ifs, 0⟩] scope pos) spos) (rdS mu G (nxO (G1.set i (some (.d (dictT (keysOf ((zs.filter pr).map f)))))))) :=
  ps_w (ps_setDc hc hN hy hyl hsw hi ok hg (fun s H C cl fp => ht_lc (ht s H C cl fp)) (fun s H C cl fp => he_lc (f := fun z => .int (f z)) (he s H C cl fp)) (fun s H C cl fp => pe_bl) hs) (t_asgD fun sg H Q h => t_dc hst has hz sg H Q h)
end
end DL

/-! A def that gives a new list. -/
namespace DL
open PySem PySem.Spec PyProof.Rows L2
def SpF (R : List PyData → List PyData → Prop) : Sp := fun vs H Q _ => ∃ B ds es, Ex B H ∧ DdAll B vs ds ∧ R ds es ∧ ∀ p ws B' H', Wf [] B H B' H' → B' p = none → H p = none → H' p = some (.lst ws) → DdAll B' ws es → Q (.ref p) H'
def rdN (mu : List Addr) (G : Gm) (es : List PyData) : TS := fun D sg H => ∃ H0 B0 B, Wf mu B0 H0 B H ∧ SOk mu H0 B H sg G ∧ ∀ p ws B' H', Wf mu B0 H0 B' H' → B' p = none → H0 p = none → H' p = some (.lst ws) → DdAll B' ws es → D.rt (.ref p) H'
theorem sn_ret {X : Cx} {mu : List Addr} {G G1 : Gm} {e : Expr} {es : List PyData} {pos : Pos} (he : PE X e (rdF mu G es G1)) : PSs X [.Return (some e) pos] (rdN mu G es) :=
  pss_one (ps_w (ps_ret he) fun D sg H ⟨H0, B0, B, w, s, k⟩ => ⟨H0, B0, B, w, s, fun p ws B1 H1 e1 w1 s1 hB h0 ho hH dv => k p ws B1 H1 w1 hB h0 hH dv⟩)
theorem fn_new {P : Program} {w : World} {K : PySem.W.Frag} {mg : Str → Option Value} {base : Heap} {x qual : Str} {st : Stmt} {f : Addr} {fd : FuncData} {N ps : List Str} {k : Nat}
    {R : List PyData → List PyData → Prop} (F : Fun K x qual st f fd) (S : FnScope N ps (defScope st)) (len : ∀ ds d, R ds d → ds.length = ps.length)
    (hb : ∀ (cdv : Value) (A : Around) (outer : List Env) (s : Shared) (H : Hp) (E : XK), Room k (A.deeper (envOfC qual (defScope st) s.heap.objs.size f cdv)) → ∀ ds d, R ds d → PSs (BX P w K mg base N qual st f cdv A outer s H E) (defBody st) (rdN [] (startG N ds) d)) :
    FnOk P w K mg base CX0 (k + 1) f fd ps (SpF R) := by
  refine F.ok S (fun vs H Q E ⟨B, ds, d, _, h, hR, _⟩ => h.len.trans (len ds d hR)) fun cdv A outer s H vs Q E hr ⟨B, ds, d, e, h, hR, q⟩ => ?_
  refine ⟨_, hb cdv A outer s H E hr ds d hR, H, B, B, Wf.refl e, sok_start h ?_, fun p ws B' H' w' hB h0 hH dv => q p ws B' H' w' hB h0 hH dv⟩
  have h1 := S.pre
  have h2 := congrArg List.length h1
  rw [List.length_take] at h2
  have h3 := len ds d hR
  omega
theorem pdf_call {X : Cx} {mu : List Addr} {G G1 : Gm} {ds es : List PyData} {e : Expr} {ex : List Expr} {pos p : Pos} {k : Nat} {n : Str} {R : List PyData → List PyData → Prop} (C : Cal X.prog X.w X.K X.mg X.base k n (SpF R)) (hr : Room k X.A) (hg : Gl X n) (ha : PA X (e :: ex) (rdA mu G ds G1)) (hR : R ds es) (hdb : (n == ("__debug__" : Str)) = false := by decide)
    (he : starEach (e :: ex) X.env = (false, eval e X.env) :: starEach ex X.env := by rfl) (hpl : (backTo pos (starEach ex X.env)).any (·.1) = false := by rfl) : PE X (.Call (.Name n p) (e :: ex) [] pos) (rdF mu G es G1) := by
  obtain ⟨f, fd, ps, F, hm, hk, hb⟩ := C
  refine pe_w (pe_call (E := E0) F hr hg hm hk hb .nil pass0 ha hdb he hpl) fun sg H Q ⟨H0, B0, B, w, s, kk⟩ => ⟨H0, B0, B, w, s, fun vs B1 H1 e1 w1 s1 dv => ?_⟩
  show SpF R (vs ++ []) H1 Q E0
  rw [List.append_nil]
  exact ⟨B1, ds, es, w1.s, dv, hR, fun p ws B2 H2 p2 hB h0 hH d2 => kk p ws B2 H2 (e1.trans p2.b) (w1.step p2) (s1.step p2) hB (h0_of w1 h0) (fun i a es q => s1.fresh h0 q) hH d2⟩
theorem pdf_listL {X : Cx} {mu : List Addr} {G G1 : Gm} {a : Expr} {p pos : Pos} {ds : List PyData} (hgl : Gl X "list") (hml : X.mg "list" = none) (h : PE X a (rdE mu G (.list ds) G1)) (hs : starEach [a] X.env = (false, eval a X.env) :: starEach [] X.env := by rfl) (hpl : (backTo pos (starEach [] X.env)).any (·.1) = false := by rfl) :
    PE X (.Call (.Name "list" p) [a] [] pos) (rdF mu G ds G1) :=
  pe_w (pe_callTy call_list_of hgl hml (by decide +kernel) (pa_cons h pa_nil hs) (he := hs) (hpl := hpl)) fun sg H Q ⟨H0, B0, B, w, s, k⟩ => ⟨H0, B0, B, w, s, fun v B1 H1 e1 w1 s1 dv => by
    cases dv with
    | lst h1 r1 =>
      rename_i vs
      refine ⟨_, _, rfl, .inl (.of (w1.s _ _ h1)), fun q nq => ?_⟩
      have pn := Wf.newU (o := .lst vs) w1.s nq
      exact k q _ B1 _ e1 (w1.step pn) (s1.step pn) (w1.s.back nq) (h0_of w1 nq) (fun i a es q => s1.fresh nq q) upd_same r1⟩
end DL

/-! The program's text, what stands at its top, the data. -/
namespace RK
open PySem PySem.Spec PyProof.Rows L2 DL

def topS (i : Nat) : Stmt := PySem.Challenge.pw_rankswithin_k47_whole_evidence_about_two.main.body.getD i (.Pass ⟨0, 0, 0, 0⟩)

/-- the built-ins are the built-ins still, the constants stand -/
structure Txt (mg : Str → Option Value) : Prop where
  len_ : mg "len" = none
  isinstance : mg "isinstance" = none
  tuple_ : mg "tuple" = none
  int_ : mg "int" = none
  bool_ : mg "bool" = none
  str_ : mg "str" = none
  list_ : mg "list" = none
  all_ : mg "all" = none
  any_ : mg "any" = none
  range_ : mg "range" = none
  enumerate_ : mg "enumerate" = none
  max_ : mg "max" = none
  min_ : mg "min" = none
  sorted_ : mg "sorted" = none
  reversed_ : mg "reversed" = none
  zip_ : mg "zip" = none
  abs_ : mg "abs" = none
  mostItems : ∃ t, mg "MOST_ITEMS" = some (.int 7 t)
  mostConstraints : ∃ t, mg "MOST_CONSTRAINTS" = some (.int 12 t)
  mostNumber : ∃ t, mg "MOST_NUMBER" = some (.int 20 t)
theorem hu65 {k : Nat} {A : Around} (hr : Room k A) : A.units + 65 < cLine := by
  have := hr.un
  omega
theorem hu62 {k : Nat} {A : Around} (hr : Room k A) : A.units + 62 < cLine := by
  have := hr.un
  omega
theorem hu1 {k : Nat} {A : Around} (hr : Room k A) : A.units + 1 < cLine := by
  have := hr.un
  omega

/-! ### the data -/
inductive Con where
  | win (i lo hi : Int)
  | ahd (a b : Int)
  deriving DecidableEq
structure Prob where
  n : Int
  cs : List Con
abbrev sWithin : Str := Str.ofString "within"
abbrev sAhead : Str := Str.ofString "ahead"
theorem sAW : ¬ sAhead = sWithin := by decide +kernel
theorem sWA : ¬ sWithin = sAhead := by decide +kernel
def dC : Con → PyData
  | .win i lo hi => .tuple [.str sWithin, .int i, .int lo, .int hi]
  | .ahd a b => .tuple [.str sAhead, .int a, .int b]
def dP (p : Prob) : PyData := .tuple [.int p.n, .tuple (p.cs.map dC)]
/-- a ranking, a row: a tuple of ints -/
def dR (r : List Int) : PyData := .tuple (r.map PyData.int)
def WfC (n : Int) : Con → Prop
  | .win i lo hi => 0 ≤ i ∧ i < n ∧ 1 ≤ lo ∧ lo ≤ hi ∧ hi ≤ n
  | .ahd a b => 0 ≤ a ∧ a < n ∧ 0 ≤ b ∧ b < n ∧ a ≠ b
structure OkP (p : Prob) : Prop where
  n1 : 1 ≤ p.n
  n5 : p.n ≤ 5
  c12 : p.cs.length ≤ 12
  wf : ∀ c ∈ p.cs, WfC p.n c

/-- an integer, neither True nor False, within two bounds -/
def wholeB (v : PyData) (lo hi : Int) : Bool := match v with
  | .int i => decide (lo ≤ i) && decide (i ≤ hi)
  | _ => false
end RK

namespace RK
open PySem PySem.Spec PyProof.Rows L2 DL
local macro_rules | `(tactic| walk_at "sf") => `(tactic| first | exact True.intro | assumption)
local macro_rules | `(tactic| walk_at "sz") => `(tactic| first | decide | (simp only [List.length_cons, List.length_nil, List.length_map, List.length_append, List.length_reverse, rng_len, sizeLine_eq]; omega))
local macro_rules | `(tactic| walk_at "r2add") => `(tactic| first | exact r2_addI | exact r2_addT (by walk_at "sz") | exact r2_addL (by walk_at "sz"))
local macro_rules | `(tactic| walk_at "r2i0") => `(tactic| exact r2_I0)
local macro_rules | `(tactic| walk_at "r2b0") => `(tactic| exact r2_B0)
local macro_rules | `(tactic| walk_at "r2mul") => `(tactic| exact r2_I (by unfold CMul; omega))
local macro_rules | `(tactic| walk_at "r2mod") => `(tactic| exact r2_I (by omega))
local macro_rules | `(tactic| walk_at "r2div") => `(tactic| exact r2_I (by unfold CDivN; omega))
local macro_rules | `(tactic| walk_at "r2pow") => `(tactic| exact r2_I (by unfold CPow; decide))
local macro_rules | `(tactic| walk_at "r2eq") => `(tactic| first | exact r2_eqI | exact r2_eqS | exact r2_eqB | exact r2_eqD (by assumption) (by assumption))
local macro_rules | `(tactic| walk_at "r2ne") => `(tactic| first | exact r2_neI | exact r2_neS | exact r2_neB)
local macro_rules | `(tactic| walk_at "r2in") => `(tactic| first | exact r2_inLI | exact r2_inTI | assumption)
local macro_rules | `(tactic| walk_at "r2nin") => `(tactic| first | exact r2_ninLI | exact r2_ninTI | assumption)
local macro_rules | `(tactic| walk_at "r2is") => `(tactic| exact r2_isN)
local macro_rules | `(tactic| walk_at "r2isn") => `(tactic| exact r2_notN)
local macro_rules | `(tactic| walk_at "r2ix") => `(tactic| first | exact r2_ixT rfl | exact r2_ixL rfl | exact r2_ixT (by assumption) | exact r2_ixL (by assumption))
local macro_rules | `(tactic| walk_at "rc1") => `(tactic| first | exact rc_lenT | exact rc_lenL | exact rc_max2 | exact rc_max (by walk_at "sz") | exact rc_min (by walk_at "sz") | exact rc_max (ns := _ :: _) (by walk_at "sz") | exact rc_min (ns := _ :: _) (by walk_at "sz") | exact rc_all | exact rc_any | exact rc_abs | exact rc_int | exact rc_tupL | assumption)
local macro_rules | `(tactic| walk_at "mem") => `(tactic| first | assumption | (simp; done))
local macro_rules | `(tactic| walk_at "rr") => `(tactic| first | exact ⟨_, rfl, rfl⟩ | exact ⟨_, _, rfl, rfl⟩ | exact ⟨_, _, _, rfl, rfl⟩ | exact ⟨_, by assumption, rfl, rfl⟩ | exact ⟨_, _, by assumption, rfl, rfl⟩ | exact ⟨_, _, _, by assumption, rfl, rfl⟩ | assumption)
local macro_rules | `(tactic| walk_at "rg") => `(tactic| first | omega | (simp only [List.length_cons, List.length_nil, List.length_map]; omega))
local macro_rules | `(tactic| walk_at "hz") => `(tactic| first | assumption | (simp only [List.length_cons, List.length_nil, List.length_map, rng_len, List.length_zipIdx, List.length_zip]; omega) | omega)
local macro_rules | `(tactic| walk_at "bb") => `(tactic| first | rfl | (simp [truD, isTupB, isStrB, isIntB, isBoolB, wholeB, sAW, sWA]; done) | (simp_all [truD, isTupB, isStrB, isIntB, isBoolB, wholeB, sAW, sWA]; done) | (simp [truD, isTupB, isStrB, isIntB, isBoolB, wholeB, sAW, sWA]; omega))
local macro_rules | `(tactic| walk_at "blkfree") => `(tactic| ((repeat' (first | exact List.forall_mem_nil _ | refine List.forall_mem_cons.mpr ⟨?_, ?_⟩)) <;> first | (intro hf; cases hf; done) | exact fun _ => .inl rfl | exact fun _ => .inr rfl))

section
variable {P : Program} {w : World} {K : PySem.W.Frag} {mg : Str → Option Value} {base : Heap} {f : Addr} {fd : FuncData}

abbrev s_is_whole : Stmt := topS 7
theorem sc_is_whole : FnScope ["value", "low", "high"] ["value", "low", "high"] (defScope s_is_whole) := ⟨rfl, rfl, rfl, by decide +kernel, rfl, by decide +kernel, by decide +kernel⟩
def R_is_whole : List PyData → PyData → Prop := fun ds d => ∃ v lo hi, ds = [v, .int lo, .int hi] ∧ d = .bool (wholeB v lo hi)
theorem int_of {v : PyData} (h1 : isIntB v = true) (h2 : (!truD (.bool (isBoolB v))) = true) : ∃ i, v = .int i := by
  cases v <;> simp_all [isIntB, isBoolB, truD]
theorem whole_eq {v : PyData} {lo hi : Int} : (isIntB v && (!truD (.bool (isBoolB v)) && wholeB v lo hi)) = wholeB v lo hi := by
  cases v <;> simp [isIntB, isBoolB, wholeB, truD]
theorem ok_is_whole (T : Txt mg) (F : Fun K "is_whole" "is_whole" s_is_whole f fd) :
    FnOk P w K mg base CX0 1 f fd ["value", "low", "high"] (SpP R_is_whole) := by
  refine fn_pure F sc_is_whole (by rintro _ _ ⟨v, lo, hi, rfl, rfl⟩; rfl) fun cdv A outer s H E hr ds d h => ?_
  obtain ⟨v, lo, hi, rfl, rfl⟩ := h
  refine' sd_ret (pd_eq ?a ?b) rfl
  case a =>
    refine pd_and (pd_isi (pd_var (i := 0) rfl rfl (.inl rfl)) rfl T.isinstance rfl T.int_ (by decide +kernel) kit_int) fun h1 => pd_and (c' := wholeB v lo hi) (pd_not (pd_isi (pd_var (i := 0) rfl rfl (.inl rfl)) rfl T.isinstance rfl T.bool_ (by decide +kernel) kit_bool) (by walk_at "sf")) fun h2 => pd_one ?_
    obtain ⟨i, rfl⟩ := int_of h1 h2
    exact (pd_chain op_le op_le (pd_var (i := 1) rfl rfl (.inl rfl)) (pd_var (i := 0) rfl rfl (.inl rfl)) (pd_var (i := 2) rfl rfl (.inl rfl)) (by walk_at "r2b0") (fun _ => by walk_at "r2b0"))
  case b => rw [whole_eq]

abbrev s_is_between : Stmt := topS 19
theorem sc_is_between : FnScope ["value", "low", "high"] ["value", "low", "high"] (defScope s_is_between) := ⟨rfl, rfl, rfl, by decide +kernel, rfl, by decide +kernel, by decide +kernel⟩
def R_is_between : List PyData → PyData → Prop := R_is_whole
theorem ok_is_between (T : Txt mg) (F : Fun K "is_between" "is_between" s_is_between f fd) :
    FnOk P w K mg base CX0 1 f fd ["value", "low", "high"] (SpP R_is_between) := by
  refine fn_pure F sc_is_between (by rintro _ _ ⟨v, lo, hi, rfl, rfl⟩; rfl) fun cdv A outer s H E hr ds d h => ?_
  obtain ⟨v, lo, hi, rfl, rfl⟩ := h
  refine' sd_ret (pd_eq ?a ?b) rfl
  case a =>
    refine pd_and (pd_isi (pd_var (i := 0) rfl rfl (.inl rfl)) rfl T.isinstance rfl T.int_ (by decide +kernel) kit_int) fun h1 => pd_and (c' := wholeB v lo hi) (pd_not (pd_isi (pd_var (i := 0) rfl rfl (.inl rfl)) rfl T.isinstance rfl T.bool_ (by decide +kernel) kit_bool) (by walk_at "sf")) fun h2 => pd_one ?_
    obtain ⟨i, rfl⟩ := int_of h1 h2
    exact (pd_chain op_le op_le (pd_var (i := 1) rfl rfl (.inl rfl)) (pd_var (i := 0) rfl rfl (.inl rfl)) (pd_var (i := 2) rfl rfl (.inl rfl)) (by walk_at "r2b0") (fun _ => by walk_at "r2b0"))
  case b => rw [whole_eq]

abbrev s_is_constraint : Stmt := topS 8
theorem sc_is_constraint : FnScope ["items", "value", "item"] ["items", "value"] (defScope s_is_constraint) := ⟨rfl, rfl, rfl, by decide +kernel, rfl, by decide +kernel, by decide +kernel⟩
def R_is_constraint : List PyData → PyData → Prop := fun ds d => ∃ n c, WfC n c ∧ ds = [.int n, dC c] ∧ d = .bool true
theorem ok_is_constraint (T : Txt mg) (F : Fun K "is_constraint" "is_constraint" s_is_constraint f fd)
    (C_is_whole : Cal P w K mg base 1 "is_whole" (SpP R_is_whole)) :
    FnOk P w K mg base CX0 2 f fd ["items", "value"] (SpP R_is_constraint) := by
  refine fn_pure F sc_is_constraint (by rintro _ _ ⟨n, c, hw, rfl, rfl⟩; rfl) fun cdv A outer s H E hr ds d h => ?_
  obtain ⟨n, c, hw, rfl, rfl⟩ := h
  cases c with
  | win i lo hi =>
    obtain ⟨w1, w2, w3, w4, w5⟩ := hw
    unfold dC
    refine sd_ifF (by exact (PW.pt (pdw_or (pdt_not (pdt_tru (pd_isi (pd_var (i := 1) rfl rfl (.inl rfl)) rfl T.isinstance rfl T.tuple_ (by decide +kernel) kit_tup) (by walk_at "sf"))) (fun _ => (pdw_or (pdt_cmp (op_eqAll hr.units) (pd_callB call_len rfl T.len_ (by decide +kernel) (pda_cons (pd_var (i := 1) rfl rfl (.inl rfl)) pda_nil) (by walk_at "rc1")) pd_int (by walk_at "r2eq") rfl) (fun _ => (pdw_or1 (pdt_not (pdt_tru (pd_isi (pd_ix ix_seq (pd_var (i := 1) rfl rfl (.inl rfl)) pd_int (by walk_at "r2ix") (fun _ _ => rfl)) rfl T.isinstance rfl T.str_ (by decide +kernel) kit_str) (by walk_at "sf")))))))))) (by walk_at "bb") ?_
    refine sd_ifT (by exact (pdt_cmp (op_eqAll hr.units) (pd_ix ix_seq (pd_var (i := 1) rfl rfl (.inl rfl)) pd_int (by walk_at "r2ix") (fun _ _ => rfl)) pd_str (by walk_at "r2eq") rfl)) (by walk_at "bb") ?_
    refine sd_ifF (by exact (PW.pt (pdw_or (pdt_cmp (op_neAll hr.units) (pd_callB call_len rfl T.len_ (by decide +kernel) (pda_cons (pd_var (i := 1) rfl rfl (.inl rfl)) pda_nil) (by walk_at "rc1")) pd_int (by walk_at "r2ne") rfl) (fun _ => (pdw_or1 (pdt_not (pdt_tru (pd_call C_is_whole (hr.mono (by decide)) rfl (pda_cons (pd_ix ix_seq (pd_var (i := 1) rfl rfl (.inl rfl)) pd_int (by walk_at "r2ix") (fun _ _ => rfl)) (pda_cons pd_int (pda_cons (pd_bin op_sub (pd_var (i := 0) rfl rfl (.inr (.inl rfl))) pd_int (by walk_at "r2i0")) pda_nil))) (by walk_at "rr")) (by walk_at "sf")))))))) (by walk_at "bb") ?_
    exact sd_ret (pd_eq (by exact (pd_and (pd_call C_is_whole (hr.mono (by decide)) rfl (pda_cons (pd_ix ix_seq (pd_var (i := 1) rfl rfl (.inl rfl)) pd_int (by walk_at "r2ix") (fun _ _ => rfl)) (pda_cons pd_int (pda_cons (pd_var (i := 0) rfl rfl (.inr (.inl rfl))) pda_nil))) (by walk_at "rr")) (fun _ => (pd_one (pd_call C_is_whole (hr.mono (by decide)) rfl (pda_cons (pd_ix ix_seq (pd_var (i := 1) rfl rfl (.inl rfl)) pd_int (by walk_at "r2ix") (fun _ _ => rfl)) (pda_cons (pd_ix ix_seq (pd_var (i := 1) rfl rfl (.inl rfl)) pd_int (by walk_at "r2ix") (fun _ _ => rfl)) (pda_cons (pd_var (i := 0) rfl rfl (.inr (.inl rfl))) pda_nil))) (by walk_at "rr")))))) (by walk_at "bb")) rfl
  | ahd a b =>
    obtain ⟨w1, w2, w3, w4, w5⟩ := hw
    unfold dC
    refine sd_ifF (by exact (PW.pt (pdw_or (pdt_not (pdt_tru (pd_isi (pd_var (i := 1) rfl rfl (.inl rfl)) rfl T.isinstance rfl T.tuple_ (by decide +kernel) kit_tup) (by walk_at "sf"))) (fun _ => (pdw_or (pdt_cmp (op_eqAll hr.units) (pd_callB call_len rfl T.len_ (by decide +kernel) (pda_cons (pd_var (i := 1) rfl rfl (.inl rfl)) pda_nil) (by walk_at "rc1")) pd_int (by walk_at "r2eq") rfl) (fun _ => (pdw_or1 (pdt_not (pdt_tru (pd_isi (pd_ix ix_seq (pd_var (i := 1) rfl rfl (.inl rfl)) pd_int (by walk_at "r2ix") (fun _ _ => rfl)) rfl T.isinstance rfl T.str_ (by decide +kernel) kit_str) (by walk_at "sf")))))))))) (by walk_at "bb") ?_
    refine sd_ifF (by exact (pdt_cmp (op_eqAll hr.units) (pd_ix ix_seq (pd_var (i := 1) rfl rfl (.inl rfl)) pd_int (by walk_at "r2ix") (fun _ _ => rfl)) pd_str (by walk_at "r2eq") rfl)) (by decide +kernel) ?_
    refine sd_ifF (by exact (PW.pt (pdw_or (pdt_cmp (op_neAll hr.units) (pd_ix ix_seq (pd_var (i := 1) rfl rfl (.inl rfl)) pd_int (by walk_at "r2ix") (fun _ _ => rfl)) pd_str (by walk_at "r2ne") rfl) (fun _ => (pdw_or1 (pdt_cmp (op_neAll hr.units) (pd_callB call_len rfl T.len_ (by decide +kernel) (pda_cons (pd_var (i := 1) rfl rfl (.inl rfl)) pda_nil) (by walk_at "rc1")) pd_int (by walk_at "r2ne") rfl)))))) (by walk_at "bb") ?_
    refine' sd_ret (pd_eq ?a ?b) rfl
    case a =>
      refine pd_and (pd_callB (cr_all rfl) rfl T.all_ (by decide +kernel) (pda_cons (pd_lcb (zs := [a, b]) (enc := PyData.int) (own := [("item", 2)]) rfl sc_is_constraint.nd (pdi_tup (by exact (pd_slice sl_tupF (pd_var (i := 1) rfl rfl (.inl rfl)) (pdo_some pd_int) pdo_none rs_tup))) (blkOk_by (own := [("item", 2)]) (N := ["items", "value", "item"]) (sc := defScope s_is_constraint) (by decide +kernel)) (by walk_at "hz") (stays_name (j := 2) (by decide)) (fun z _ => asg_name) (fun _ _ _ _ _ => pg_name (i := 2) sc_is_constraint.nd rfl (.inl rfl)) (fun _ _ _ _ _ z _ => by exact (pd_call C_is_whole (hr.mono (by decide)) rfl (pda_cons (pd_var (i := 2) rfl rfl (.inl rfl)) (pda_cons pd_int (pda_cons (pd_bin op_sub (pd_var (i := 0) rfl rfl (.inr (.inl rfl))) pd_int (by walk_at "r2i0")) pda_nil))) (by walk_at "rr")))) pda_nil) rc_all) fun _ => pd_one (pd_cmp (op_neAll hr.units) (pd_ix ix_seq (pd_var (i := 1) rfl rfl (.inl rfl)) pd_int (by walk_at "r2ix") (fun _ _ => rfl)) (pd_ix ix_seq (pd_var (i := 1) rfl rfl (.inl rfl)) pd_int (by walk_at "r2ix") (fun _ _ => rfl)) (by walk_at "r2ne") rfl)
    case b => walk_at "bb"
end
end RK

namespace RK
open PySem PySem.Spec PyProof.Rows L2 DL
local macro_rules | `(tactic| walk_at "sf") => `(tactic| first | exact True.intro | assumption)
local macro_rules | `(tactic| walk_at "sz") => `(tactic| first | decide | (simp only [List.length_cons, List.length_nil, List.length_map, List.length_append, List.length_reverse, rng_len, sizeLine_eq]; omega))
local macro_rules | `(tactic| walk_at "r2add") => `(tactic| first | exact r2_addI | exact r2_addT (by walk_at "sz") | exact r2_addL (by walk_at "sz"))
local macro_rules | `(tactic| walk_at "r2i0") => `(tactic| exact r2_I0)
local macro_rules | `(tactic| walk_at "r2b0") => `(tactic| exact r2_B0)
local macro_rules | `(tactic| walk_at "r2mul") => `(tactic| exact r2_I (by unfold CMul; omega))
local macro_rules | `(tactic| walk_at "r2mod") => `(tactic| exact r2_I (by omega))
local macro_rules | `(tactic| walk_at "r2div") => `(tactic| exact r2_I (by unfold CDivN; omega))
local macro_rules | `(tactic| walk_at "r2pow") => `(tactic| exact r2_I (by unfold CPow; decide))
local macro_rules | `(tactic| walk_at "r2eq") => `(tactic| first | exact r2_eqI | exact r2_eqS | exact r2_eqB | exact r2_eqD (by assumption) (by assumption))
local macro_rules | `(tactic| walk_at "r2ne") => `(tactic| first | exact r2_neI | exact r2_neS | exact r2_neB)
local macro_rules | `(tactic| walk_at "r2in") => `(tactic| first | exact r2_inLI | exact r2_inTI | assumption)
local macro_rules | `(tactic| walk_at "r2nin") => `(tactic| first | exact r2_ninLI | exact r2_ninTI | assumption)
local macro_rules | `(tactic| walk_at "r2is") => `(tactic| exact r2_isN)
local macro_rules | `(tactic| walk_at "r2isn") => `(tactic| exact r2_notN)
local macro_rules | `(tactic| walk_at "r2ix") => `(tactic| first | exact r2_ixT rfl | exact r2_ixL rfl | exact r2_ixT (by assumption) | exact r2_ixL (by assumption))
local macro_rules | `(tactic| walk_at "rc1") => `(tactic| first | exact rc_lenT | exact rc_lenL | exact rc_max2 | exact rc_max (by walk_at "sz") | exact rc_min (by walk_at "sz") | exact rc_max (ns := _ :: _) (by walk_at "sz") | exact rc_min (ns := _ :: _) (by walk_at "sz") | exact rc_all | exact rc_any | exact rc_abs | exact rc_int | exact rc_tupL | assumption)
local macro_rules | `(tactic| walk_at "mem") => `(tactic| first | assumption | (simp; done))
local macro_rules | `(tactic| walk_at "rr") => `(tactic| first | exact ⟨_, rfl, rfl⟩ | exact ⟨_, _, rfl, rfl⟩ | exact ⟨_, _, _, rfl, rfl⟩ | exact ⟨_, by assumption, rfl, rfl⟩ | exact ⟨_, _, by assumption, rfl, rfl⟩ | exact ⟨_, _, _, by assumption, rfl, rfl⟩ | assumption)
local macro_rules | `(tactic| walk_at "rg") => `(tactic| first | omega | (simp only [List.length_cons, List.length_nil, List.length_map]; omega))
local macro_rules | `(tactic| walk_at "hz") => `(tactic| first | assumption | (simp only [List.length_cons, List.length_nil, List.length_map, rng_len, List.length_zipIdx, List.length_zip]; omega) | omega)
local macro_rules | `(tactic| walk_at "bb") => `(tactic| first | rfl | (simp [truD, isTupB, isStrB, isIntB, isBoolB, wholeB, sAW, sWA]; done) | (simp_all [truD, isTupB, isStrB, isIntB, isBoolB, wholeB, sAW, sWA]; done) | (simp [truD, isTupB, isStrB, isIntB, isBoolB, wholeB, sAW, sWA]; omega))
local macro_rules | `(tactic| walk_at "blkfree") => `(tactic| ((repeat' (first | exact List.forall_mem_nil _ | refine List.forall_mem_cons.mpr ⟨?_, ?_⟩)) <;> first | (intro hf; cases hf; done) | exact fun _ => .inl rfl | exact fun _ => .inr rfl))

section
variable {P : Program} {w : World} {K : PySem.W.Frag} {mg : Str → Option Value} {base : Heap} {f : Addr} {fd : FuncData}

abbrev s_is_problem : Stmt := topS 9
theorem sc_is_problem : FnScope ["value", "constraint"] ["value"] (defScope s_is_problem) := ⟨rfl, rfl, rfl, by decide +kernel, rfl, by decide +kernel, by decide +kernel⟩
def R_is_problem : List PyData → PyData → Prop := fun ds d => ∃ p, OkP p ∧ ds = [dP p] ∧ d = .bool true
theorem all_true {α : Type} (l : List α) : (l.map fun _ => true).all id = true := by
  induction l with
  | nil => rfl
  | cons x l ih => rw [List.map_cons, List.all_cons, ih]; rfl
theorem ok_is_problem (T : Txt mg) (F : Fun K "is_problem" "is_problem" s_is_problem f fd)
    (C_is_whole : Cal P w K mg base 1 "is_whole" (SpP R_is_whole))
    (C_is_constraint : Cal P w K mg base 2 "is_constraint" (SpP R_is_constraint)) :
    FnOk P w K mg base CX0 3 f fd ["value"] (SpP R_is_problem) := by
  refine fn_pure F sc_is_problem (by rintro _ _ ⟨p, hp, rfl, rfl⟩; rfl) fun cdv A outer s H E hr ds d h => ?_
  obtain ⟨p, hp, rfl, rfl⟩ := h
  obtain ⟨n, cs⟩ := p
  obtain ⟨n1, n5, c12, wf⟩ := hp
  unfold dP
  simp only at n1 n5 c12 wf ⊢
  refine sd_ifF (by exact (PW.pt (pdw_or (pdt_not (pdt_tru (pd_isi (pd_var (i := 0) rfl rfl (.inr (.inl rfl))) rfl T.isinstance rfl T.tuple_ (by decide +kernel) kit_tup) (by walk_at "sf"))) (fun _ => (pdw_or (pdt_cmp (op_neAll hr.units) (pd_callB call_len rfl T.len_ (by decide +kernel) (pda_cons (pd_var (i := 0) rfl rfl (.inr (.inl rfl))) pda_nil) (by walk_at "rc1")) pd_int (by walk_at "r2ne") rfl) (fun _ => (pdw_or1 (pdt_not (pdt_tru (pd_call C_is_whole (hr.mono (by decide)) rfl (pda_cons (pd_ix ix_seq (pd_var (i := 0) rfl rfl (.inr (.inl rfl))) pd_int (by walk_at "r2ix") (fun _ _ => rfl)) (pda_cons pd_int (pda_cons (pd_glob rfl T.mostItems) pda_nil))) (by walk_at "rr")) (by walk_at "sf")))))))))) ?_ ?_
  · have h5 : n ≤ 7 := by omega
    simp [truD, isTupB, wholeB, n1, h5]
  refine sd_ifF (by exact (PW.pt (pdw_or (pdt_not (pdt_tru (pd_isi (pd_ix ix_seq (pd_var (i := 0) rfl rfl (.inr (.inl rfl))) pd_int (by walk_at "r2ix") (fun _ _ => rfl)) rfl T.isinstance rfl T.tuple_ (by decide +kernel) kit_tup) (by walk_at "sf"))) (fun _ => (pdw_or1 (pdt_cmp op_gt (pd_callB call_len rfl T.len_ (by decide +kernel) (pda_cons (pd_ix ix_seq (pd_var (i := 0) rfl rfl (.inr (.inl rfl))) pd_int (by walk_at "r2ix") (fun _ _ => rfl)) pda_nil) (by walk_at "rc1")) (pd_glob rfl T.mostConstraints) (by walk_at "r2b0") rfl)))))) ?_ ?_
  · simp [truD, isTupB]
    omega
  exact sd_ret (pd_eq (by exact (pd_callB (cr_all rfl) rfl T.all_ (by decide +kernel) (pda_cons (pd_lcb (zs := cs) (enc := dC) (f := fun _ => true) (own := [("constraint", 1)]) rfl sc_is_problem.nd (pdi_tup (by exact (pd_ix ix_seq (pd_var (i := 0) rfl rfl (.inr (.inl rfl))) pd_int (by walk_at "r2ix") (fun _ _ => rfl)))) (blkOk_by (own := [("constraint", 1)]) (N := ["value", "constraint"]) (sc := defScope s_is_problem) (by decide +kernel)) (by walk_at "hz") (stays_name (j := 1) (by decide)) (fun z _ => asg_name) (fun _ _ _ _ _ => pg_name (i := 1) sc_is_problem.nd rfl (.inl rfl)) (fun _ _ _ _ _ z hz => by exact (pd_call C_is_constraint (hr.mono (by decide)) rfl (pda_cons (pd_ix ix_seq (pd_var (i := 0) rfl rfl (.inr (.inl rfl))) pd_int (by walk_at "r2ix") (fun _ _ => rfl)) (pda_cons (pd_var (i := 1) rfl rfl (.inl rfl)) pda_nil)) ⟨n, z, wf z hz, rfl, rfl⟩))) pda_nil) rc_all)) (by rw [all_true])) rfl

abbrev s_check_problem_p : Stmt := topS 14
theorem sc_check_problem_p : FnScope ["problem"] ["problem"] (defScope s_check_problem_p) := ⟨rfl, rfl, rfl, by decide +kernel, rfl, by decide +kernel, by decide +kernel⟩
def R_check_problem_p : List PyData → PyData → Prop := fun ds d => ∃ p, OkP p ∧ ds = [dP p] ∧ d = .none
theorem ok_check_problem_p (T : Txt mg) (F : Fun K "check_problem" "check_problem" s_check_problem_p f fd)
    (C_is_problem : Cal P w K mg base 3 "is_problem" (SpP R_is_problem)) :
    FnOk P w K mg base CX0 4 f fd ["problem"] (SpP R_check_problem_p) := by
  refine fn_pure F sc_check_problem_p (by rintro _ _ ⟨p, hp, rfl, rfl⟩; rfl) fun cdv A outer s H E hr ds d h => ?_
  obtain ⟨p, hp, rfl, rfl⟩ := h
  refine sd_ifF (by exact (pdt_not (pdt_tru (pd_call C_is_problem (hr.mono (by decide)) rfl (pda_cons (pd_var (i := 0) rfl rfl (.inl rfl)) pda_nil) (by walk_at "rr")) (by walk_at "sf")))) (by walk_at "bb") ?_
  exact sd_nil rfl
abbrev s_check_problem_w : Stmt := topS 17
theorem sc_check_problem_w : FnScope ["value"] ["value"] (defScope s_check_problem_w) := ⟨rfl, rfl, rfl, by decide +kernel, rfl, by decide +kernel, by decide +kernel⟩
def R_check_problem_w : List PyData → PyData → Prop := R_check_problem_p
theorem ok_check_problem_w (T : Txt mg) (F : Fun K "check_problem" "check_problem" s_check_problem_w f fd)
    (C_is_problem : Cal P w K mg base 3 "is_problem" (SpP R_is_problem)) :
    FnOk P w K mg base CX0 4 f fd ["value"] (SpP R_check_problem_w) := by
  refine fn_pure F sc_check_problem_w (by rintro _ _ ⟨p, hp, rfl, rfl⟩; rfl) fun cdv A outer s H E hr ds d h => ?_
  obtain ⟨p, hp, rfl, rfl⟩ := h
  refine sd_ifF (by exact (pdt_not (pdt_tru (pd_call C_is_problem (hr.mono (by decide)) rfl (pda_cons (pd_var (i := 0) rfl rfl (.inl rfl)) pda_nil) (by walk_at "rr")) (by walk_at "sf")))) (by walk_at "bb") ?_
  exact sd_nil rfl

abbrev s_is_item_w : Stmt := topS 20
theorem sc_is_item_w : FnScope ["value", "problem"] ["value", "problem"] (defScope s_is_item_w) := ⟨rfl, rfl, rfl, by decide +kernel, rfl, by decide +kernel, by decide +kernel⟩
def R_is_item_w : List PyData → PyData → Prop := fun ds d => ∃ v p, ds = [v, dP p] ∧ d = .bool (wholeB v 0 (p.n - 1))
theorem ok_is_item_w (T : Txt mg) (F : Fun K "is_item" "is_item" s_is_item_w f fd)
    (C_is_between : Cal P w K mg base 1 "is_between" (SpP R_is_between)) :
    FnOk P w K mg base CX0 2 f fd ["value", "problem"] (SpP R_is_item_w) := by
  refine fn_pure F sc_is_item_w (by rintro _ _ ⟨v, p, rfl, rfl⟩; rfl) fun cdv A outer s H E hr ds d h => ?_
  obtain ⟨v, p, rfl, rfl⟩ := h
  exact sd_ret (by exact (pd_call C_is_between (hr.mono (by decide)) rfl (pda_cons (pd_var (i := 0) rfl rfl (.inl rfl)) (pda_cons pd_int (pda_cons (pd_bin op_sub (pd_ix ix_seq (pd_var (i := 1) rfl rfl (.inl rfl)) pd_int (by walk_at "r2ix") (fun _ _ => rfl)) pd_int (by walk_at "r2i0")) pda_nil))) (by walk_at "rr"))) rfl
abbrev s_is_item_e : Stmt := topS 48
theorem sc_is_item_e : FnScope ["problem", "value"] ["problem", "value"] (defScope s_is_item_e) := ⟨rfl, rfl, rfl, by decide +kernel, rfl, by decide +kernel, by decide +kernel⟩
def R_is_item_e : List PyData → PyData → Prop := fun ds d => ∃ v p, ds = [dP p, v] ∧ d = .bool (wholeB v 0 (p.n - 1))
theorem ok_is_item_e (T : Txt mg) (F : Fun K "is_item" "is_item" s_is_item_e f fd)
    (C_is_whole : Cal P w K mg base 1 "is_whole" (SpP R_is_whole)) :
    FnOk P w K mg base CX0 2 f fd ["problem", "value"] (SpP R_is_item_e) := by
  refine fn_pure F sc_is_item_e (by rintro _ _ ⟨v, p, rfl, rfl⟩; rfl) fun cdv A outer s H E hr ds d h => ?_
  obtain ⟨v, p, rfl, rfl⟩ := h
  exact sd_ret (by exact (pd_call C_is_whole (hr.mono (by decide)) rfl (pda_cons (pd_var (i := 1) rfl rfl (.inl rfl)) (pda_cons pd_int (pda_cons (pd_bin op_sub (pd_ix ix_seq (pd_var (i := 0) rfl rfl (.inl rfl)) pd_int (by walk_at "r2ix") (fun _ _ => rfl)) pd_int (by walk_at "r2i0")) pda_nil))) (by walk_at "rr"))) rfl

/-! rankings -/
def idx (r : List Int) (i : Int) : Int := (r.idxOf i : Nat)
def holdsB : Con → List Int → Bool
  | .ahd a b, r => decide (idx r a < idx r b)
  | .win i lo hi, r => decide (lo ≤ idx r i + 1) && decide (idx r i + 1 ≤ hi)
def InR : Con → List Int → Prop
  | .ahd a b, r => a ∈ r ∧ b ∈ r
  | .win i _ _, r => i ∈ r
def goodB (p : Prob) (r : List Int) : Bool := p.cs.all fun c => holdsB c r
abbrev s_holds : Stmt := topS 11
theorem sc_holds : FnScope ["constraint", "ranking"] ["constraint", "ranking"] (defScope s_holds) := ⟨rfl, rfl, rfl, by decide +kernel, rfl, by decide +kernel, by decide +kernel⟩
def R_holds : List PyData → PyData → Prop := fun ds d => ∃ c r, InR c r ∧ ds = [dC c, dR r] ∧ d = .bool (holdsB c r)
theorem ok_holds (T : Txt mg) (F : Fun K "holds" "holds" s_holds f fd) :
    FnOk P w K mg base CX0 1 f fd ["constraint", "ranking"] (SpP R_holds) := by
  refine fn_pure F sc_holds (by rintro _ _ ⟨c, r, hi, rfl, rfl⟩; rfl) fun cdv A outer s H E hr ds d h => ?_
  obtain ⟨c, r, hi, rfl, rfl⟩ := h
  cases c with
  | ahd a b =>
    obtain ⟨h1, h2⟩ := hi
    unfold dC dR
    refine sd_ifT (by exact (pdt_cmp (op_eqAll hr.units) (pd_ix ix_seq (pd_var (i := 0) rfl rfl (.inl rfl)) pd_int (by walk_at "r2ix") (fun _ _ => rfl)) pd_str (by walk_at "r2eq") rfl)) (by walk_at "bb") ?_
    exact sd_ret (by exact (pd_cmp op_lt (pd_index hr.hd (pd_var (i := 1) rfl rfl (.inl rfl)) (pd_ix ix_seq (pd_var (i := 0) rfl rfl (.inl rfl)) pd_int (by walk_at "r2ix") (fun _ _ => rfl)) (by walk_at "mem")) (pd_index hr.hd (pd_var (i := 1) rfl rfl (.inl rfl)) (pd_ix ix_seq (pd_var (i := 0) rfl rfl (.inl rfl)) pd_int (by walk_at "r2ix") (fun _ _ => rfl)) (by walk_at "mem")) (by walk_at "r2b0") rfl)) rfl
  | win i lo hi' =>
    have h1 : i ∈ r := hi
    unfold dC dR
    refine sd_ifF (by exact (pdt_cmp (op_eqAll hr.units) (pd_ix ix_seq (pd_var (i := 0) rfl rfl (.inl rfl)) pd_int (by walk_at "r2ix") (fun _ _ => rfl)) pd_str (by walk_at "r2eq") rfl)) (by decide +kernel) ?_
    exact sd_ret (by exact (pd_chain op_le op_le (pd_ix ix_seq (pd_var (i := 0) rfl rfl (.inl rfl)) pd_int (by walk_at "r2ix") (fun _ _ => rfl)) (pd_bin op_addAll (pd_index hr.hd (pd_var (i := 1) rfl rfl (.inl rfl)) (pd_ix ix_seq (pd_var (i := 0) rfl rfl (.inl rfl)) pd_int (by walk_at "r2ix") (fun _ _ => rfl)) (by walk_at "mem")) pd_int (by walk_at "r2add")) (pd_ix ix_seq (pd_var (i := 0) rfl rfl (.inl rfl)) pd_int (by walk_at "r2ix") (fun _ _ => rfl)) (by walk_at "r2b0") (fun _ => by walk_at "r2b0"))) rfl
abbrev s_violated_by : Stmt := topS 12
theorem sc_violated_by : FnScope ["problem", "ranking", "at", "constraint"] ["problem", "ranking"] (defScope s_violated_by) := ⟨rfl, rfl, rfl, by decide +kernel, rfl, by decide +kernel, by decide +kernel⟩
def violB (p : Prob) (r : List Int) : List Int := (p.cs.zipIdx.filter fun q => !holdsB q.1 r).map fun q => ((q.2 : Nat) : Int)
def R_violated_by : List PyData → PyData → Prop := fun ds d => ∃ p r, (OkP p ∧ ∀ c ∈ p.cs, InR c r) ∧ ds = [dP p, dR r] ∧ d = .list ((violB p r).map PyData.int)
theorem zip_mem {α : Type} {l : List α} {q : α × Nat} (h : q ∈ l.zipIdx) : q.1 ∈ l := by
  obtain ⟨x, i⟩ := q
  exact List.fst_mem_of_mem_zipIdx h
theorem ok_violated_by (T : Txt mg) (F : Fun K "violated_by" "violated_by" s_violated_by f fd)
    (C_holds : Cal P w K mg base 1 "holds" (SpP R_holds)) :
    FnOk P w K mg base CX0 2 f fd ["problem", "ranking"] (SpP R_violated_by) := by
  refine fn_pure F sc_violated_by (by rintro _ _ ⟨p, r, hp, rfl, rfl⟩; rfl) fun cdv A outer s H E hr ds d h => ?_
  obtain ⟨p, r, hp, rfl, rfl⟩ := h
  have hz : p.cs.zipIdx.length ≤ 100000 := by
    rw [List.length_zipIdx]
    have := hp.1.c12
    omega
  exact sd_ret (by exact (pd_lci (zs := p.cs.zipIdx) (pr := fun q => !holdsB q.1 r) (f := fun q => ((q.2 : Nat) : Int)) (own := [("at", 2), ("constraint", 3)]) rfl sc_violated_by.nd (pdi_enum rfl T.enumerate_ (by exact (pd_ix ix_seq (pd_var (i := 0) rfl rfl (.inl rfl)) pd_int (by walk_at "r2ix") (fun _ _ => rfl)))) (blkOk_by (own := [("at", 2), ("constraint", 3)]) (N := ["problem", "ranking", "at", "constraint"]) (sc := defScope s_violated_by) (by decide +kernel)) (by walk_at "hz") (stays_tup2 (K := K) (i := 2) (j := 3) (by decide) (by decide)) (fun z _ => asg_tup2) (fun _ _ _ _ _ => pg_tup rfl (pgs_cons (pg_name (i := 2) sc_violated_by.nd rfl (.inl rfl)) (pgs_cons (pg_name (i := 3) sc_violated_by.nd rfl (.inl rfl)) pgs_nil))) (fun _ _ _ _ _ z hz => by
    have hi := hp.2 z.1 (zip_mem hz)
    exact pdts_one (by exact (pdt_eq (by exact (pdt_not (pdt_tru (pd_call C_holds (hr.mono (by decide)) rfl (pda_cons (pd_var (i := 3) rfl rfl (.inl rfl)) (pda_cons (pd_var (i := 1) rfl rfl (.inr (.inl rfl))) pda_nil)) (by walk_at "rr")) (by walk_at "sf")))) (by exact rfl)))) (fun _ _ _ _ _ z hz _ => by exact (pd_var (i := 2) rfl rfl (.inl rfl))))) rfl
abbrev s_is_good : Stmt := topS 13
theorem sc_is_good : FnScope ["problem", "ranking"] ["problem", "ranking"] (defScope s_is_good) := ⟨rfl, rfl, rfl, by decide +kernel, rfl, by decide +kernel, by decide +kernel⟩
def R_is_good : List PyData → PyData → Prop := fun ds d => ∃ p r, (OkP p ∧ ∀ c ∈ p.cs, InR c r) ∧ ds = [dP p, dR r] ∧ d = .bool (goodB p r)
theorem viol_none (p : Prob) (r : List Int) : decide ((((violB p r).map PyData.int).length : Int) = 0) = goodB p r := by
  unfold violB goodB
  rw [List.length_map, List.length_map]
  have key : ∀ (cs : List Con) (k : Nat), (((cs.zipIdx k).filter fun q => !holdsB q.1 r).length = 0) ↔ (cs.all fun c => holdsB c r) = true := by
    intro cs
    induction cs with
    | nil => intro k; simp
    | cons c cs ih =>
      intro k
      rw [List.zipIdx_cons, List.filter_cons, List.all_cons]
      cases h : holdsB c r with
      | true => simpa [h] using ih (k + 1)
      | false => simp [h]
  have h := key p.cs 0
  by_cases hg : (p.cs.all fun c => holdsB c r) = true
  · rw [hg]
    have := h.mpr hg
    rw [decide_eq_true_eq]
    omega
  · have h1 : (p.cs.all fun c => holdsB c r) = false := by simpa using hg
    rw [h1]
    have h2 : ¬ ((p.cs.zipIdx.filter fun q => !holdsB q.1 r).length = 0) := fun z => hg (h.mp z)
    rw [decide_eq_false_iff_not]
    omega
theorem ok_is_good (T : Txt mg) (F : Fun K "is_good" "is_good" s_is_good f fd)
    (C_violated_by : Cal P w K mg base 2 "violated_by" (SpP R_violated_by)) :
    FnOk P w K mg base CX0 3 f fd ["problem", "ranking"] (SpP R_is_good) := by
  refine fn_pure F sc_is_good (by rintro _ _ ⟨p, r, hp, rfl, rfl⟩; rfl) fun cdv A outer s H E hr ds d h => ?_
  obtain ⟨p, r, hp, rfl, rfl⟩ := h
  exact sd_ret (pd_eq (by exact (pd_cmp (op_eqAll hr.units) (pd_callB call_len rfl T.len_ (by decide +kernel) (pda_cons (pd_call C_violated_by (hr.mono (by decide)) rfl (pda_cons (pd_var (i := 0) rfl rfl (.inl rfl)) (pda_cons (pd_var (i := 1) rfl rfl (.inl rfl)) pda_nil)) (by walk_at "rr")) pda_nil) (by walk_at "rc1")) pd_int (by walk_at "r2eq") rfl)) (by rw [viol_none])) rfl
end
end RK

/-! What the defs compute, as plain functions. -/
namespace RK
open PySem PySem.Spec PyProof.Rows L2 DL

def isWinOf (i : Int) : Con → Bool
  | .win j _ _ => decide (j = i)
  | _ => false
def conLo : Con → Int
  | .win _ lo _ => lo
  | _ => 0
def conHi : Con → Int
  | .win _ _ hi => hi
  | _ => 0
def isAhdTo (i : Int) : Con → Bool
  | .ahd _ b => decide (b = i)
  | _ => false
def isAhdFrom (i : Int) : Con → Bool
  | .ahd a _ => decide (a = i)
  | _ => false
def conA : Con → Int
  | .ahd a _ => a
  | _ => 0
def conB : Con → Int
  | .ahd _ b => b
  | _ => 0
def gLow (p : Prob) (i : Int) : Int := maxL (1 :: (p.cs.filter (isWinOf i)).map conLo)
def gHigh (p : Prob) (i : Int) : Int := minL (p.n :: (p.cs.filter (isWinOf i)).map conHi)
def bef (p : Prob) (i : Int) : List Int := sortI (keysOf ((p.cs.filter (isAhdTo i)).map conA))
def beh (p : Prob) (i : Int) : List Int := sortI (keysOf ((p.cs.filter (isAhdFrom i)).map conB))
theorem mem_sortI {ns : List Int} {x : Int} : x ∈ sortI ns ↔ x ∈ ns := (sortI_perm ns).mem_iff
theorem mem_bef {p : Prob} {i o : Int} : o ∈ bef p i ↔ Con.ahd o i ∈ p.cs := by
  unfold bef
  rw [mem_sortI, keysOf_mem, List.mem_map]
  constructor
  · rintro ⟨c, hc, e⟩
    obtain ⟨h1, h2⟩ := List.mem_filter.mp hc
    cases c with
    | win j lo hi => simp [isAhdTo] at h2
    | ahd a b =>
      have e1 : a = o := e
      have e2 : b = i := by simpa [isAhdTo] using h2
      rw [← e1, ← e2]
      exact h1
  · intro h
    exact ⟨.ahd o i, List.mem_filter.mpr ⟨h, by simp [isAhdTo]⟩, rfl⟩
theorem mem_beh {p : Prob} {i o : Int} : o ∈ beh p i ↔ Con.ahd i o ∈ p.cs := by
  unfold beh
  rw [mem_sortI, keysOf_mem, List.mem_map]
  constructor
  · rintro ⟨c, hc, e⟩
    obtain ⟨h1, h2⟩ := List.mem_filter.mp hc
    cases c with
    | win j lo hi => simp [isAhdFrom] at h2
    | ahd a b =>
      have e1 : b = o := e
      have e2 : a = i := by simpa [isAhdFrom] using h2
      rw [← e1, ← e2]
      exact h1
  · intro h
    exact ⟨.ahd i o, List.mem_filter.mpr ⟨h, by simp [isAhdFrom]⟩, rfl⟩
theorem sortI_len (ns : List Int) : (sortI ns).length = ns.length := (sortI_perm ns).length_eq
theorem keys_few {p : Prob} {pr : Con → Bool} {f : Con → Int} : (keysOf ((p.cs.filter pr).map f)).length ≤ p.cs.length :=
  Nat.le_trans (keysOf_len _) (by rw [List.length_map]; exact List.length_filter_le _ _)
theorem bef_len {p : Prob} {i : Int} : (bef p i).length ≤ p.cs.length := by
  unfold bef
  rw [sortI_len]
  exact keys_few
theorem beh_len {p : Prob} {i : Int} : (beh p i).length ≤ p.cs.length := by
  unfold beh
  rw [sortI_len]
  exact keys_few
theorem bef_in {p : Prob} (hp : OkP p) {i o : Int} (h : o ∈ bef p i) : 0 ≤ o ∧ o < p.n := by
  have := hp.wf _ (mem_bef.mp h)
  exact ⟨this.1, this.2.1⟩
theorem beh_in {p : Prob} (hp : OkP p) {i o : Int} (h : o ∈ beh p i) : 0 ≤ o ∧ o < p.n := by
  have := hp.wf _ (mem_beh.mp h)
  exact ⟨this.2.2.1, this.2.2.2.1⟩

/-! the items in a sequence -/
def freeOf (p : Prob) (l : List Int) : List Int := l.filter fun i => !((bef p i).map fun o => decide (o ∈ l)).any id
def ordLoop (p : Prob) : Nat → List Int → List Int → List Int
  | 0, f, _ => f
  | k + 1, f, l => if l = [] then f else if freeOf p l = [] then f else ordLoop p k (f ++ freeOf p l) (l.filter fun i => !decide (i ∈ freeOf p l))
def ordP (p : Prob) : List Int := ordLoop p (p.n.toNat + 1) [] (rng 0 p.n.toNat)
theorem left_less {p : Prob} {l : List Int} (h : freeOf p l ≠ []) : (l.filter fun i => !decide (i ∈ freeOf p l)).length < l.length := by
  obtain ⟨x, hx⟩ := List.exists_mem_of_ne_nil _ h
  have hl : x ∈ l := (List.mem_filter.mp hx).1
  rcases Nat.lt_or_ge (l.filter fun i => !decide (i ∈ freeOf p l)).length l.length with z | z
  · exact z
  · have h1 := List.length_filter_le (fun i => !decide (i ∈ freeOf p l)) l
    have h2 := (List.length_filter_eq_length_iff.mp (Nat.le_antisymm h1 z)) x hl
    simp [hx] at h2
theorem filter_two {α : Type} (q : α → Bool) : ∀ l : List α, (l.filter q).length + (l.filter fun x => !q x).length = l.length
  | [] => rfl
  | x :: l => by
    have h := filter_two q l
    cases hx : q x <;> simp [List.filter_cons, hx] <;> omega
theorem left_split {p : Prob} {l : List Int} : (freeOf p l).length + (l.filter fun i => !decide (i ∈ freeOf p l)).length = l.length := by
  have h : (l.filter fun i => !decide (i ∈ freeOf p l)) = l.filter fun i => !(!((bef p i).map fun o => decide (o ∈ l)).any id) := by
    apply List.filter_congr
    intro x hx
    congr 1
    rw [Bool.eq_iff_iff, decide_eq_true_eq]
    unfold freeOf
    rw [List.mem_filter]
    constructor
    · exact fun z => z.2
    · exact fun z => ⟨hx, z⟩
  rw [h]
  exact filter_two (fun i => !((bef p i).map fun o => decide (o ∈ l)).any id) l
theorem ordLoop_fuel (p : Prob) (k : Nat) (f l : List Int) (h : l.length < k) : ordLoop p (l.length + 1) f l = ordLoop p k f l := by
    have key : ∀ (n k k' : Nat) (f l : List Int), l.length ≤ n → l.length < k → l.length < k' → ordLoop p k f l = ordLoop p k' f l := by
      intro n
      induction n with
      | zero =>
        intro k k' f l h0 h1 h2
        have hl : l = [] := List.eq_nil_of_length_eq_zero (by omega)
        subst hl
        cases k with
        | zero => cases h1
        | succ k =>
          cases k' with
          | zero => cases h2
          | succ k' =>
            rw [ordLoop, ordLoop, if_pos rfl, if_pos rfl]
      | succ n ih =>
        intro k k' f l h0 h1 h2
        cases k with
        | zero => cases h1
        | succ k =>
          cases k' with
          | zero => cases h2
          | succ k' =>
            rw [ordLoop, ordLoop]
            by_cases hl : l = []
            · rw [if_pos hl, if_pos hl]
            · rw [if_neg hl, if_neg hl]
              by_cases hf : freeOf p l = []
              · rw [if_pos hf, if_pos hf]
              · rw [if_neg hf, if_neg hf]
                have hll := left_less hf
                exact ih k k' _ _ (by omega) (by omega) (by omega)
    exact key l.length _ _ f l (Nat.le_refl _) (by omega) h
theorem ordLoop_len (p : Prob) : ∀ (k : Nat) (f l : List Int), (ordLoop p k f l).length ≤ f.length + l.length
  | 0, f, l => by
    show f.length ≤ _
    omega
  | k + 1, f, l => by
    unfold ordLoop
    split
    · omega
    · split
      · omega
      · have h1 := ordLoop_len p k (f ++ freeOf p l) (l.filter fun i => !decide (i ∈ freeOf p l))
        have h2 := left_split (p := p) (l := l)
        rw [List.length_append] at h1
        omega
theorem ordLoop_in (p : Prob) (Q : Int → Prop) : ∀ (k : Nat) (f l : List Int), (∀ x ∈ f, Q x) → (∀ x ∈ l, Q x) → ∀ x ∈ ordLoop p k f l, Q x
  | 0, f, l, hf, _, x, hx => hf x hx
  | k + 1, f, l, hf, hl, x, hx => by
    unfold ordLoop at hx
    split at hx
    · exact hf x hx
    · split at hx
      · exact hf x hx
      · refine ordLoop_in p Q k _ _ (fun y hy => ?_) (fun y hy => hl y (List.mem_filter.mp hy).1) x hx
        rcases List.mem_append.mp hy with h | h
        · exact hf y h
        · exact hl y (List.mem_filter.mp h).1
theorem ordP_in {p : Prob} {x : Int} (h : x ∈ ordP p) : 0 ≤ x ∧ x < p.n := by
  refine ordLoop_in p (fun x => 0 ≤ x ∧ x < p.n) _ _ _ (fun y hy => by cases hy) (fun y hy => ?_) x h
  have := rng_mem.mp hy
  omega
theorem ordP_len {p : Prob} : (ordP p).length ≤ p.n.toNat := by
  have h := ordLoop_len p (p.n.toNat + 1) [] (rng 0 p.n.toNat)
  rw [rng_len] at h
  simpa [ordP] using h
def cyclicB (p : Prob) : Bool := decide (((ordP p).length : Int) < p.n)

/-! earliest, latest -/
def getI (F : List Int) (i : Int) : Int := F.getD i.toNat 0
def earlStep (p : Prob) (F : List Int) (i : Int) : List Int := F.set i.toNat (maxL (getI F i :: (bef p i).map fun o => getI F o + 1))
def lateStep (p : Prob) (F : List Int) (i : Int) : List Int := F.set i.toNat (minL (getI F i :: (beh p i).map fun o => getI F o - 1))
def lows0 (p : Prob) : List Int := (rng 0 p.n.toNat).map (gLow p)
def highs0 (p : Prob) : List Int := (rng 0 p.n.toNat).map (gHigh p)
def earlP (p : Prob) : List Int := (ordP p).foldl (earlStep p) (lows0 p)
def lateP (p : Prob) : List Int := (ordP p).reverse.foldl (lateStep p) (highs0 p)
theorem earlStep_len {p : Prob} {F : List Int} {i : Int} : (earlStep p F i).length = F.length := by
  unfold earlStep
  rw [List.length_set]
theorem lateStep_len {p : Prob} {F : List Int} {i : Int} : (lateStep p F i).length = F.length := by
  unfold lateStep
  rw [List.length_set]
theorem foldl_len {β : Type} {g : List Int → β → List Int} (h : ∀ F i, (g F i).length = F.length) : ∀ (l : List β) (F : List Int), (l.foldl g F).length = F.length
  | [], F => rfl
  | x :: l, F => by
    rw [List.foldl_cons, foldl_len h l, h]
theorem earlP_len {p : Prob} : (earlP p).length = p.n.toNat := by
  unfold earlP
  rw [foldl_len fun F i => earlStep_len]
  unfold lows0
  rw [List.length_map, rng_len]
theorem lateP_len {p : Prob} : (lateP p).length = p.n.toNat := by
  unfold lateP
  rw [foldl_len fun F i => lateStep_len]
  unfold highs0
  rw [List.length_map, rng_len]
theorem atI_get {F : List Int} {i : Int} (h0 : 0 ≤ i) (h1 : i.toNat < F.length) : atI (F.map PyData.int) i = some (.int (getI F i)) := by
  have h2 : F.getD i.toNat 0 = F[i.toNat] := by
    rw [List.getD_eq_getElem?_getD, List.getElem?_eq_getElem h1]
    rfl
  unfold getI
  rw [h2]
  have h3 : (F.map PyData.int)[i.toNat]? = some (.int F[i.toNat]) := by
    rw [List.getElem?_map, List.getElem?_eq_getElem h1]
    rfl
  have h4 := atI_nat h3
  rw [show ((i.toNat : Nat) : Int) = i by omega] at h4
  exact h4
end RK

namespace RK
open PySem PySem.Spec PyProof.Rows L2 DL
local macro_rules | `(tactic| walk_at "sf") => `(tactic| first | exact True.intro | assumption)
local macro_rules | `(tactic| walk_at "sz") => `(tactic| first | decide | (simp only [List.length_cons, List.length_nil, List.length_map, List.length_append, List.length_reverse, rng_len, sizeLine_eq]; omega))
local macro_rules | `(tactic| walk_at "r2add") => `(tactic| first | exact r2_addI | exact r2_addT (by walk_at "sz") | exact r2_addL (by walk_at "sz"))
local macro_rules | `(tactic| walk_at "r2i0") => `(tactic| exact r2_I0)
local macro_rules | `(tactic| walk_at "r2b0") => `(tactic| exact r2_B0)
local macro_rules | `(tactic| walk_at "r2mul") => `(tactic| exact r2_I (by unfold CMul; omega))
local macro_rules | `(tactic| walk_at "r2mod") => `(tactic| exact r2_I (by omega))
local macro_rules | `(tactic| walk_at "r2div") => `(tactic| exact r2_I (by unfold CDivN; omega))
local macro_rules | `(tactic| walk_at "r2pow") => `(tactic| exact r2_I (by unfold CPow; decide))
local macro_rules | `(tactic| walk_at "r2eq") => `(tactic| first | exact r2_eqI | exact r2_eqS | exact r2_eqB | exact r2_eqD (by assumption) (by assumption))
local macro_rules | `(tactic| walk_at "r2ne") => `(tactic| first | exact r2_neI | exact r2_neS | exact r2_neB)
local macro_rules | `(tactic| walk_at "r2in") => `(tactic| first | exact r2_inLI | exact r2_inTI | assumption)
local macro_rules | `(tactic| walk_at "r2nin") => `(tactic| first | exact r2_ninLI | exact r2_ninTI | assumption)
local macro_rules | `(tactic| walk_at "r2is") => `(tactic| exact r2_isN)
local macro_rules | `(tactic| walk_at "r2isn") => `(tactic| exact r2_notN)
local macro_rules | `(tactic| walk_at "r2ix") => `(tactic| first | exact r2_ixT rfl | exact r2_ixL rfl | exact r2_ixT (by assumption) | exact r2_ixL (by assumption))
local macro_rules | `(tactic| walk_at "rc1") => `(tactic| first | exact rc_lenT | exact rc_lenL | exact rc_max2 | exact rc_max (by walk_at "sz") | exact rc_min (by walk_at "sz") | exact rc_max (ns := _ :: _) (by walk_at "sz") | exact rc_min (ns := _ :: _) (by walk_at "sz") | exact rc_all | exact rc_any | exact rc_abs | exact rc_int | exact rc_tupL | assumption)
local macro_rules | `(tactic| walk_at "mem") => `(tactic| first | assumption | (simp; done))
local macro_rules | `(tactic| walk_at "rr") => `(tactic| first | exact ⟨_, rfl, rfl⟩ | exact ⟨_, _, rfl, rfl⟩ | exact ⟨_, _, _, rfl, rfl⟩ | exact ⟨_, by assumption, rfl, rfl⟩ | exact ⟨_, _, by assumption, rfl, rfl⟩ | exact ⟨_, _, _, by assumption, rfl, rfl⟩ | assumption)
local macro_rules | `(tactic| walk_at "rg") => `(tactic| first | omega | (simp only [List.length_cons, List.length_nil, List.length_map]; omega))
local macro_rules | `(tactic| walk_at "hz") => `(tactic| first | assumption | (simp only [List.length_cons, List.length_nil, List.length_map, rng_len, List.length_zipIdx, List.length_zip]; omega) | omega)
local macro_rules | `(tactic| walk_at "bb") => `(tactic| first | rfl | (simp [truD, isTupB, isStrB, isIntB, isBoolB, wholeB, sAW, sWA]; done) | (simp_all [truD, isTupB, isStrB, isIntB, isBoolB, wholeB, sAW, sWA]; done) | (simp [truD, isTupB, isStrB, isIntB, isBoolB, wholeB, sAW, sWA]; omega))
local macro_rules | `(tactic| walk_at "blkfree") => `(tactic| ((repeat' (first | exact List.forall_mem_nil _ | refine List.forall_mem_cons.mpr ⟨?_, ?_⟩)) <;> first | (intro hf; cases hf; done) | exact fun _ => .inl rfl | exact fun _ => .inr rfl))

section
variable {P : Program} {w : World} {K : PySem.W.Frag} {mg : Str → Option Value} {base : Heap} {f : Addr} {fd : FuncData}

abbrev s_given_low : Stmt := topS 22
theorem sc_given_low : FnScope ["problem", "item", "lows", "constraint"] ["problem", "item"] (defScope s_given_low) := ⟨rfl, rfl, rfl, by decide +kernel, rfl, by decide +kernel, by decide +kernel⟩
def R_given_low : List PyData → PyData → Prop := fun ds d => ∃ p i, OkP p ∧ ds = [dP p, .int i] ∧ d = .int (gLow p i)
theorem ok_given_low (T : Txt mg) (F : Fun K "given_low" "given_low" s_given_low f fd) :
    FnOk P w K mg base CX0 1 f fd ["problem", "item"] (SpP R_given_low) := by
  refine fn_pure F sc_given_low (by rintro _ _ ⟨p, i, hp, rfl, rfl⟩; rfl) fun cdv A outer s H E hr ds d h => ?_
  obtain ⟨p, i, hp, rfl, rfl⟩ := h
  have hz : p.cs.length ≤ 100000 := by
    have := hp.c12
    omega
  have hz2 : ((p.cs.filter (isWinOf i)).map conLo).length ≤ 100000 := by
    rw [List.length_map]
    exact Nat.le_trans (List.length_filter_le _ _) hz
  refine sd_nx (by exact (sd_setLci (zs := p.cs) (enc := dC) (pr := isWinOf i) (f := conLo) (i := 2) (own := [("constraint", 3)]) rfl sc_given_low.nd rfl rfl (sw_true rfl rfl rfl (by decide +kernel)) (pdi_tup (by exact (pd_ix ix_seq (pd_var (i := 0) rfl rfl (.inl rfl)) pd_int (by walk_at "r2ix") (fun _ _ => rfl)))) (blkOk_by (own := [("constraint", 3)]) (N := ["problem", "item", "lows", "constraint"]) (sc := defScope s_given_low) (by decide +kernel)) (by walk_at "hz") (stays_name (j := 3) (by decide)) (fun z _ => asg_name) (fun _ _ _ _ _ => pg_name (i := 3) sc_given_low.nd rfl (.inl rfl)) (fun _ _ _ _ _ z hz => by
    cases z with
    | win j lo hi => exact pdts_one (by exact (pdt_eq (by exact (PW.pt (pdw_and (pdt_cmp (op_eqAll hr.units) (pd_ix ix_seq (pd_var (i := 3) rfl rfl (.inl rfl)) pd_int (by walk_at "r2ix") (fun _ _ => rfl)) pd_str (by walk_at "r2eq") rfl) (fun _ => (pdw_and1 (pdt_cmp (op_eqAll hr.units) (pd_ix ix_seq (pd_var (i := 3) rfl rfl (.inl rfl)) pd_int (by walk_at "r2ix") (fun _ _ => rfl)) (pd_var (i := 1) rfl rfl (.inr (.inl rfl))) (by walk_at "r2eq") rfl)))))) (by simp [isWinOf])))
    | ahd a b => exact pdts_one (by exact (pdt_eq (by exact (PW.pt (pdw_and (pdt_cmp (op_eqAll hr.units) (pd_ix ix_seq (pd_var (i := 3) rfl rfl (.inl rfl)) pd_int (by walk_at "r2ix") (fun _ _ => rfl)) pd_str (by walk_at "r2eq") rfl) (fun _ => (pdw_and1 (pdt_cmp (op_eqAll hr.units) (pd_ix ix_seq (pd_var (i := 3) rfl rfl (.inl rfl)) pd_int (by walk_at "r2ix") (fun _ _ => rfl)) (pd_var (i := 1) rfl rfl (.inr (.inl rfl))) (by walk_at "r2eq") rfl)))))) (by simp [isWinOf, sAW])))) (fun _ _ _ _ _ z hz hp => by
    cases z with
    | win j lo hi => exact (pd_ix ix_seq (pd_var (i := 3) rfl rfl (.inl rfl)) pd_int (by walk_at "r2ix") (fun _ _ => rfl))
    | ahd a b => simp [isWinOf] at hp))) ?_
  exact sd_ret (by exact (pd_callB (cr_max rfl) rfl T.max_ (by decide +kernel) (pda_cons (pd_bin op_addAll (pd_lst (pda_cons pd_int pda_nil) (by walk_at "sz")) (pd_var (i := 2) rfl rfl (.inl rfl)) (r2_addL (by rw [List.length_map, sizeLine_eq]; simp only [List.length_cons, List.length_nil]; omega))) pda_nil) (rc_max (ns := 1 :: (p.cs.filter (isWinOf i)).map conLo) (Nat.succ_pos _)))) rfl
abbrev s_given_high : Stmt := topS 23
theorem sc_given_high : FnScope ["problem", "item", "highs", "constraint"] ["problem", "item"] (defScope s_given_high) := ⟨rfl, rfl, rfl, by decide +kernel, rfl, by decide +kernel, by decide +kernel⟩
def R_given_high : List PyData → PyData → Prop := fun ds d => ∃ p i, OkP p ∧ ds = [dP p, .int i] ∧ d = .int (gHigh p i)
theorem ok_given_high (T : Txt mg) (F : Fun K "given_high" "given_high" s_given_high f fd) :
    FnOk P w K mg base CX0 1 f fd ["problem", "item"] (SpP R_given_high) := by
  refine fn_pure F sc_given_high (by rintro _ _ ⟨p, i, hp, rfl, rfl⟩; rfl) fun cdv A outer s H E hr ds d h => ?_
  obtain ⟨p, i, hp, rfl, rfl⟩ := h
  have hz : p.cs.length ≤ 100000 := by
    have := hp.c12
    omega
  have hz2 : ((p.cs.filter (isWinOf i)).map conHi).length ≤ 100000 := by
    rw [List.length_map]
    exact Nat.le_trans (List.length_filter_le _ _) hz
  refine sd_nx (by exact (sd_setLci (zs := p.cs) (enc := dC) (pr := isWinOf i) (f := conHi) (i := 2) (own := [("constraint", 3)]) rfl sc_given_high.nd rfl rfl (sw_true rfl rfl rfl (by decide +kernel)) (pdi_tup (by exact (pd_ix ix_seq (pd_var (i := 0) rfl rfl (.inl rfl)) pd_int (by walk_at "r2ix") (fun _ _ => rfl)))) (blkOk_by (own := [("constraint", 3)]) (N := ["problem", "item", "highs", "constraint"]) (sc := defScope s_given_high) (by decide +kernel)) (by walk_at "hz") (stays_name (j := 3) (by decide)) (fun z _ => asg_name) (fun _ _ _ _ _ => pg_name (i := 3) sc_given_high.nd rfl (.inl rfl)) (fun _ _ _ _ _ z hz => by
    cases z with
    | win j lo hi => exact pdts_one (by exact (pdt_eq (by exact (PW.pt (pdw_and (pdt_cmp (op_eqAll hr.units) (pd_ix ix_seq (pd_var (i := 3) rfl rfl (.inl rfl)) pd_int (by walk_at "r2ix") (fun _ _ => rfl)) pd_str (by walk_at "r2eq") rfl) (fun _ => (pdw_and1 (pdt_cmp (op_eqAll hr.units) (pd_ix ix_seq (pd_var (i := 3) rfl rfl (.inl rfl)) pd_int (by walk_at "r2ix") (fun _ _ => rfl)) (pd_var (i := 1) rfl rfl (.inr (.inl rfl))) (by walk_at "r2eq") rfl)))))) (by simp [isWinOf])))
    | ahd a b => exact pdts_one (by exact (pdt_eq (by exact (PW.pt (pdw_and (pdt_cmp (op_eqAll hr.units) (pd_ix ix_seq (pd_var (i := 3) rfl rfl (.inl rfl)) pd_int (by walk_at "r2ix") (fun _ _ => rfl)) pd_str (by walk_at "r2eq") rfl) (fun _ => (pdw_and1 (pdt_cmp (op_eqAll hr.units) (pd_ix ix_seq (pd_var (i := 3) rfl rfl (.inl rfl)) pd_int (by walk_at "r2ix") (fun _ _ => rfl)) (pd_var (i := 1) rfl rfl (.inr (.inl rfl))) (by walk_at "r2eq") rfl)))))) (by simp [isWinOf, sAW])))) (fun _ _ _ _ _ z hz hp => by
    cases z with
    | win j lo hi => exact (pd_ix ix_seq (pd_var (i := 3) rfl rfl (.inl rfl)) pd_int (by walk_at "r2ix") (fun _ _ => rfl))
    | ahd a b => simp [isWinOf] at hp))) ?_
  exact sd_ret (by exact (pd_callB (cr_min rfl) rfl T.min_ (by decide +kernel) (pda_cons (pd_bin op_addAll (pd_lst (pda_cons (pd_ix ix_seq (pd_var (i := 0) rfl rfl (.inl rfl)) pd_int (by walk_at "r2ix") (fun _ _ => rfl)) pda_nil) (by walk_at "sz")) (pd_var (i := 2) rfl rfl (.inl rfl)) (r2_addL (by rw [List.length_map, sizeLine_eq]; simp only [List.length_cons, List.length_nil]; omega))) pda_nil) (rc_min (ns := p.n :: (p.cs.filter (isWinOf i)).map conHi) (Nat.succ_pos _)))) rfl

abbrev s_before : Stmt := topS 24
theorem sc_before : FnScope ["problem", "item", "found", "constraint"] ["problem", "item"] (defScope s_before) := ⟨rfl, rfl, rfl, by decide +kernel, rfl, by decide +kernel, by decide +kernel⟩
def R_before : List PyData → PyData → Prop := fun ds d => ∃ p i, OkP p ∧ ds = [dP p, .int i] ∧ d = .list ((bef p i).map PyData.int)
theorem ok_before (T : Txt mg) (F : Fun K "before" "before" s_before f fd) :
    FnOk P w K mg base CX0 1 f fd ["problem", "item"] (SpP R_before) := by
  refine fn_pure F sc_before (by rintro _ _ ⟨p, i, hp, rfl, rfl⟩; rfl) fun cdv A outer s H E hr ds d h => ?_
  obtain ⟨p, i, hp, rfl, rfl⟩ := h
  have hz : p.cs.length ≤ 100000 := by
    have := hp.c12
    omega
  refine sd_nx (by exact (sd_setDc (zs := p.cs) (enc := dC) (pr := isAhdTo i) (f := conA) (i := 2) (own := [("constraint", 3)]) rfl sc_before.nd rfl rfl (sw_trueD rfl rfl rfl (by decide +kernel)) (pdi_tup (by exact (pd_ix ix_seq (pd_var (i := 0) rfl rfl (.inl rfl)) pd_int (by walk_at "r2ix") (fun _ _ => rfl)))) (blkOk_by (own := [("constraint", 3)]) (N := ["problem", "item", "found", "constraint"]) (sc := defScope s_before) (by decide +kernel)) (by walk_at "hz") (stays_name (j := 3) (by decide)) (fun z _ => asg_name) (fun _ _ _ _ _ => pg_name (i := 3) sc_before.nd rfl (.inl rfl)) (fun _ _ _ _ _ z hz => by
    cases z with
    | win j lo hi => exact pdts_one (by exact (pdt_eq (by exact (PW.pt (pdw_and (pdt_cmp (op_eqAll hr.units) (pd_ix ix_seq (pd_var (i := 3) rfl rfl (.inl rfl)) pd_int (by walk_at "r2ix") (fun _ _ => rfl)) pd_str (by walk_at "r2eq") rfl) (fun _ => (pdw_and1 (pdt_cmp (op_eqAll hr.units) (pd_ix ix_seq (pd_var (i := 3) rfl rfl (.inl rfl)) pd_int (by walk_at "r2ix") (fun _ _ => rfl)) (pd_var (i := 1) rfl rfl (.inr (.inl rfl))) (by walk_at "r2eq") rfl)))))) (by simp [isAhdTo, sWA])))
    | ahd a b => exact pdts_one (by exact (pdt_eq (by exact (PW.pt (pdw_and (pdt_cmp (op_eqAll hr.units) (pd_ix ix_seq (pd_var (i := 3) rfl rfl (.inl rfl)) pd_int (by walk_at "r2ix") (fun _ _ => rfl)) pd_str (by walk_at "r2eq") rfl) (fun _ => (pdw_and1 (pdt_cmp (op_eqAll hr.units) (pd_ix ix_seq (pd_var (i := 3) rfl rfl (.inl rfl)) pd_int (by walk_at "r2ix") (fun _ _ => rfl)) (pd_var (i := 1) rfl rfl (.inr (.inl rfl))) (by walk_at "r2eq") rfl)))))) (by simp [isAhdTo])))) (fun _ _ _ _ _ z hz hp => by
    cases z with
    | win j lo hi => simp [isAhdTo] at hp
    | ahd a b => exact (pd_ix ix_seq (pd_var (i := 3) rfl rfl (.inl rfl)) pd_int (by walk_at "r2ix") (fun _ _ => rfl))))) ?_
  exact sd_ret (by exact (pd_callB (call_sortedDI rfl) rfl T.sorted_ (by decide +kernel) (pda_cons (pd_var (i := 2) rfl rfl (.inl rfl)) pda_nil) (rc_sortT (Nat.lt_of_le_of_lt keys_few (by have := hp.c12; omega))))) rfl
abbrev s_behind : Stmt := topS 25
theorem sc_behind : FnScope ["problem", "item", "found", "constraint"] ["problem", "item"] (defScope s_behind) := ⟨rfl, rfl, rfl, by decide +kernel, rfl, by decide +kernel, by decide +kernel⟩
def R_behind : List PyData → PyData → Prop := fun ds d => ∃ p i, OkP p ∧ ds = [dP p, .int i] ∧ d = .list ((beh p i).map PyData.int)
theorem ok_behind (T : Txt mg) (F : Fun K "behind" "behind" s_behind f fd) :
    FnOk P w K mg base CX0 1 f fd ["problem", "item"] (SpP R_behind) := by
  refine fn_pure F sc_behind (by rintro _ _ ⟨p, i, hp, rfl, rfl⟩; rfl) fun cdv A outer s H E hr ds d h => ?_
  obtain ⟨p, i, hp, rfl, rfl⟩ := h
  have hz : p.cs.length ≤ 100000 := by
    have := hp.c12
    omega
  refine sd_nx (by exact (sd_setDc (zs := p.cs) (enc := dC) (pr := isAhdFrom i) (f := conB) (i := 2) (own := [("constraint", 3)]) rfl sc_behind.nd rfl rfl (sw_trueD rfl rfl rfl (by decide +kernel)) (pdi_tup (by exact (pd_ix ix_seq (pd_var (i := 0) rfl rfl (.inl rfl)) pd_int (by walk_at "r2ix") (fun _ _ => rfl)))) (blkOk_by (own := [("constraint", 3)]) (N := ["problem", "item", "found", "constraint"]) (sc := defScope s_behind) (by decide +kernel)) (by walk_at "hz") (stays_name (j := 3) (by decide)) (fun z _ => asg_name) (fun _ _ _ _ _ => pg_name (i := 3) sc_behind.nd rfl (.inl rfl)) (fun _ _ _ _ _ z hz => by
    cases z with
    | win j lo hi => exact pdts_one (by exact (pdt_eq (by exact (PW.pt (pdw_and (pdt_cmp (op_eqAll hr.units) (pd_ix ix_seq (pd_var (i := 3) rfl rfl (.inl rfl)) pd_int (by walk_at "r2ix") (fun _ _ => rfl)) pd_str (by walk_at "r2eq") rfl) (fun _ => (pdw_and1 (pdt_cmp (op_eqAll hr.units) (pd_ix ix_seq (pd_var (i := 3) rfl rfl (.inl rfl)) pd_int (by walk_at "r2ix") (fun _ _ => rfl)) (pd_var (i := 1) rfl rfl (.inr (.inl rfl))) (by walk_at "r2eq") rfl)))))) (by simp [isAhdFrom, sWA])))
    | ahd a b => exact pdts_one (by exact (pdt_eq (by exact (PW.pt (pdw_and (pdt_cmp (op_eqAll hr.units) (pd_ix ix_seq (pd_var (i := 3) rfl rfl (.inl rfl)) pd_int (by walk_at "r2ix") (fun _ _ => rfl)) pd_str (by walk_at "r2eq") rfl) (fun _ => (pdw_and1 (pdt_cmp (op_eqAll hr.units) (pd_ix ix_seq (pd_var (i := 3) rfl rfl (.inl rfl)) pd_int (by walk_at "r2ix") (fun _ _ => rfl)) (pd_var (i := 1) rfl rfl (.inr (.inl rfl))) (by walk_at "r2eq") rfl)))))) (by simp [isAhdFrom])))) (fun _ _ _ _ _ z hz hp => by
    cases z with
    | win j lo hi => simp [isAhdFrom] at hp
    | ahd a b => exact (pd_ix ix_seq (pd_var (i := 3) rfl rfl (.inl rfl)) pd_int (by walk_at "r2ix") (fun _ _ => rfl))))) ?_
  exact sd_ret (by exact (pd_callB (call_sortedDI rfl) rfl T.sorted_ (by decide +kernel) (pda_cons (pd_var (i := 2) rfl rfl (.inl rfl)) pda_nil) (rc_sortT (Nat.lt_of_le_of_lt keys_few (by have := hp.c12; omega))))) rfl
end
end RK

namespace RK
open PySem PySem.Spec PyProof.Rows L2 DL
local macro_rules | `(tactic| walk_at "sf") => `(tactic| first | exact True.intro | assumption)
local macro_rules | `(tactic| walk_at "sz") => `(tactic| first | decide | (simp only [List.length_cons, List.length_nil, List.length_map, List.length_append, List.length_reverse, rng_len, sizeLine_eq]; omega))
local macro_rules | `(tactic| walk_at "r2add") => `(tactic| first | exact r2_addI | exact r2_addT (by walk_at "sz") | exact r2_addL (by walk_at "sz"))
local macro_rules | `(tactic| walk_at "r2i0") => `(tactic| exact r2_I0)
local macro_rules | `(tactic| walk_at "r2b0") => `(tactic| exact r2_B0)
local macro_rules | `(tactic| walk_at "r2mul") => `(tactic| exact r2_I (by unfold CMul; omega))
local macro_rules | `(tactic| walk_at "r2mod") => `(tactic| exact r2_I (by omega))
local macro_rules | `(tactic| walk_at "r2div") => `(tactic| exact r2_I (by unfold CDivN; omega))
local macro_rules | `(tactic| walk_at "r2pow") => `(tactic| exact r2_I (by unfold CPow; decide))
local macro_rules | `(tactic| walk_at "r2eq") => `(tactic| first | exact r2_eqI | exact r2_eqS | exact r2_eqB | exact r2_eqD (by assumption) (by assumption))
local macro_rules | `(tactic| walk_at "r2ne") => `(tactic| first | exact r2_neI | exact r2_neS | exact r2_neB)
local macro_rules | `(tactic| walk_at "r2in") => `(tactic| first | exact r2_inLI | exact r2_inTI | assumption)
local macro_rules | `(tactic| walk_at "r2nin") => `(tactic| first | exact r2_ninLI | exact r2_ninTI | assumption)
local macro_rules | `(tactic| walk_at "r2is") => `(tactic| exact r2_isN)
local macro_rules | `(tactic| walk_at "r2isn") => `(tactic| exact r2_notN)
local macro_rules | `(tactic| walk_at "r2ix") => `(tactic| first | exact r2_ixT rfl | exact r2_ixL rfl | exact r2_ixT (by assumption) | exact r2_ixL (by assumption))
local macro_rules | `(tactic| walk_at "rc1") => `(tactic| first | exact rc_lenT | exact rc_lenL | exact rc_max2 | exact rc_max (by walk_at "sz") | exact rc_min (by walk_at "sz") | exact rc_max (ns := _ :: _) (by walk_at "sz") | exact rc_min (ns := _ :: _) (by walk_at "sz") | exact rc_all | exact rc_any | exact rc_abs | exact rc_int | exact rc_tupL | assumption)
local macro_rules | `(tactic| walk_at "mem") => `(tactic| first | assumption | (simp; done))
local macro_rules | `(tactic| walk_at "rr") => `(tactic| first | exact ⟨_, rfl, rfl⟩ | exact ⟨_, _, rfl, rfl⟩ | exact ⟨_, _, _, rfl, rfl⟩ | exact ⟨_, by assumption, rfl, rfl⟩ | exact ⟨_, _, by assumption, rfl, rfl⟩ | exact ⟨_, _, _, by assumption, rfl, rfl⟩ | assumption)
local macro_rules | `(tactic| walk_at "rg") => `(tactic| first | omega | (simp only [List.length_cons, List.length_nil, List.length_map]; omega))
local macro_rules | `(tactic| walk_at "hz") => `(tactic| first | assumption | (simp only [List.length_cons, List.length_nil, List.length_map, rng_len, List.length_zipIdx, List.length_zip]; omega) | omega)
local macro_rules | `(tactic| walk_at "bb") => `(tactic| first | rfl | (simp [truD, isTupB, isStrB, isIntB, isBoolB, wholeB, sAW, sWA]; done) | (simp_all [truD, isTupB, isStrB, isIntB, isBoolB, wholeB, sAW, sWA]; done) | (simp [truD, isTupB, isStrB, isIntB, isBoolB, wholeB, sAW, sWA]; omega))
local macro_rules | `(tactic| walk_at "blkfree") => `(tactic| ((repeat' (first | exact List.forall_mem_nil _ | refine List.forall_mem_cons.mpr ⟨?_, ?_⟩)) <;> first | (intro hf; cases hf; done) | exact fun _ => .inl rfl | exact fun _ => .inr rfl))

section
variable {P : Program} {w : World} {K : PySem.W.Frag} {mg : Str → Option Value} {base : Heap} {f : Addr} {fd : FuncData}

abbrev s_ordered : Stmt := topS 26
theorem sc_ordered : FnScope ["problem", "found", "left", "free", "item", "other"] ["problem"] (defScope s_ordered) := ⟨rfl, rfl, rfl, by decide +kernel, rfl, by decide +kernel, by decide +kernel⟩
def R_ordered : List PyData → PyData → Prop := fun ds d => ∃ p, OkP p ∧ ds = [dP p] ∧ d = .list ((ordP p).map PyData.int)
theorem empty_map {l : List Int} : (l.map PyData.int).isEmpty = l.isEmpty := by cases l <;> rfl
theorem ok_ordered (T : Txt mg) (F : Fun K "ordered" "ordered" s_ordered f fd)
    (C_before : Cal P w K mg base 1 "before" (SpP R_before)) :
    FnOk P w K mg base CX0 2 f fd ["problem"] (SpP R_ordered) := by
  refine fn_pure F sc_ordered (by rintro _ _ ⟨p, hp, rfl, rfl⟩; rfl) fun cdv A outer s H E hr ds d h => ?_
  obtain ⟨p, hp, rfl, rfl⟩ := h
  have hn := hp.n5
  have hn1 := hp.n1
  refine sd_nxA (by exact (sd_asgO (i := 1) sc_ordered.nd rfl (.inl rfl) (pdf_lst pda_nil (by decide)))) fun fo => ?_
  refine sd_nx (by exact (sd_asg (i := 2) sc_ordered.nd rfl (.inr rfl) (by exact (pd_listRg rfl rfl T.list_ rfl T.range_ (by exact (pd_ix ix_seq (pd_var (i := 0) rfl rfl (.inr (.inl rfl))) pd_int (by walk_at "r2ix") (fun _ _ => rfl))) (by omega))))) ?_
  refine sd_then (Pg := fun G' => ∃ (fr l : Option Sl), G' = [some (.d (dP p)), some (.own fo ((ordP p).map PyData.int)), l, fr, none, none]) ?_ ?_
  · refine sp_while (fun m G' => ∃ (fr : Option Sl) (g l : List Int), G' = [some (.d (dP p)), some (.own fo (g.map PyData.int)), some (.d (.list (l.map PyData.int))), fr, none, none] ∧ m = l.length ∧ ordLoop p (m + 1) g l = ordP p ∧ g.length + l.length ≤ 5) (rng 0 p.n.toNat).length PassesOwn.never
      ⟨none, [], rng 0 p.n.toNat, rfl, rfl, by unfold ordP; rw [rng_len], by rw [rng_len]; simp only [List.length_nil]; omega⟩ ?_
    rintro m G' ⟨fr, g, l, rfl, rfl, ho, hb⟩
    have hl5 : l.length ≤ 100000 := by omega
    refine ⟨!l.isEmpty, by exact (pdt_eq (by exact (pdt_tru (pd_var (i := 2) rfl rfl (.inr (.inl rfl))) (by walk_at "sf"))) (by exact (congrArg (!·) empty_map))), fun hne => ?_, fun he => ?_⟩
    · have hln : l ≠ [] := by
        intro z
        rw [z] at hne
        cases hne
      have hfree : (freeOf p l).length ≤ 5 := Nat.le_trans (List.length_filter_le _ _) (by omega)
      refine sd_nx (by exact (sd_asg (i := 3) sc_ordered.nd rfl (.inr rfl) (by exact pd_lci (zs := l) (enc := PyData.int) (pr := fun i => !((bef p i).map fun o => decide (o ∈ l)).any id) (f := fun i => i) (own := [("item", 4)]) rfl sc_ordered.nd (pdi_list (by exact (pd_var (i := 2) rfl rfl (.inr (.inl rfl))))) (blkOk_by (own := [("item", 4)]) (N := ["problem", "found", "left", "free", "item", "other"]) (sc := defScope s_ordered) (by decide +kernel)) (by walk_at "hz") (stays_name (j := 4) (by decide)) (fun z _ => asg_name) (fun _ _ _ _ _ => pg_name (i := 4) sc_ordered.nd rfl (.inl rfl)) (fun _ _ _ _ _ z hz => by
        have hb2 : (bef p z).length ≤ 100000 := Nat.le_trans bef_len (by have := hp.c12; omega)
        exact pdts_one (pdt_eq (by exact (pdt_not (pdt_tru (pd_callB (cr_any rfl) rfl T.any_ (by decide +kernel) (pda_cons (pd_lcb (zs := bef p z) (enc := PyData.int) (f := fun o => decide (o ∈ l)) (own := [("other", 5)]) rfl sc_ordered.nd (pdi_list (by exact (pd_call C_before (hr.mono (by decide)) rfl (pda_cons (pd_var (i := 0) rfl rfl (.inr (.inl rfl))) (pda_cons (pd_var (i := 4) rfl rfl (.inl rfl)) pda_nil)) (by walk_at "rr")))) (blkOk_nest (N := ["problem", "found", "left", "free", "item", "other"]) rfl (by decide +kernel) (by walk_at "blkfree")) (by walk_at "hz") (stays_name (j := 5) (by decide)) (fun z _ => asg_name) (fun _ _ _ _ _ => pg_name (i := 5) sc_ordered.nd rfl (.inl rfl)) (fun _ _ _ _ _ y hy => by exact (pd_cmp (op_inS (hu65 hr)) (pd_var (i := 5) rfl rfl (.inl rfl)) (pd_var (i := 2) rfl rfl (.inr (.inl rfl))) (by walk_at "r2in") rfl))) pda_nil) rc_any) (by walk_at "sf")))) (by exact rfl))) (fun _ _ _ _ _ z hz _ => by exact (pd_var (i := 4) rfl rfl (.inl rfl)))))) ?_
      have hfm : ((freeOf p l).map fun i => i) = freeOf p l := List.map_id _
      rw [show (l.filter fun i => !((bef p i).map fun o => decide (o ∈ l)).any id) = freeOf p l from rfl, hfm]
      refine sd_ifE (b' := (freeOf p l).isEmpty) (by exact (pdt_not (pdt_tru (pd_var (i := 3) rfl rfl (.inr (.inl rfl))) (by walk_at "sf")))) (by
        show (!(!((freeOf p l).map PyData.int).isEmpty)) = _
        rw [Bool.not_not, empty_map]) (fun hf => ?_) (fun hf => ?_)
      · have hf0 : freeOf p l = [] := List.isEmpty_iff.mp hf
        refine freeze (i := 1) rfl (by simp) ?_
        refine sd_ret (by exact (pd_var (i := 1) rfl rfl (.inl rfl))) ?_
        show PyData.list (g.map PyData.int) = .list ((ordP p).map PyData.int)
        rw [← ho]
        unfold ordLoop
        rw [if_neg hln, if_pos hf0]
      · have hfn : freeOf p l ≠ [] := fun z => by
          rw [z] at hf
          cases hf
        refine sd_nx (by exact (sd_ext (i := 1) rfl (.inl rfl) (by exact (pd_var (i := 3) rfl rfl (.inr (.inl rfl)))) rfl rfl (by rw [List.length_map, List.length_map]; omega))) ?_
        refine sd_nx (by exact (sd_asg (i := 2) sc_ordered.nd rfl (.inr rfl) (by exact pd_lci (zs := l) (enc := PyData.int) (pr := fun i => !decide (i ∈ freeOf p l)) (f := fun i => i) (own := [("item", 4)]) rfl sc_ordered.nd (pdi_list (by exact (pd_var (i := 2) rfl rfl (.inr (.inl rfl))))) (blkOk_by (own := [("item", 4)]) (N := ["problem", "found", "left", "free", "item", "other"]) (sc := defScope s_ordered) (by decide +kernel)) (by walk_at "hz") (stays_name (j := 4) (by decide)) (fun z _ => asg_name) (fun _ _ _ _ _ => pg_name (i := 4) sc_ordered.nd rfl (.inl rfl)) (fun _ _ _ _ _ z hz => by exact pdts_one (by exact (pdt_cmp (op_notInS (hu65 hr)) (pd_var (i := 4) rfl rfl (.inl rfl)) (pd_var (i := 3) rfl rfl (.inr (.inl rfl))) (by walk_at "r2nin") rfl))) (fun _ _ _ _ _ z hz _ => by exact (pd_var (i := 4) rfl rfl (.inl rfl)))))) ?_
        refine sd_nil ?_
        have hlm : ((l.filter fun i => !decide (i ∈ freeOf p l)).map fun i => i) = l.filter fun i => !decide (i ∈ freeOf p l) := List.map_id _
        rw [hlm]
        have hll := left_less hfn
        have hsp := left_split (p := p) (l := l)
        refine ⟨_, hll, some (.d (.list ((freeOf p l).map PyData.int))), g ++ freeOf p l, l.filter fun i => !decide (i ∈ freeOf p l), ?_, rfl, ?_, ?_⟩
        · rw [List.map_append]
          rfl
        · rw [← ho]
          have h1 : ordLoop p (l.length + 1) g l = ordLoop p l.length (g ++ freeOf p l) (l.filter fun i => !decide (i ∈ freeOf p l)) := by
            rw [ordLoop, if_neg hln, if_neg hfn]
          rw [h1]
          exact ordLoop_fuel _ _ _ _ hll
        · rw [List.length_append]
          omega
    · have hl0 : l = [] := by
        cases l with
        | nil => rfl
        | cons x l => cases he
      refine ⟨fr, some (.d (.list (l.map PyData.int))), ?_⟩
      have : g = ordP p := by
        rw [← ho, hl0]
        rfl
      rw [this]
  · rintro G' ⟨fr, l, rfl⟩
    refine freeze (i := 1) rfl (by simp) ?_
    exact sd_ret (by exact (pd_var (i := 1) rfl rfl (.inl rfl))) rfl
abbrev s_is_cyclic : Stmt := topS 27
theorem sc_is_cyclic : FnScope ["problem"] ["problem"] (defScope s_is_cyclic) := ⟨rfl, rfl, rfl, by decide +kernel, rfl, by decide +kernel, by decide +kernel⟩
def R_is_cyclic : List PyData → PyData → Prop := fun ds d => ∃ p, OkP p ∧ ds = [dP p] ∧ d = .bool (cyclicB p)
theorem ok_is_cyclic (T : Txt mg) (F : Fun K "is_cyclic" "is_cyclic" s_is_cyclic f fd)
    (C_ordered : Cal P w K mg base 2 "ordered" (SpP R_ordered)) :
    FnOk P w K mg base CX0 3 f fd ["problem"] (SpP R_is_cyclic) := by
  refine fn_pure F sc_is_cyclic (by rintro _ _ ⟨p, hp, rfl, rfl⟩; rfl) fun cdv A outer s H E hr ds d h => ?_
  obtain ⟨p, hp, rfl, rfl⟩ := h
  exact sd_ret (pd_eq (by exact (pd_cmp op_lt (pd_callB call_len rfl T.len_ (by decide +kernel) (pda_cons (pd_call C_ordered (hr.mono (by decide)) rfl (pda_cons (pd_var (i := 0) rfl rfl (.inl rfl)) pda_nil) (by walk_at "rr")) pda_nil) (by walk_at "rc1")) (pd_ix ix_seq (pd_var (i := 0) rfl rfl (.inl rfl)) pd_int (by walk_at "r2ix") (fun _ _ => rfl)) (by walk_at "r2b0") rfl)) (by unfold cyclicB; rw [List.length_map])) rfl
end
end RK

namespace RK
open PySem PySem.Spec PyProof.Rows L2 DL
local macro_rules | `(tactic| walk_at "sf") => `(tactic| first | exact True.intro | assumption)
local macro_rules | `(tactic| walk_at "sz") => `(tactic| first | decide | (simp only [List.length_cons, List.length_nil, List.length_map, List.length_append, List.length_reverse, rng_len, sizeLine_eq]; omega))
local macro_rules | `(tactic| walk_at "r2add") => `(tactic| first | exact r2_addI | exact r2_addT (by walk_at "sz") | exact r2_addL (by walk_at "sz"))
local macro_rules | `(tactic| walk_at "r2i0") => `(tactic| exact r2_I0)
local macro_rules | `(tactic| walk_at "r2b0") => `(tactic| exact r2_B0)
local macro_rules | `(tactic| walk_at "r2mul") => `(tactic| exact r2_I (by unfold CMul; omega))
local macro_rules | `(tactic| walk_at "r2mod") => `(tactic| exact r2_I (by omega))
local macro_rules | `(tactic| walk_at "r2div") => `(tactic| exact r2_I (by unfold CDivN; omega))
local macro_rules | `(tactic| walk_at "r2pow") => `(tactic| exact r2_I (by unfold CPow; decide))
local macro_rules | `(tactic| walk_at "r2eq") => `(tactic| first | exact r2_eqI | exact r2_eqS | exact r2_eqB | exact r2_eqD (by assumption) (by assumption))
local macro_rules | `(tactic| walk_at "r2ne") => `(tactic| first | exact r2_neI | exact r2_neS | exact r2_neB)
local macro_rules | `(tactic| walk_at "r2in") => `(tactic| first | exact r2_inLI | exact r2_inTI | assumption)
local macro_rules | `(tactic| walk_at "r2nin") => `(tactic| first | exact r2_ninLI | exact r2_ninTI | assumption)
local macro_rules | `(tactic| walk_at "r2is") => `(tactic| exact r2_isN)
local macro_rules | `(tactic| walk_at "r2isn") => `(tactic| exact r2_notN)
local macro_rules | `(tactic| walk_at "r2ix") => `(tactic| first | exact r2_ixT rfl | exact r2_ixL rfl | exact r2_ixT (by assumption) | exact r2_ixL (by assumption))
local macro_rules | `(tactic| walk_at "rc1") => `(tactic| first | exact rc_lenT | exact rc_lenL | exact rc_max2 | exact rc_max (by walk_at "sz") | exact rc_min (by walk_at "sz") | exact rc_max (ns := _ :: _) (by walk_at "sz") | exact rc_min (ns := _ :: _) (by walk_at "sz") | exact rc_all | exact rc_any | exact rc_abs | exact rc_int | exact rc_tupL | assumption)
local macro_rules | `(tactic| walk_at "mem") => `(tactic| first | assumption | (simp; done))
local macro_rules | `(tactic| walk_at "rr") => `(tactic| first | exact ⟨_, rfl, rfl⟩ | exact ⟨_, _, rfl, rfl⟩ | exact ⟨_, _, _, rfl, rfl⟩ | exact ⟨_, by assumption, rfl, rfl⟩ | exact ⟨_, _, by assumption, rfl, rfl⟩ | exact ⟨_, _, _, by assumption, rfl, rfl⟩ | assumption)
local macro_rules | `(tactic| walk_at "rg") => `(tactic| first | omega | (simp only [List.length_cons, List.length_nil, List.length_map]; omega))
local macro_rules | `(tactic| walk_at "hz") => `(tactic| first | assumption | (simp only [List.length_cons, List.length_nil, List.length_map, rng_len, List.length_zipIdx, List.length_zip]; omega) | omega)
local macro_rules | `(tactic| walk_at "bb") => `(tactic| first | rfl | (simp [truD, isTupB, isStrB, isIntB, isBoolB, wholeB, sAW, sWA]; done) | (simp_all [truD, isTupB, isStrB, isIntB, isBoolB, wholeB, sAW, sWA]; done) | (simp [truD, isTupB, isStrB, isIntB, isBoolB, wholeB, sAW, sWA]; omega))
local macro_rules | `(tactic| walk_at "blkfree") => `(tactic| ((repeat' (first | exact List.forall_mem_nil _ | refine List.forall_mem_cons.mpr ⟨?_, ?_⟩)) <;> first | (intro hf; cases hf; done) | exact fun _ => .inl rfl | exact fun _ => .inr rfl))

section
variable {P : Program} {w : World} {K : PySem.W.Frag} {mg : Str → Option Value} {base : Heap} {f : Addr} {fd : FuncData}
theorem filter_tt {α : Type} (l : List α) : l.filter (fun _ => true) = l := List.filter_eq_self.mpr fun _ _ => rfl
theorem fold_take {β : Type} {g : List Int → β → List Int} {l : List β} {i : Nat} {x : β} {F : List Int} (h : l[i]? = some x) : (l.take (i + 1)).foldl g F = g ((l.take i).foldl g F) x := by
  rw [List.take_add_one, h, List.foldl_append]
  rfl
theorem some_map {α β : Type} {l : List α} {f : α → β} {i : Nat} {d : β} (h : (l.map f)[i]? = some d) : ∃ x, l[i]? = some x ∧ d = f x := by
  rw [List.getElem?_map] at h
  cases q : l[i]? with
  | none => rw [q] at h; cases h
  | some x =>
    rw [q] at h
    exact ⟨x, rfl, (Option.some.inj h).symm⟩
theorem some_mem {α : Type} {l : List α} {i : Nat} {x : α} (h : l[i]? = some x) : x ∈ l := by
  obtain ⟨hi, rfl⟩ := List.getElem?_eq_some_iff.mp h
  exact List.getElem_mem hi
theorem map_set {α β : Type} {f : α → β} : ∀ (l : List α) (i : Nat) (x : α), (l.map f).set i (f x) = (l.set i x).map f
  | [], _, _ => rfl
  | _ :: _, 0, _ => rfl
  | y :: l, i + 1, x => by
    show f y :: (l.map f).set i (f x) = _
    rw [map_set l i x]
    rfl

theorem rc_maxE {ds : List PyData} {ns : List Int} (h0 : 0 < ns.length) (h : ds = ns.map PyData.int) : RCD (rMax K) [.list ds] (.int (maxL ns)) := by
  rw [h]
  exact rc_max h0
theorem rc_minE {ds : List PyData} {ns : List Int} (h0 : 0 < ns.length) (h : ds = ns.map PyData.int) : RCD (rMin K) [.list ds] (.int (minL ns)) := by
  rw [h]
  exact rc_min h0

abbrev s_earliest_of : Stmt := topS 28
theorem sc_earliest_of : FnScope ["problem", "item", "found", "other"] ["problem"] (defScope s_earliest_of) := ⟨rfl, rfl, rfl, by decide +kernel, rfl, by decide +kernel, by decide +kernel⟩
def R_earliest_of : List PyData → PyData → Prop := fun ds d => ∃ p, OkP p ∧ ds = [dP p] ∧ d = .list ((earlP p).map PyData.int)
theorem ok_earliest_of (T : Txt mg) (F : Fun K "earliest_of" "earliest_of" s_earliest_of f fd)
    (C_ordered : Cal P w K mg base 2 "ordered" (SpP R_ordered))
    (C_given_low : Cal P w K mg base 1 "given_low" (SpP R_given_low))
    (C_before : Cal P w K mg base 1 "before" (SpP R_before)) :
    FnOk P w K mg base CX0 3 f fd ["problem"] (SpP R_earliest_of) := by
  refine fn_pure F sc_earliest_of (by rintro _ _ ⟨p, hp, rfl, rfl⟩; rfl) fun cdv A outer s H E hr ds d h => ?_
  obtain ⟨p, hp, rfl, rfl⟩ := h
  have hn := hp.n5
  have hn1 := hp.n1
  have hc := hp.c12
  have hz : (rng 0 p.n.toNat).length ≤ 100000 := by
    rw [rng_len]
    omega
  refine sd_nxA (by exact (sd_asgO (i := 2) sc_earliest_of.nd rfl (.inr rfl) (by exact (pdf_lc (zs := rng 0 p.n.toNat) (enc := PyData.int) (pr := fun _ => true) (f := fun i => .int (gLow p i)) (own := [("item", 1)]) rfl sc_earliest_of.nd (pdi_rng1 rfl T.range_ (by exact (pd_ix ix_seq (pd_var (i := 0) rfl rfl (.inr (.inl rfl))) pd_int (by walk_at "r2ix") (fun _ _ => rfl))) (by walk_at "rg")) (blkOk_by (own := [("item", 1)]) (N := ["problem", "item", "found", "other"]) (sc := defScope s_earliest_of) (by decide +kernel)) (by walk_at "hz") (stays_name (j := 1) (by decide)) (fun z _ => asg_name) (fun _ _ _ _ _ => pg_name (i := 1) sc_earliest_of.nd rfl (.inl rfl)) (fun _ _ _ _ _ z hz => pdts_nil rfl) (fun _ _ _ _ _ z hz _ => by exact (pd_call C_given_low (hr.mono (by decide)) rfl (pda_cons (pd_var (i := 0) rfl rfl (.inr (.inl rfl))) (pda_cons (pd_var (i := 1) rfl rfl (.inl rfl)) pda_nil)) (by walk_at "rr"))))))) fun fo => ?_
  have e0 : ((rng 0 p.n.toNat).filter fun _ => true).map (fun i => PyData.int (gLow p i)) = (lows0 p).map PyData.int := by
    rw [filter_tt]
    unfold lows0
    rw [List.map_map]
    rfl
  rw [e0]
  refine sd_then (Pg := fun G' => ∃ it : Option Sl, G' = [some (.d (dP p)), it, some (.own fo ((earlP p).map PyData.int)), none]) ?_ ?_
  · refine sp_for (xs := (ordP p).map PyData.int) (fun i G' => ∃ it : Option Sl, G' = [some (.d (dP p)), it, some (.own fo ((((ordP p).take i).foldl (earlStep p) (lows0 p)).map PyData.int)), none]) PassesOwn.never rfl (by exact (pdi_list (by exact (pd_call C_ordered (hr.mono (by decide)) rfl (pda_cons (pd_var (i := 0) rfl rfl (.inr (.inl rfl))) pda_nil) (by walk_at "rr"))))) (pg_name (i := 1) sc_earliest_of.nd rfl (.inl rfl)) ⟨none, rfl⟩ ?_ ?_
    · rintro i d G' hd ⟨it, rfl⟩
      obtain ⟨x, hx, rfl⟩ := some_map hd
      refine ⟨_, asg_name, ?_⟩
      have hxo := ordP_in (some_mem hx)
      have hF : (((ordP p).take i).foldl (earlStep p) (lows0 p)).length = p.n.toNat := by
        rw [foldl_len fun F i => earlStep_len]
        unfold lows0
        rw [List.length_map, rng_len]
      have hfo := fold_take (g := earlStep p) (F := lows0 p) hx
      have ex : PyData.int x = .int ((x.toNat : Nat) : Int) := by rw [show ((x.toNat : Nat) : Int) = x by omega]
      have hb2 : (bef p x).length ≤ 100000 := Nat.le_trans bef_len (by omega)
      refine sd_nx (by exact (sd_setI (i := 2) (j := x.toNat) (ds := (((ordP p).take i).foldl (earlStep p) (lows0 p)).map PyData.int) (d := .int (maxL (getI (((ordP p).take i).foldl (earlStep p) (lows0 p)) x :: (bef p x).map fun o => getI (((ordP p).take i).foldl (earlStep p) (lows0 p)) o + 1))) rfl (.inr (.inl rfl)) (by exact (pd_callB (cr_max rfl) rfl T.max_ (by decide +kernel) (pda_cons (pd_bin op_addAll (pd_lst (pda_cons (pd_ixO (i := 2) (by exact (pd_var (i := 1) rfl rfl (.inl rfl))) rfl rfl (atI_get hxo.1 (by rw [hF]; omega)) rfl (.inr (.inl rfl)) (fun _ _ => rfl)) pda_nil) (by walk_at "sz")) (pd_lcI (i0 := 2) (zs := bef p x) (enc := PyData.int) (f := fun o => getI (((ordP p).take i).foldl (earlStep p) (lows0 p)) o + 1) rfl (own := [("other", 3)]) rfl sc_earliest_of.nd (pdi_list (by exact (pd_call C_before (hr.mono (by decide)) rfl (pda_cons (pd_var (i := 0) rfl rfl (.inr (.inl rfl))) (pda_cons (pd_var (i := 1) rfl rfl (.inl rfl)) pda_nil)) (by walk_at "rr")))) (blkOk_by (own := [("other", 3)]) (N := ["problem", "item", "found", "other"]) (sc := defScope s_earliest_of) (by decide +kernel)) (by walk_at "hz") (stays_name (j := 3) (by decide)) (fun z _ => asg_name) (fun _ _ _ _ _ => pg_name (i := 3) sc_earliest_of.nd rfl (.inl rfl)) (fun _ _ _ _ _ z hz _ => by
        have hzb := bef_in hp hz
        exact (pd_bin op_addAll (pd_ix ix_seq (pd_var (i := 2) rfl rfl (.inr (.inl rfl))) (pd_var (i := 3) rfl rfl (.inl rfl)) (r2_ixL (atI_get hzb.1 (by rw [hF]; omega))) (fun _ _ => rfl)) pd_int r2_addI))) (r2_addL (by rw [List.length_map, sizeLine_eq]; simp only [List.length_cons, List.length_nil]; omega))) pda_nil) (rc_maxE (ns := getI (((ordP p).take i).foldl (earlStep p) (lows0 p)) x :: (bef p x).map fun o => getI (((ordP p).take i).foldl (earlStep p) (lows0 p)) o + 1) (Nat.succ_pos _) (by rw [List.map_cons, List.map_map]; rfl)))) (by exact (pd_eq (by exact (pd_var (i := 1) rfl rfl (.inl rfl))) ex)) rfl rfl (by rw [List.length_map, hF]; omega) (by exact (pg_sub (pe_var (i := 2) rfl (.inr (.inl rfl))) (by exact (pd_eq (by exact (pd_var (i := 1) rfl rfl (.inl rfl))) ex)) set_list)))) ?_
      refine sd_nil ⟨some (.d (.int x)), ?_⟩
      rw [hfo, map_set]
      rfl
    · rintro G' ⟨it, rfl⟩
      refine ⟨it, ?_⟩
      rw [List.length_map, List.take_length]
      rfl
  · rintro G' ⟨it, rfl⟩
    refine freeze (i := 2) rfl (by simp) ?_
    exact sd_ret (by exact (pd_var (i := 2) rfl rfl (.inr (.inl rfl)))) rfl
abbrev s_latest_of : Stmt := topS 29
theorem sc_latest_of : FnScope ["problem", "item", "found", "other"] ["problem"] (defScope s_latest_of) := ⟨rfl, rfl, rfl, by decide +kernel, rfl, by decide +kernel, by decide +kernel⟩
def R_latest_of : List PyData → PyData → Prop := fun ds d => ∃ p, OkP p ∧ ds = [dP p] ∧ d = .list ((lateP p).map PyData.int)
theorem ok_latest_of (T : Txt mg) (F : Fun K "latest_of" "latest_of" s_latest_of f fd)
    (C_given_high : Cal P w K mg base 1 "given_high" (SpP R_given_high))
    (C_ordered : Cal P w K mg base 2 "ordered" (SpP R_ordered))
    (C_behind : Cal P w K mg base 1 "behind" (SpP R_behind)) :
    FnOk P w K mg base CX0 3 f fd ["problem"] (SpP R_latest_of) := by
  refine fn_pure F sc_latest_of (by rintro _ _ ⟨p, hp, rfl, rfl⟩; rfl) fun cdv A outer s H E hr ds d h => ?_
  obtain ⟨p, hp, rfl, rfl⟩ := h
  have hn := hp.n5
  have hn1 := hp.n1
  have hc := hp.c12
  have hz : (rng 0 p.n.toNat).length ≤ 100000 := by
    rw [rng_len]
    omega
  refine sd_nxA (by exact (sd_asgO (i := 2) sc_latest_of.nd rfl (.inr rfl) (by exact (pdf_lc (zs := rng 0 p.n.toNat) (enc := PyData.int) (pr := fun _ => true) (f := fun i => .int (gHigh p i)) (own := [("item", 1)]) rfl sc_latest_of.nd (pdi_rng1 rfl T.range_ (by exact (pd_ix ix_seq (pd_var (i := 0) rfl rfl (.inr (.inl rfl))) pd_int (by walk_at "r2ix") (fun _ _ => rfl))) (by walk_at "rg")) (blkOk_by (own := [("item", 1)]) (N := ["problem", "item", "found", "other"]) (sc := defScope s_latest_of) (by decide +kernel)) (by walk_at "hz") (stays_name (j := 1) (by decide)) (fun z _ => asg_name) (fun _ _ _ _ _ => pg_name (i := 1) sc_latest_of.nd rfl (.inl rfl)) (fun _ _ _ _ _ z hz => pdts_nil rfl) (fun _ _ _ _ _ z hz _ => by exact (pd_call C_given_high (hr.mono (by decide)) rfl (pda_cons (pd_var (i := 0) rfl rfl (.inr (.inl rfl))) (pda_cons (pd_var (i := 1) rfl rfl (.inl rfl)) pda_nil)) (by walk_at "rr"))))))) fun fo => ?_
  have e0 : ((rng 0 p.n.toNat).filter fun _ => true).map (fun i => PyData.int (gHigh p i)) = (highs0 p).map PyData.int := by
    rw [filter_tt]
    unfold highs0
    rw [List.map_map]
    rfl
  rw [e0]
  refine sd_then (Pg := fun G' => ∃ it : Option Sl, G' = [some (.d (dP p)), it, some (.own fo ((lateP p).map PyData.int)), none]) ?_ ?_
  · refine sp_for (xs := (ordP p).reverse.map PyData.int) (fun i G' => ∃ it : Option Sl, G' = [some (.d (dP p)), it, some (.own fo ((((ordP p).reverse.take i).foldl (lateStep p) (highs0 p)).map PyData.int)), none]) PassesOwn.never rfl (by rw [List.map_reverse]; exact (pdi_rev rfl T.reversed_ (by exact (pd_call C_ordered (hr.mono (by decide)) rfl (pda_cons (pd_var (i := 0) rfl rfl (.inr (.inl rfl))) pda_nil) (by walk_at "rr"))))) (pg_name (i := 1) sc_latest_of.nd rfl (.inl rfl)) ⟨none, rfl⟩ ?_ ?_
    · rintro i d G' hd ⟨it, rfl⟩
      obtain ⟨x, hx, rfl⟩ := some_map hd
      refine ⟨_, asg_name, ?_⟩
      have hxo := ordP_in (List.mem_reverse.mp (some_mem hx))
      have hF : (((ordP p).reverse.take i).foldl (lateStep p) (highs0 p)).length = p.n.toNat := by
        rw [foldl_len fun F i => lateStep_len]
        unfold highs0
        rw [List.length_map, rng_len]
      have hfo := fold_take (g := lateStep p) (F := highs0 p) hx
      have ex : PyData.int x = .int ((x.toNat : Nat) : Int) := by rw [show ((x.toNat : Nat) : Int) = x by omega]
      have hb2 : (beh p x).length ≤ 100000 := Nat.le_trans beh_len (by omega)
      refine sd_nx (by exact (sd_setI (i := 2) (j := x.toNat) (ds := (((ordP p).reverse.take i).foldl (lateStep p) (highs0 p)).map PyData.int) (d := .int (minL (getI (((ordP p).reverse.take i).foldl (lateStep p) (highs0 p)) x :: (beh p x).map fun o => getI (((ordP p).reverse.take i).foldl (lateStep p) (highs0 p)) o - 1))) rfl (.inr (.inl rfl)) (by exact (pd_callB (cr_min rfl) rfl T.min_ (by decide +kernel) (pda_cons (pd_bin op_addAll (pd_lst (pda_cons (pd_ixO (i := 2) (by exact (pd_var (i := 1) rfl rfl (.inl rfl))) rfl rfl (atI_get hxo.1 (by rw [hF]; omega)) rfl (.inr (.inl rfl)) (fun _ _ => rfl)) pda_nil) (by walk_at "sz")) (pd_lcI (i0 := 2) (zs := beh p x) (enc := PyData.int) (f := fun o => getI (((ordP p).reverse.take i).foldl (lateStep p) (highs0 p)) o - 1) rfl (own := [("other", 3)]) rfl sc_latest_of.nd (pdi_list (by exact (pd_call C_behind (hr.mono (by decide)) rfl (pda_cons (pd_var (i := 0) rfl rfl (.inr (.inl rfl))) (pda_cons (pd_var (i := 1) rfl rfl (.inl rfl)) pda_nil)) (by walk_at "rr")))) (blkOk_by (own := [("other", 3)]) (N := ["problem", "item", "found", "other"]) (sc := defScope s_latest_of) (by decide +kernel)) (by walk_at "hz") (stays_name (j := 3) (by decide)) (fun z _ => asg_name) (fun _ _ _ _ _ => pg_name (i := 3) sc_latest_of.nd rfl (.inl rfl)) (fun _ _ _ _ _ z hz _ => by
        have hzb := beh_in hp hz
        exact (pd_bin op_sub (pd_ix ix_seq (pd_var (i := 2) rfl rfl (.inr (.inl rfl))) (pd_var (i := 3) rfl rfl (.inl rfl)) (r2_ixL (atI_get hzb.1 (by rw [hF]; omega))) (fun _ _ => rfl)) pd_int r2_I0))) (r2_addL (by rw [List.length_map, sizeLine_eq]; simp only [List.length_cons, List.length_nil]; omega))) pda_nil) (rc_minE (ns := getI (((ordP p).reverse.take i).foldl (lateStep p) (highs0 p)) x :: (beh p x).map fun o => getI (((ordP p).reverse.take i).foldl (lateStep p) (highs0 p)) o - 1) (Nat.succ_pos _) (by rw [List.map_cons, List.map_map]; rfl)))) (by exact (pd_eq (by exact (pd_var (i := 1) rfl rfl (.inl rfl))) ex)) rfl rfl (by rw [List.length_map, hF]; omega) (by exact (pg_sub (pe_var (i := 2) rfl (.inr (.inl rfl))) (by exact (pd_eq (by exact (pd_var (i := 1) rfl rfl (.inl rfl))) ex)) set_list)))) ?_
      refine sd_nil ⟨some (.d (.int x)), ?_⟩
      rw [hfo, map_set]
      rfl
    · rintro G' ⟨it, rfl⟩
      refine ⟨it, ?_⟩
      rw [List.length_map, List.take_length]
      rfl
  · rintro G' ⟨it, rfl⟩
    refine freeze (i := 2) rfl (by simp) ?_
    exact sd_ret (by exact (pd_var (i := 2) rfl rfl (.inr (.inl rfl)))) rfl
end
end RK

/-! The order, the earliest and the latest: plain facts. -/
namespace RK
open PySem PySem.Spec PyProof.Rows L2 DL

theorem rng_nodup {lo : Int} {n : Nat} : (rng lo n).Nodup := by
  unfold rng
  rw [List.nodup_iff_pairwise_ne, List.pairwise_map]
  exact List.Pairwise.imp (fun h e => h (by omega)) (List.nodup_iff_pairwise_ne.mp List.nodup_range)
theorem mem_freeOf {p : Prob} {l : List Int} {x : Int} : x ∈ freeOf p l ↔ x ∈ l ∧ ∀ o ∈ bef p x, o ∉ l := by
  unfold freeOf
  rw [List.mem_filter]
  simp
def Topo (p : Prob) (f : List Int) : Prop := ∀ a x b, f = a ++ x :: b → ∀ o ∈ bef p x, o ∈ a
theorem topo_app {p : Prob} {f g : List Int} (hf : Topo p f) (hg : ∀ x ∈ g, ∀ o ∈ bef p x, o ∈ f) : Topo p (f ++ g) := by
  intro a x b e o ho
  rcases List.append_eq_append_iff.mp e with ⟨c, h1, h2⟩ | ⟨c, h1, h2⟩
  · -- a = f ++ c
    rw [h1]
    have hx : x ∈ g := by rw [h2]; simp
    exact List.mem_append_left _ (hg x hx o ho)
  · -- f = a ++ c
    cases c with
    | nil =>
      simp at h1 h2
      have hx : x ∈ g := by rw [← h2]; simp
      rw [← h1]
      exact hg x hx o ho
    | cons y c =>
      have h3 : x :: b = y :: (c ++ g) := h2
      injection h3 with h4 h5
      subst h4
      exact hf a x c h1 o ho
theorem perm_filter {l : List Int} (q : Int → Bool) : (l.filter q ++ l.filter fun x => !q x).Perm l := List.filter_append_perm q l
theorem ordLoop_spec {p : Prob} (hp : OkP p) : ∀ (k : Nat) (f l : List Int), l.length < k → (f ++ l).Perm (rng 0 p.n.toNat) → Topo p f →
    ∃ l', (ordLoop p k f l ++ l').Perm (rng 0 p.n.toNat) ∧ Topo p (ordLoop p k f l) ∧ (l' = [] ∨ freeOf p l' = [])
  | 0, f, l, h, _, _ => by cases h
  | k + 1, f, l, h, hpm, ht => by
    unfold ordLoop
    by_cases hl : l = []
    · rw [if_pos hl]
      subst hl
      exact ⟨[], hpm, ht, .inl rfl⟩
    · rw [if_neg hl]
      by_cases hf : freeOf p l = []
      · rw [if_pos hf]
        exact ⟨l, hpm, ht, .inr hf⟩
      · rw [if_neg hf]
        have hll := left_less hf
        refine ordLoop_spec hp k _ _ (by omega) ?_ (topo_app ht fun x hx o ho => ?_)
        · refine List.Perm.trans ?_ hpm
          rw [List.append_assoc]
          refine List.Perm.append_left f ?_
          have h1 : (l.filter fun i => decide (i ∈ freeOf p l)) = freeOf p l := by
            unfold freeOf
            apply List.filter_congr
            intro x hx
            rw [Bool.eq_iff_iff, decide_eq_true_eq, List.mem_filter]
            exact ⟨fun z => z.2, fun z => ⟨hx, z⟩⟩
          have h2 := perm_filter (l := l) (fun i => decide (i ∈ freeOf p l))
          rw [h1] at h2
          exact h2
        · obtain ⟨h1, h2⟩ := mem_freeOf.mp hx
          have ho2 : o ∈ rng 0 p.n.toNat := rng_mem.mpr (by have := bef_in hp ho; omega)
          rcases List.mem_append.mp (hpm.mem_iff.mpr ho2) with q | q
          · exact q
          · exact absurd q (h2 o ho)
theorem ordP_spec {p : Prob} (hp : OkP p) : ∃ l', (ordP p ++ l').Perm (rng 0 p.n.toNat) ∧ Topo p (ordP p) ∧ (l' = [] ∨ freeOf p l' = []) :=
  ordLoop_spec hp _ _ _ (by rw [rng_len]; omega) (List.Perm.refl _) fun a x b e => by
    cases a <;> cases e
theorem acyc {p : Prob} (hp : OkP p) (h : cyclicB p = false) : (ordP p).Perm (rng 0 p.n.toNat) ∧ Topo p (ordP p) := by
  obtain ⟨l', h1, h2, h3⟩ := ordP_spec hp
  have h4 := h1.length_eq
  rw [List.length_append, rng_len] at h4
  have h5 : ¬ ((ordP p).length : Int) < p.n := by simpa [cyclicB] using h
  have h6 : l' = [] := List.eq_nil_of_length_eq_zero (by have := hp.n1; omega)
  subst h6
  rw [List.append_nil] at h1
  exact ⟨h1, h2⟩
/-- cyclic: some items, each with one of them ahead -/
theorem cyc_left {p : Prob} (hp : OkP p) (h : cyclicB p = true) : ∃ l : List Int, l ≠ [] ∧ (∀ x ∈ l, 0 ≤ x ∧ x < p.n) ∧ ∀ x ∈ l, ∃ o ∈ l, Con.ahd o x ∈ p.cs := by
  obtain ⟨l', h1, h2, h3⟩ := ordP_spec hp
  have h4 := h1.length_eq
  rw [List.length_append, rng_len] at h4
  have h5 : ((ordP p).length : Int) < p.n := by simpa [cyclicB] using h
  have hne : l' ≠ [] := fun z => by
    rw [z] at h4
    simp at h4
    omega
  refine ⟨l', hne, fun x hx => ?_, fun x hx => ?_⟩
  · have := rng_mem.mp (h1.mem_iff.mp (List.mem_append_right _ hx))
    omega
  · rcases h3 with z | z
    · exact absurd z hne
    · have hnf : x ∉ freeOf p l' := by rw [z]; simp
      have : ¬ ∀ o ∈ bef p x, o ∉ l' := fun q => hnf (mem_freeOf.mpr ⟨hx, q⟩)
      simp only [Classical.not_forall, Classical.not_not] at this
      obtain ⟨o, ho, ho2⟩ := this
      exact ⟨o, ho2, mem_bef.mp ho⟩

/-! ### a fold to a fixed point -/
theorem getI_set {F : List Int} {x y v : Int} (hx : 0 ≤ x) (hy : 0 ≤ y) (hl : x.toNat < F.length) : getI (F.set x.toNat v) y = if y = x then v else getI F y := by
  unfold getI
  rw [List.getD_eq_getElem?_getD, List.getElem?_set]
  by_cases h : y = x
  · subst h
    rw [if_pos rfl, if_pos rfl, if_pos hl]
    rfl
  · rw [if_neg h, if_neg (by omega), List.getD_eq_getElem?_getD]
def fixStep (g : Int → List Int → Int) (dep : Int → List Int) (F : List Int) (i : Int) : List Int := F.set i.toNat (g (getI F i) ((dep i).map (getI F)))
theorem map_same {l : List Int} {f g : Int → Int} (h : ∀ x ∈ l, f x = g x) : l.map f = l.map g := List.map_congr_left h
theorem fold_fix {g : Int → List Int → Int} {dep : Int → List Int} {F0 : Int → Int} : ∀ (l dn F : List Int), (∀ x ∈ l, x.toNat < F.length) → (∀ x ∈ dn ++ l, 0 ≤ x) → (dn ++ l).Nodup →
    (∀ a x b, l = a ++ x :: b → ∀ o ∈ dep x, o ∈ dn ++ a) → (∀ x ∈ l, getI F x = F0 x) → (∀ x ∈ dn, getI F x = g (F0 x) ((dep x).map (getI F))) → (∀ x ∈ dn, ∀ o ∈ dep x, o ∈ dn) →
    ∀ x ∈ dn ++ l, getI (l.foldl (fixStep g dep) F) x = g (F0 x) ((dep x).map (getI (l.foldl (fixStep g dep) F)))
  | [], dn, F, _, _, _, _, _, h1, _ => fun x hx => by
    rw [List.append_nil] at hx
    exact h1 x hx
  | x :: l, dn, F, hl, h0, hn, ht, hF, h1, h2 => by
    have hxl : x.toNat < F.length := hl x (by simp)
    have hx0 : 0 ≤ x := h0 x (by simp)
    have hdx : ∀ o ∈ dep x, o ∈ dn := fun o ho => by
      have := ht [] x l rfl o ho
      simpa using this
    have hnx : ∀ y ∈ dn, y ≠ x := fun y hy e => by
      subst e
      rw [List.nodup_append] at hn
      exact hn.2.2 y hy y (by simp) rfl
    have hnl : ∀ y ∈ l, y ≠ x := fun y hy e => by
      subst e
      rw [List.nodup_append, List.nodup_cons] at hn
      exact hn.2.1.1 hy
    have hset : ∀ y, y ∈ dn ∨ y ∈ l → getI (fixStep g dep F x) y = getI F y := fun y hy => by
      unfold fixStep
      rw [getI_set hx0 (h0 y (by rcases hy with q | q <;> simp [q])) hxl, if_neg]
      rcases hy with q | q
      · exact hnx y q
      · exact hnl y q
    have hself : getI (fixStep g dep F x) x = g (F0 x) ((dep x).map (getI F)) := by
      unfold fixStep
      rw [getI_set hx0 hx0 hxl, if_pos rfl, hF x (by simp)]
    rw [List.foldl_cons]
    have e : dn ++ x :: l = (dn ++ [x]) ++ l := by simp
    rw [e] at h0 hn ⊢
    refine fold_fix l (dn ++ [x]) (fixStep g dep F x) (fun y hy => ?_) h0 hn (fun a y b e o ho => ?_) (fun y hy => ?_) (fun y hy => ?_) (fun y hy o ho => ?_)
    · unfold fixStep
      rw [List.length_set]
      exact hl y (by simp [hy])
    · have := ht (x :: a) y b (by rw [e]; rfl) o ho
      simpa using this
    · rw [hset y (.inr hy)]
      exact hF y (by simp [hy])
    · rcases List.mem_append.mp hy with q | q
      · rw [hset y (.inl q), h1 y q]
        congr 1
        exact map_same fun o ho => (hset o (.inl (h2 y q o ho))).symm
      · have e2 : y = x := by simpa using q
        subst e2
        rw [hself]
        congr 1
        exact map_same fun o ho => (hset o (.inl (hdx o ho))).symm
    · rcases List.mem_append.mp hy with q | q
      · exact List.mem_append_left _ (h2 y q o ho)
      · have e2 : y = x := by simpa using q
        subst e2
        exact List.mem_append_left _ (hdx o ho)
def eaI (p : Prob) (i : Int) : Int := getI (earlP p) i
def laI (p : Prob) (i : Int) : Int := getI (lateP p) i
theorem earlStep_fix {p : Prob} : earlStep p = fixStep (fun a bs => maxL (a :: bs.map (· + 1))) (bef p) := by
  funext F i
  unfold earlStep fixStep
  show _ = F.set i.toNat (maxL (getI F i :: ((bef p i).map (getI F)).map (· + 1)))
  rw [List.map_map]
  rfl
theorem lateStep_fix {p : Prob} : lateStep p = fixStep (fun a bs => minL (a :: bs.map (· - 1))) (beh p) := by
  funext F i
  unfold lateStep fixStep
  show _ = F.set i.toNat (minL (getI F i :: ((beh p i).map (getI F)).map (· - 1)))
  rw [List.map_map]
  rfl
theorem getI_tab {n : Nat} {f : Int → Int} {x : Int} (h0 : 0 ≤ x) (h : x < n) : getI ((rng 0 n).map f) x = f x := by
  unfold getI rng
  rw [List.getD_eq_getElem?_getD, List.map_map, List.getElem?_map, List.getElem?_range (by omega)]
  show f (0 + ((x.toNat : Nat) : Int)) = f x
  rw [show (0 + ((x.toNat : Nat) : Int)) = x by omega]
theorem earl_fix {p : Prob} (hp : OkP p) (h : cyclicB p = false) {i : Int} (h0 : 0 ≤ i) (h1 : i < p.n) : eaI p i = maxL (gLow p i :: (bef p i).map fun o => eaI p o + 1) := by
  obtain ⟨hpm, ht⟩ := acyc hp h
  have hm : ∀ x, x ∈ ordP p ↔ 0 ≤ x ∧ x < p.n := fun x => by
    rw [hpm.mem_iff, rng_mem]
    have := hp.n1
    omega
  have key := fold_fix (g := fun a bs => maxL (a :: bs.map (· + 1))) (dep := bef p) (F0 := gLow p) (ordP p) [] (lows0 p) (fun x hx => ?_) (fun x hx => ((hm x).mp hx).1) (hpm.nodup_iff.mpr rng_nodup) (fun a x b e o ho => ht a x b e o ho) (fun x hx => ?_) (by simp) (by simp) i ((hm i).mpr ⟨h0, h1⟩)
  · unfold eaI earlP
    rw [earlStep_fix]
    rw [key, List.map_map]
    rfl
  · unfold lows0
    rw [List.length_map, rng_len]
    have := (hm x).mp hx
    omega
  · have := (hm x).mp hx
    exact getI_tab this.1 (by omega)
theorem topo_rev {p : Prob} (hp : OkP p) (hpm : (ordP p).Perm (rng 0 p.n.toNat)) (ht : Topo p (ordP p)) : ∀ a x b, (ordP p).reverse = a ++ x :: b → ∀ o ∈ beh p x, o ∈ a := by
  intro a x b e o ho
  have hx : x ∈ bef p o := mem_bef.mpr (mem_beh.mp ho)
  have hnd : (ordP p).Nodup := hpm.nodup_iff.mpr rng_nodup
  have e1 : ordP p = b.reverse ++ x :: a.reverse := by
    have := congrArg List.reverse e
    rw [List.reverse_reverse] at this
    rw [this]
    simp
  have hoin : o ∈ ordP p := by
    rw [hpm.mem_iff, rng_mem]
    have := beh_in hp ho
    have := hp.n1
    omega
  rw [e1] at hoin
  rcases List.mem_append.mp hoin with q | q
  · exfalso
    obtain ⟨c, d, e2⟩ := List.append_of_mem q
    have e3 : ordP p = c ++ o :: (d ++ x :: a.reverse) := by
      rw [e1, e2]
      simp
    have hxc := ht c o _ e3 x hx
    rw [e3, List.nodup_append] at hnd
    exact hnd.2.2 x hxc x (by simp) rfl
  · rcases List.mem_cons.mp q with q | q
    · exfalso
      subst q
      have hxc := ht _ _ _ e1 o hx
      rw [e1, List.nodup_append] at hnd
      exact hnd.2.2 o hxc o (by simp) rfl
    · exact List.mem_reverse.mp q
theorem late_fix {p : Prob} (hp : OkP p) (h : cyclicB p = false) {i : Int} (h0 : 0 ≤ i) (h1 : i < p.n) : laI p i = minL (gHigh p i :: (beh p i).map fun o => laI p o - 1) := by
  obtain ⟨hpm, ht⟩ := acyc hp h
  have hm : ∀ x, x ∈ (ordP p).reverse ↔ 0 ≤ x ∧ x < p.n := fun x => by
    rw [List.mem_reverse, hpm.mem_iff, rng_mem]
    have := hp.n1
    omega
  have hnd : ((ordP p).reverse).Nodup := (List.reverse_perm _).nodup_iff.mpr (hpm.nodup_iff.mpr rng_nodup)
  have key := fold_fix (g := fun a bs => minL (a :: bs.map (· - 1))) (dep := beh p) (F0 := gHigh p) (ordP p).reverse [] (highs0 p) (fun x hx => ?_) (fun x hx => ((hm x).mp hx).1) hnd (fun a x b e o ho => topo_rev hp hpm ht a x b e o ho) (fun x hx => ?_) (by simp) (by simp) i ((hm i).mpr ⟨h0, h1⟩)
  · unfold laI lateP
    rw [lateStep_fix]
    rw [key, List.map_map]
    rfl
  · unfold highs0
    rw [List.length_map, rng_len]
    have := (hm x).mp hx
    omega
  · have := (hm x).mp hx
    exact getI_tab this.1 (by omega)
/-! bounds -/
theorem gLow_ge {p : Prob} {i : Int} : 1 ≤ gLow p i := maxL_ge (by simp)
theorem gHigh_le {p : Prob} {i : Int} : gHigh p i ≤ p.n := minL_le (by simp)
theorem gLow_le {p : Prob} (hp : OkP p) {i : Int} : gLow p i ≤ p.n := by
  have h := maxL_mem (ns := 1 :: (p.cs.filter (isWinOf i)).map conLo) (Nat.succ_pos _)
  unfold gLow
  rcases List.mem_cons.mp h with q | q
  · rw [q]
    exact hp.n1
  · obtain ⟨c, hc, e⟩ := List.mem_map.mp q
    rw [← e]
    have hw := hp.wf c (List.mem_filter.mp hc).1
    cases c with
    | win j lo hi =>
      have h1 : lo ≤ hi := hw.2.2.2.1
      have h2 : hi ≤ p.n := hw.2.2.2.2
      show lo ≤ p.n
      omega
    | ahd a b =>
      show (0 : Int) ≤ p.n
      have := hp.n1
      omega
theorem gHigh_ge {p : Prob} (hp : OkP p) {i : Int} : 1 ≤ gHigh p i := by
  have h := minL_mem (ns := p.n :: (p.cs.filter (isWinOf i)).map conHi) (Nat.succ_pos _)
  unfold gHigh
  rcases List.mem_cons.mp h with q | q
  · rw [q]
    exact hp.n1
  · obtain ⟨c, hc, e⟩ := List.mem_map.mp q
    rw [← e]
    obtain ⟨hc1, hc2⟩ := List.mem_filter.mp hc
    have hw := hp.wf c hc1
    cases c with
    | win j lo hi =>
      have h1 : 1 ≤ lo := hw.2.2.1
      have h2 : lo ≤ hi := hw.2.2.2.1
      show 1 ≤ hi
      omega
    | ahd a b => simp [isWinOf] at hc2
theorem ea_low {p : Prob} (hp : OkP p) (h : cyclicB p = false) {i : Int} (h0 : 0 ≤ i) (h1 : i < p.n) : gLow p i ≤ eaI p i := by
  rw [earl_fix hp h h0 h1]
  exact maxL_ge (by simp)
theorem la_high {p : Prob} (hp : OkP p) (h : cyclicB p = false) {i : Int} (h0 : 0 ≤ i) (h1 : i < p.n) : laI p i ≤ gHigh p i := by
  rw [late_fix hp h h0 h1]
  exact minL_le (by simp)
theorem ea_ahd {p : Prob} (hp : OkP p) (h : cyclicB p = false) {o i : Int} (hc : Con.ahd o i ∈ p.cs) : eaI p o + 1 ≤ eaI p i := by
  have hw := hp.wf _ hc
  rw [earl_fix hp h (i := i) hw.2.2.1 hw.2.2.2.1]
  refine maxL_ge (List.mem_cons_of_mem _ (List.mem_map.mpr ⟨o, mem_bef.mpr hc, rfl⟩))
theorem la_ahd {p : Prob} (hp : OkP p) (h : cyclicB p = false) {o i : Int} (hc : Con.ahd i o ∈ p.cs) : laI p i ≤ laI p o - 1 := by
  have hw := hp.wf _ hc
  rw [late_fix hp h (i := i) hw.1 hw.2.1]
  refine minL_le (List.mem_cons_of_mem _ (List.mem_map.mpr ⟨o, mem_beh.mpr hc, rfl⟩))
theorem ea_near {p : Prob} (hp : OkP p) (h : cyclicB p = false) {i : Int} (h0 : 0 ≤ i) (h1 : i < p.n) (hne : gLow p i ≠ eaI p i) : ∃ o ∈ bef p i, eaI p o + 1 = eaI p i := by
  have hm := maxL_mem (ns := gLow p i :: (bef p i).map fun o => eaI p o + 1) (Nat.succ_pos _)
  rw [← earl_fix hp h h0 h1] at hm
  rcases List.mem_cons.mp hm with q | q
  · exact absurd q.symm hne
  · obtain ⟨o, ho, e⟩ := List.mem_map.mp q
    exact ⟨o, ho, e⟩
theorem la_near {p : Prob} (hp : OkP p) (h : cyclicB p = false) {i : Int} (h0 : 0 ≤ i) (h1 : i < p.n) (hne : gHigh p i ≠ laI p i) : ∃ o ∈ beh p i, laI p o - 1 = laI p i := by
  have hm := minL_mem (ns := gHigh p i :: (beh p i).map fun o => laI p o - 1) (Nat.succ_pos _)
  rw [← late_fix hp h h0 h1] at hm
  rcases List.mem_cons.mp hm with q | q
  · exact absurd q.symm hne
  · obtain ⟨o, ho, e⟩ := List.mem_map.mp q
    exact ⟨o, ho, e⟩
theorem getI_bd {F : List Int} {lo hi x : Int} (h : ∀ y ∈ F, lo ≤ y ∧ y ≤ hi) (hx : 0 ≤ x) (hl : x.toNat < F.length) : lo ≤ getI F x ∧ getI F x ≤ hi := by
  unfold getI
  rw [List.getD_eq_getElem?_getD, List.getElem?_eq_getElem hl]
  exact h _ (List.getElem_mem hl)
theorem mem_set {F : List Int} {i : Nat} {v y : Int} (h : y ∈ F.set i v) : y ∈ F ∨ y = v := List.mem_or_eq_of_mem_set h
theorem earl_bd {p : Prob} (hp : OkP p) : ∀ (l F : List Int) (b : Int), (∀ x ∈ l, 0 ≤ x ∧ x < p.n) → F.length = p.n.toNat → (∀ y ∈ F, 1 ≤ y ∧ y ≤ b) → ∀ y ∈ l.foldl (earlStep p) F, 1 ≤ y ∧ y ≤ b + l.length
  | [], F, b, _, _, h => fun y hy => by
    have := h y hy
    simp only [List.length_nil]
    omega
  | x :: l, F, b, hl, hF, h => fun y hy => by
    rw [List.foldl_cons] at hy
    have hx := hl x (by simp)
    have h2 := earl_bd hp l (earlStep p F x) (b + 1) (fun z hz => hl z (by simp [hz])) (by rw [earlStep_len, hF]) (fun z hz => ?_) y hy
    · rw [List.length_cons]
      omega
    · rcases mem_set hz with q | q
      · have := h z q
        omega
      · have hm := maxL_mem (ns := getI F x :: (bef p x).map fun o => getI F o + 1) (Nat.succ_pos _)
        rw [← q] at hm
        rcases List.mem_cons.mp hm with q | q
        · have := getI_bd h hx.1 (by omega)
          omega
        · obtain ⟨o, ho, e⟩ := List.mem_map.mp q
          have ho2 := bef_in hp ho
          have := getI_bd h ho2.1 (by omega)
          omega
theorem late_bd {p : Prob} (hp : OkP p) : ∀ (l F : List Int) (b : Int), (∀ x ∈ l, 0 ≤ x ∧ x < p.n) → F.length = p.n.toNat → (∀ y ∈ F, b ≤ y ∧ y ≤ p.n) → ∀ y ∈ l.foldl (lateStep p) F, b - l.length ≤ y ∧ y ≤ p.n
  | [], F, b, _, _, h => fun y hy => by
    have := h y hy
    simp only [List.length_nil]
    omega
  | x :: l, F, b, hl, hF, h => fun y hy => by
    rw [List.foldl_cons] at hy
    have hx := hl x (by simp)
    have h2 := late_bd hp l (lateStep p F x) (b - 1) (fun z hz => hl z (by simp [hz])) (by rw [lateStep_len, hF]) (fun z hz => ?_) y hy
    · rw [List.length_cons]
      omega
    · rcases mem_set hz with q | q
      · have := h z q
        omega
      · have hm := minL_mem (ns := getI F x :: (beh p x).map fun o => getI F o - 1) (Nat.succ_pos _)
        rw [← q] at hm
        rcases List.mem_cons.mp hm with q | q
        · have := getI_bd h hx.1 (by omega)
          omega
        · obtain ⟨o, ho, e⟩ := List.mem_map.mp q
          have ho2 := beh_in hp ho
          have := getI_bd h ho2.1 (by omega)
          omega
theorem ea_bd {p : Prob} (hp : OkP p) {i : Int} (h0 : 0 ≤ i) (h1 : i < p.n) : 1 ≤ eaI p i ∧ eaI p i ≤ 10 := by
  have h := earl_bd hp (ordP p) (lows0 p) p.n (fun x hx => ordP_in hx) (by unfold lows0; rw [List.length_map, rng_len]) (fun y hy => by
    unfold lows0 at hy
    obtain ⟨x, hx, e⟩ := List.mem_map.mp hy
    rw [← e]
    exact ⟨gLow_ge, gLow_le hp⟩)
  have h2 := ordP_len (p := p)
  have h3 := hp.n5
  have h4 := getI_bd h h0 (by
    show i.toNat < (earlP p).length
    rw [earlP_len]
    omega)
  unfold eaI earlP
  omega
theorem la_bd {p : Prob} (hp : OkP p) {i : Int} (h0 : 0 ≤ i) (h1 : i < p.n) : -4 ≤ laI p i ∧ laI p i ≤ p.n := by
  have h := late_bd hp (ordP p).reverse (highs0 p) 1 (fun x hx => ordP_in (List.mem_reverse.mp hx)) (by unfold highs0; rw [List.length_map, rng_len]) (fun y hy => by
    unfold highs0 at hy
    obtain ⟨x, hx, e⟩ := List.mem_map.mp hy
    rw [← e]
    exact ⟨gHigh_ge hp, gHigh_le⟩)
  have h2 := ordP_len (p := p)
  have h3 := hp.n5
  have h4 := getI_bd h h0 (by
    show i.toNat < (lateP p).length
    rw [lateP_len]
    omega)
  rw [List.length_reverse] at h4
  unfold laI lateP
  omega
end RK

/-! The chains. -/
namespace RK
open PySem PySem.Spec PyProof.Rows L2 DL
theorem atI_hd {α : Type} {x : α} {l : List α} : atI (x :: l) 0 = some x := atI_nat (xs := x :: l) (j := 0) rfl
def lowNear (p : Prob) (x : Int) : List Int := (bef p x).filter fun o => decide (eaI p o + 1 = eaI p x)
def upNear (p : Prob) (x : Int) : List Int := (beh p x).filter fun o => decide (laI p o - 1 = laI p x)
def lowLoop (p : Prob) : Nat → List Int → List Int
  | 0, c => c
  | k + 1, c => if gLow p (c.headD 0) = eaI p (c.headD 0) then c else lowLoop p k ((lowNear p (c.headD 0)).headD 0 :: c)
def lowChain (p : Prob) (i : Int) : List Int := lowLoop p ((eaI p i).toNat + 1) [i]
def lastI (c : List Int) : Int := c.getLastD 0
def upLoop (p : Prob) : Nat → List Int → List Int
  | 0, c => c
  | k + 1, c => if gHigh p (lastI c) = laI p (lastI c) then c else upLoop p k (c ++ [(upNear p (lastI c)).headD 0])
def upChain (p : Prob) (i : Int) : List Int := upLoop p ((p.n - laI p i).toNat + 1) [i]
theorem lowNear_hd {p : Prob} (hp : OkP p) (h : cyclicB p = false) {x : Int} (h0 : 0 ≤ x) (h1 : x < p.n) (hne : gLow p x ≠ eaI p x) : ∃ y l, lowNear p x = y :: l ∧ Con.ahd y x ∈ p.cs ∧ eaI p y + 1 = eaI p x ∧ 0 ≤ y ∧ y < p.n := by
  obtain ⟨o, ho, e⟩ := ea_near hp h h0 h1 hne
  have hm : o ∈ lowNear p x := List.mem_filter.mpr ⟨ho, by simpa using e⟩
  cases q : lowNear p x with
  | nil => rw [q] at hm; cases hm
  | cons y l =>
    have hy : y ∈ lowNear p x := by rw [q]; simp
    obtain ⟨h2, h3⟩ := List.mem_filter.mp hy
    exact ⟨y, l, rfl, mem_bef.mp h2, by simpa using h3, bef_in hp h2⟩
theorem upNear_hd {p : Prob} (hp : OkP p) (h : cyclicB p = false) {x : Int} (h0 : 0 ≤ x) (h1 : x < p.n) (hne : gHigh p x ≠ laI p x) : ∃ y l, upNear p x = y :: l ∧ Con.ahd x y ∈ p.cs ∧ laI p y - 1 = laI p x ∧ 0 ≤ y ∧ y < p.n := by
  obtain ⟨o, ho, e⟩ := la_near hp h h0 h1 hne
  have hm : o ∈ upNear p x := List.mem_filter.mpr ⟨ho, by simpa using e⟩
  cases q : upNear p x with
  | nil => rw [q] at hm; cases hm
  | cons y l =>
    have hy : y ∈ upNear p x := by rw [q]; simp
    obtain ⟨h2, h3⟩ := List.mem_filter.mp hy
    exact ⟨y, l, rfl, mem_beh.mp h2, by simpa using h3, beh_in hp h2⟩
/-- each ahead of the next -/
def Chn (p : Prob) : List Int → Prop
  | [] => True
  | [_] => True
  | x :: y :: l => Con.ahd x y ∈ p.cs ∧ Chn p (y :: l)
theorem chn_cons {p : Prob} {x y : Int} {l : List Int} (h : Con.ahd x y ∈ p.cs) (h2 : Chn p (y :: l)) : Chn p (x :: y :: l) := ⟨h, h2⟩
theorem chn_split {p : Prob} {x : Int} : ∀ {a b : List Int}, Chn p (a ++ x :: b) ↔ Chn p (a ++ [x]) ∧ Chn p (x :: b)
  | [], b => ⟨fun h => ⟨True.intro, h⟩, fun h => h.2⟩
  | [y], b => ⟨fun h => ⟨⟨h.1, True.intro⟩, h.2⟩, fun h => ⟨h.1.1, h.2⟩⟩
  | y :: z :: a, b => by
    have ih := chn_split (p := p) (x := x) (a := z :: a) (b := b)
    constructor
    · intro h
      obtain ⟨h1, h2⟩ : Con.ahd y z ∈ p.cs ∧ Chn p ((z :: a) ++ x :: b) := h
      obtain ⟨h3, h4⟩ := ih.mp h2
      exact ⟨⟨h1, h3⟩, h4⟩
    · rintro ⟨h1, h2⟩
      obtain ⟨h3, h4⟩ : Con.ahd y z ∈ p.cs ∧ Chn p ((z :: a) ++ [x]) := h1
      exact ⟨h3, ih.mpr ⟨h4, h2⟩⟩
theorem chn_snoc {p : Prob} {c : List Int} {y : Int} (hc : c ≠ []) (h : Chn p c) (h2 : Con.ahd (lastI c) y ∈ p.cs) : Chn p (c ++ [y]) := by
  have e : c = c.dropLast ++ [lastI c] := by
    unfold lastI
    cases c with
    | nil => exact absurd rfl hc
    | cons x l =>
      rw [List.getLastD_cons]
      have := (List.dropLast_concat_getLast (l := x :: l) (by simp)).symm
      rw [← List.getLast_eq_getLastD (by simp)] 
      exact this
  rw [e, List.append_assoc]
  refine chn_split.mpr ⟨?_, ?_⟩
  · rw [← e]
    exact h
  · exact ⟨h2, True.intro⟩
end RK

namespace RK
open PySem PySem.Spec PyProof.Rows L2 DL
local macro_rules | `(tactic| walk_at "sf") => `(tactic| first | exact True.intro | assumption)
local macro_rules | `(tactic| walk_at "sz") => `(tactic| first | decide | (simp only [List.length_cons, List.length_nil, List.length_map, List.length_append, List.length_reverse, rng_len, sizeLine_eq]; omega))
local macro_rules | `(tactic| walk_at "r2add") => `(tactic| first | exact r2_addI | exact r2_addT (by walk_at "sz") | exact r2_addL (by walk_at "sz"))
local macro_rules | `(tactic| walk_at "r2i0") => `(tactic| exact r2_I0)
local macro_rules | `(tactic| walk_at "r2b0") => `(tactic| exact r2_B0)
local macro_rules | `(tactic| walk_at "r2mul") => `(tactic| exact r2_I (by unfold CMul; omega))
local macro_rules | `(tactic| walk_at "r2mod") => `(tactic| exact r2_I (by omega))
local macro_rules | `(tactic| walk_at "r2div") => `(tactic| exact r2_I (by unfold CDivN; omega))
local macro_rules | `(tactic| walk_at "r2pow") => `(tactic| exact r2_I (by unfold CPow; decide))
local macro_rules | `(tactic| walk_at "r2eq") => `(tactic| first | exact r2_eqI | exact r2_eqS | exact r2_eqB | exact r2_eqD (by assumption) (by assumption))
local macro_rules | `(tactic| walk_at "r2ne") => `(tactic| first | exact r2_neI | exact r2_neS | exact r2_neB)
local macro_rules | `(tactic| walk_at "r2in") => `(tactic| first | exact r2_inLI | exact r2_inTI | assumption)
local macro_rules | `(tactic| walk_at "r2nin") => `(tactic| first | exact r2_ninLI | exact r2_ninTI | assumption)
local macro_rules | `(tactic| walk_at "r2is") => `(tactic| exact r2_isN)
local macro_rules | `(tactic| walk_at "r2isn") => `(tactic| exact r2_notN)
local macro_rules | `(tactic| walk_at "r2ix") => `(tactic| first | exact r2_ixT rfl | exact r2_ixL rfl | exact r2_ixT (by assumption) | exact r2_ixL (by assumption))
local macro_rules | `(tactic| walk_at "rc1") => `(tactic| first | exact rc_lenT | exact rc_lenL | exact rc_max2 | exact rc_max (by walk_at "sz") | exact rc_min (by walk_at "sz") | exact rc_max (ns := _ :: _) (by walk_at "sz") | exact rc_min (ns := _ :: _) (by walk_at "sz") | exact rc_all | exact rc_any | exact rc_abs | exact rc_int | exact rc_tupL | assumption)
local macro_rules | `(tactic| walk_at "mem") => `(tactic| first | assumption | (simp; done))
local macro_rules | `(tactic| walk_at "rr") => `(tactic| first | exact ⟨_, rfl, rfl⟩ | exact ⟨_, _, rfl, rfl⟩ | exact ⟨_, _, _, rfl, rfl⟩ | exact ⟨_, by assumption, rfl, rfl⟩ | exact ⟨_, _, by assumption, rfl, rfl⟩ | exact ⟨_, _, _, by assumption, rfl, rfl⟩ | assumption)
local macro_rules | `(tactic| walk_at "rg") => `(tactic| first | omega | (simp only [List.length_cons, List.length_nil, List.length_map]; omega))
local macro_rules | `(tactic| walk_at "hz") => `(tactic| first | assumption | (simp only [List.length_cons, List.length_nil, List.length_map, rng_len, List.length_zipIdx, List.length_zip]; omega) | omega)
local macro_rules | `(tactic| walk_at "bb") => `(tactic| first | rfl | (simp [truD, isTupB, isStrB, isIntB, isBoolB, wholeB, sAW, sWA]; done) | (simp_all [truD, isTupB, isStrB, isIntB, isBoolB, wholeB, sAW, sWA]; done) | (simp [truD, isTupB, isStrB, isIntB, isBoolB, wholeB, sAW, sWA]; omega))
local macro_rules | `(tactic| walk_at "blkfree") => `(tactic| ((repeat' (first | exact List.forall_mem_nil _ | refine List.forall_mem_cons.mpr ⟨?_, ?_⟩)) <;> first | (intro hf; cases hf; done) | exact fun _ => .inl rfl | exact fun _ => .inr rfl))

section
variable {P : Program} {w : World} {K : PySem.W.Frag} {mg : Str → Option Value} {base : Heap} {f : Addr} {fd : FuncData}
theorem atI_ea {p : Prob} {x : Int} (h0 : 0 ≤ x) (h1 : x < p.n) : atI ((earlP p).map PyData.int) x = some (.int (eaI p x)) := atI_get h0 (by rw [earlP_len]; omega)
theorem atI_la {p : Prob} {x : Int} (h0 : 0 ≤ x) (h1 : x < p.n) : atI ((lateP p).map PyData.int) x = some (.int (laI p x)) := atI_get h0 (by rw [lateP_len]; omega)
abbrev s_lower_chain : Stmt := topS 30
theorem sc_lower_chain : FnScope ["problem", "item", "earliest", "chain", "near", "other"] ["problem", "item"] (defScope s_lower_chain) := ⟨rfl, rfl, rfl, by decide +kernel, rfl, by decide +kernel, by decide +kernel⟩
def R_lower_chain : List PyData → PyData → Prop := fun ds d => ∃ p i, (OkP p ∧ cyclicB p = false ∧ 0 ≤ i ∧ i < p.n) ∧ ds = [dP p, .int i] ∧ d = dR (lowChain p i)
theorem ok_lower_chain (T : Txt mg) (F : Fun K "lower_chain" "lower_chain" s_lower_chain f fd)
    (C_earliest_of : Cal P w K mg base 3 "earliest_of" (SpP R_earliest_of))
    (C_given_low : Cal P w K mg base 1 "given_low" (SpP R_given_low))
    (C_before : Cal P w K mg base 1 "before" (SpP R_before)) :
    FnOk P w K mg base CX0 4 f fd ["problem", "item"] (SpP R_lower_chain) := by
  refine fn_pure F sc_lower_chain (by rintro _ _ ⟨p, i, hh, rfl, rfl⟩; rfl) fun cdv A outer s H E hr ds d h => ?_
  obtain ⟨p, i, hh, rfl, rfl⟩ := h
  obtain ⟨hp, hcy, hi0, hi1⟩ := hh
  have hc := hp.c12
  refine sd_nx (by exact (sd_asg (i := 2) sc_lower_chain.nd rfl (.inr rfl) (by exact (pd_call C_earliest_of (hr.mono (by decide)) rfl (pda_cons (pd_var (i := 0) rfl rfl (.inl rfl)) pda_nil) (by walk_at "rr"))))) ?_
  refine sd_nx (by exact (sd_asg (i := 3) sc_lower_chain.nd rfl (.inr rfl) (by exact (pd_tup (pda_cons (pd_var (i := 1) rfl rfl (.inl rfl)) pda_nil) (by walk_at "sz"))))) ?_
  refine sd_then (Pg := fun G' => ∃ nr : Option Sl, G' = [some (.d (dP p)), some (.d (.int i)), some (.d (.list ((earlP p).map PyData.int))), some (.d (dR (lowChain p i))), nr, none]) ?_ ?_
  · have hb0 := ea_bd hp hi0 hi1
    refine sp_while (fun m G' => ∃ (nr : Option Sl) (x : Int) (c : List Int), G' = [some (.d (dP p)), some (.d (.int i)), some (.d (.list ((earlP p).map PyData.int))), some (.d (dR (x :: c))), nr, none] ∧ m = (eaI p x).toNat ∧ (0 ≤ x ∧ x < p.n) ∧ lowLoop p (m + 1) (x :: c) = lowChain p i ∧ c.length + m ≤ 10) (eaI p i).toNat PassesOwn.never
      ⟨none, i, [], rfl, rfl, ⟨hi0, hi1⟩, rfl, by simp only [List.length_nil]; omega⟩ ?_
    rintro m G' ⟨nr, x, c, rfl, rfl, hx, hl, hb⟩
    have hx0 : atI (List.map PyData.int (x :: c)) 0 = some (.int x) := atI_hd
    have hxe := atI_ea (p := p) hx.1 hx.2
    have hbx := ea_bd hp hx.1 hx.2
    refine ⟨!decide (gLow p x = eaI p x), by exact (pdt_cmp (op_neAll hr.units) (pd_call C_given_low (hr.mono (by decide)) rfl (pda_cons (pd_var (i := 0) rfl rfl (.inl rfl)) (pda_cons (pd_ix ix_seq (pd_var (i := 3) rfl rfl (.inr (.inl rfl))) pd_int (by walk_at "r2ix") (fun _ _ => rfl)) pda_nil)) (by walk_at "rr")) (pd_ix ix_seq (pd_var (i := 2) rfl rfl (.inr (.inl rfl))) (pd_ix ix_seq (pd_var (i := 3) rfl rfl (.inr (.inl rfl))) pd_int (by walk_at "r2ix") (fun _ _ => rfl)) (by walk_at "r2ix") (fun _ _ => rfl)) (by walk_at "r2ne") rfl), fun hne => ?_, fun he => ?_⟩
    · have hne' : gLow p x ≠ eaI p x := by simpa using hne
      obtain ⟨y, l, hy, hy1, hy2, hy3⟩ := lowNear_hd hp hcy hx.1 hx.2 hne'
      have hz : (bef p x).length ≤ 100000 := Nat.le_trans bef_len (by omega)
      refine sd_nx (by exact (sd_setLci (zs := bef p x) (enc := PyData.int) (pr := fun o => decide (eaI p o + 1 = eaI p x)) (f := fun o => o) (i := 4) (own := [("other", 5)]) rfl sc_lower_chain.nd rfl rfl (sw_true rfl rfl rfl (by decide +kernel)) (pdi_list (by exact (pd_call C_before (hr.mono (by decide)) rfl (pda_cons (pd_var (i := 0) rfl rfl (.inl rfl)) (pda_cons (pd_ix ix_seq (pd_var (i := 3) rfl rfl (.inr (.inl rfl))) pd_int (by walk_at "r2ix") (fun _ _ => rfl)) pda_nil)) (by walk_at "rr")))) (blkOk_by (own := [("other", 5)]) (N := ["problem", "item", "earliest", "chain", "near", "other"]) (sc := defScope s_lower_chain) (by decide +kernel)) (by walk_at "hz") (stays_name (j := 5) (by decide)) (fun z _ => asg_name) (fun _ _ _ _ _ => pg_name (i := 5) sc_lower_chain.nd rfl (.inl rfl)) (fun _ _ _ _ _ z hz => by
        have hzb := bef_in hp hz
        have hze := atI_ea (p := p) hzb.1 hzb.2
        exact pdts_one (by exact (pdt_cmp (op_eqAll hr.units) (pd_bin op_addAll (pd_ix ix_seq (pd_var (i := 2) rfl rfl (.inr (.inl rfl))) (pd_var (i := 5) rfl rfl (.inl rfl)) (by walk_at "r2ix") (fun _ _ => rfl)) pd_int (by walk_at "r2add")) (pd_ix ix_seq (pd_var (i := 2) rfl rfl (.inr (.inl rfl))) (pd_ix ix_seq (pd_var (i := 3) rfl rfl (.inr (.inl rfl))) pd_int (by walk_at "r2ix") (fun _ _ => rfl)) (by walk_at "r2ix") (fun _ _ => rfl)) (by walk_at "r2eq") rfl))) (fun _ _ _ _ _ z hz hp => by exact (pd_var (i := 5) rfl rfl (.inl rfl))))) ?_
      have e1 : (((bef p x).filter fun o => decide (eaI p o + 1 = eaI p x)).map fun o => o) = y :: l := by
        rw [← hy]
        exact List.map_id _
      rw [e1]
      have hy0 : atI (List.map PyData.int (y :: l)) 0 = some (.int y) := atI_hd
      refine sd_nx (by exact (sd_asg (i := 3) sc_lower_chain.nd rfl (.inr rfl) (by exact (pd_bin op_addAll (pd_tup (pda_cons (pd_ix ix_seq (pd_var (i := 4) rfl rfl (.inl rfl)) pd_int (by walk_at "r2ix") (fun _ _ => rfl)) pda_nil) (by walk_at "sz")) (pd_var (i := 3) rfl rfl (.inr (.inl rfl))) (by walk_at "r2add"))))) ?_
      refine sd_nil ⟨(eaI p y).toNat, by have := ea_bd hp hy3.1 hy3.2; omega, some (.d (.list ((y :: l).map PyData.int))), y, x :: c, rfl, rfl, hy3, ?_, ?_⟩
      · rw [← hl]
        have h1 : lowLoop p ((eaI p x).toNat + 1) (x :: c) = lowLoop p (eaI p x).toNat (y :: x :: c) := by
          rw [lowLoop]
          show (if gLow p x = eaI p x then x :: c else lowLoop p (eaI p x).toNat ((lowNear p x).headD 0 :: x :: c)) = _
          rw [if_neg hne', hy]
          rfl
        rw [h1]
        have hb3 := ea_bd hp hy3.1 hy3.2
        rw [show (eaI p y).toNat + 1 = (eaI p x).toNat by omega]
      · have hb3 := ea_bd hp hy3.1 hy3.2
        rw [List.length_cons]
        omega
    · have he' : gLow p x = eaI p x := by simpa using he
      refine ⟨nr, ?_⟩
      have : x :: c = lowChain p i := by
        rw [← hl, lowLoop]
        show _ = (if gLow p x = eaI p x then x :: c else _)
        rw [if_pos he']
      rw [this]
  · rintro G' ⟨nr, rfl⟩
    exact sd_ret (by exact (pd_var (i := 3) rfl rfl (.inr (.inl rfl)))) rfl

abbrev s_upper_chain : Stmt := topS 31
theorem sc_upper_chain : FnScope ["problem", "item", "latest", "chain", "near", "other"] ["problem", "item"] (defScope s_upper_chain) := ⟨rfl, rfl, rfl, by decide +kernel, rfl, by decide +kernel, by decide +kernel⟩
def R_upper_chain : List PyData → PyData → Prop := fun ds d => ∃ p i, (OkP p ∧ cyclicB p = false ∧ 0 ≤ i ∧ i < p.n) ∧ ds = [dP p, .int i] ∧ d = dR (upChain p i)
theorem atI_last {c : List Int} (hc : c ≠ []) : atI (c.map PyData.int) (-1) = some (.int (lastI c)) := by
  have hl : 0 < c.length := List.length_pos_iff.mpr hc
  unfold atI ixN
  rw [List.length_map, if_neg (by omega), if_pos (by omega)]
  show (c.map PyData.int)[((c.length : Int) + -1).toNat]? = _
  rw [List.getElem?_map, show ((c.length : Int) + -1).toNat = c.length - 1 by omega, ← List.getLast?_eq_getElem?]
  unfold lastI
  cases q : c.getLast? with
  | none =>
    rw [List.getLast?_eq_none_iff] at q
    exact absurd q hc
  | some x =>
    rw [List.getLastD_eq_getLast?, q]
    rfl
theorem ok_upper_chain (T : Txt mg) (F : Fun K "upper_chain" "upper_chain" s_upper_chain f fd)
    (C_latest_of : Cal P w K mg base 3 "latest_of" (SpP R_latest_of))
    (C_given_high : Cal P w K mg base 1 "given_high" (SpP R_given_high))
    (C_behind : Cal P w K mg base 1 "behind" (SpP R_behind)) :
    FnOk P w K mg base CX0 4 f fd ["problem", "item"] (SpP R_upper_chain) := by
  refine fn_pure F sc_upper_chain (by rintro _ _ ⟨p, i, hh, rfl, rfl⟩; rfl) fun cdv A outer s H E hr ds d h => ?_
  obtain ⟨p, i, hh, rfl, rfl⟩ := h
  obtain ⟨hp, hcy, hi0, hi1⟩ := hh
  have hc := hp.c12
  have hn5 := hp.n5
  refine sd_nx (by exact (sd_asg (i := 2) sc_upper_chain.nd rfl (.inr rfl) (by exact (pd_call C_latest_of (hr.mono (by decide)) rfl (pda_cons (pd_var (i := 0) rfl rfl (.inl rfl)) pda_nil) (by walk_at "rr"))))) ?_
  refine sd_nx (by exact (sd_asg (i := 3) sc_upper_chain.nd rfl (.inr rfl) (by exact (pd_tup (pda_cons (pd_var (i := 1) rfl rfl (.inl rfl)) pda_nil) (by walk_at "sz"))))) ?_
  refine sd_then (Pg := fun G' => ∃ nr : Option Sl, G' = [some (.d (dP p)), some (.d (.int i)), some (.d (.list ((lateP p).map PyData.int))), some (.d (dR (upChain p i))), nr, none]) ?_ ?_
  · have hb0 := la_bd hp hi0 hi1
    refine sp_while (fun m G' => ∃ (nr : Option Sl) (c : List Int), G' = [some (.d (dP p)), some (.d (.int i)), some (.d (.list ((lateP p).map PyData.int))), some (.d (dR c)), nr, none] ∧ m = (p.n - laI p (lastI c)).toNat ∧ c ≠ [] ∧ (0 ≤ lastI c ∧ lastI c < p.n) ∧ upLoop p (m + 1) c = upChain p i ∧ c.length + m ≤ 10) (p.n - laI p i).toNat PassesOwn.never
      ⟨none, [i], rfl, rfl, by simp, ⟨hi0, hi1⟩, rfl, by simp only [List.length_cons, List.length_nil]; omega⟩ ?_
    rintro m G' ⟨nr, c, rfl, rfl, hcn, hx, hl, hb⟩
    have hx0 : atI (List.map PyData.int c) (-1) = some (.int (lastI c)) := atI_last hcn
    generalize hxe0 : lastI c = x at *
    have hxe := atI_la (p := p) hx.1 hx.2
    have hbx := la_bd hp hx.1 hx.2
    refine ⟨!decide (gHigh p x = laI p x), by exact (pdt_cmp (op_neAll hr.units) (pd_call C_given_high (hr.mono (by decide)) rfl (pda_cons (pd_var (i := 0) rfl rfl (.inl rfl)) (pda_cons (pd_ix ix_seq (pd_var (i := 3) rfl rfl (.inr (.inl rfl))) (pd_un un_neg pd_int ru_neg) (by walk_at "r2ix") (fun _ _ => rfl)) pda_nil)) (by walk_at "rr")) (pd_ix ix_seq (pd_var (i := 2) rfl rfl (.inr (.inl rfl))) (pd_ix ix_seq (pd_var (i := 3) rfl rfl (.inr (.inl rfl))) (pd_un un_neg pd_int ru_neg) (by walk_at "r2ix") (fun _ _ => rfl)) (by walk_at "r2ix") (fun _ _ => rfl)) (by walk_at "r2ne") rfl), fun hne => ?_, fun he => ?_⟩
    · have hne' : gHigh p x ≠ laI p x := by simpa using hne
      obtain ⟨y, l, hy, hy1, hy2, hy3⟩ := upNear_hd hp hcy hx.1 hx.2 hne'
      have hz : (beh p x).length ≤ 100000 := Nat.le_trans beh_len (by omega)
      refine sd_nx (by exact (sd_setLci (zs := beh p x) (enc := PyData.int) (pr := fun o => decide (laI p o - 1 = laI p x)) (f := fun o => o) (i := 4) (own := [("other", 5)]) rfl sc_upper_chain.nd rfl rfl (sw_true rfl rfl rfl (by decide +kernel)) (pdi_list (by exact (pd_call C_behind (hr.mono (by decide)) rfl (pda_cons (pd_var (i := 0) rfl rfl (.inl rfl)) (pda_cons (pd_ix ix_seq (pd_var (i := 3) rfl rfl (.inr (.inl rfl))) (pd_un un_neg pd_int ru_neg) (by walk_at "r2ix") (fun _ _ => rfl)) pda_nil)) (by walk_at "rr")))) (blkOk_by (own := [("other", 5)]) (N := ["problem", "item", "latest", "chain", "near", "other"]) (sc := defScope s_upper_chain) (by decide +kernel)) (by walk_at "hz") (stays_name (j := 5) (by decide)) (fun z _ => asg_name) (fun _ _ _ _ _ => pg_name (i := 5) sc_upper_chain.nd rfl (.inl rfl)) (fun _ _ _ _ _ z hz => by
        have hzb := beh_in hp hz
        have hze := atI_la (p := p) hzb.1 hzb.2
        exact pdts_one (by exact (pdt_cmp (op_eqAll hr.units) (pd_bin op_sub (pd_ix ix_seq (pd_var (i := 2) rfl rfl (.inr (.inl rfl))) (pd_var (i := 5) rfl rfl (.inl rfl)) (by walk_at "r2ix") (fun _ _ => rfl)) pd_int (by walk_at "r2i0")) (pd_ix ix_seq (pd_var (i := 2) rfl rfl (.inr (.inl rfl))) (pd_ix ix_seq (pd_var (i := 3) rfl rfl (.inr (.inl rfl))) (pd_un un_neg pd_int ru_neg) (by walk_at "r2ix") (fun _ _ => rfl)) (by walk_at "r2ix") (fun _ _ => rfl)) (by walk_at "r2eq") rfl))) (fun _ _ _ _ _ z hz hp => by exact (pd_var (i := 5) rfl rfl (.inl rfl))))) ?_
      have e1 : (((beh p x).filter fun o => decide (laI p o - 1 = laI p x)).map fun o => o) = y :: l := by
        rw [← hy]
        exact List.map_id _
      rw [e1]
      have hy0 : atI (List.map PyData.int (y :: l)) 0 = some (.int y) := atI_hd
      have hb3 := la_bd hp hy3.1 hy3.2
      refine sd_nx (by exact (sd_asg (i := 3) sc_upper_chain.nd rfl (.inr rfl) (by exact (pd_bin op_addAll (pd_var (i := 3) rfl rfl (.inr (.inl rfl))) (pd_tup (pda_cons (pd_ix ix_seq (pd_var (i := 4) rfl rfl (.inl rfl)) pd_int (by walk_at "r2ix") (fun _ _ => rfl)) pda_nil) (by walk_at "sz")) (by walk_at "r2add"))))) ?_
      have ely : lastI (c ++ [y]) = y := by
        unfold lastI
        rw [List.getLastD_eq_getLast?, List.getLast?_concat]
        rfl
      refine sd_nil ⟨(p.n - laI p y).toNat, by omega, some (.d (.list ((y :: l).map PyData.int))), c ++ [y], ?_, by rw [ely], by simp, by rw [ely]; exact hy3, ?_, ?_⟩
      · unfold dR
        rw [List.map_append]
        rfl
      · rw [← hl]
        have h1 : upLoop p ((p.n - laI p x).toNat + 1) c = upLoop p (p.n - laI p x).toNat (c ++ [y]) := by
          rw [upLoop, hxe0, if_neg hne', hy]
          rfl
        rw [h1]
        rw [show (p.n - laI p y).toNat + 1 = (p.n - laI p x).toNat by omega]
      · rw [List.length_append, List.length_cons, List.length_nil]
        omega
    · have he' : gHigh p x = laI p x := by simpa using he
      refine ⟨nr, ?_⟩
      have : c = upChain p i := by
        rw [← hl, upLoop, hxe0, if_pos he']
      rw [this]
  · rintro G' ⟨nr, rfl⟩
    exact sd_ret (by exact (pd_var (i := 3) rfl rfl (.inr (.inl rfl)))) rfl
end
end RK

/-! Equality of the data, the judges' words. -/
namespace RK
open PySem PySem.Spec PyProof.Rows L2 DL
theorem eqv_ii {i j : Int} : PyData.eqv (.int i) (.int j) = decide (i = j) := by
  simp only [PyData.eqv]
  rw [Bool.eq_iff_iff]
  simp
theorem eqv_ss {i j : Str} : PyData.eqv (.str i) (.str j) = decide (i = j) := by
  simp only [PyData.eqv]
  rw [Bool.eq_iff_iff]
  simp
theorem eqv_tt {xs ys : List PyData} : PyData.eqv (.tuple xs) (.tuple ys) = PyData.eqvAll xs ys := by
  simp only [PyData.eqv]
theorem eqv_dC {c c' : Con} : PyData.eqv (dC c) (dC c') = decide (c = c') := by
  cases c with
  | win i lo hi =>
    cases c' with
    | win i' lo' hi' =>
      unfold dC
      simp only [eqv_tt, PyData.eqvAll, eqv_ss, eqv_ii, Con.win.injEq]
      rw [Bool.eq_iff_iff]
      simp
    | ahd a b =>
      unfold dC
      simp only [eqv_tt, PyData.eqvAll, eqv_ss, eqv_ii]
      simp [sWA]
  | ahd a b =>
    cases c' with
    | win i' lo' hi' =>
      unfold dC
      simp only [eqv_tt, PyData.eqvAll, eqv_ss, eqv_ii]
      simp [sAW]
    | ahd a' b' =>
      unfold dC
      simp only [eqv_tt, PyData.eqvAll, eqv_ss, eqv_ii, Con.ahd.injEq]
      rw [Bool.eq_iff_iff]
      simp
theorem layAll_iff {xs : List PyData} : PyData.canLayAll0 xs = true ↔ ∀ x ∈ xs, x.canLay0 = true := by
  induction xs with
  | nil => simp [PyData.canLayAll0]
  | cons x xs ih =>
    simp only [PyData.canLayAll0, Bool.and_eq_true, ih, List.forall_mem_cons]
theorem lay_tup {xs : List PyData} : (PyData.tuple xs).canLay0 = PyData.canLayAll0 xs := by simp only [PyData.canLay0]
theorem lay_str {s : Str} (h : PyData.strOk s = true) : (PyData.str s).canLay0 = true := by simpa only [PyData.canLay0] using h
theorem lay_int {i : Int} : (PyData.int i).canLay0 = true := by simp only [PyData.canLay0]
theorem lay_dC {c : Con} : (dC c).canLay0 = true := by
  cases c with
  | win i lo hi =>
    unfold dC
    rw [lay_tup, layAll_iff]
    intro x hx
    simp only [List.mem_cons, List.not_mem_nil, or_false] at hx
    rcases hx with rfl | rfl | rfl | rfl
    · exact lay_str (by decide +kernel)
    all_goals exact lay_int
  | ahd a b =>
    unfold dC
    rw [lay_tup, layAll_iff]
    intro x hx
    simp only [List.mem_cons, List.not_mem_nil, or_false] at hx
    rcases hx with rfl | rfl | rfl
    · exact lay_str (by decide +kernel)
    all_goals exact lay_int
theorem layAll_dC {cs : List Con} : PyData.canLayAll0 (cs.map dC) = true := by
  rw [layAll_iff]
  intro x hx
  obtain ⟨c, _, rfl⟩ := List.mem_map.mp hx
  exact lay_dC
theorem shaped_dC {c : Con} : SeqAt.shaped (dC c) = true := by
  unfold SeqAt.shaped
  rw [lay_dC]
  cases c <;> simp [dC, PyData.depth, PyData.depthAll]
theorem any_dC {cs : List Con} {c : Con} : (cs.map dC).any (fun z => PyData.eqv z (dC c)) = decide (c ∈ cs) := by
  rw [Bool.eq_iff_iff, List.any_eq_true, decide_eq_true_eq]
  constructor
  · rintro ⟨x, hx, h⟩
    obtain ⟨c', hc, rfl⟩ := List.mem_map.mp hx
    rw [eqv_dC, decide_eq_true_eq] at h
    rw [← h]
    exact hc
  · intro h
    exact ⟨dC c, List.mem_map.mpr ⟨c, h, rfl⟩, by rw [eqv_dC]; simp⟩
theorem r2_inC {K : PySem.W.Frag} {cs : List Con} {c : Con} : R2D (rInS K) (dC c) (.tuple (cs.map dC)) (.bool (decide (c ∈ cs))) := by
  rw [← any_dC]
  exact r2_inT shaped_dC layAll_dC
theorem r2_inCL {K : PySem.W.Frag} {cs : List Con} {c : Con} : R2D (rInS K) (dC c) (.list (cs.map dC)) (.bool (decide (c ∈ cs))) := by
  rw [← any_dC]
  exact r2_inL shaped_dC layAll_dC
/-! cuts -/
theorem cut_to {xs : List PyData} {k : Nat} : DL.cutD xs none (some (k : Int)) = xs.take k := by
  unfold DL.cutD
  rw [HT.sIx_nat, HT.sIx_none, List.drop_zero, Nat.sub_zero]
  rcases Nat.le_total k xs.length with h | h
  · rw [Nat.min_eq_left h]
  · rw [Nat.min_eq_right h, List.take_length, List.take_of_length_le h]
theorem cut_tail {xs : List PyData} : DL.cutD xs (some 1) none = xs.drop 1 := by
  unfold DL.cutD
  have h : HT.sIx xs.length 0 (some 1) = min 1 xs.length := HT.sIx_nat xs.length 0 1
  rw [h, HT.sIx_none]
  cases xs with
  | nil => rfl
  | cons x xs =>
    rw [List.length_cons, show min 1 (xs.length + 1) = 1 by omega]
    rw [List.take_of_length_le]
    rw [List.length_drop, List.length_cons]
    omega
/-! rankings -/
def rankB (n : Int) : PyData → Bool
  | .tuple xs => decide ((xs.length : Int) = n) && (xs.zipIdx.map fun q => wholeB q.1 0 (n - 1) && !((xs.take q.2).any fun z => PyData.eqv z q.1)).all id
  | _ => false
theorem whole_int {v : PyData} {lo hi : Int} (h : wholeB v lo hi = true) : ∃ i, v = .int i ∧ lo ≤ i ∧ i ≤ hi := by
  cases v with
  | int i =>
    simp [wholeB] at h
    exact ⟨i, rfl, h⟩
  | _ => simp [wholeB] at h
/-! the items of a chain -/
structure ChOk (p : Prob) (c : List Int) : Prop where
  ne : c ≠ []
  rg : ∀ x ∈ c, 0 ≤ x ∧ x < p.n
  ch : Chn p c
  ln : c.length ≤ 100
theorem chn_zip {p : Prob} : ∀ {c : List Int}, Chn p c → ∀ q ∈ c.zip (c.drop 1), Con.ahd q.1 q.2 ∈ p.cs
  | [], _ => by simp
  | [x], _ => by simp
  | x :: y :: l, h => by
    intro q hq
    have hq2 : q ∈ (x, y) :: (y :: l).zip ((y :: l).drop 1) := hq
    rcases List.mem_cons.mp hq2 with e | e
    · rw [e]
      exact h.1
    · exact chn_zip h.2 q e
abbrev Row := Int × List Int × List Int
def dRow (r : Row) : PyData := .tuple [.int r.1, dR r.2.1, dR r.2.2]
def ShowsLow (p : Prob) (i lo : Int) (c : List Int) : Prop := ChOk p c ∧ lastI c = i ∧ lo ≤ gLow p (c.headD 0) + c.length - 1
def ShowsHigh (p : Prob) (i hi : Int) (c : List Int) : Prop := ChOk p c ∧ c.headD 0 = i ∧ gHigh p (lastI c) - c.length + 1 ≤ hi
def RowOk (p : Prob) (lo hi : Int) (r : Row) : Prop := (0 ≤ r.1 ∧ r.1 < p.n) ∧ ShowsLow p r.1 lo r.2.1 ∧ ShowsHigh p r.1 hi r.2.2
def plc (lo hi : Int) : Int := if hi - lo + 1 > 0 then hi - lo + 1 else 0
structure OvOk (p : Prob) (lo hi : Int) (rs : List Row) : Prop where
  l1 : -20 ≤ lo
  l2 : lo ≤ 20
  h1 : -20 ≤ hi
  h2 : hi ≤ 20
  rows : ∀ r ∈ rs, RowOk p lo hi r
  asc : (rs.map (·.1)).Pairwise (· < ·)
  many : plc lo hi < rs.length
  few : rs.length ≤ 100
abbrev sCycle : Str := Str.ofString "cycle"
abbrev sOver : Str := Str.ofString "overfull"
theorem sCO : ¬ sCycle = sOver := by decide +kernel
theorem sOC : ¬ sOver = sCycle := by decide +kernel
/-- what is_contradiction answers, as far as the law comes to it -/
inductive CV (p : Prob) : PyData → Bool → Prop
  | nt {v : PyData} : isTupB v = false → CV p v false
  | emp : CV p (.tuple []) false
  | ns {x : PyData} {xs : List PyData} : isStrB x = false → CV p (.tuple (x :: xs)) false
  | cyL {xs : List PyData} : xs.length ≠ 1 → CV p (.tuple (.str sCycle :: xs)) false
  | cy {c : List Int} : ChOk p c → 1 < c.length → c.headD 0 = lastI c → CV p (.tuple [.str sCycle, dR c]) true
  | ovL {xs : List PyData} : xs.length ≠ 3 → CV p (.tuple (.str sOver :: xs)) false
  | ov {lo hi : Int} {rs : List Row} : OvOk p lo hi rs → CV p (.tuple [.str sOver, .int lo, .int hi, .tuple (rs.map dRow)]) true
end RK

namespace RK
open PySem PySem.Spec PyProof.Rows L2 DL
local macro_rules | `(tactic| walk_at "sf") => `(tactic| first | exact True.intro | assumption)
local macro_rules | `(tactic| walk_at "sz") => `(tactic| first | decide | (simp only [List.length_cons, List.length_nil, List.length_map, List.length_append, List.length_reverse, rng_len, sizeLine_eq]; omega))
local macro_rules | `(tactic| walk_at "r2add") => `(tactic| first | exact r2_addI | exact r2_addT (by walk_at "sz") | exact r2_addL (by walk_at "sz"))
local macro_rules | `(tactic| walk_at "r2i0") => `(tactic| exact r2_I0)
local macro_rules | `(tactic| walk_at "r2b0") => `(tactic| exact r2_B0)
local macro_rules | `(tactic| walk_at "r2mul") => `(tactic| exact r2_I (by unfold CMul; omega))
local macro_rules | `(tactic| walk_at "r2mod") => `(tactic| exact r2_I (by omega))
local macro_rules | `(tactic| walk_at "r2div") => `(tactic| exact r2_I (by unfold CDivN; omega))
local macro_rules | `(tactic| walk_at "r2pow") => `(tactic| exact r2_I (by unfold CPow; decide))
local macro_rules | `(tactic| walk_at "r2eq") => `(tactic| first | exact r2_eqI | exact r2_eqS | exact r2_eqB | exact r2_eqD (by assumption) (by assumption))
local macro_rules | `(tactic| walk_at "r2ne") => `(tactic| first | exact r2_neI | exact r2_neS | exact r2_neB)
local macro_rules | `(tactic| walk_at "r2in") => `(tactic| first | exact r2_inLI | exact r2_inTI | assumption)
local macro_rules | `(tactic| walk_at "r2nin") => `(tactic| first | exact r2_ninLI | exact r2_ninTI | assumption)
local macro_rules | `(tactic| walk_at "r2is") => `(tactic| exact r2_isN)
local macro_rules | `(tactic| walk_at "r2isn") => `(tactic| exact r2_notN)
local macro_rules | `(tactic| walk_at "r2ix") => `(tactic| first | exact r2_ixT rfl | exact r2_ixL rfl | exact r2_ixT (by assumption) | exact r2_ixL (by assumption))
local macro_rules | `(tactic| walk_at "rc1") => `(tactic| first | exact rc_lenT | exact rc_lenL | exact rc_max2 | exact rc_max (by walk_at "sz") | exact rc_min (by walk_at "sz") | exact rc_max (ns := _ :: _) (by walk_at "sz") | exact rc_min (ns := _ :: _) (by walk_at "sz") | exact rc_all | exact rc_any | exact rc_abs | exact rc_int | exact rc_tupL | assumption)
local macro_rules | `(tactic| walk_at "mem") => `(tactic| first | assumption | (simp; done))
local macro_rules | `(tactic| walk_at "rr") => `(tactic| first | exact ⟨_, rfl, rfl⟩ | exact ⟨_, _, rfl, rfl⟩ | exact ⟨_, _, _, rfl, rfl⟩ | exact ⟨_, by assumption, rfl, rfl⟩ | exact ⟨_, _, by assumption, rfl, rfl⟩ | exact ⟨_, _, _, by assumption, rfl, rfl⟩ | assumption)
local macro_rules | `(tactic| walk_at "rg") => `(tactic| first | omega | (simp only [List.length_cons, List.length_nil, List.length_map]; omega))
local macro_rules | `(tactic| walk_at "hz") => `(tactic| first | assumption | (simp only [List.length_cons, List.length_nil, List.length_map, rng_len, List.length_zipIdx, List.length_zip]; omega) | omega)
local macro_rules | `(tactic| walk_at "bb") => `(tactic| first | rfl | (simp [truD, isTupB, isStrB, isIntB, isBoolB, wholeB, sAW, sWA]; done) | (simp_all [truD, isTupB, isStrB, isIntB, isBoolB, wholeB, sAW, sWA]; done) | (simp [truD, isTupB, isStrB, isIntB, isBoolB, wholeB, sAW, sWA]; omega))
local macro_rules | `(tactic| walk_at "blkfree") => `(tactic| ((repeat' (first | exact List.forall_mem_nil _ | refine List.forall_mem_cons.mpr ⟨?_, ?_⟩)) <;> first | (intro hf; cases hf; done) | exact fun _ => .inl rfl | exact fun _ => .inr rfl))

section
variable {P : Program} {w : World} {K : PySem.W.Frag} {mg : Str → Option Value} {base : Heap} {f : Addr} {fd : FuncData}
theorem pd_andT {X : Cx} {mu : List Addr} {G : Gm} {a b : Expr} {es : List Expr} {pos : Pos} {c : Bool} {c' : Bool} (ha : PE X a (rdE mu G (.bool c) G)) (hc : c = true) (hb : PE X (.BoolOp .And (b :: es) pos) (rdE mu G (.bool c') G)) : PE X (.BoolOp .And (a :: b :: es) pos) (rdE mu G (.bool c') G) := by
  have h := pd_and ha (fun _ => hb)
  rw [hc, Bool.true_and] at h
  exact h
theorem rankB_tup {n : Int} {xs : List PyData} : rankB n (.tuple xs) = (decide ((xs.length : Int) = n) && (xs.zipIdx.map fun q => wholeB q.1 0 (n - 1) && !((xs.take q.2).any fun z => PyData.eqv z q.1)).all id) := rfl
abbrev s_is_ranking : Stmt := topS 10
theorem sc_is_ranking : FnScope ["items", "value", "at", "item"] ["items", "value"] (defScope s_is_ranking) := ⟨rfl, rfl, rfl, by decide +kernel, rfl, by decide +kernel, by decide +kernel⟩
def R_is_ranking : List PyData → PyData → Prop := fun ds d => ∃ n v, (v.canLay0 = true ∧ (v = .tuple ([] : List PyData) ∨ ∀ xs, v = .tuple xs → xs.length ≤ 1000)) ∧ ds = [.int n, v] ∧ d = .bool (rankB n v)
theorem ok_is_ranking (T : Txt mg) (F : Fun K "is_ranking" "is_ranking" s_is_ranking f fd)
    (C_is_whole : Cal P w K mg base 1 "is_whole" (SpP R_is_whole)) :
    FnOk P w K mg base CX0 2 f fd ["items", "value"] (SpP R_is_ranking) := by
  refine fn_pure F sc_is_ranking (by rintro _ _ ⟨n, v, hv, rfl, rfl⟩; rfl) fun cdv A outer s H E hr ds d h => ?_
  obtain ⟨n, v, hv, rfl, rfl⟩ := h
  obtain ⟨hcl, hlen⟩ := hv
  by_cases ht : isTupB v = true
  · cases v with
    | tuple xs =>
      have hl : xs.length ≤ 1000 := by
        rcases hlen with h | h
        · cases h
          simp
        · exact h xs rfl
      by_cases hn : (xs.length : Int) = n
      · refine sd_ifF (by exact (PW.pt (pdw_or (pdt_not (pdt_tru (pd_isi (pd_var (i := 1) rfl rfl (.inr (.inl rfl))) rfl T.isinstance rfl T.tuple_ (by decide +kernel) kit_tup) (by walk_at "sf"))) (fun _ => (pdw_or1 (pdt_cmp (op_neAll hr.units) (pd_callB call_len rfl T.len_ (by decide +kernel) (pda_cons (pd_var (i := 1) rfl rfl (.inr (.inl rfl))) pda_nil) (by walk_at "rc1")) (pd_var (i := 0) rfl rfl (.inr (.inl rfl))) (by walk_at "r2ne") rfl)))))) (by simp [isTupB, hn, truD]) ?_
        obtain ⟨zs, rfl⟩ : ∃ zs, xs = List.map (fun x => x) zs := ⟨xs, (List.map_id _).symm⟩
        have hz : zs.zipIdx.length ≤ 100000 := by
          rw [List.length_map] at hl
          rw [List.length_zipIdx]
          omega
        refine sd_ret (pd_eq (by exact (pd_callB (cr_all rfl) rfl T.all_ (by decide +kernel) (pda_cons (pd_lcb (zs := zs.zipIdx) (f := fun q => wholeB q.1 0 (n - 1) && !((List.map (fun x => x) zs).take q.2).any fun z => PyData.eqv z q.1) (own := [("at", 2), ("item", 3)]) rfl sc_is_ranking.nd (pdi_enum rfl T.enumerate_ (by exact (pd_var (i := 1) rfl rfl (.inr (.inl rfl))))) (blkOk_by (own := [("at", 2), ("item", 3)]) (N := ["items", "value", "at", "item"]) (sc := defScope s_is_ranking) (by decide +kernel)) (by walk_at "hz") (stays_tup2 (K := K) (i := 2) (j := 3) (by decide) (by decide)) (fun z _ => asg_tup2) (fun _ _ _ _ _ => pg_tup rfl (pgs_cons (pg_name (i := 2) sc_is_ranking.nd rfl (.inl rfl)) (pgs_cons (pg_name (i := 3) sc_is_ranking.nd rfl (.inl rfl)) pgs_nil))) (fun _ _ _ _ _ z hz => by
          exact pd_and (by exact (pd_call C_is_whole (hr.mono (by decide)) rfl (pda_cons (pd_var (i := 3) rfl rfl (.inl rfl)) (pda_cons pd_int (pda_cons (pd_bin op_sub (pd_var (i := 0) rfl rfl (.inr (.inl rfl))) pd_int (by walk_at "r2i0")) pda_nil))) (by walk_at "rr"))) (fun hw => by
            have hsh : SeqAt.shaped z.1 = true := by
              obtain ⟨i, e, _⟩ := whole_int hw
              rw [e]
              exact shaped_int
            have hc2 : PyData.canLayAll0 ((List.map (fun x => x) zs).take z.2) = true := by
              rw [layAll_iff]
              intro x hx
              rw [lay_tup, layAll_iff] at hcl
              exact hcl x (List.mem_of_mem_take hx)
            have hr2 := r2_ninT (K := K) hsh hc2
            rw [← cut_to] at hr2
            rw [← cut_to]
            exact pd_one (by exact (pd_cmp (op_notInS (hu65 hr)) (pd_var (i := 3) rfl rfl (.inl rfl)) (pd_slice sl_tupF (pd_var (i := 1) rfl rfl (.inr (.inl rfl))) pdo_none (pdo_some (pd_var (i := 2) rfl rfl (.inl rfl))) rs_tup) (by walk_at "r2nin") rfl))))) pda_nil) rc_all)) ?_) rfl
        rw [rankB_tup, show decide (((List.map (fun x => x) zs).length : Int) = n) = true by simpa using hn, Bool.true_and, List.map_id']
      · refine sd_ifT (by exact (PW.pt (pdw_or (pdt_not (pdt_tru (pd_isi (pd_var (i := 1) rfl rfl (.inr (.inl rfl))) rfl T.isinstance rfl T.tuple_ (by decide +kernel) kit_tup) (by walk_at "sf"))) (fun _ => (pdw_or1 (pdt_cmp (op_neAll hr.units) (pd_callB call_len rfl T.len_ (by decide +kernel) (pda_cons (pd_var (i := 1) rfl rfl (.inr (.inl rfl))) pda_nil) (by walk_at "rc1")) (pd_var (i := 0) rfl rfl (.inr (.inl rfl))) (by walk_at "r2ne") rfl)))))) (by simp [isTupB, hn, truD]) ?_
        exact sd_ret (pd_eq (by exact pd_bl) (by simp [rankB, hn])) rfl
    | _ => cases ht
  · have ht2 : isTupB v = false := by simpa using ht
    refine sd_ifT (by exact (PW.pt (pdw_orT (pdt_eq (by exact (pdt_not (pdt_tru (pd_isi (pd_var (i := 1) rfl rfl (.inr (.inl rfl))) rfl T.isinstance rfl T.tuple_ (by decide +kernel) kit_tup) (by walk_at "sf")))) (by simp [ht2, truD]))))) rfl ?_
    refine sd_ret (pd_eq (by exact pd_bl) ?_) rfl
    cases v <;> first | rfl | cases ht2

abbrev s_is_chain : Stmt := topS 32
theorem sc_is_chain : FnScope ["problem", "value", "item", "one", "other"] ["problem", "value"] (defScope s_is_chain) := ⟨rfl, rfl, rfl, by decide +kernel, rfl, by decide +kernel, by decide +kernel⟩
def R_is_chain : List PyData → PyData → Prop := fun ds d => ∃ p c, (OkP p ∧ ChOk p c) ∧ ds = [dP p, dR c] ∧ d = .bool true
theorem ok_is_chain (T : Txt mg) (F : Fun K "is_chain" "is_chain" s_is_chain f fd)
    (C_is_item_windows : Cal P w K mg base 2 "is_item_windows" (SpP R_is_item_w)) :
    FnOk P w K mg base CX0 3 f fd ["problem", "value"] (SpP R_is_chain) := by
  refine fn_pure F sc_is_chain (by rintro _ _ ⟨p, c, hh, rfl, rfl⟩; rfl) fun cdv A outer s H E hr ds d h => ?_
  obtain ⟨p, c, hh, rfl, rfl⟩ := h
  obtain ⟨hp, hc⟩ := hh
  have hl := hc.ln
  have hz : c.length ≤ 100000 := by omega
  have hne : c.length ≠ 0 := fun e => hc.ne (List.eq_nil_of_length_eq_zero e)
  refine sd_ifF (by exact (PW.pt (pdw_or (by exact (pdt_not (pdt_tru (pd_isi (pd_var (i := 1) rfl rfl (.inl rfl)) rfl T.isinstance rfl T.tuple_ (by decide +kernel) kit_tup) (by walk_at "sf")))) (fun _ => pdw_or (by exact (pdt_cmp (op_eqAll hr.units) (pd_callB call_len rfl T.len_ (by decide +kernel) (pda_cons (pd_var (i := 1) rfl rfl (.inl rfl)) pda_nil) (by walk_at "rc1")) pd_int (by walk_at "r2eq") rfl)) (fun _ => pdw_or1 (pdt_not (pdt_tru (pd_callB (cr_all rfl) rfl T.all_ (by decide +kernel) (pda_cons (pd_lcb (zs := c) (enc := PyData.int) (f := fun x => wholeB (.int x) 0 (p.n - 1)) (own := [("item", 2)]) rfl sc_is_chain.nd (pdi_tup (by exact (pd_var (i := 1) rfl rfl (.inl rfl)))) (blkOk_by (own := [("item", 2)]) (N := ["problem", "value", "item", "one", "other"]) (sc := defScope s_is_chain) (by decide +kernel)) (by walk_at "hz") (stays_name (j := 2) (by decide)) (fun z _ => asg_name) (fun _ _ _ _ _ => pg_name (i := 2) sc_is_chain.nd rfl (.inl rfl)) (fun _ _ _ _ _ z hz => by exact (pd_call C_is_item_windows (hr.mono (by decide)) rfl (pda_cons (pd_var (i := 2) rfl rfl (.inl rfl)) (pda_cons (pd_var (i := 0) rfl rfl (.inr (.inl rfl))) pda_nil)) (by walk_at "rr")))) pda_nil) rc_all) (by walk_at "sf")))))))) ?_ ?_
  · have h1 : (c.map fun x => wholeB (.int x) 0 (p.n - 1)).all id = true := by
      rw [List.all_eq_true]
      intro b hb
      obtain ⟨x, hx, rfl⟩ := List.mem_map.mp hb
      have := hc.rg x hx
      simp [wholeB]
      omega
    rw [h1]
    simp [isTupB, dR, truD, hc.ne]
  · have hz2 : (c.zip (c.drop 1)).length ≤ 100000 := by
      rw [List.length_zip]
      omega
    have e : ((c.map PyData.int).zip (DL.cutD (c.map PyData.int) (some 1) none)).map (fun q => PyData.tuple [q.1, q.2]) = (c.zip (c.drop 1)).map fun q => .tuple [.int q.1, .int q.2] := by
      rw [cut_tail, ← List.map_drop, List.zip_map, List.map_map]
      rfl
    exact sd_ret (pd_eq (by exact (pd_callB (cr_all rfl) rfl T.all_ (by decide +kernel) (pda_cons (pd_lcb (zs := c.zip (c.drop 1)) (enc := fun q => .tuple [.int q.1, .int q.2]) (f := fun _ => true) (own := [("one", 3), ("other", 4)]) rfl sc_is_chain.nd (by rw [← e]; exact (pdi_zip rfl T.zip_ (by exact (pd_var (i := 1) rfl rfl (.inl rfl))) (by exact (pd_slice sl_tupF (pd_var (i := 1) rfl rfl (.inl rfl)) (pdo_some pd_int) pdo_none rs_tup)))) (blkOk_by (own := [("one", 3), ("other", 4)]) (N := ["problem", "value", "item", "one", "other"]) (sc := defScope s_is_chain) (by decide +kernel)) (by walk_at "hz") (stays_tup2 (K := K) (i := 3) (j := 4) (by decide) (by decide)) (fun z _ => asg_tup2) (fun _ _ _ _ _ => pg_tup rfl (pgs_cons (pg_name (i := 3) sc_is_chain.nd rfl (.inl rfl)) (pgs_cons (pg_name (i := 4) sc_is_chain.nd rfl (.inl rfl)) pgs_nil))) (fun _ _ _ _ _ z hz => by
      have hin : R2D (rInS K) (dC (.ahd z.1 z.2)) (.tuple (p.cs.map dC)) (.bool true) := by
        have h := r2_inC (K := K) (cs := p.cs) (c := .ahd z.1 z.2)
        rw [decide_eq_true (chn_zip hc.ch z hz)] at h
        exact h
      exact (pd_cmp (op_inS (hu65 hr)) (pd_tup (pda_cons pd_str (pda_cons (pd_var (i := 3) rfl rfl (.inl rfl)) (pda_cons (pd_var (i := 4) rfl rfl (.inl rfl)) pda_nil))) (by walk_at "sz")) (pd_ix ix_seq (pd_var (i := 0) rfl rfl (.inr (.inl rfl))) pd_int (by walk_at "r2ix") (fun _ _ => rfl)) (by walk_at "r2in") rfl))) pda_nil) rc_all)) (by rw [all_true])) rfl
end
end RK

namespace RK
open PySem PySem.Spec PyProof.Rows L2 DL
local macro_rules | `(tactic| walk_at "sf") => `(tactic| first | exact True.intro | assumption)
local macro_rules | `(tactic| walk_at "sz") => `(tactic| first | decide | (simp only [List.length_cons, List.length_nil, List.length_map, List.length_append, List.length_reverse, rng_len, sizeLine_eq]; omega))
local macro_rules | `(tactic| walk_at "r2add") => `(tactic| first | exact r2_addI | exact r2_addT (by walk_at "sz") | exact r2_addL (by walk_at "sz"))
local macro_rules | `(tactic| walk_at "r2i0") => `(tactic| exact r2_I0)
local macro_rules | `(tactic| walk_at "r2b0") => `(tactic| exact r2_B0)
local macro_rules | `(tactic| walk_at "r2mul") => `(tactic| exact r2_I (by unfold CMul; omega))
local macro_rules | `(tactic| walk_at "r2mod") => `(tactic| exact r2_I (by omega))
local macro_rules | `(tactic| walk_at "r2div") => `(tactic| exact r2_I (by unfold CDivN; omega))
local macro_rules | `(tactic| walk_at "r2pow") => `(tactic| exact r2_I (by unfold CPow; decide))
local macro_rules | `(tactic| walk_at "r2eq") => `(tactic| first | exact r2_eqI | exact r2_eqS | exact r2_eqB | exact r2_eqD (by assumption) (by assumption))
local macro_rules | `(tactic| walk_at "r2ne") => `(tactic| first | exact r2_neI | exact r2_neS | exact r2_neB)
local macro_rules | `(tactic| walk_at "r2in") => `(tactic| first | exact r2_inLI | exact r2_inTI | assumption)
local macro_rules | `(tactic| walk_at "r2nin") => `(tactic| first | exact r2_ninLI | exact r2_ninTI | assumption)
local macro_rules | `(tactic| walk_at "r2is") => `(tactic| exact r2_isN)
local macro_rules | `(tactic| walk_at "r2isn") => `(tactic| exact r2_notN)
local macro_rules | `(tactic| walk_at "r2ix") => `(tactic| first | exact r2_ixT rfl | exact r2_ixL rfl | exact r2_ixT (by assumption) | exact r2_ixL (by assumption))
local macro_rules | `(tactic| walk_at "rc1") => `(tactic| first | exact rc_lenT | exact rc_lenL | exact rc_max2 | exact rc_max (by walk_at "sz") | exact rc_min (by walk_at "sz") | exact rc_max (ns := _ :: _) (by walk_at "sz") | exact rc_min (ns := _ :: _) (by walk_at "sz") | exact rc_all | exact rc_any | exact rc_abs | exact rc_int | exact rc_tupL | assumption)
local macro_rules | `(tactic| walk_at "mem") => `(tactic| first | assumption | (simp; done))
local macro_rules | `(tactic| walk_at "rr") => `(tactic| first | exact ⟨_, rfl, rfl⟩ | exact ⟨_, _, rfl, rfl⟩ | exact ⟨_, _, _, rfl, rfl⟩ | exact ⟨_, by assumption, rfl, rfl⟩ | exact ⟨_, _, by assumption, rfl, rfl⟩ | exact ⟨_, _, _, by assumption, rfl, rfl⟩ | exact ⟨_, _, _, _, rfl, rfl⟩ | exact ⟨_, _, _, _, by assumption, rfl, rfl⟩ | exact ⟨_, _, _, _, _, by assumption, rfl, rfl⟩ | assumption)
local macro_rules | `(tactic| walk_at "rg") => `(tactic| first | omega | (simp only [List.length_cons, List.length_nil, List.length_map]; omega))
local macro_rules | `(tactic| walk_at "hz") => `(tactic| first | assumption | (simp only [List.length_cons, List.length_nil, List.length_map, rng_len, List.length_zipIdx, List.length_zip]; omega) | omega)
local macro_rules | `(tactic| walk_at "bb") => `(tactic| first | rfl | (simp [truD, isTupB, isStrB, isIntB, isBoolB, wholeB, sAW, sWA]; done) | (simp_all [truD, isTupB, isStrB, isIntB, isBoolB, wholeB, sAW, sWA]; done) | (simp [truD, isTupB, isStrB, isIntB, isBoolB, wholeB, sAW, sWA]; omega))
local macro_rules | `(tactic| walk_at "blkfree") => `(tactic| ((repeat' (first | exact List.forall_mem_nil _ | refine List.forall_mem_cons.mpr ⟨?_, ?_⟩)) <;> first | (intro hf; cases hf; done) | exact fun _ => .inl rfl | exact fun _ => .inr rfl))

section
variable {P : Program} {w : World} {K : PySem.W.Frag} {mg : Str → Option Value} {base : Heap} {f : Addr} {fd : FuncData}
theorem pd_andF {X : Cx} {mu : List Addr} {G : Gm} {a b : Expr} {es : List Expr} {pos : Pos} (ha : PE X a (rdE mu G (.bool false) G)) : PE X (.BoolOp .And (a :: b :: es) pos) (rdE mu G (.bool false) G) := by
  have h := pd_and (c' := false) (b := b) (es := es) (pos := pos) ha (fun z => by cases z)
  exact h
theorem sd_expr {X : Cx} {mu : List Addr} {G G1 : Gm} {e : Expr} {d : PyData} {pos : Pos} (he : PE X e (rdE mu G d G1)) (hs : swapsWith e none pos.line X.env = pure false := by rfl) : PS X (.Expr e pos) (rdS mu G (nxO G1)) :=
  ps_w (ps_expr he hs) fun D sg H ⟨H0, B0, B, w, s, k⟩ => ⟨H0, B0, B, w, s, fun v B1 H1 e1 w1 s1 dv => k _ rfl sg B1 H1 w1 s1⟩
abbrev s_places_of : Stmt := topS 38
theorem sc_places_of : FnScope ["low", "high"] ["low", "high"] (defScope s_places_of) := ⟨rfl, rfl, rfl, by decide +kernel, rfl, by decide +kernel, by decide +kernel⟩
def R_places_of : List PyData → PyData → Prop := fun ds d => ∃ lo hi, ds = [.int lo, .int hi] ∧ d = .int (plc lo hi)
theorem ok_places_of (T : Txt mg) (F : Fun K "places_of" "places_of" s_places_of f fd) :
    FnOk P w K mg base CX0 1 f fd ["low", "high"] (SpP R_places_of) := by
  refine fn_pure F sc_places_of (by rintro _ _ ⟨lo, hi, rfl, rfl⟩; rfl) fun cdv A outer s H E hr ds d h => ?_
  obtain ⟨lo, hi, rfl, rfl⟩ := h
  exact sd_ret (by exact (pd_callB (call_max2 rfl) rfl T.max_ (by decide +kernel) (pda_cons pd_int (pda_cons (pd_bin op_addAll (pd_bin op_sub (pd_var (i := 1) rfl rfl (.inl rfl)) (pd_var (i := 0) rfl rfl (.inl rfl)) (by walk_at "r2i0")) pd_int (by walk_at "r2add")) pda_nil)) (by walk_at "rc1"))) rfl
theorem hd_atI {c : List Int} (hc : c ≠ []) : atI (List.map PyData.int c) 0 = some (.int (c.headD 0)) := by
  cases c with
  | nil => exact absurd rfl hc
  | cons x l => exact atI_hd
theorem hd_in {p : Prob} {c : List Int} (h : ChOk p c) : 0 ≤ c.headD 0 ∧ c.headD 0 < p.n := by
  have := h.ne
  cases c with
  | nil => exact absurd rfl this
  | cons x l => exact h.rg x (by simp)
abbrev s_shows_low : Stmt := topS 41
theorem sc_shows_low : FnScope ["problem", "item", "low", "value"] ["problem", "item", "low", "value"] (defScope s_shows_low) := ⟨rfl, rfl, rfl, by decide +kernel, rfl, by decide +kernel, by decide +kernel⟩
def R_shows_low : List PyData → PyData → Prop := fun ds d => ∃ p i lo c, (OkP p ∧ ShowsLow p i lo c) ∧ ds = [dP p, .int i, .int lo, dR c] ∧ d = .bool true
theorem ok_shows_low (T : Txt mg) (F : Fun K "shows_low" "shows_low" s_shows_low f fd)
    (C_is_chain : Cal P w K mg base 3 "is_chain" (SpP R_is_chain))
    (C_given_low : Cal P w K mg base 1 "given_low" (SpP R_given_low)) :
    FnOk P w K mg base CX0 4 f fd ["problem", "item", "low", "value"] (SpP R_shows_low) := by
  refine fn_pure F sc_shows_low (by rintro _ _ ⟨p, i, lo, c, hh, rfl, rfl⟩; rfl) fun cdv A outer s H E hr ds d h => ?_
  obtain ⟨p, i, lo, c, hh, rfl, rfl⟩ := h
  obtain ⟨hp, hc, h1, h2⟩ := hh
  have hx0 := hd_atI hc.ne
  have hx1 := atI_last hc.ne
  have hcc : OkP p ∧ ChOk p c := ⟨hp, hc⟩
  refine sd_ret (pd_eq (by exact (pd_and (pd_call C_is_chain (hr.mono (by decide)) rfl (pda_cons (pd_var (i := 0) rfl rfl (.inl rfl)) (pda_cons (pd_var (i := 3) rfl rfl (.inl rfl)) pda_nil)) (by walk_at "rr")) (fun _ => (pd_and (pd_cmp (op_eqAll hr.units) (pd_ix ix_seq (pd_var (i := 3) rfl rfl (.inl rfl)) (pd_un un_neg pd_int ru_neg) (by walk_at "r2ix") (fun _ _ => rfl)) (pd_var (i := 1) rfl rfl (.inl rfl)) (by walk_at "r2eq") rfl) (fun _ => (pd_one (pd_cmp op_ge (pd_bin op_sub (pd_bin op_addAll (pd_call C_given_low (hr.mono (by decide)) rfl (pda_cons (pd_var (i := 0) rfl rfl (.inl rfl)) (pda_cons (pd_ix ix_seq (pd_var (i := 3) rfl rfl (.inl rfl)) pd_int (by walk_at "r2ix") (fun _ _ => rfl)) pda_nil)) (by walk_at "rr")) (pd_callB call_len rfl T.len_ (by decide +kernel) (pda_cons (pd_var (i := 3) rfl rfl (.inl rfl)) pda_nil) (by walk_at "rc1")) (by walk_at "r2add")) pd_int (by walk_at "r2i0")) (pd_var (i := 2) rfl rfl (.inl rfl)) (by walk_at "r2b0") rfl))))))) ?_) rfl
  rw [List.length_map, h1]
  generalize c.headD 0 = a at h2 ⊢
  simp
  omega
abbrev s_shows_high : Stmt := topS 42
theorem sc_shows_high : FnScope ["problem", "item", "high", "value"] ["problem", "item", "high", "value"] (defScope s_shows_high) := ⟨rfl, rfl, rfl, by decide +kernel, rfl, by decide +kernel, by decide +kernel⟩
def R_shows_high : List PyData → PyData → Prop := fun ds d => ∃ p i hi c, (OkP p ∧ ShowsHigh p i hi c) ∧ ds = [dP p, .int i, .int hi, dR c] ∧ d = .bool true
theorem ok_shows_high (T : Txt mg) (F : Fun K "shows_high" "shows_high" s_shows_high f fd)
    (C_is_chain : Cal P w K mg base 3 "is_chain" (SpP R_is_chain))
    (C_given_high : Cal P w K mg base 1 "given_high" (SpP R_given_high)) :
    FnOk P w K mg base CX0 4 f fd ["problem", "item", "high", "value"] (SpP R_shows_high) := by
  refine fn_pure F sc_shows_high (by rintro _ _ ⟨p, i, hi, c, hh, rfl, rfl⟩; rfl) fun cdv A outer s H E hr ds d h => ?_
  obtain ⟨p, i, hi, c, hh, rfl, rfl⟩ := h
  obtain ⟨hp, hc, h1, h2⟩ := hh
  have hx0 := hd_atI hc.ne
  have hx1 := atI_last hc.ne
  have hcc : OkP p ∧ ChOk p c := ⟨hp, hc⟩
  refine sd_ret (pd_eq (by exact (pd_and (pd_call C_is_chain (hr.mono (by decide)) rfl (pda_cons (pd_var (i := 0) rfl rfl (.inl rfl)) (pda_cons (pd_var (i := 3) rfl rfl (.inl rfl)) pda_nil)) (by walk_at "rr")) (fun _ => (pd_and (pd_cmp (op_eqAll hr.units) (pd_ix ix_seq (pd_var (i := 3) rfl rfl (.inl rfl)) pd_int (by walk_at "r2ix") (fun _ _ => rfl)) (pd_var (i := 1) rfl rfl (.inl rfl)) (by walk_at "r2eq") rfl) (fun _ => (pd_one (pd_cmp op_le (pd_bin op_addAll (pd_bin op_sub (pd_call C_given_high (hr.mono (by decide)) rfl (pda_cons (pd_var (i := 0) rfl rfl (.inl rfl)) (pda_cons (pd_ix ix_seq (pd_var (i := 3) rfl rfl (.inl rfl)) (pd_un un_neg pd_int ru_neg) (by walk_at "r2ix") (fun _ _ => rfl)) pda_nil)) (by walk_at "rr")) (pd_callB call_len rfl T.len_ (by decide +kernel) (pda_cons (pd_var (i := 3) rfl rfl (.inl rfl)) pda_nil) (by walk_at "rc1")) (by walk_at "r2i0")) pd_int (by walk_at "r2add")) (pd_var (i := 2) rfl rfl (.inl rfl)) (by walk_at "r2b0") rfl))))))) ?_) rfl
  rw [List.length_map, h1]
  simp
  omega
abbrev s_is_row : Stmt := topS 43
theorem sc_is_row : FnScope ["problem", "low", "high", "value"] ["problem", "low", "high", "value"] (defScope s_is_row) := ⟨rfl, rfl, rfl, by decide +kernel, rfl, by decide +kernel, by decide +kernel⟩
def R_is_row : List PyData → PyData → Prop := fun ds d => ∃ p lo hi r, (OkP p ∧ RowOk p lo hi r) ∧ ds = [dP p, .int lo, .int hi, dRow r] ∧ d = .bool true
theorem ok_is_row (T : Txt mg) (F : Fun K "is_row" "is_row" s_is_row f fd)
    (C_shows_low : Cal P w K mg base 4 "shows_low" (SpP R_shows_low))
    (C_shows_high : Cal P w K mg base 4 "shows_high" (SpP R_shows_high))
    (C_is_item_windows : Cal P w K mg base 2 "is_item_windows" (SpP R_is_item_w)) :
    FnOk P w K mg base CX0 5 f fd ["problem", "low", "high", "value"] (SpP R_is_row) := by
  refine fn_pure F sc_is_row (by rintro _ _ ⟨p, lo, hi, r, hh, rfl, rfl⟩; rfl) fun cdv A outer s H E hr ds d h => ?_
  obtain ⟨p, lo, hi, r, hh, rfl, rfl⟩ := h
  obtain ⟨i, c1, c2⟩ := r
  obtain ⟨hp, h0, h1, h2⟩ := hh
  have h1' : OkP p ∧ ShowsLow p i lo c1 := ⟨hp, h1⟩
  have h2' : OkP p ∧ ShowsHigh p i hi c2 := ⟨hp, h2⟩
  have h0' : 0 ≤ i ∧ i < p.n := h0
  unfold dRow
  refine sd_ifF (by exact (PW.pt (pdw_or (pdt_not (pdt_tru (pd_isi (pd_var (i := 3) rfl rfl (.inl rfl)) rfl T.isinstance rfl T.tuple_ (by decide +kernel) kit_tup) (by walk_at "sf"))) (fun _ => (pdw_or (pdt_cmp (op_neAll hr.units) (pd_callB call_len rfl T.len_ (by decide +kernel) (pda_cons (pd_var (i := 3) rfl rfl (.inl rfl)) pda_nil) (by walk_at "rc1")) pd_int (by walk_at "r2ne") rfl) (fun _ => (pdw_or1 (pdt_not (pdt_tru (pd_call C_is_item_windows (hr.mono (by decide)) rfl (pda_cons (pd_ix ix_seq (pd_var (i := 3) rfl rfl (.inl rfl)) pd_int (by walk_at "r2ix") (fun _ _ => rfl)) (pda_cons (pd_var (i := 0) rfl rfl (.inl rfl)) pda_nil)) (by walk_at "rr")) (by walk_at "sf")))))))))) ?_ ?_
  · simp [isTupB, truD, wholeB]
    omega
  · exact sd_ret (pd_eq (by exact (pd_and (pd_call C_shows_low (hr.mono (by decide)) rfl (pda_cons (pd_var (i := 0) rfl rfl (.inl rfl)) (pda_cons (pd_ix ix_seq (pd_var (i := 3) rfl rfl (.inl rfl)) pd_int (by walk_at "r2ix") (fun _ _ => rfl)) (pda_cons (pd_var (i := 1) rfl rfl (.inl rfl)) (pda_cons (pd_ix ix_seq (pd_var (i := 3) rfl rfl (.inl rfl)) pd_int (by walk_at "r2ix") (fun _ _ => rfl)) pda_nil)))) (by walk_at "rr")) (fun _ => (pd_one (pd_call C_shows_high (hr.mono (by decide)) rfl (pda_cons (pd_var (i := 0) rfl rfl (.inl rfl)) (pda_cons (pd_ix ix_seq (pd_var (i := 3) rfl rfl (.inl rfl)) pd_int (by walk_at "r2ix") (fun _ _ => rfl)) (pda_cons (pd_var (i := 2) rfl rfl (.inl rfl)) (pda_cons (pd_ix ix_seq (pd_var (i := 3) rfl rfl (.inl rfl)) pd_int (by walk_at "r2ix") (fun _ _ => rfl)) pda_nil)))) (by walk_at "rr")))))) (by rfl)) rfl
abbrev s_is_overfull : Stmt := topS 44
theorem sc_is_overfull : FnScope ["problem", "low", "high", "rows", "bound", "row", "at"] ["problem", "low", "high", "rows"] (defScope s_is_overfull) := ⟨rfl, rfl, rfl, by decide +kernel, rfl, by decide +kernel, by decide +kernel⟩
def R_is_overfull : List PyData → PyData → Prop := fun ds d => ∃ p lo hi rs, (OkP p ∧ OvOk p lo hi rs) ∧ ds = [dP p, .int lo, .int hi, .tuple (rs.map dRow)] ∧ d = .bool true
theorem rows_at {rs : List Row} {z : Nat} (h : z < rs.length) : atI (rs.map dRow) (z : Int) = some (.tuple [.int (rs[z].1), dR rs[z].2.1, dR rs[z].2.2]) := by
  refine atI_nat ?_
  rw [List.getElem?_map, List.getElem?_eq_getElem h]
  rfl
theorem ok_is_overfull (T : Txt mg) (F : Fun K "is_overfull" "is_overfull" s_is_overfull f fd)
    (C_places_of : Cal P w K mg base 1 "places_of" (SpP R_places_of))
    (C_is_row : Cal P w K mg base 5 "is_row" (SpP R_is_row))
    (C_is_between : Cal P w K mg base 1 "is_between" (SpP R_is_between)) :
    FnOk P w K mg base CX0 6 f fd ["problem", "low", "high", "rows"] (SpP R_is_overfull) := by
  refine fn_pure F sc_is_overfull (by rintro _ _ ⟨p, lo, hi, rs, hh, rfl, rfl⟩; rfl) fun cdv A outer s H E hr ds d h => ?_
  obtain ⟨p, lo, hi, rs, hh, rfl, rfl⟩ := h
  obtain ⟨hp, hv⟩ := hh
  have l1 := hv.l1
  have l2 := hv.l2
  have h1 := hv.h1
  have h2 := hv.h2
  have hf := hv.few
  have hz : [lo, hi].length ≤ 100000 := by simp
  refine sd_ifF (by exact (PW.pt (pdw_or (pdt_not (pdt_tru (pd_callB (cr_all rfl) rfl T.all_ (by decide +kernel) (pda_cons (pd_lcb (zs := [lo, hi]) (enc := PyData.int) (f := fun x => wholeB (.int x) (-20) 20) (own := [("bound", 4)]) rfl sc_is_overfull.nd (pdi_tup (by exact (pd_tup (pda_cons (pd_var (i := 1) rfl rfl (.inr (.inl rfl))) (pda_cons (pd_var (i := 2) rfl rfl (.inr (.inl rfl))) pda_nil)) (by walk_at "sz")))) (blkOk_by (own := [("bound", 4)]) (N := ["problem", "low", "high", "rows", "bound", "row", "at"]) (sc := defScope s_is_overfull) (by decide +kernel)) (by walk_at "hz") (stays_name (j := 4) (by decide)) (fun z _ => asg_name) (fun _ _ _ _ _ => pg_name (i := 4) sc_is_overfull.nd rfl (.inl rfl)) (fun _ _ _ _ _ z hz => by exact (pd_call C_is_between (hr.mono (by decide)) rfl (pda_cons (pd_var (i := 4) rfl rfl (.inl rfl)) (pda_cons (pd_un un_neg (pd_glob rfl T.mostNumber) ru_neg) (pda_cons (pd_glob rfl T.mostNumber) pda_nil))) (by walk_at "rr")))) pda_nil) rc_all) (by walk_at "sf"))) (fun _ => pdw_or1 (by exact (pdt_not (pdt_tru (pd_isi (pd_var (i := 3) rfl rfl (.inr (.inl rfl))) rfl T.isinstance rfl T.tuple_ (by decide +kernel) kit_tup) (by walk_at "sf")))))))) ?_ ?_
  · simp [isTupB, truD, wholeB, l1, l2, h1, h2]
  have hz : rs.length ≤ 100000 := by omega
  refine sd_ifF (by exact (pdt_not (pdt_tru (pd_callB (cr_all rfl) rfl T.all_ (by decide +kernel) (pda_cons (pd_lcb (zs := rs) (enc := dRow) (f := fun x => true) (own := [("row", 5)]) rfl sc_is_overfull.nd (pdi_tup (by exact (pd_var (i := 3) rfl rfl (.inr (.inl rfl))))) (blkOk_by (own := [("row", 5)]) (N := ["problem", "low", "high", "rows", "bound", "row", "at"]) (sc := defScope s_is_overfull) (by decide +kernel)) (by walk_at "hz") (stays_name (j := 5) (by decide)) (fun z _ => asg_name) (fun _ _ _ _ _ => pg_name (i := 5) sc_is_overfull.nd rfl (.inl rfl)) (fun _ _ _ _ _ z hz => by
      have hrow : OkP p ∧ RowOk p lo hi z := ⟨hp, hv.rows z hz⟩
      exact (pd_call C_is_row (hr.mono (by decide)) rfl (pda_cons (pd_var (i := 0) rfl rfl (.inr (.inl rfl))) (pda_cons (pd_var (i := 1) rfl rfl (.inr (.inl rfl))) (pda_cons (pd_var (i := 2) rfl rfl (.inr (.inl rfl))) (pda_cons (pd_var (i := 5) rfl rfl (.inl rfl)) pda_nil)))) (by walk_at "rr")))) pda_nil) rc_all) (by walk_at "sf")))) ?_ ?_
  · rw [all_true]
    rfl
  have hm := hv.many
  have hpl : 0 ≤ plc lo hi := by
    unfold plc
    split <;> omega
  have hz : (rng 0 (((rs.map dRow).length : Int) - 1).toNat).length ≤ 100000 := by
    rw [rng_len, List.length_map]
    omega
  refine sd_ifF (by exact (pdt_not (pdt_tru (pd_callB (cr_all rfl) rfl T.all_ (by decide +kernel) (pda_cons (pd_lcb (zs := rng 0 (((rs.map dRow).length : Int) - 1).toNat) (enc := PyData.int) (f := fun x => true) (own := [("at", 6)]) rfl sc_is_overfull.nd (pdi_rng1 rfl T.range_ (by exact (pd_bin op_sub (pd_callB call_len rfl T.len_ (by decide +kernel) (pda_cons (pd_var (i := 3) rfl rfl (.inr (.inl rfl))) pda_nil) (by walk_at "rc1")) pd_int (by walk_at "r2i0"))) (by walk_at "rg")) (blkOk_by (own := [("at", 6)]) (N := ["problem", "low", "high", "rows", "bound", "row", "at"]) (sc := defScope s_is_overfull) (by decide +kernel)) (by walk_at "hz") (stays_name (j := 6) (by decide)) (fun z _ => asg_name) (fun _ _ _ _ _ => pg_name (i := 6) sc_is_overfull.nd rfl (.inl rfl)) (fun _ _ _ _ _ z hz => by
      have hzm := rng_mem.mp hz
      rw [List.length_map] at hzm
      obtain ⟨k, rfl⟩ : ∃ k : Nat, z = (k : Int) := ⟨z.toNat, by omega⟩
      have hk : k + 1 < rs.length := by omega
      have ha := rows_at (rs := rs) (z := k) (by omega)
      have hb := rows_at (rs := rs) (z := k + 1) hk
      rw [show (((k + 1 : Nat)) : Int) = (k : Int) + 1 by omega] at hb
      have hlt : rs[k].1 < rs[k + 1].1 := by
        have h := hv.asc
        rw [List.pairwise_map, List.pairwise_iff_getElem] at h
        exact h k (k + 1) (by omega) hk (by omega)
      exact pd_eq (by exact (pd_cmp op_lt (pd_ix ix_seq (pd_ix ix_seq (pd_var (i := 3) rfl rfl (.inr (.inl rfl))) (pd_var (i := 6) rfl rfl (.inl rfl)) (by walk_at "r2ix") (fun _ _ => rfl)) pd_int (by walk_at "r2ix") (fun _ _ => rfl)) (pd_ix ix_seq (pd_ix ix_seq (pd_var (i := 3) rfl rfl (.inr (.inl rfl))) (pd_bin op_addAll (pd_var (i := 6) rfl rfl (.inl rfl)) pd_int (by walk_at "r2add")) (by walk_at "r2ix") (fun _ _ => rfl)) pd_int (by walk_at "r2ix") (fun _ _ => rfl)) (by walk_at "r2b0") rfl)) (by rw [decide_eq_true hlt]))) pda_nil) rc_all) (by walk_at "sf")))) ?_ ?_
  · rw [all_true]
    rfl
  exact sd_ret (pd_eq (by exact (pd_cmp op_gt (pd_callB call_len rfl T.len_ (by decide +kernel) (pda_cons (pd_var (i := 3) rfl rfl (.inr (.inl rfl))) pda_nil) (by walk_at "rc1")) (pd_call C_places_of (hr.mono (by decide)) rfl (pda_cons (pd_var (i := 1) rfl rfl (.inr (.inl rfl))) (pda_cons (pd_var (i := 2) rfl rfl (.inr (.inl rfl))) pda_nil)) (by walk_at "rr")) (by walk_at "r2b0") rfl)) (by
    rw [List.length_map]
    simp
    omega)) rfl
abbrev s_is_contradiction : Stmt := topS 45
theorem sc_is_contradiction : FnScope ["problem", "value"] ["problem", "value"] (defScope s_is_contradiction) := ⟨rfl, rfl, rfl, by decide +kernel, rfl, by decide +kernel, by decide +kernel⟩
def R_is_contradiction : List PyData → PyData → Prop := fun ds d => ∃ p v b, (OkP p ∧ CV p v b) ∧ ds = [dP p, v] ∧ d = .bool b
theorem ok_is_contradiction (T : Txt mg) (F : Fun K "is_contradiction" "is_contradiction" s_is_contradiction f fd)
    (C_is_overfull : Cal P w K mg base 6 "is_overfull" (SpP R_is_overfull))
    (C_is_chain : Cal P w K mg base 3 "is_chain" (SpP R_is_chain)) :
    FnOk P w K mg base CX0 7 f fd ["problem", "value"] (SpP R_is_contradiction) := by
  refine fn_pure F sc_is_contradiction (by rintro _ _ ⟨p, v, b, hh, rfl, rfl⟩; rfl) fun cdv A outer s H E hr ds d h => ?_
  obtain ⟨p, v, b, hh, rfl, rfl⟩ := h
  obtain ⟨hp, hv⟩ := hh
  cases hv with
  | nt ht =>
    refine sd_ifT (by exact (PW.pt (pdw_orT (pdt_eq (by exact (pdt_not (pdt_tru (pd_isi (pd_var (i := 1) rfl rfl (.inl rfl)) rfl T.isinstance rfl T.tuple_ (by decide +kernel) kit_tup) (by walk_at "sf")))) (by simp [ht, truD]))))) rfl ?_
    exact sd_ret (by exact pd_bl) rfl
  | emp =>
    refine sd_ifT (by exact (PW.pt (pdw_orF (pdt_eq (by exact (pdt_not (pdt_tru (pd_isi (pd_var (i := 1) rfl rfl (.inl rfl)) rfl T.isinstance rfl T.tuple_ (by decide +kernel) kit_tup) (by walk_at "sf")))) (by simp [isTupB, truD])) (pdw_orT (pdt_eq (by exact (pdt_not (pdt_tru (pd_var (i := 1) rfl rfl (.inl rfl)) (by walk_at "sf")))) (by simp [truD])))))) rfl ?_
    exact sd_ret (by exact pd_bl) rfl
  | @ns x xs hs =>
    have hx0 : atI (x :: xs) 0 = some x := atI_hd
    refine sd_ifT (by exact (PW.pt (pdw_or (pdt_not (pdt_tru (pd_isi (pd_var (i := 1) rfl rfl (.inl rfl)) rfl T.isinstance rfl T.tuple_ (by decide +kernel) kit_tup) (by walk_at "sf"))) (fun _ => (pdw_or (pdt_not (pdt_tru (pd_var (i := 1) rfl rfl (.inl rfl)) (by walk_at "sf"))) (fun _ => (pdw_or1 (pdt_not (pdt_tru (pd_isi (pd_ix ix_seq (pd_var (i := 1) rfl rfl (.inl rfl)) pd_int (by walk_at "r2ix") (fun _ _ => rfl)) rfl T.isinstance rfl T.str_ (by decide +kernel) kit_str) (by walk_at "sf")))))))))) (by simp [isTupB, truD, hs]) ?_
    exact sd_ret (by exact pd_bl) rfl
  | @cyL xs hs =>
    have hx0 : atI (PyData.str sCycle :: xs) 0 = some (PyData.str sCycle) := atI_hd
    refine sd_ifF (by exact (PW.pt (pdw_or (pdt_not (pdt_tru (pd_isi (pd_var (i := 1) rfl rfl (.inl rfl)) rfl T.isinstance rfl T.tuple_ (by decide +kernel) kit_tup) (by walk_at "sf"))) (fun _ => (pdw_or (pdt_not (pdt_tru (pd_var (i := 1) rfl rfl (.inl rfl)) (by walk_at "sf"))) (fun _ => (pdw_or1 (pdt_not (pdt_tru (pd_isi (pd_ix ix_seq (pd_var (i := 1) rfl rfl (.inl rfl)) pd_int (by walk_at "r2ix") (fun _ _ => rfl)) rfl T.isinstance rfl T.str_ (by decide +kernel) kit_str) (by walk_at "sf")))))))))) (by simp [isTupB, truD, isStrB]) ?_
    refine sd_ifT (by exact (pdt_cmp (op_eqAll hr.units) (pd_ix ix_seq (pd_var (i := 1) rfl rfl (.inl rfl)) pd_int (by walk_at "r2ix") (fun _ _ => rfl)) pd_str (by walk_at "r2eq") rfl)) (by simp) ?_
    exact sd_ret (by exact (pd_andF (by exact (pd_eq (by exact (pd_cmp (op_eqAll hr.units) (pd_callB call_len rfl T.len_ (by decide +kernel) (pda_cons (pd_var (i := 1) rfl rfl (.inl rfl)) pda_nil) (by walk_at "rc1")) pd_int (by walk_at "r2eq") rfl)) (by rw [List.length_cons]; simp; omega))))) rfl
  | @cy c hc h1 h2 =>
    have hcc : OkP p ∧ ChOk p c := ⟨hp, hc⟩
    have hx0 := hd_atI hc.ne
    have hx1 := atI_last hc.ne
    refine sd_ifF (by exact (PW.pt (pdw_or (pdt_not (pdt_tru (pd_isi (pd_var (i := 1) rfl rfl (.inl rfl)) rfl T.isinstance rfl T.tuple_ (by decide +kernel) kit_tup) (by walk_at "sf"))) (fun _ => (pdw_or (pdt_not (pdt_tru (pd_var (i := 1) rfl rfl (.inl rfl)) (by walk_at "sf"))) (fun _ => (pdw_or1 (pdt_not (pdt_tru (pd_isi (pd_ix ix_seq (pd_var (i := 1) rfl rfl (.inl rfl)) pd_int (by walk_at "r2ix") (fun _ _ => rfl)) rfl T.isinstance rfl T.str_ (by decide +kernel) kit_str) (by walk_at "sf")))))))))) (by simp [isTupB, truD, isStrB]) ?_
    refine sd_ifT (by exact (pdt_cmp (op_eqAll hr.units) (pd_ix ix_seq (pd_var (i := 1) rfl rfl (.inl rfl)) pd_int (by walk_at "r2ix") (fun _ _ => rfl)) pd_str (by walk_at "r2eq") rfl)) (by simp) ?_
    exact sd_ret (pd_eq (by exact (pd_and (pd_cmp (op_eqAll hr.units) (pd_callB call_len rfl T.len_ (by decide +kernel) (pda_cons (pd_var (i := 1) rfl rfl (.inl rfl)) pda_nil) (by walk_at "rc1")) pd_int (by walk_at "r2eq") rfl) (fun _ => (pd_and (pd_call C_is_chain (hr.mono (by decide)) rfl (pda_cons (pd_var (i := 0) rfl rfl (.inl rfl)) (pda_cons (pd_ix ix_seq (pd_var (i := 1) rfl rfl (.inl rfl)) pd_int (by walk_at "r2ix") (fun _ _ => rfl)) pda_nil)) (by walk_at "rr")) (fun _ => (pd_and (pd_cmp op_gt (pd_callB call_len rfl T.len_ (by decide +kernel) (pda_cons (pd_ix ix_seq (pd_var (i := 1) rfl rfl (.inl rfl)) pd_int (by walk_at "r2ix") (fun _ _ => rfl)) pda_nil) (by walk_at "rc1")) pd_int (by walk_at "r2b0") rfl) (fun _ => (pd_one (pd_cmp (op_eqAll hr.units) (pd_ix ix_seq (pd_ix ix_seq (pd_var (i := 1) rfl rfl (.inl rfl)) pd_int (by walk_at "r2ix") (fun _ _ => rfl)) pd_int (by walk_at "r2ix") (fun _ _ => rfl)) (pd_ix ix_seq (pd_ix ix_seq (pd_var (i := 1) rfl rfl (.inl rfl)) pd_int (by walk_at "r2ix") (fun _ _ => rfl)) (pd_un un_neg pd_int ru_neg) (by walk_at "r2ix") (fun _ _ => rfl)) (by walk_at "r2eq") rfl))))))))) (by
      rw [List.length_map, h2]
      simp
      omega)) rfl
  | @ovL xs hs =>
    have hx0 : atI (PyData.str sOver :: xs) 0 = some (PyData.str sOver) := atI_hd
    refine sd_ifF (by exact (PW.pt (pdw_or (pdt_not (pdt_tru (pd_isi (pd_var (i := 1) rfl rfl (.inl rfl)) rfl T.isinstance rfl T.tuple_ (by decide +kernel) kit_tup) (by walk_at "sf"))) (fun _ => (pdw_or (pdt_not (pdt_tru (pd_var (i := 1) rfl rfl (.inl rfl)) (by walk_at "sf"))) (fun _ => (pdw_or1 (pdt_not (pdt_tru (pd_isi (pd_ix ix_seq (pd_var (i := 1) rfl rfl (.inl rfl)) pd_int (by walk_at "r2ix") (fun _ _ => rfl)) rfl T.isinstance rfl T.str_ (by decide +kernel) kit_str) (by walk_at "sf")))))))))) (by simp [isTupB, truD, isStrB]) ?_
    refine sd_ifF (by exact (pdt_cmp (op_eqAll hr.units) (pd_ix ix_seq (pd_var (i := 1) rfl rfl (.inl rfl)) pd_int (by walk_at "r2ix") (fun _ _ => rfl)) pd_str (by walk_at "r2eq") rfl)) (by simp [sOC]) ?_
    exact sd_ret (by exact (pd_andT (by exact (pd_cmp (op_eqAll hr.units) (pd_ix ix_seq (pd_var (i := 1) rfl rfl (.inl rfl)) pd_int (by walk_at "r2ix") (fun _ _ => rfl)) pd_str (by walk_at "r2eq") rfl)) (by simp) (pd_andF (by exact (pd_eq (by exact (pd_cmp (op_eqAll hr.units) (pd_callB call_len rfl T.len_ (by decide +kernel) (pda_cons (pd_var (i := 1) rfl rfl (.inl rfl)) pda_nil) (by walk_at "rc1")) pd_int (by walk_at "r2eq") rfl)) (by rw [List.length_cons]; simp; omega)))))) rfl
  | @ov lo hi rs hro =>
    have hcc : OkP p ∧ OvOk p lo hi rs := ⟨hp, hro⟩
    refine sd_ifF (by exact (PW.pt (pdw_or (pdt_not (pdt_tru (pd_isi (pd_var (i := 1) rfl rfl (.inl rfl)) rfl T.isinstance rfl T.tuple_ (by decide +kernel) kit_tup) (by walk_at "sf"))) (fun _ => (pdw_or (pdt_not (pdt_tru (pd_var (i := 1) rfl rfl (.inl rfl)) (by walk_at "sf"))) (fun _ => (pdw_or1 (pdt_not (pdt_tru (pd_isi (pd_ix ix_seq (pd_var (i := 1) rfl rfl (.inl rfl)) pd_int (by walk_at "r2ix") (fun _ _ => rfl)) rfl T.isinstance rfl T.str_ (by decide +kernel) kit_str) (by walk_at "sf")))))))))) (by simp [isTupB, truD, isStrB]) ?_
    refine sd_ifF (by exact (pdt_cmp (op_eqAll hr.units) (pd_ix ix_seq (pd_var (i := 1) rfl rfl (.inl rfl)) pd_int (by walk_at "r2ix") (fun _ _ => rfl)) pd_str (by walk_at "r2eq") rfl)) (by simp [sOC]) ?_
    exact sd_ret (pd_eq (by exact (pd_and (pd_cmp (op_eqAll hr.units) (pd_ix ix_seq (pd_var (i := 1) rfl rfl (.inl rfl)) pd_int (by walk_at "r2ix") (fun _ _ => rfl)) pd_str (by walk_at "r2eq") rfl) (fun _ => (pd_and (pd_cmp (op_eqAll hr.units) (pd_callB call_len rfl T.len_ (by decide +kernel) (pda_cons (pd_var (i := 1) rfl rfl (.inl rfl)) pda_nil) (by walk_at "rc1")) pd_int (by walk_at "r2eq") rfl) (fun _ => (pd_one (pd_call C_is_overfull (hr.mono (by decide)) rfl (pda_cons (pd_var (i := 0) rfl rfl (.inl rfl)) (pda_cons (pd_ix ix_seq (pd_var (i := 1) rfl rfl (.inl rfl)) pd_int (by walk_at "r2ix") (fun _ _ => rfl)) (pda_cons (pd_ix ix_seq (pd_var (i := 1) rfl rfl (.inl rfl)) pd_int (by walk_at "r2ix") (fun _ _ => rfl)) (pda_cons (pd_ix ix_seq (pd_var (i := 1) rfl rfl (.inl rfl)) pd_int (by walk_at "r2ix") (fun _ _ => rfl)) pda_nil)))) (by walk_at "rr")))))))) (by simp)) rfl
abbrev s_accepts_contradiction : Stmt := topS 46
theorem sc_accepts_contradiction : FnScope ["problem", "value"] ["problem", "value"] (defScope s_accepts_contradiction) := ⟨rfl, rfl, rfl, by decide +kernel, rfl, by decide +kernel, by decide +kernel⟩
def R_accepts_contradiction : List PyData → PyData → Prop := R_is_contradiction
theorem ok_accepts_contradiction (T : Txt mg) (F : Fun K "accepts_contradiction" "accepts_contradiction" s_accepts_contradiction f fd)
    (C_check_problem_windows : Cal P w K mg base 4 "check_problem_windows" (SpP R_check_problem_w))
    (C_is_contradiction : Cal P w K mg base 7 "is_contradiction" (SpP R_is_contradiction)) :
    FnOk P w K mg base CX0 8 f fd ["problem", "value"] (SpP R_accepts_contradiction) := by
  refine fn_pure F sc_accepts_contradiction (by rintro _ _ ⟨p, v, b, hh, rfl, rfl⟩; rfl) fun cdv A outer s H E hr ds d h => ?_
  obtain ⟨p, v, b, hh, rfl, rfl⟩ := h
  have hp := hh.1
  refine sd_nx (sd_expr (by exact (pd_call C_check_problem_windows (hr.mono (by decide)) rfl (pda_cons (pd_var (i := 0) rfl rfl (.inl rfl)) pda_nil) (by walk_at "rr")))) ?_
  exact sd_ret (by exact (pd_call C_is_contradiction (hr.mono (by decide)) rfl (pda_cons (pd_var (i := 0) rfl rfl (.inl rfl)) (pda_cons (pd_var (i := 1) rfl rfl (.inl rfl)) pda_nil)) (by walk_at "rr"))) rfl
end
end RK

/-! Cycles. -/
namespace RK
open PySem PySem.Spec PyProof.Rows L2 DL
theorem nodup_few {l : List Int} {n : Int} (h : l.Nodup) (h2 : ∀ x ∈ l, 0 ≤ x ∧ x < n) : l.length ≤ n.toNat := by
  have h3 := List.Nodup.length_le_of_subset (l₂ := rng 0 n.toNat) h (fun x hx => rng_mem.mpr (by have := h2 x hx; omega))
  rw [rng_len] at h3
  exact h3
theorem keysOf_nodup (l : List Int) : (keysOf l).Nodup := by
  have aux : ∀ (l acc : List Int), acc.Nodup → (l.foldl addK acc).Nodup := by
    intro l
    induction l with
    | nil => intro acc h; exact h
    | cons x l ih =>
      intro acc h
      rw [List.foldl_cons]
      apply ih
      unfold addK
      split
      · exact h
      · rename_i hx
        rw [List.nodup_append]
        refine ⟨h, by simp, ?_⟩
        intro a ha b hb e
        subst e
        have : a = x := by simpa using hb
        subst this
        exact hx ha
  exact aux l [] (by simp)
theorem beh_nodup {p : Prob} {i : Int} : (beh p i).Nodup := by
  unfold beh
  exact (sortI_perm _).nodup_iff.mpr (keysOf_nodup _)
theorem bef_nodup {p : Prob} {i : Int} : (bef p i).Nodup := by
  unfold bef
  exact (sortI_perm _).nodup_iff.mpr (keysOf_nodup _)
theorem beh_few {p : Prob} (hp : OkP p) {i : Int} : (beh p i).length ≤ 5 := by
  have h := nodup_few beh_nodup (fun x hx => beh_in hp (i := i) hx)
  have := hp.n5
  omega
/-! rows -/
def cycFound (p : Prob) (i : Int) (rows : List (List Int)) : List (List Int) := (rows.filter fun r => decide (i ∈ beh p (lastI r))).map fun r => r ++ [i]
def cycExt (p : Prob) (i : Int) (r : List Int) : List (List Int) := ((beh p (lastI r)).filter fun o => decide (o > i) && !decide (o ∈ r)).map fun o => r ++ [o]
def cycNext (p : Prob) (i : Int) (rows : List (List Int)) : List (List Int) := rows.flatMap (cycExt p i)
def cycLoop (p : Prob) (i : Int) : Nat → List (List Int) → List (List Int)
  | 0, _ => []
  | k + 1, rows => if rows = [] then [] else if cycFound p i rows ≠ [] then cycFound p i rows else cycLoop p i k (cycNext p i rows)
def cycFrom (p : Prob) (i : Int) : List (List Int) := cycLoop p i (p.n.toNat + 1) [[i]]
structure RowG (p : Prob) (i : Int) (t : Nat) (r : List Int) : Prop where
  ln : r.length = t
  nd : r.Nodup
  rg : ∀ x ∈ r, 0 ≤ x ∧ x < p.n
  ch : Chn p r
  hd : r.headD 0 = i
  ne : r ≠ []
theorem lastI_snoc {c : List Int} {y : Int} : lastI (c ++ [y]) = y := by
  unfold lastI
  rw [List.getLastD_eq_getLast?, List.getLast?_concat]
  rfl
theorem hd_app {c d : List Int} (h : c ≠ []) : (c ++ d).headD 0 = c.headD 0 := by
  cases c with
  | nil => exact absurd rfl h
  | cons x c => rfl
theorem RowG.next {p : Prob} (hp : OkP p) {i o : Int} {t : Nat} {r : List Int} (h : RowG p i t r) (ho : o ∈ beh p (lastI r)) (hn : o ∉ r) : RowG p i (t + 1) (r ++ [o]) where
  ln := by rw [List.length_append, h.ln]; rfl
  nd := by
    rw [List.nodup_append]
    refine ⟨h.nd, by simp, ?_⟩
    intro a ha b hb e
    subst e
    have : a = o := by simpa using hb
    subst this
    exact hn ha
  rg := fun x hx => by
    rcases List.mem_append.mp hx with q | q
    · exact h.rg x q
    · have : x = o := by simpa using q
      rw [this]
      exact beh_in hp ho
  ch := chn_snoc h.ne h.ch (mem_beh.mp ho)
  hd := by rw [hd_app h.ne, h.hd]
  ne := by simp
theorem rowG_few {p : Prob} {i : Int} {t : Nat} {r : List Int} (h : RowG p i t r) : t ≤ p.n.toNat := by
  have := nodup_few h.nd h.rg
  rw [h.ln] at this
  exact this
theorem cycNext_ok {p : Prob} (hp : OkP p) {i : Int} {t : Nat} {rows : List (List Int)} (h : ∀ r ∈ rows, RowG p i t r) : ∀ r ∈ cycNext p i rows, RowG p i (t + 1) r := by
  intro r hr
  obtain ⟨r0, h0, hr2⟩ := List.mem_flatMap.mp hr
  obtain ⟨o, ho, rfl⟩ := List.mem_map.mp hr2
  obtain ⟨h1, h2⟩ := List.mem_filter.mp ho
  simp at h2
  exact (h r0 h0).next hp h1 h2.2
theorem cycExt_few {p : Prob} (hp : OkP p) {i : Int} {r : List Int} : (cycExt p i r).length ≤ 5 := by
  unfold cycExt
  rw [List.length_map]
  exact Nat.le_trans (List.length_filter_le _ _) (beh_few hp)
theorem flat_few {α β : Type} {f : α → List β} {k : Nat} (h : ∀ x, (f x).length ≤ k) : ∀ l : List α, (l.flatMap f).length ≤ k * l.length
  | [] => by simp
  | x :: l => by
    rw [List.flatMap_cons, List.length_append, List.length_cons, Nat.mul_add]
    have := flat_few h l
    have := h x
    omega
/-- a chain that comes back to where it began -/
structure CyOk (p : Prob) (c : List Int) : Prop where
  ch : ChOk p c
  ln : 1 < c.length
  bk : c.headD 0 = lastI c
theorem cycFound_ok {p : Prob} (hp : OkP p) {i : Int} {t : Nat} {rows : List (List Int)} (h : ∀ r ∈ rows, RowG p i t r) : ∀ c ∈ cycFound p i rows, CyOk p c := by
  intro c hc
  obtain ⟨r, hr, rfl⟩ := List.mem_map.mp hc
  obtain ⟨h1, h2⟩ := List.mem_filter.mp hr
  have g := h r h1
  have h3 : i ∈ beh p (lastI r) := by simpa using h2
  have hf := rowG_few g
  have hl := List.length_pos_iff.mpr g.ne
  have hn := hp.n5
  refine ⟨⟨by simp, fun x hx => ?_, chn_snoc g.ne g.ch (mem_beh.mp h3), ?_⟩, ?_, ?_⟩
  · rcases List.mem_append.mp hx with q | q
    · exact g.rg x q
    · have : x = i := by simpa using q
      rw [this]
      exact beh_in hp h3
  · rw [List.length_append, g.ln, List.length_cons, List.length_nil]
    omega
  · rw [List.length_append, List.length_cons, List.length_nil]
    omega
  · rw [hd_app g.ne, g.hd, lastI_snoc]
theorem cycLoop_ok {p : Prob} (hp : OkP p) {i : Int} : ∀ (k t : Nat) (rows : List (List Int)), (∀ r ∈ rows, RowG p i t r) → ∀ c ∈ cycLoop p i k rows, CyOk p c
  | 0, _, _, _ => fun c hc => by cases hc
  | k + 1, t, rows, h => fun c hc => by
    unfold cycLoop at hc
    split at hc
    · cases hc
    · split at hc
      · exact cycFound_ok hp h c hc
      · exact cycLoop_ok hp k (t + 1) _ (cycNext_ok hp h) c hc
theorem row_one {p : Prob} {i : Int} (h0 : 0 ≤ i) (h1 : i < p.n) : ∀ r ∈ [[i]], RowG p i 1 r := by
  intro r hr
  have : r = [i] := by simpa using hr
  subst this
  exact ⟨rfl, by simp, by simp; exact ⟨h0, h1⟩, True.intro, rfl, by simp⟩
theorem cycFrom_ok {p : Prob} (hp : OkP p) {i : Int} (h0 : 0 ≤ i) (h1 : i < p.n) : ∀ c ∈ cycFrom p i, CyOk p c := cycLoop_ok hp _ 1 _ (row_one h0 h1)
/-! the search finds -/
theorem cycLoop_finds {p : Prob} {i : Int} {t : List Int} (hc : Chn p (i :: (t ++ [i]))) (hn : (i :: t).Nodup) (hg : ∀ y ∈ t, i < y) : ∀ (k : Nat) (a b : List Int) (rows : List (List Int)), t = a ++ b → (i :: a) ∈ rows → b.length < k → cycLoop p i k rows ≠ []
  | 0, _, _, _, _, _, h => by cases h
  | k + 1, a, b, rows, e, hm, hk => by
    unfold cycLoop
    have hr : rows ≠ [] := fun z => by rw [z] at hm; cases hm
    rw [if_neg hr]
    by_cases hf : cycFound p i rows ≠ []
    · rw [if_pos hf]
      exact hf
    · rw [if_neg hf]
      have hlast : ∀ z d, Chn p (i :: (a ++ z :: d)) → Con.ahd (lastI (i :: a)) z ∈ p.cs := by
        intro z d hcz
        have e2 : i :: a = (i :: a).dropLast ++ [lastI (i :: a)] := by
          unfold lastI
          rw [List.getLastD_cons]
          rw [← List.getLast_eq_getLastD (by simp)]
          exact (List.dropLast_concat_getLast (by simp)).symm
        have e3 : i :: (a ++ z :: d) = (i :: a).dropLast ++ (lastI (i :: a) :: z :: d) := by
          calc i :: (a ++ z :: d) = (i :: a) ++ z :: d := rfl
            _ = ((i :: a).dropLast ++ [lastI (i :: a)]) ++ z :: d := by rw [← e2]
            _ = _ := by simp
        rw [e3] at hcz
        exact (chn_split.mp hcz).2.1
      cases b with
      | nil =>
        exfalso
        rw [List.append_nil] at e
        subst e
        have h1 := hlast i [] hc
        refine hf (List.ne_nil_of_mem (a := (i :: t) ++ [i]) ?_)
        exact List.mem_map.mpr ⟨i :: t, List.mem_filter.mpr ⟨hm, by simpa using mem_beh.mpr h1⟩, rfl⟩
      | cons o b =>
        have e4 : t ++ [i] = a ++ o :: (b ++ [i]) := by rw [e]; simp
        rw [e4] at hc
        have h1 := hlast o _ hc
        refine cycLoop_finds (by rw [e4]; exact hc) hn hg k (a ++ [o]) b _ (by rw [e]; simp) ?_ (by rw [List.length_cons] at hk; omega)
        refine List.mem_flatMap.mpr ⟨i :: a, hm, List.mem_map.mpr ⟨o, List.mem_filter.mpr ⟨mem_beh.mpr h1, ?_⟩, rfl⟩⟩
        have ho : o ∈ t := by rw [e]; simp
        have h2 := hg o ho
        have h3 : o ∉ i :: a := by
          rw [e] at hn
          have e5 : i :: (a ++ o :: b) = (i :: a) ++ o :: b := rfl
          rw [e5, List.nodup_append] at hn
          exact fun z => hn.2.2 o z o (by simp) rfl
        simp only [Bool.and_eq_true, decide_eq_true_eq, Bool.not_eq_true', decide_eq_false_iff_not]
        exact ⟨h2, h3⟩
theorem dup_split : ∀ {w : List Int}, ¬ w.Nodup → ∃ a y b c, w = a ++ y :: (b ++ y :: c)
  | [], h => absurd (by simp) h
  | x :: w, h => by
    rw [List.nodup_cons] at h
    by_cases hx : x ∈ w
    · obtain ⟨b, c, e⟩ := List.append_of_mem hx
      exact ⟨[], x, b, c, by rw [e]; rfl⟩
    · obtain ⟨a, y, b, c, e⟩ := dup_split (w := w) (fun z => h ⟨hx, z⟩)
      exact ⟨x :: a, y, b, c, by rw [e]; rfl⟩
theorem chn_right {p : Prob} {x : Int} {a b : List Int} (h : Chn p (a ++ x :: b)) : Chn p (x :: b) := (chn_split.mp h).2
theorem chn_left {p : Prob} {x : Int} {a b : List Int} (h : Chn p (a ++ x :: b)) : Chn p (a ++ [x]) := (chn_split.mp h).1
theorem walk_any {p : Prob} {l : List Int} (hl : l ≠ []) (h : ∀ x ∈ l, ∃ o ∈ l, Con.ahd o x ∈ p.cs) : ∀ m : Nat, ∃ w : List Int, w.length = m + 1 ∧ Chn p w ∧ ∀ x ∈ w, x ∈ l
  | 0 => by
    obtain ⟨x, hx⟩ := List.exists_mem_of_ne_nil _ hl
    exact ⟨[x], rfl, True.intro, by simpa using hx⟩
  | m + 1 => by
    obtain ⟨w, h1, h2, h3⟩ := walk_any hl h m
    cases w with
    | nil => cases h1
    | cons x w =>
      obtain ⟨o, ho, hc⟩ := h x (h3 x (by simp))
      exact ⟨o :: x :: w, by rw [List.length_cons, h1], ⟨hc, h2⟩, fun y hy => by
        rcases List.mem_cons.mp hy with q | q
        · rw [q]; exact ho
        · exact h3 y q⟩
theorem closed_min {p : Prob} : ∀ (n : Nat) (x : Int) (t : List Int), t.length ≤ n → Chn p (x :: (t ++ [x])) → ∃ i u, Chn p (i :: (u ++ [i])) ∧ (i :: u).Nodup ∧ ∀ y ∈ u, i < y := by
  intro n
  induction n with
  | zero =>
    intro x t ht hc
    have : t = [] := List.eq_nil_of_length_eq_zero (by omega)
    subst this
    exact ⟨x, [], hc, by simp, by simp⟩
  | succ n ih =>
    intro x t ht hc
    by_cases hn : (x :: t).Nodup
    · have hm := minL_mem (ns := x :: t) (Nat.succ_pos _)
      have hle : ∀ y ∈ x :: t, minL (x :: t) ≤ y := fun y hy => minL_le hy
      generalize minL (x :: t) = m at hm hle
      rcases List.mem_cons.mp hm with q | q
      · subst q
        refine ⟨m, t, hc, hn, fun y hy => ?_⟩
        have h1 := hle y (by simp [hy])
        have h2 : y ≠ m := fun z => by
          subst z
          rw [List.nodup_cons] at hn
          exact hn.1 hy
        omega
      · obtain ⟨t1, t2, e⟩ := List.append_of_mem q
        subst e
        refine ⟨m, t2 ++ x :: t1, ?_, ?_, ?_⟩
        · have e1 : x :: ((t1 ++ m :: t2) ++ [x]) = (x :: t1) ++ m :: (t2 ++ [x]) := by simp
          rw [e1] at hc
          have h1 := chn_left hc
          have h2 := chn_right hc
          have e2 : m :: ((t2 ++ x :: t1) ++ [m]) = (m :: t2) ++ x :: (t1 ++ [m]) := by simp
          rw [e2]
          exact chn_split.mpr ⟨h2, h1⟩
        · have hp : (m :: (t2 ++ x :: t1)).Perm (x :: (t1 ++ m :: t2)) := by
            have e2 : m :: (t2 ++ x :: t1) = (m :: t2) ++ (x :: t1) := rfl
            have e3 : x :: (t1 ++ m :: t2) = (x :: t1) ++ (m :: t2) := rfl
            rw [e2, e3]
            exact List.perm_append_comm
          exact hp.nodup_iff.mpr hn
        · intro y hy
          have hy2 : y ∈ x :: (t1 ++ m :: t2) := by
            simp at hy ⊢
            rcases hy with q | q | q <;> simp [q]
          have h1 := hle y hy2
          have h2 : y ≠ m := fun z => by
            subst z
            have hp : (y :: (t2 ++ x :: t1)).Perm (x :: (t1 ++ y :: t2)) := by
              have e2 : y :: (t2 ++ x :: t1) = (y :: t2) ++ (x :: t1) := rfl
              have e3 : x :: (t1 ++ y :: t2) = (x :: t1) ++ (y :: t2) := rfl
              rw [e2, e3]
              exact List.perm_append_comm
            have h3 := hp.nodup_iff.mpr hn
            rw [List.nodup_cons] at h3
            exact h3.1 hy
          omega
    · obtain ⟨a, y, b, c, e⟩ := dup_split hn
      refine ih y b ?_ ?_
      · have h1 := congrArg List.length e
        simp only [List.length_cons, List.length_append] at h1
        omega
      · have e1 : x :: (t ++ [x]) = a ++ y :: (b ++ y :: (c ++ [x])) := by
          calc x :: (t ++ [x]) = (x :: t) ++ [x] := rfl
            _ = (a ++ y :: (b ++ y :: c)) ++ [x] := by rw [e]
            _ = _ := by simp
        rw [e1] at hc
        have h1 := chn_right hc
        have e2 : y :: (b ++ y :: (c ++ [x])) = (y :: b) ++ y :: (c ++ [x]) := rfl
        rw [e2] at h1
        exact chn_left h1
theorem chn_out {p : Prob} : ∀ {w : List Int} {z : Int}, Chn p (w ++ [z]) → ∀ x ∈ w, ∃ o, Con.ahd x o ∈ p.cs
  | [], _, _ => by simp
  | [y], z, h => fun x hx => by
    have : x = y := by simpa using hx
    rw [this]
    exact ⟨z, h.1⟩
  | y :: y2 :: w, z, h => fun x hx => by
    rcases List.mem_cons.mp hx with q | q
    · rw [q]
      exact ⟨y2, h.1⟩
    · exact chn_out (w := y2 :: w) h.2 x q
theorem cyc_some {p : Prob} (hp : OkP p) (h : cyclicB p = true) : ∃ i, (0 ≤ i ∧ i < p.n) ∧ cycFrom p i ≠ [] := by
  obtain ⟨l, hl, hr, hx⟩ := cyc_left hp h
  obtain ⟨w, h1, h2, h3⟩ := walk_any hl hx l.length
  have hd : ¬ w.Nodup := fun z => by
    have := List.Nodup.length_le_of_subset z h3
    omega
  obtain ⟨a, y, b, c, e⟩ := dup_split hd
  rw [e] at h2
  have h4 := chn_right h2
  have e2 : y :: (b ++ y :: c) = (y :: b) ++ y :: c := rfl
  rw [e2] at h4
  obtain ⟨i, u, k1, k2, k3⟩ := closed_min b.length y b (Nat.le_refl _) (chn_left h4)
  have hrg : ∀ x ∈ i :: u, 0 ≤ x ∧ x < p.n := fun x hx => by
    obtain ⟨o, ho⟩ := chn_out (w := i :: u) k1 x hx
    have := hp.wf _ ho
    exact ⟨this.1, this.2.1⟩
  refine ⟨i, hrg i (by simp), ?_⟩
  have hf := nodup_few k2 hrg
  exact cycLoop_finds k1 k2 k3 _ [] u _ rfl (by simp) (by rw [List.length_cons] at hf; omega)
end RK

/-! The cycle told, the intervals. -/
namespace RK
open PySem PySem.Spec PyProof.Rows L2 DL
def lenRow (r : List Int) : PyData := .tuple [.int (r.length : Nat), dR r]
def cycAll (p : Prob) : List (List Int) := (rng 0 p.n.toNat).flatMap (cycFrom p)
def sndD : PyData → PyData
  | .tuple [_, r] => r
  | _ => .none
def cycOf (p : Prob) : PyData := match (cycAll p).map lenRow with
  | [] => .none
  | d :: ds => sndD (PySem.W.minD d ds)
theorem minD_mem (d : PyData) (ds : List PyData) : PySem.W.minD d ds ∈ d :: ds := by
  unfold PySem.W.minD
  induction ds generalizing d with
  | nil => simp
  | cons e ds ih =>
    rw [List.foldl_cons]
    have h := ih (if PySem.W.dataLt e d then e else d)
    rcases List.mem_cons.mp h with q | q
    · rw [q]
      split <;> simp
    · simp [q]
theorem alikeAll_ints : ∀ {xs ys : List Int}, PySem.W.alikeAll (xs.map PyData.int) (ys.map PyData.int) = true
  | [], _ => by simp [PySem.W.alikeAll]
  | x :: xs, [] => by simp [PySem.W.alikeAll]
  | x :: xs, y :: ys => by
    rw [List.map_cons, List.map_cons, PySem.W.alikeAll]
    rw [alikeAll_ints]
    simp [PySem.W.alike]
theorem alike_lenRow {r s : List Int} : PySem.W.alike (lenRow r) (lenRow s) = true := by
  unfold lenRow dR
  simp [PySem.W.alike, PySem.W.alikeAll, alikeAll_ints]
theorem alike_rows (rs : List (List Int)) : PySem.W.AlikeAll (rs.map lenRow) := by
  refine ⟨fun x hx y hy => ?_, fun x hx => ?_⟩
  · obtain ⟨r, _, rfl⟩ := List.mem_map.mp hx
    obtain ⟨s, _, rfl⟩ := List.mem_map.mp hy
    exact alike_lenRow
  · obtain ⟨r, _, rfl⟩ := List.mem_map.mp hx
    intro e
    cases e
theorem lay_dR {r : List Int} : (dR r).canLay0 = true := by
  unfold dR
  rw [lay_tup]
  exact canLay_ints r
theorem lay_rows (rs : List (List Int)) : PyData.canLayAll0 (rs.map lenRow) = true := by
  rw [layAll_iff]
  intro x hx
  obtain ⟨r, _, rfl⟩ := List.mem_map.mp hx
  unfold lenRow
  rw [lay_tup, layAll_iff]
  intro y hy
  simp only [List.mem_cons, List.not_mem_nil, or_false] at hy
  rcases hy with rfl | rfl
  · exact lay_int
  · exact lay_dR
theorem depthAll_ints : ∀ ns : List Int, PyData.depthAll (ns.map PyData.int) = 0
  | [] => by simp [PyData.depthAll]
  | n :: ns => by simp [PyData.depthAll, PyData.depth, depthAll_ints ns]
theorem depth_rows : ∀ (rs : List (List Int)), PyData.depthAll (rs.map lenRow) ≤ 2
  | [] => by simp [PyData.depthAll]
  | r :: rs => by
    have := depth_rows rs
    rw [List.map_cons]
    simp only [PyData.depthAll, lenRow, dR, PyData.depth, depthAll_ints]
    omega
theorem cycAll_ne {p : Prob} (hp : OkP p) (h : cyclicB p = true) : cycAll p ≠ [] := by
  obtain ⟨i, hi, hf⟩ := cyc_some hp h
  obtain ⟨c, hc⟩ := List.exists_mem_of_ne_nil _ hf
  exact List.ne_nil_of_mem (List.mem_flatMap.mpr ⟨i, rng_mem.mpr (by omega), hc⟩)
theorem cycAll_ok {p : Prob} (hp : OkP p) : ∀ c ∈ cycAll p, CyOk p c := fun c hc => by
  obtain ⟨i, hi, h⟩ := List.mem_flatMap.mp hc
  have := rng_mem.mp hi
  exact cycFrom_ok hp (by omega) (by have := hp.n1; omega) c h
/-- the cycle told is one -/
theorem cycOf_ok {p : Prob} (hp : OkP p) (h : cyclicB p = true) : ∃ c, cycOf p = dR c ∧ CyOk p c := by
  have hne := cycAll_ne hp h
  unfold cycOf
  cases q : (cycAll p).map lenRow with
  | nil =>
    rw [List.map_eq_nil_iff] at q
    exact absurd q hne
  | cons d ds =>
    have hm := minD_mem d ds
    rw [← q] at hm
    obtain ⟨c, hc, e⟩ := List.mem_map.mp hm
    refine ⟨c, ?_, cycAll_ok hp c hc⟩
    show sndD (PySem.W.minD d ds) = dR c
    rw [← e]
    rfl
/-! bounds -/
theorem cycLoop_few {p : Prob} (hp : OkP p) {i : Int} : ∀ (k t : Nat) (rows : List (List Int)), (∀ r ∈ rows, RowG p i (t + 1) r) → rows.length ≤ 5 ^ t → (cycLoop p i k rows).length ≤ 625
  | 0, _, _, _, _ => by simp [cycLoop]
  | k + 1, t, rows, h, hl => by
    unfold cycLoop
    split
    · simp
    · rename_i hne
      obtain ⟨r, hr⟩ := List.exists_mem_of_ne_nil _ hne
      have ht := rowG_few (h r hr)
      have hn := hp.n5
      split
      · unfold cycFound
        rw [List.length_map]
        refine Nat.le_trans (List.length_filter_le _ _) (Nat.le_trans hl ?_)
        have : 5 ^ t ≤ 5 ^ 4 := Nat.pow_le_pow_right (by decide) (by omega)
        omega
      · refine cycLoop_few hp k (t + 1) _ (cycNext_ok hp h) ?_
        have h1 := flat_few (f := cycExt p i) (k := 5) (fun x => cycExt_few hp) rows
        have h2 : 5 * rows.length ≤ 5 * 5 ^ t := Nat.mul_le_mul_left 5 hl
        rw [Nat.pow_succ]
        unfold cycNext
        omega
theorem cycFrom_few {p : Prob} (hp : OkP p) {i : Int} (h0 : 0 ≤ i) (h1 : i < p.n) : (cycFrom p i).length ≤ 625 := cycLoop_few hp _ 0 _ (row_one h0 h1) (by simp)
/-! intervals -/
abbrev Ivl := Int × Int × List Int
def lateOf (p : Prob) (lo : Int) : List Int := (rng 0 p.n.toNat).filter fun i => decide (eaI p i ≥ lo)
def itemsIn (p : Prob) (lo hi : Int) : List Int := (lateOf p lo).filter fun i => decide (laI p i ≤ hi)
def rowsLo (p : Prob) (lo : Int) : List Ivl := (rng 0 (p.n + 1).toNat).map fun hi => (lo, hi, itemsIn p lo hi)
def intvs (p : Prob) : List Ivl := (rng 1 (p.n + 2 - 1).toNat).flatMap (rowsLo p)
def dIv (v : Ivl) : PyData := .tuple [.int v.1, .int v.2.1, dR v.2.2]
def overB (v : Ivl) : Bool := decide (((v.2.2.length : Nat) : Int) > plc v.1 v.2.1)
def rowOf (p : Prob) (i : Int) : Row := (i, lowChain p i, upChain p i)
def toldC (p : Prob) : PyData := if cyclicB p then .tuple [.str sCycle, cycOf p] else match (intvs p).find? overB with
  | none => .none
  | some v => .tuple [.str sOver, .int v.1, .int v.2.1, .tuple ((v.2.2.map (rowOf p)).map dRow)]
theorem itemsIn_few {p : Prob} (hp : OkP p) {lo hi : Int} : (itemsIn p lo hi).length ≤ 5 := by
  have h1 := List.length_filter_le (fun i => decide (laI p i ≤ hi)) (lateOf p lo)
  have h2 := List.length_filter_le (fun i => decide (eaI p i ≥ lo)) (rng 0 p.n.toNat)
  rw [rng_len] at h2
  have := hp.n5
  have e : itemsIn p lo hi = (lateOf p lo).filter fun i => decide (laI p i ≤ hi) := rfl
  have e2 : lateOf p lo = (rng 0 p.n.toNat).filter fun i => decide (eaI p i ≥ lo) := rfl
  rw [e]
  rw [e2] at h1 ⊢
  omega
theorem itemsIn_in {p : Prob} {lo hi i : Int} : i ∈ itemsIn p lo hi ↔ (0 ≤ i ∧ i < p.n) ∧ lo ≤ eaI p i ∧ laI p i ≤ hi := by
  unfold itemsIn lateOf
  rw [List.mem_filter, List.mem_filter, rng_mem]
  simp only [decide_eq_true_eq]
  omega
end RK

namespace RK
open PySem PySem.Spec PyProof.Rows L2 DL
local macro_rules | `(tactic| walk_at "sf") => `(tactic| first | exact True.intro | assumption)
local macro_rules | `(tactic| walk_at "sz") => `(tactic| first | decide | (simp only [List.length_cons, List.length_nil, List.length_map, List.length_append, List.length_reverse, rng_len, sizeLine_eq]; omega))
local macro_rules | `(tactic| walk_at "r2add") => `(tactic| first | exact r2_addI | exact r2_addT (by walk_at "sz") | exact r2_addL (by walk_at "sz"))
local macro_rules | `(tactic| walk_at "r2i0") => `(tactic| exact r2_I0)
local macro_rules | `(tactic| walk_at "r2b0") => `(tactic| exact r2_B0)
local macro_rules | `(tactic| walk_at "r2mul") => `(tactic| exact r2_I (by unfold CMul; omega))
local macro_rules | `(tactic| walk_at "r2mod") => `(tactic| exact r2_I (by omega))
local macro_rules | `(tactic| walk_at "r2div") => `(tactic| exact r2_I (by unfold CDivN; omega))
local macro_rules | `(tactic| walk_at "r2pow") => `(tactic| exact r2_I (by unfold CPow; decide))
local macro_rules | `(tactic| walk_at "r2eq") => `(tactic| first | exact r2_eqI | exact r2_eqS | exact r2_eqB | exact r2_eqD (by assumption) (by assumption))
local macro_rules | `(tactic| walk_at "r2ne") => `(tactic| first | exact r2_neI | exact r2_neS | exact r2_neB)
local macro_rules | `(tactic| walk_at "r2in") => `(tactic| first | exact r2_inLI | exact r2_inTI | assumption)
local macro_rules | `(tactic| walk_at "r2nin") => `(tactic| first | exact r2_ninLI | exact r2_ninTI | assumption)
local macro_rules | `(tactic| walk_at "r2is") => `(tactic| exact r2_isN)
local macro_rules | `(tactic| walk_at "r2isn") => `(tactic| exact r2_notN)
local macro_rules | `(tactic| walk_at "r2ix") => `(tactic| first | exact r2_ixT rfl | exact r2_ixL rfl | exact r2_ixT (by assumption) | exact r2_ixL (by assumption))
local macro_rules | `(tactic| walk_at "rc1") => `(tactic| first | exact rc_lenT | exact rc_lenL | exact rc_max2 | exact rc_max (by walk_at "sz") | exact rc_min (by walk_at "sz") | exact rc_max (ns := _ :: _) (by walk_at "sz") | exact rc_min (ns := _ :: _) (by walk_at "sz") | exact rc_all | exact rc_any | exact rc_abs | exact rc_int | exact rc_tupL | assumption)
local macro_rules | `(tactic| walk_at "mem") => `(tactic| first | assumption | (simp; done))
local macro_rules | `(tactic| walk_at "rr") => `(tactic| first | exact ⟨_, rfl, rfl⟩ | exact ⟨_, _, rfl, rfl⟩ | exact ⟨_, _, _, rfl, rfl⟩ | exact ⟨_, by assumption, rfl, rfl⟩ | exact ⟨_, _, by assumption, rfl, rfl⟩ | exact ⟨_, _, _, by assumption, rfl, rfl⟩ | exact ⟨_, _, _, _, rfl, rfl⟩ | exact ⟨_, _, _, _, by assumption, rfl, rfl⟩ | exact ⟨_, _, _, _, _, by assumption, rfl, rfl⟩ | assumption)
local macro_rules | `(tactic| walk_at "rg") => `(tactic| first | omega | (simp only [List.length_cons, List.length_nil, List.length_map]; omega))
local macro_rules | `(tactic| walk_at "hz") => `(tactic| first | assumption | (simp only [List.length_cons, List.length_nil, List.length_map, rng_len, List.length_zipIdx, List.length_zip]; omega) | omega)
local macro_rules | `(tactic| walk_at "bb") => `(tactic| first | rfl | (simp [truD, isTupB, isStrB, isIntB, isBoolB, wholeB, sAW, sWA]; done) | (simp_all [truD, isTupB, isStrB, isIntB, isBoolB, wholeB, sAW, sWA]; done) | (simp [truD, isTupB, isStrB, isIntB, isBoolB, wholeB, sAW, sWA]; omega))
local macro_rules | `(tactic| walk_at "blkfree") => `(tactic| ((repeat' (first | exact List.forall_mem_nil _ | refine List.forall_mem_cons.mpr ⟨?_, ?_⟩)) <;> first | (intro hf; cases hf; done) | exact fun _ => .inl rfl | exact fun _ => .inr rfl))

section
variable {P : Program} {w : World} {K : PySem.W.Frag} {mg : Str → Option Value} {base : Heap} {f : Addr} {fd : FuncData}
theorem isEmpty_map' {α β : Type} {l : List α} {f : α → β} : (l.map f).isEmpty = l.isEmpty := by cases l <;> rfl
abbrev s_cycles_from : Stmt := topS 34
theorem sc_cycles_from : FnScope ["problem", "item", "rows", "row", "found", "longer", "other"] ["problem", "item"] (defScope s_cycles_from) := ⟨rfl, rfl, rfl, by decide +kernel, rfl, by decide +kernel, by decide +kernel⟩
def R_cycles_from : List PyData → PyData → Prop := fun ds d => ∃ p i, (OkP p ∧ 0 ≤ i ∧ i < p.n) ∧ ds = [dP p, .int i] ∧ d = .list ((cycFrom p i).map dR)
theorem dR_snoc {r : List Int} {i : Int} : PyData.tuple (r.map PyData.int ++ [.int i]) = dR (r ++ [i]) := by
  unfold dR
  rw [List.map_append]
  rfl
theorem ok_cycles_from (T : Txt mg) (F : Fun K "cycles_from" "cycles_from" s_cycles_from f fd)
    (C_behind : Cal P w K mg base 1 "behind" (SpP R_behind)) :
    FnOk P w K mg base CX0 2 f fd ["problem", "item"] (SpP R_cycles_from) := by
  refine fn_pure F sc_cycles_from (by rintro _ _ ⟨p, i, hh, rfl, rfl⟩; rfl) fun cdv A outer s H E hr ds d h => ?_
  obtain ⟨p, i, hh, rfl, rfl⟩ := h
  obtain ⟨hp, hi0, hi1⟩ := hh
  have hn := hp.n5
  have hn1 := hp.n1
  refine sd_nx (by exact (sd_asg (i := 2) sc_cycles_from.nd rfl (.inl rfl) (by exact (pd_lst (pda_cons (pd_tup (pda_cons (pd_var (i := 1) rfl rfl (.inr (.inl rfl))) pda_nil) (by walk_at "sz")) pda_nil) (by walk_at "sz"))))) ?_
  refine sd_then (Pg := fun G' => ∃ (rw fo lo : Option Sl), cycFrom p i = [] ∧ G' = [some (.d (dP p)), some (.d (.int i)), some (.d (.list [])), rw, fo, lo, none]) ?_ ?_
  · refine sp_while (fun m G' => ∃ (rw fo lo : Option Sl) (t : Nat) (rows : List (List Int)), G' = [some (.d (dP p)), some (.d (.int i)), some (.d (.list (rows.map dR))), rw, fo, lo, none] ∧ m + t = p.n.toNat + 1 ∧ (∀ r ∈ rows, RowG p i (t + 1) r) ∧ rows.length ≤ 5 ^ t ∧ cycLoop p i m rows = cycFrom p i) (p.n.toNat + 1) PassesOwn.never
      ⟨none, none, none, 0, [[i]], rfl, rfl, row_one hi0 hi1, by simp, rfl⟩ ?_
    rintro m G' ⟨rw, fo, lo, t, rows, rfl, hmt, hrows, hfew, hloop⟩
    refine ⟨!rows.isEmpty, by exact (pdt_eq (by exact (pdt_tru (pd_var (i := 2) rfl rfl (.inl rfl)) (by walk_at "sf"))) (by exact (congrArg (!·) isEmpty_map'))), fun hne => ?_, fun he => ?_⟩
    · have hrn : rows ≠ [] := by
        intro z
        rw [z] at hne
        cases hne
      obtain ⟨r0, hr0⟩ := List.exists_mem_of_ne_nil _ hrn
      have ht := rowG_few (hrows r0 hr0)
      have hpw : 5 ^ t ≤ 5 ^ 4 := Nat.pow_le_pow_right (by decide) (by omega)
      have hz : rows.length ≤ 100000 := by omega
      obtain ⟨m, rfl⟩ : ∃ k, m = k + 1 := ⟨m - 1, by omega⟩
      refine sd_nx (by exact (sd_setLc (zs := rows) (enc := dR) (pr := fun r => decide (i ∈ beh p (lastI r))) (f := fun r => dR (r ++ [i])) (i := 4) (own := [("row", 3)]) rfl sc_cycles_from.nd rfl rfl (sw_true rfl rfl rfl (by decide +kernel)) (pdi_list (by exact (pd_var (i := 2) rfl rfl (.inl rfl)))) (blkOk_by (own := [("row", 3)]) (N := ["problem", "item", "rows", "row", "found", "longer", "other"]) (sc := defScope s_cycles_from) (by decide +kernel)) (by walk_at "hz") (stays_name (j := 3) (by decide)) (fun z _ => asg_name) (fun _ _ _ _ _ => pg_name (i := 3) sc_cycles_from.nd rfl (.inl rfl)) (fun _ _ _ _ _ z hz => by
        have hg := hrows z hz
        have hx1 := atI_last hg.ne
        exact pdts_one (by exact (pdt_cmp (op_inS (hu65 hr)) (pd_var (i := 1) rfl rfl (.inr (.inl rfl))) (pd_call C_behind (hr.mono (by decide)) rfl (pda_cons (pd_var (i := 0) rfl rfl (.inr (.inl rfl))) (pda_cons (pd_ix ix_seq (pd_var (i := 3) rfl rfl (.inl rfl)) (pd_un un_neg pd_int ru_neg) (by walk_at "r2ix") (fun _ _ => rfl)) pda_nil)) (by walk_at "rr")) (by walk_at "r2in") rfl))) (fun _ _ _ _ _ z hz hp => by
        have hg := hrows z hz
        have hl5 : z.length ≤ 10 := by rw [hg.ln]; omega
        exact pd_eq (by exact (pd_bin op_addAll (pd_var (i := 3) rfl rfl (.inl rfl)) (pd_tup (pda_cons (pd_var (i := 1) rfl rfl (.inr (.inl rfl))) pda_nil) (by walk_at "sz")) (by walk_at "r2add"))) dR_snoc))) ?_
      have ef : (rows.filter fun r => decide (i ∈ beh p (lastI r))).map (fun r => dR (r ++ [i])) = (cycFound p i rows).map dR := by
        unfold cycFound
        rw [List.map_map]
        rfl
      rw [ef]
      refine sd_ifE (b' := !(cycFound p i rows).isEmpty) (by exact (pdt_tru (pd_var (i := 4) rfl rfl (.inl rfl)) (by walk_at "sf"))) (by exact (congrArg (!·) isEmpty_map')) (fun hf => ?_) (fun hf => ?_)
      · have hfn : cycFound p i rows ≠ [] := by
          intro z
          rw [z] at hf
          cases hf
        refine sd_ret (by exact (pd_var (i := 4) rfl rfl (.inl rfl))) ?_
        show PyData.list ((cycFound p i rows).map dR) = .list ((cycFrom p i).map dR)
        rw [← hloop, cycLoop, if_neg hrn, if_pos hfn]
      · have hfn : cycFound p i rows = [] := by
          cases q : cycFound p i rows with
          | nil => rfl
          | cons a b => rw [q] at hf; cases hf
        refine sd_nxA (by exact (sd_asgO (i := 5) sc_cycles_from.nd rfl (.inl rfl) (pdf_lst pda_nil (by decide)))) fun ao => ?_
        refine sd_then (Pg := fun G' => ∃ rw : Option Sl, G' = [some (.d (dP p)), some (.d (.int i)), some (.d (.list (rows.map dR))), rw, some (.d (.list ((cycFound p i rows).map dR))), some (.own ao ((cycNext p i rows).map dR)), none]) ?_ ?_
        · refine sp_for (xs := rows.map dR) (fun j G' => ∃ rw : Option Sl, G' = [some (.d (dP p)), some (.d (.int i)), some (.d (.list (rows.map dR))), rw, some (.d (.list ((cycFound p i rows).map dR))), some (.own ao ((cycNext p i (rows.take j)).map dR)), none]) PassesOwn.never rfl (by exact (pdi_list (by exact (pd_var (i := 2) rfl rfl (.inl rfl))))) (pg_name (i := 3) sc_cycles_from.nd rfl (.inr rfl)) ⟨rw, rfl⟩ ?_ ?_
          · rintro j d G' hd ⟨rw, rfl⟩
            obtain ⟨r, hrj, rfl⟩ := some_map hd
            refine ⟨_, asg_name, ?_⟩
            have hg := hrows r (some_mem hrj)
            have hx1 := atI_last hg.ne
            have hl5 : r.length ≤ 10 := by rw [hg.ln]; omega
            have hb := beh_few hp (i := lastI r)
            have hz2 : (beh p (lastI r)).length ≤ 100000 := by omega
            have hfe := flat_few (f := cycExt p i) (k := 5) (fun x => cycExt_few hp) (rows.take j)
            have hfl : (rows.take j).length ≤ 5 ^ 4 := Nat.le_trans (by rw [List.length_take]; omega) (Nat.le_trans hfew hpw)
            have hce := cycExt_few hp (i := i) (r := r)
            have e1 : ((beh p (lastI r)).filter fun o => decide (o > i) && !decide (o ∈ r)).map (fun o => dR (r ++ [o])) = (cycExt p i r).map dR := by
              unfold cycExt
              rw [List.map_map]
              rfl
            refine sd_nx (by exact (sd_ext (i := 5) (fs := (cycExt p i r).map dR) rfl (.inl rfl) (by
              rw [← e1]
              exact (pd_lc (zs := beh p (lastI r)) (enc := PyData.int) (pr := fun o => decide (o > i) && !decide (o ∈ r)) (f := fun o => dR (r ++ [o])) (own := [("other", 6)]) rfl sc_cycles_from.nd (pdi_list (by exact (pd_call C_behind (hr.mono (by decide)) rfl (pda_cons (pd_var (i := 0) rfl rfl (.inr (.inl rfl))) (pda_cons (pd_ix ix_seq (pd_var (i := 3) rfl rfl (.inr (.inl rfl))) (pd_un un_neg pd_int ru_neg) (by walk_at "r2ix") (fun _ _ => rfl)) pda_nil)) (by walk_at "rr")))) (blkOk_by (own := [("other", 6)]) (N := ["problem", "item", "rows", "row", "found", "longer", "other"]) (sc := defScope s_cycles_from) (by decide +kernel)) (by walk_at "hz") (stays_name (j := 6) (by decide)) (fun z _ => asg_name) (fun _ _ _ _ _ => pg_name (i := 6) sc_cycles_from.nd rfl (.inl rfl)) (fun _ _ _ _ _ z hz => by exact pdts_one (by exact (PW.pt (pdw_and (pdt_cmp op_gt (pd_var (i := 6) rfl rfl (.inl rfl)) (pd_var (i := 1) rfl rfl (.inr (.inl rfl))) (by walk_at "r2b0") rfl) (fun _ => (pdw_and1 (pdt_cmp (op_notInS (hu65 hr)) (pd_var (i := 6) rfl rfl (.inl rfl)) (pd_var (i := 3) rfl rfl (.inr (.inl rfl))) (by walk_at "r2nin") rfl))))))) (fun _ _ _ _ _ z hz hp => by exact pd_eq (by exact (pd_bin op_addAll (pd_var (i := 3) rfl rfl (.inr (.inl rfl))) (pd_tup (pda_cons (pd_var (i := 6) rfl rfl (.inl rfl)) pda_nil) (by walk_at "sz")) (by walk_at "r2add"))) dR_snoc))) rfl rfl (by rw [List.length_map, List.length_map]; unfold cycNext; omega))) ?_
            refine sd_nil ⟨some (.d (dR r)), ?_⟩
            have e2 : cycNext p i (rows.take (j + 1)) = cycNext p i (rows.take j) ++ cycExt p i r := by
              unfold cycNext
              rw [List.take_add_one, hrj, List.flatMap_append]
              simp
            rw [e2, List.map_append]
            rfl
          · rintro G' ⟨rw, rfl⟩
            refine ⟨rw, ?_⟩
            rw [List.length_map, List.take_length]
        · rintro G' ⟨rw, rfl⟩
          refine freeze (i := 5) rfl (by simp) ?_
          refine sd_nx (by exact (sd_asg (i := 2) sc_cycles_from.nd rfl (.inl rfl) (by exact (pd_var (i := 5) rfl rfl (.inl rfl))))) ?_
          refine sd_nil ⟨m, Nat.lt_succ_self m, rw, _, _, t + 1, cycNext p i rows, rfl, by omega, cycNext_ok hp hrows, ?_, ?_⟩
          · have h1 := flat_few (f := cycExt p i) (k := 5) (fun x => cycExt_few hp) rows
            have h2 : 5 * rows.length ≤ 5 * 5 ^ t := Nat.mul_le_mul_left 5 hfew
            rw [Nat.pow_succ]
            unfold cycNext
            omega
          · rw [← hloop]
            rw [cycLoop, if_neg hrn, if_neg (fun z => z hfn)]
    · have hrn : rows = [] := by
        cases rows with
        | nil => rfl
        | cons a b => cases he
      subst hrn
      refine ⟨rw, fo, lo, ?_, rfl⟩
      rw [← hloop]
      cases m with
      | zero => rfl
      | succ m => rw [cycLoop, if_pos rfl]
  · rintro G' ⟨rw, fo, lo, he, rfl⟩
    refine sd_ret (by exact (pd_lst pda_nil (by walk_at "sz"))) ?_
    show PyData.list [] = .list ((cycFrom p i).map dR)
    rw [he]
    rfl
abbrev s_cycle_of : Stmt := topS 35
theorem sc_cycle_of : FnScope ["problem", "found", "item", "row"] ["problem"] (defScope s_cycle_of) := ⟨rfl, rfl, rfl, by decide +kernel, rfl, by decide +kernel, by decide +kernel⟩
def R_cycle_of : List PyData → PyData → Prop := fun ds d => ∃ p, (OkP p ∧ cyclicB p = true) ∧ ds = [dP p] ∧ d = cycOf p
theorem ok_cycle_of (T : Txt mg) (F : Fun K "cycle_of" "cycle_of" s_cycle_of f fd)
    (C_cycles_from : Cal P w K mg base 2 "cycles_from" (SpP R_cycles_from)) :
    FnOk P w K mg base CX0 3 f fd ["problem"] (SpP R_cycle_of) := by
  refine fn_pure F sc_cycle_of (by rintro _ _ ⟨p, hh, rfl, rfl⟩; rfl) fun cdv A outer s H E hr ds d h => ?_
  obtain ⟨p, hh, rfl, rfl⟩ := h
  obtain ⟨hp, hcy⟩ := hh
  have hn := hp.n5
  have hn1 := hp.n1
  refine sd_nxA (by exact (sd_asgO (i := 1) sc_cycle_of.nd rfl (.inl rfl) (pdf_lst pda_nil (by decide)))) fun ao => ?_
  refine sd_then (Pg := fun G' => ∃ it : Option Sl, G' = [some (.d (dP p)), some (.own ao ((cycAll p).map lenRow)), it, none]) ?_ ?_
  · refine sp_for (xs := (rng 0 p.n.toNat).map PyData.int) (fun j G' => ∃ it : Option Sl, G' = [some (.d (dP p)), some (.own ao ((((rng 0 p.n.toNat).take j).flatMap (cycFrom p)).map lenRow)), it, none]) PassesOwn.never rfl (by exact (pdi_rng1 rfl T.range_ (by exact (pd_ix ix_seq (pd_var (i := 0) rfl rfl (.inl rfl)) pd_int (by walk_at "r2ix") (fun _ _ => rfl))) (by omega))) (pg_name (i := 2) sc_cycle_of.nd rfl (.inl rfl)) ⟨none, rfl⟩ ?_ ?_
    · rintro j d G' hd ⟨it, rfl⟩
      obtain ⟨i, hi, rfl⟩ := some_map hd
      have hi2 := rng_mem.mp (some_mem hi)
      have hir : OkP p ∧ 0 ≤ i ∧ i < p.n := ⟨hp, by omega, by omega⟩
      have hcf := cycFrom_few hp hir.2.1 hir.2.2
      refine ⟨_, asg_name, ?_⟩
      have hz : (cycFrom p i).length ≤ 100000 := by omega
      have hj : j < (rng 0 p.n.toNat).length := by
        obtain ⟨h, _⟩ := List.getElem?_eq_some_iff.mp hi
        exact h
      rw [rng_len] at hj
      have hfl : (((rng 0 p.n.toNat).take j).flatMap (cycFrom p)).length ≤ 625 * 5 := by
        have aux : ∀ l : List Int, (∀ x ∈ l, 0 ≤ x ∧ x < p.n) → (l.flatMap (cycFrom p)).length ≤ 625 * l.length := by
          intro l
          induction l with
          | nil => intro _; simp
          | cons x l ih =>
            intro h
            rw [List.flatMap_cons, List.length_append, List.length_cons, Nat.mul_add]
            have h1 := ih fun y hy => h y (by simp [hy])
            have h2 := h x (by simp)
            have := cycFrom_few hp h2.1 h2.2
            omega
        have h1 := aux ((rng 0 p.n.toNat).take j) (fun x hx => by
          have := rng_mem.mp (List.mem_of_mem_take hx)
          omega)
        rw [List.length_take, rng_len] at h1
        omega
      refine sd_nx (by exact (sd_ext (i := 1) (fs := (cycFrom p i).map lenRow) rfl (.inl rfl) (by
        rw [← filter_tt (cycFrom p i)]
        exact (pd_lc (zs := cycFrom p i) (enc := dR) (pr := fun _ => true) (f := lenRow) (own := [("row", 3)]) rfl sc_cycle_of.nd (pdi_list (by exact (pd_call C_cycles_from (hr.mono (by decide)) rfl (pda_cons (pd_var (i := 0) rfl rfl (.inl rfl)) (pda_cons (pd_var (i := 2) rfl rfl (.inl rfl)) pda_nil)) (by walk_at "rr")))) (blkOk_by (own := [("row", 3)]) (N := ["problem", "found", "item", "row"]) (sc := defScope s_cycle_of) (by decide +kernel)) (by walk_at "hz") (stays_name (j := 3) (by decide)) (fun z _ => asg_name) (fun _ _ _ _ _ => pg_name (i := 3) sc_cycle_of.nd rfl (.inl rfl)) (fun _ _ _ _ _ z hz => pdts_nil rfl) (fun _ _ _ _ _ z hz hp => by exact pd_eq (by exact (pd_tup (pda_cons (pd_callB call_len rfl T.len_ (by decide +kernel) (pda_cons (pd_var (i := 3) rfl rfl (.inl rfl)) pda_nil) (by walk_at "rc1")) (pda_cons (pd_var (i := 3) rfl rfl (.inl rfl)) pda_nil)) (by walk_at "sz"))) (by rw [List.length_map]; rfl)))) rfl rfl (by rw [List.length_map, List.length_map]; omega))) ?_
      refine sd_nil ⟨some (.d (.int i)), ?_⟩
      rw [List.take_add_one, hi, List.flatMap_append, List.map_append]
      simp
    · rintro G' ⟨it, rfl⟩
      refine ⟨it, ?_⟩
      rw [List.length_map, List.take_length]
      rfl
  · rintro G' ⟨it, rfl⟩
    refine freeze (i := 1) rfl (by simp) ?_
    have hne := cycAll_ne hp hcy
    have hal := alike_rows (cycAll p)
    have hla := lay_rows (cycAll p)
    have hdp := depth_rows (cycAll p)
    unfold cycOf
    cases q : (cycAll p).map lenRow with
    | nil =>
      rw [List.map_eq_nil_iff] at q
      exact absurd q hne
    | cons d ds =>
      have hm := minD_mem d ds
      rw [← q] at hm
      obtain ⟨c, hc, e⟩ := List.mem_map.mp hm
      rw [q] at hal hla hdp
      refine' sd_ret (pd_ifx (pdt_eq (by exact (pdt_tru (pd_var (i := 1) rfl rfl (.inl rfl)) (by walk_at "sf"))) (by exact (rfl : truD (.list (d :: ds)) = true))) (fun _ => ?a) (fun z => by cases z)) rfl
      case a => exact (pd_eq (by exact (pd_ix ix_seq (by exact (pd_eq (by exact (pd_callB (cr_minD hr.hd (hu62 hr)) rfl T.min_ (by decide +kernel) (pda_cons (pd_var (i := 1) rfl rfl (.inl rfl)) pda_nil) (rc_minD hal hla (by omega)))) e.symm)) pd_int (r2_ixT (d := dR c) rfl) (fun _ _ => rfl))) (by
        show dR c = sndD (PySem.W.minD d ds)
        rw [← e]
        rfl))
end
end RK

/-! By deadlines. -/
namespace RK
open PySem PySem.Spec PyProof.Rows L2 DL
def rdyD (p : Prob) (i : Int) : PyData := .tuple [.int (laI p i), .int i]
def befB (p : Prob) (y a : Int) : Bool := decide (laI p y < laI p a) || (!decide (laI p a < laI p y) && decide (y < a))
theorem dataLt_pair {a b c d : Int} : PySem.W.dataLt (.tuple [.int a, .int b]) (.tuple [.int c, .int d]) = (decide (a < c) || (!decide (c < a) && decide (b < d))) := by
  simp only [PySem.W.dataLt, PySem.W.keyToks, PySem.W.keyToksAll, List.cons_append, List.nil_append, PyProof.Rows.lexLt, PyProof.Rows.itemOrd, PyProof.Rows.itemLt]
  by_cases h1 : a < c
  · simp [h1]
  · by_cases h2 : c < a
    · simp [h1, h2]
    · by_cases h3 : b < d
      · simp [h1, h2, h3]
      · simp [h1, h2, h3]
theorem dataLt_rdy {p : Prob} {x y : Int} : PySem.W.dataLt (rdyD p x) (rdyD p y) = befB p x y := dataLt_pair
def bestI (p : Prob) (x : Int) (ys : List Int) : Int := ys.foldl (fun a y => if befB p y a then y else a) x
theorem minD_rdy {p : Prob} : ∀ (ys : List Int) (x : Int), PySem.W.minD (rdyD p x) (ys.map (rdyD p)) = rdyD p (bestI p x ys) := by
  intro ys
  unfold PySem.W.minD bestI
  induction ys with
  | nil => intro x; rfl
  | cons y ys ih =>
    intro x
    rw [List.map_cons, List.foldl_cons, List.foldl_cons, ← ih]
    congr 1
    rw [dataLt_rdy]
    split <;> rfl
theorem bestI_mem {p : Prob} : ∀ (ys : List Int) (x : Int), bestI p x ys ∈ x :: ys := by
  intro ys
  unfold bestI
  induction ys with
  | nil => intro x; simp
  | cons y ys ih =>
    intro x
    rw [List.foldl_cons]
    have h := ih (if befB p y x then y else x)
    rcases List.mem_cons.mp h with q | q
    · rw [q]
      split <;> simp
    · simp [q]
theorem bestI_le {p : Prob} : ∀ (ys : List Int) (x : Int), ∀ y ∈ x :: ys, laI p (bestI p x ys) ≤ laI p y := by
  intro ys
  induction ys with
  | nil =>
    intro x y hy
    have : y = x := by simpa using hy
    rw [this]
    exact Int.le_refl _
  | cons z ys ih =>
    intro x y hy
    have e : bestI p x (z :: ys) = bestI p (if befB p z x then z else x) ys := rfl
    rw [e]
    have h0 := ih (if befB p z x then z else x) _ (List.mem_cons_self)
    have hz : laI p (if befB p z x then z else x) ≤ laI p x ∧ laI p (if befB p z x then z else x) ≤ laI p z := by
      unfold befB
      by_cases h1 : laI p z < laI p x
      · simp [h1]
        omega
      · by_cases h2 : laI p x < laI p z
        · simp [h1, h2]
          omega
        · by_cases h3 : z < x
          · simp [h1, h2, h3]
            omega
          · simp [h1, h2, h3]
            omega
    rcases List.mem_cons.mp hy with q | q
    · rw [q]
      omega
    · rcases List.mem_cons.mp q with q | q
      · rw [q]
        omega
      · exact ih _ y (by simp [q])
def readyAt (p : Prob) (f : List Int) (t : Int) : List Int := (rng 0 p.n.toNat).filter fun i => !decide (i ∈ f) && decide (eaI p i ≤ t)
def edfLoop (p : Prob) : List Int → List Int → Option (List Int)
  | [], f => some f
  | t :: ts, f => match readyAt p f t with
    | [] => none
    | x :: l => edfLoop p ts (f ++ [bestI p x l])
def edfP (p : Prob) : Option (List Int) := if cyclicB p then none else match edfLoop p (rng 1 p.n.toNat) [] with
  | none => none
  | some f => if goodB p f then some f else none
def dO : Option (List Int) → PyData
  | none => .none
  | some f => dR f
structure FnG (p : Prob) (t : Nat) (f : List Int) : Prop where
  ln : f.length = t
  nd : f.Nodup
  rg : ∀ x ∈ f, 0 ≤ x ∧ x < p.n
theorem readyAt_mem {p : Prob} {f : List Int} {t x : Int} : x ∈ readyAt p f t ↔ (0 ≤ x ∧ x < p.n) ∧ x ∉ f ∧ eaI p x ≤ t := by
  unfold readyAt
  rw [List.mem_filter, rng_mem]
  simp only [Bool.and_eq_true, Bool.not_eq_true', decide_eq_false_iff_not, decide_eq_true_eq]
  exact ⟨fun ⟨h1, h2, h3⟩ => ⟨by omega, h2, h3⟩, fun ⟨h1, h2, h3⟩ => ⟨by omega, h2, h3⟩⟩
theorem FnG.next {p : Prob} {t : Nat} {f l : List Int} {x u : Int} (h : FnG p t f) (e : readyAt p f u = x :: l) : FnG p (t + 1) (f ++ [bestI p x l]) := by
  have hm := bestI_mem (p := p) l x
  rw [← e] at hm
  obtain ⟨h1, h2, h3⟩ := readyAt_mem.mp hm
  refine ⟨by rw [List.length_append, h.ln]; rfl, ?_, fun y hy => ?_⟩
  · rw [List.nodup_append]
    refine ⟨h.nd, by simp, ?_⟩
    intro a ha b hb e
    subst e
    have : a = bestI p x l := by simpa using hb
    subst this
    exact h2 ha
  · rcases List.mem_append.mp hy with q | q
    · exact h.rg y q
    · have : y = bestI p x l := by simpa using q
      rw [this]
      exact h1
/-- as long as there are items: all of them -/
theorem full_in {f : List Int} {n : Int} (h0 : 0 ≤ n) (hl : f.length = n.toNat) (hn : f.Nodup) (hr : ∀ x ∈ f, 0 ≤ x ∧ x < n) : ∀ x, 0 ≤ x → x < n → x ∈ f := by
  intro x h1 h2
  by_cases hx : x ∈ f
  · exact hx
  · exfalso
    have := nodup_few (l := x :: f) (n := n) (by rw [List.nodup_cons]; exact ⟨hx, hn⟩) (fun y hy => by
      rcases List.mem_cons.mp hy with q | q
      · rw [q]; exact ⟨h1, h2⟩
      · exact hr y q)
    rw [List.length_cons] at this
    omega
theorem inR_full {p : Prob} (hp : OkP p) {f : List Int} (h : FnG p p.n.toNat f) : ∀ c ∈ p.cs, InR c f := by
  have hn := hp.n1
  intro c hc
  have hw := hp.wf c hc
  cases c with
  | win i lo hi => exact full_in (by omega) h.ln h.nd h.rg i hw.1 hw.2.1
  | ahd a b => exact ⟨full_in (by omega) h.ln h.nd h.rg a hw.1 hw.2.1, full_in (by omega) h.ln h.nd h.rg b hw.2.2.1 hw.2.2.2.1⟩
theorem edfLoop_ok {p : Prob} : ∀ (ts f r : List Int) (t : Nat), FnG p t f → edfLoop p ts f = some r → FnG p (t + ts.length) r
  | [], f, r, t, h, e => by
    have : f = r := by simpa [edfLoop] using e
    rw [← this]
    exact h
  | u :: ts, f, r, t, h, e => by
    unfold edfLoop at e
    split at e
    · cases e
    · rename_i x l q
      have := edfLoop_ok ts _ r (t + 1) (h.next q) e
      rw [List.length_cons]
      rw [show t + (ts.length + 1) = t + 1 + ts.length by omega]
      exact this
theorem alike_rdys {p : Prob} (xs : List Int) : PySem.W.AlikeAll (xs.map (rdyD p)) := by
  refine ⟨fun x hx y hy => ?_, fun x hx => ?_⟩
  · obtain ⟨r, _, rfl⟩ := List.mem_map.mp hx
    obtain ⟨s, _, rfl⟩ := List.mem_map.mp hy
    unfold rdyD
    simp [PySem.W.alike, PySem.W.alikeAll]
  · obtain ⟨r, _, rfl⟩ := List.mem_map.mp hx
    intro e
    cases e
theorem lay_rdys {p : Prob} (xs : List Int) : PyData.canLayAll0 (xs.map (rdyD p)) = true := by
  rw [layAll_iff]
  intro x hx
  obtain ⟨r, _, rfl⟩ := List.mem_map.mp hx
  unfold rdyD
  simp [PyData.canLay0, PyData.canLayAll0]
theorem depth_rdys {p : Prob} : ∀ (xs : List Int), PyData.depthAll (xs.map (rdyD p)) ≤ 2
  | [] => by simp [PyData.depthAll]
  | r :: rs => by
    have := depth_rdys (p := p) rs
    rw [List.map_cons]
    simp only [PyData.depthAll, rdyD, PyData.depth]
    omega
end RK

namespace RK
open PySem PySem.Spec PyProof.Rows L2 DL
local macro_rules | `(tactic| walk_at "sf") => `(tactic| first | exact True.intro | assumption)
local macro_rules | `(tactic| walk_at "sz") => `(tactic| first | decide | (simp only [List.length_cons, List.length_nil, List.length_map, List.length_append, List.length_reverse, rng_len, sizeLine_eq]; omega))
local macro_rules | `(tactic| walk_at "r2add") => `(tactic| first | exact r2_addI | exact r2_addT (by walk_at "sz") | exact r2_addL (by walk_at "sz"))
local macro_rules | `(tactic| walk_at "r2i0") => `(tactic| exact r2_I0)
local macro_rules | `(tactic| walk_at "r2b0") => `(tactic| exact r2_B0)
local macro_rules | `(tactic| walk_at "r2mul") => `(tactic| exact r2_I (by unfold CMul; omega))
local macro_rules | `(tactic| walk_at "r2mod") => `(tactic| exact r2_I (by omega))
local macro_rules | `(tactic| walk_at "r2div") => `(tactic| exact r2_I (by unfold CDivN; omega))
local macro_rules | `(tactic| walk_at "r2pow") => `(tactic| exact r2_I (by unfold CPow; decide))
local macro_rules | `(tactic| walk_at "r2eq") => `(tactic| first | exact r2_eqI | exact r2_eqS | exact r2_eqB | exact r2_eqD (by assumption) (by assumption))
local macro_rules | `(tactic| walk_at "r2ne") => `(tactic| first | exact r2_neI | exact r2_neS | exact r2_neB)
local macro_rules | `(tactic| walk_at "r2in") => `(tactic| first | exact r2_inLI | exact r2_inTI | assumption)
local macro_rules | `(tactic| walk_at "r2nin") => `(tactic| first | exact r2_ninLI | exact r2_ninTI | assumption)
local macro_rules | `(tactic| walk_at "r2is") => `(tactic| exact r2_isN)
local macro_rules | `(tactic| walk_at "r2isn") => `(tactic| exact r2_notN)
local macro_rules | `(tactic| walk_at "r2ix") => `(tactic| first | exact r2_ixT rfl | exact r2_ixL rfl | exact r2_ixT (by assumption) | exact r2_ixL (by assumption))
local macro_rules | `(tactic| walk_at "rc1") => `(tactic| first | exact rc_lenT | exact rc_lenL | exact rc_max2 | exact rc_max (by walk_at "sz") | exact rc_min (by walk_at "sz") | exact rc_max (ns := _ :: _) (by walk_at "sz") | exact rc_min (ns := _ :: _) (by walk_at "sz") | exact rc_all | exact rc_any | exact rc_abs | exact rc_int | exact rc_tupL | assumption)
local macro_rules | `(tactic| walk_at "mem") => `(tactic| first | assumption | (simp; done))
local macro_rules | `(tactic| walk_at "rr") => `(tactic| first | exact ⟨_, rfl, rfl⟩ | exact ⟨_, _, rfl, rfl⟩ | exact ⟨_, _, _, rfl, rfl⟩ | exact ⟨_, by assumption, rfl, rfl⟩ | exact ⟨_, _, by assumption, rfl, rfl⟩ | exact ⟨_, _, _, by assumption, rfl, rfl⟩ | exact ⟨_, _, _, _, rfl, rfl⟩ | exact ⟨_, _, _, _, by assumption, rfl, rfl⟩ | exact ⟨_, _, _, _, _, by assumption, rfl, rfl⟩ | assumption)
local macro_rules | `(tactic| walk_at "rg") => `(tactic| first | omega | (simp only [List.length_cons, List.length_nil, List.length_map]; omega))
local macro_rules | `(tactic| walk_at "hz") => `(tactic| first | assumption | (simp only [List.length_cons, List.length_nil, List.length_map, rng_len, List.length_zipIdx, List.length_zip]; omega) | omega)
local macro_rules | `(tactic| walk_at "bb") => `(tactic| first | rfl | (simp [truD, isTupB, isStrB, isIntB, isBoolB, wholeB, sAW, sWA]; done) | (simp_all [truD, isTupB, isStrB, isIntB, isBoolB, wholeB, sAW, sWA]; done) | (simp [truD, isTupB, isStrB, isIntB, isBoolB, wholeB, sAW, sWA]; omega))
local macro_rules | `(tactic| walk_at "blkfree") => `(tactic| ((repeat' (first | exact List.forall_mem_nil _ | refine List.forall_mem_cons.mpr ⟨?_, ?_⟩)) <;> first | (intro hf; cases hf; done) | exact fun _ => .inl rfl | exact fun _ => .inr rfl))

section
variable {P : Program} {w : World} {K : PySem.W.Frag} {mg : Str → Option Value} {base : Heap} {f : Addr} {fd : FuncData}
abbrev s_intervals_of : Stmt := topS 39
theorem sc_intervals_of : FnScope ["problem", "earliest", "latest", "found", "low", "late", "high", "item"] ["problem"] (defScope s_intervals_of) := ⟨rfl, rfl, rfl, by decide +kernel, rfl, by decide +kernel, by decide +kernel⟩
def R_intervals_of : List PyData → PyData → Prop := fun ds d => ∃ p, OkP p ∧ ds = [dP p] ∧ d = .list ((intvs p).map dIv)
theorem rowsLo_len {p : Prob} (hp : OkP p) {lo : Int} : (rowsLo p lo).length ≤ 6 := by
  unfold rowsLo
  rw [List.length_map, rng_len]
  have := hp.n5
  omega
theorem ok_intervals_of (T : Txt mg) (F : Fun K "intervals_of" "intervals_of" s_intervals_of f fd)
    (C_earliest_of : Cal P w K mg base 3 "earliest_of" (SpP R_earliest_of))
    (C_latest_of : Cal P w K mg base 3 "latest_of" (SpP R_latest_of)) :
    FnOk P w K mg base CX0 4 f fd ["problem"] (SpP R_intervals_of) := by
  refine fn_pure F sc_intervals_of (by rintro _ _ ⟨p, hp, rfl, rfl⟩; rfl) fun cdv A outer s H E hr ds d h => ?_
  obtain ⟨p, hp, rfl, rfl⟩ := h
  have hn := hp.n5
  have hn1 := hp.n1
  refine sd_nx (by exact (sd_asg (i := 1) sc_intervals_of.nd rfl (.inr rfl) (by exact (pd_call C_earliest_of (hr.mono (by decide)) rfl (pda_cons (pd_var (i := 0) rfl rfl (.inl rfl)) pda_nil) (by walk_at "rr"))))) ?_
  refine sd_nx (by exact (sd_asg (i := 2) sc_intervals_of.nd rfl (.inr rfl) (by exact (pd_call C_latest_of (hr.mono (by decide)) rfl (pda_cons (pd_var (i := 0) rfl rfl (.inl rfl)) pda_nil) (by walk_at "rr"))))) ?_
  refine sd_nxA (by exact (sd_asgO (i := 3) sc_intervals_of.nd rfl (.inl rfl) (pdf_lst pda_nil (by decide)))) fun ao => ?_
  refine sd_then (Pg := fun G' => ∃ lo la hi : Option Sl, G' = [some (.d (dP p)), some (.d (.list ((earlP p).map PyData.int))), some (.d (.list ((lateP p).map PyData.int))), some (.own ao ((intvs p).map dIv)), lo, la, hi, none]) ?_ ?_
  · refine sp_for (xs := (rng 1 (p.n + 2 - 1).toNat).map PyData.int) (fun j G' => ∃ lo la hi : Option Sl, G' = [some (.d (dP p)), some (.d (.list ((earlP p).map PyData.int))), some (.d (.list ((lateP p).map PyData.int))), some (.own ao ((((rng 1 (p.n + 2 - 1).toNat).take j).flatMap (rowsLo p)).map dIv)), lo, la, hi, none]) PassesOwn.never rfl (by exact (pdi_rng2 rfl T.range_ (by exact pd_int) (by exact (pd_bin op_addAll (pd_ix ix_seq (pd_var (i := 0) rfl rfl (.inl rfl)) pd_int (by walk_at "r2ix") (fun _ _ => rfl)) pd_int (by walk_at "r2add"))) (by omega))) (pg_name (i := 4) sc_intervals_of.nd rfl (.inr rfl)) ⟨none, none, none, rfl⟩ ?_ ?_
    · rintro j d G' hd ⟨lo, la, hi, rfl⟩
      obtain ⟨l, hl, rfl⟩ := some_map hd
      refine ⟨_, asg_name, ?_⟩
      have hz : (rng 0 p.n.toNat).length ≤ 100000 := by rw [rng_len]; omega
      have hj : j < (rng 1 (p.n + 2 - 1).toNat).length := by
        obtain ⟨h, _⟩ := List.getElem?_eq_some_iff.mp hl
        exact h
      rw [rng_len] at hj
      have hfl := flat_few (f := rowsLo p) (k := 6) (fun x => rowsLo_len hp) ((rng 1 (p.n + 2 - 1).toNat).take j)
      rw [List.length_take] at hfl
      generalize hacc : ((rng 1 (p.n + 2 - 1).toNat).take j).flatMap (rowsLo p) = acc at hfl ⊢
      have hal : acc.length ≤ 6 * 7 := by omega
      refine sd_nx (by exact (sd_setLci (zs := rng 0 p.n.toNat) (enc := PyData.int) (pr := fun i => decide (eaI p i ≥ l)) (f := fun i => i) (i := 5) (own := [("item", 7)]) rfl sc_intervals_of.nd rfl rfl (sw_true rfl rfl rfl (by decide +kernel)) (pdi_rng1 rfl T.range_ (by exact (pd_ix ix_seq (pd_var (i := 0) rfl rfl (.inl rfl)) pd_int (by walk_at "r2ix") (fun _ _ => rfl))) (by walk_at "rg")) (blkOk_by (own := [("item", 7)]) (N := ["problem", "earliest", "latest", "found", "low", "late", "high", "item"]) (sc := defScope s_intervals_of) (by decide +kernel)) (by walk_at "hz") (stays_name (j := 7) (by decide)) (fun z _ => asg_name) (fun _ _ _ _ _ => pg_name (i := 7) sc_intervals_of.nd rfl (.inl rfl)) (fun _ _ _ _ _ z hz => by
        have hzm := rng_mem.mp hz
        have hze := atI_ea (p := p) (x := z) (by omega) (by omega)
        exact pdts_one (by exact (pdt_cmp op_ge (pd_ix ix_seq (pd_var (i := 1) rfl rfl (.inr (.inl rfl))) (pd_var (i := 7) rfl rfl (.inl rfl)) (by walk_at "r2ix") (fun _ _ => rfl)) (pd_var (i := 4) rfl rfl (.inr (.inl rfl))) (by walk_at "r2b0") rfl))) (fun _ _ _ _ _ z hz hp => by exact (pd_var (i := 7) rfl rfl (.inl rfl))))) ?_
      have el : (((rng 0 p.n.toNat).filter fun i => decide (eaI p i ≥ l)).map fun i => i) = lateOf p l := List.map_id _
      rw [el]
      have hll : (lateOf p l).length ≤ 100000 := Nat.le_trans (List.length_filter_le _ _) hz
      refine sd_then (Pg := fun G' => ∃ hi : Option Sl, G' = [some (.d (dP p)), some (.d (.list ((earlP p).map PyData.int))), some (.d (.list ((lateP p).map PyData.int))), some (.own ao ((acc ++ rowsLo p l).map dIv)), some (.d (.int l)), some (.d (.list ((lateOf p l).map PyData.int))), hi, none]) ?_ ?_
      · refine sp_for (xs := (rng 0 (p.n + 1).toNat).map PyData.int) (fun k G' => ∃ hi : Option Sl, G' = [some (.d (dP p)), some (.d (.list ((earlP p).map PyData.int))), some (.d (.list ((lateP p).map PyData.int))), some (.own ao ((acc ++ ((rng 0 (p.n + 1).toNat).take k).map fun h => (l, h, itemsIn p l h)).map dIv)), some (.d (.int l)), some (.d (.list ((lateOf p l).map PyData.int))), hi, none]) PassesOwn.never rfl (by exact (pdi_rng1 rfl T.range_ (by exact (pd_bin op_addAll (pd_ix ix_seq (pd_var (i := 0) rfl rfl (.inl rfl)) pd_int (by walk_at "r2ix") (fun _ _ => rfl)) pd_int (by walk_at "r2add"))) (by omega))) (pg_name (i := 6) sc_intervals_of.nd rfl (.inr rfl)) ⟨hi, by
          rw [List.take_zero, List.map_nil, List.append_nil]
          rfl⟩ ?_ ?_
        · rintro k d G' hd ⟨hi, rfl⟩
          obtain ⟨h, hh, rfl⟩ := some_map hd
          refine ⟨_, asg_name, ?_⟩
          have hkk : ((rng 0 (p.n + 1).toNat).take k).length ≤ 6 := by
            rw [List.length_take, rng_len]
            omega
          refine sd_nx (by exact (sd_app (i := 3) (d := dIv (l, h, itemsIn p l h)) rfl (.inl rfl) (by
            exact (pd_tup (pda_cons (pd_var (i := 4) rfl rfl (.inr (.inl rfl))) (pda_cons (pd_var (i := 6) rfl rfl (.inr (.inl rfl))) (pda_cons (pd_callTy call_tuple_ofF rfl T.tuple_ (by decide +kernel) (pda_cons (pd_lci (zs := lateOf p l) (enc := PyData.int) (pr := fun i => decide (laI p i ≤ h)) (f := fun i => i) (own := [("item", 7)]) rfl sc_intervals_of.nd (pdi_list (by exact (pd_var (i := 5) rfl rfl (.inl rfl)))) (blkOk_by (own := [("item", 7)]) (N := ["problem", "earliest", "latest", "found", "low", "late", "high", "item"]) (sc := defScope s_intervals_of) (by decide +kernel)) (by walk_at "hz") (stays_name (j := 7) (by decide)) (fun z _ => asg_name) (fun _ _ _ _ _ => pg_name (i := 7) sc_intervals_of.nd rfl (.inl rfl)) (fun _ _ _ _ _ z hz => by
              have hzm := rng_mem.mp (List.mem_filter.mp hz).1
              have hze := atI_la (p := p) (x := z) (by omega) (by omega)
              exact pdts_one (by exact (pdt_cmp op_le (pd_ix ix_seq (pd_var (i := 2) rfl rfl (.inr (.inl rfl))) (pd_var (i := 7) rfl rfl (.inl rfl)) (by walk_at "r2ix") (fun _ _ => rfl)) (pd_var (i := 6) rfl rfl (.inr (.inl rfl))) (by walk_at "r2b0") rfl))) (fun _ _ _ _ _ z hz hp => by exact (pd_var (i := 7) rfl rfl (.inl rfl)))) pda_nil) (by
                rw [List.map_id']
                exact rc_tupL)) pda_nil))) (by walk_at "sz"))) rfl rfl (by rw [List.length_map, List.length_append, List.length_map]; omega))) ?_
          refine sd_nil ⟨some (.d (.int h)), ?_⟩
          rw [List.take_add_one, hh, List.map_append, List.map_append, List.map_append, List.map_append]
          simp only [Option.toList, List.map_cons, List.map_nil]
          rw [List.append_assoc]
          rfl
        · rintro G' ⟨hi, rfl⟩
          refine ⟨hi, ?_⟩
          rw [List.length_map, List.take_length]
          rfl
      · rintro G' ⟨hi, rfl⟩
        refine sd_nil ⟨some (.d (.int l)), some (.d (.list ((lateOf p l).map PyData.int))), hi, ?_⟩
        have ea : ((rng 1 (p.n + 2 - 1).toNat).take (j + 1)).flatMap (rowsLo p) = acc ++ rowsLo p l := by
          rw [List.take_add_one, hl, List.flatMap_append, hacc]
          simp
        rw [ea]
    · rintro G' ⟨lo, la, hi, rfl⟩
      refine ⟨lo, la, hi, ?_⟩
      rw [List.length_map, List.take_length]
      rfl
  · rintro G' ⟨lo, la, hi, rfl⟩
    refine freeze (i := 3) rfl (by simp) ?_
    exact sd_ret (by exact (pd_var (i := 3) rfl rfl (.inl rfl))) rfl

abbrev s_told_contradiction : Stmt := topS 40
theorem sc_told_contradiction : FnScope ["problem", "low", "high", "items", "rows", "item"] ["problem"] (defScope s_told_contradiction) := ⟨rfl, rfl, rfl, by decide +kernel, rfl, by decide +kernel, by decide +kernel⟩
def R_told_contradiction : List PyData → PyData → Prop := fun ds d => ∃ p, OkP p ∧ ds = [dP p] ∧ d = toldC p
theorem intv_in {p : Prob} {v : Ivl} (h : v ∈ intvs p) : v.2.2 = itemsIn p v.1 v.2.1 ∧ (1 ≤ v.1 ∧ v.1 ≤ p.n + 1) ∧ 0 ≤ v.2.1 ∧ v.2.1 ≤ p.n := by
  obtain ⟨lo, hlo, h2⟩ := List.mem_flatMap.mp h
  obtain ⟨hi, hhi, rfl⟩ := List.mem_map.mp h2
  have h3 := rng_mem.mp hlo
  have h4 := rng_mem.mp hhi
  exact ⟨rfl, by show 1 ≤ lo ∧ lo ≤ p.n + 1; omega, by show 0 ≤ hi; omega, by show hi ≤ p.n; omega⟩
theorem ok_told_contradiction (T : Txt mg) (F : Fun K "told_contradiction" "told_contradiction" s_told_contradiction f fd)
    (C_is_cyclic : Cal P w K mg base 3 "is_cyclic" (SpP R_is_cyclic))
    (C_intervals_of : Cal P w K mg base 4 "intervals_of" (SpP R_intervals_of))
    (C_cycle_of : Cal P w K mg base 3 "cycle_of" (SpP R_cycle_of))
    (C_places_of : Cal P w K mg base 1 "places_of" (SpP R_places_of))
    (C_lower_chain : Cal P w K mg base 4 "lower_chain" (SpP R_lower_chain))
    (C_upper_chain : Cal P w K mg base 4 "upper_chain" (SpP R_upper_chain)) :
    FnOk P w K mg base CX0 5 f fd ["problem"] (SpP R_told_contradiction) := by
  refine fn_pure F sc_told_contradiction (by rintro _ _ ⟨p, hp, rfl, rfl⟩; rfl) fun cdv A outer s H E hr ds d h => ?_
  obtain ⟨p, hp, rfl, rfl⟩ := h
  have hn := hp.n5
  have hn1 := hp.n1
  by_cases hcy : cyclicB p = true
  · have hcc : OkP p ∧ cyclicB p = true := ⟨hp, hcy⟩
    refine sd_ifT (by exact (pdt_tru (pd_call C_is_cyclic (hr.mono (by decide)) rfl (pda_cons (pd_var (i := 0) rfl rfl (.inr (.inl rfl))) pda_nil) (by walk_at "rr")) (by walk_at "sf"))) (by simp [truD, hcy]) ?_
    refine sd_ret (pd_eq (by exact (pd_tup (pda_cons pd_str (pda_cons (pd_call C_cycle_of (hr.mono (by decide)) rfl (pda_cons (pd_var (i := 0) rfl rfl (.inr (.inl rfl))) pda_nil) (by walk_at "rr")) pda_nil)) (by walk_at "sz"))) ?_) rfl
    unfold toldC
    rw [if_pos hcy]
  · have hcf : cyclicB p = false := by simpa using hcy
    refine sd_ifF (by exact (pdt_tru (pd_call C_is_cyclic (hr.mono (by decide)) rfl (pda_cons (pd_var (i := 0) rfl rfl (.inr (.inl rfl))) pda_nil) (by walk_at "rr")) (by walk_at "sf"))) (by simp [truD, hcf]) ?_
    refine sd_then (Pg := fun G' => ∃ lo hi its rw : Option Sl, (intvs p).find? overB = none ∧ G' = [some (.d (dP p)), lo, hi, its, rw, none]) ?_ ?_
    · refine sp_for (xs := (intvs p).map dIv) (fun j G' => ∃ lo hi its rw : Option Sl, ((intvs p).take j).find? overB = none ∧ G' = [some (.d (dP p)), lo, hi, its, rw, none]) PassesOwn.never rfl (by exact (pdi_list (by exact (pd_call C_intervals_of (hr.mono (by decide)) rfl (pda_cons (pd_var (i := 0) rfl rfl (.inr (.inl rfl))) pda_nil) (by walk_at "rr"))))) (pg_tup rfl (pgs_cons (pg_name (i := 1) sc_told_contradiction.nd rfl (.inl rfl)) (pgs_cons (pg_name (i := 2) sc_told_contradiction.nd rfl (.inl rfl)) (pgs_cons (pg_name (i := 3) sc_told_contradiction.nd rfl (.inl rfl)) pgs_nil)))) ⟨none, none, none, none, rfl, rfl⟩ ?_ ?_
      · rintro j d G' hd ⟨lo, hi, its, rw, hfd, rfl⟩
        obtain ⟨v, hv, rfl⟩ := some_map hd
        refine ⟨_, asg_tup3F, ?_⟩
        obtain ⟨hv1, hv2, hv3⟩ := intv_in (some_mem hv)
        have hfew := itemsIn_few hp (lo := v.1) (hi := v.2.1)
        rw [← hv1] at hfew
        have hin : ∀ i ∈ v.2.2, 0 ≤ i ∧ i < p.n := fun i hi => by
          rw [hv1] at hi
          exact (itemsIn_in.mp hi).1
        refine sd_ifE (b' := overB v) (by exact (pdt_cmp op_gt (pd_callB call_len rfl T.len_ (by decide +kernel) (pda_cons (pd_var (i := 3) rfl rfl (.inl rfl)) pda_nil) (by walk_at "rc1")) (pd_call C_places_of (hr.mono (by decide)) rfl (pda_cons (pd_var (i := 1) rfl rfl (.inl rfl)) (pda_cons (pd_var (i := 2) rfl rfl (.inl rfl)) pda_nil)) (by walk_at "rr")) (by walk_at "r2b0") rfl)) (by
          rw [List.length_map]
          rfl) (fun ho => ?_) (fun ho => ?_)
        · have hz : v.2.2.length ≤ 100000 := by omega
          refine sd_nx (by exact (sd_setLc (zs := v.2.2) (enc := PyData.int) (pr := fun _ => true) (f := fun i => dRow (rowOf p i)) (i := 4) (own := [("item", 5)]) rfl sc_told_contradiction.nd rfl rfl (sw_true rfl rfl rfl (by decide +kernel)) (pdi_tup (by exact (pd_var (i := 3) rfl rfl (.inl rfl)))) (blkOk_by (own := [("item", 5)]) (N := ["problem", "low", "high", "items", "rows", "item"]) (sc := defScope s_told_contradiction) (by decide +kernel)) (by walk_at "hz") (stays_name (j := 5) (by decide)) (fun z _ => asg_name) (fun _ _ _ _ _ => pg_name (i := 5) sc_told_contradiction.nd rfl (.inl rfl)) (fun _ _ _ _ _ z hz => pdts_nil rfl) (fun _ _ _ _ _ z hz _ => by
            have hzi := hin z hz
            have hcc : OkP p ∧ cyclicB p = false ∧ 0 ≤ z ∧ z < p.n := ⟨hp, hcf, hzi⟩
            exact (pd_tup (pda_cons (pd_var (i := 5) rfl rfl (.inl rfl)) (pda_cons (pd_call C_lower_chain (hr.mono (by decide)) rfl (pda_cons (pd_var (i := 0) rfl rfl (.inr (.inl rfl))) (pda_cons (pd_var (i := 5) rfl rfl (.inl rfl)) pda_nil)) (by walk_at "rr")) (pda_cons (pd_call C_upper_chain (hr.mono (by decide)) rfl (pda_cons (pd_var (i := 0) rfl rfl (.inr (.inl rfl))) (pda_cons (pd_var (i := 5) rfl rfl (.inl rfl)) pda_nil)) (by walk_at "rr")) pda_nil))) (by walk_at "sz"))))) ?_
          refine sd_ret (pd_eq (by exact (pd_tup (pda_cons pd_str (pda_cons (pd_var (i := 1) rfl rfl (.inl rfl)) (pda_cons (pd_var (i := 2) rfl rfl (.inl rfl)) (pda_cons (pd_callTy call_tuple_ofF rfl T.tuple_ (by decide +kernel) (pda_cons (pd_var (i := 4) rfl rfl (.inl rfl)) pda_nil) (by walk_at "rc1")) pda_nil)))) (by walk_at "sz"))) ?_) rfl
          unfold toldC
          rw [if_neg hcy]
          have hfind : (intvs p).find? overB = some v := by
            have hl : (intvs p) = (intvs p).take j ++ v :: (intvs p).drop (j + 1) := by
              obtain ⟨hj, e⟩ := List.getElem?_eq_some_iff.mp hv
              rw [← e, List.getElem_cons_drop, List.take_append_drop]
            rw [hl, List.find?_append, hfd, List.find?_cons, ho]
            rfl
          rw [hfind, filter_tt]
          show _ = PyData.tuple [.str sOver, .int v.1, .int v.2.1, .tuple ((v.2.2.map (rowOf p)).map dRow)]
          rw [List.map_map]
          rfl
        · refine sd_nil ⟨some (.d (.int v.1)), some (.d (.int v.2.1)), some (.d (dR v.2.2)), rw, ?_, rfl⟩
          rw [List.take_add_one, hv, List.find?_append, hfd]
          show List.find? overB [v] = none
          rw [List.find?_cons, ho]
          rfl
      · rintro G' ⟨lo, hi, its, rw, hfd, rfl⟩
        refine ⟨lo, hi, its, rw, ?_, rfl⟩
        rw [List.length_map, List.take_length] at hfd
        exact hfd
    · rintro G' ⟨lo, hi, its, rw, hfd, rfl⟩
      refine sd_ret (by exact pd_non) ?_
      show PyData.none = toldC p
      unfold toldC
      rw [if_neg hcy, hfd]
abbrev s_found_by_deadlines : Stmt := topS 52
theorem sc_found_by_deadlines : FnScope ["problem", "earliest", "latest", "found", "place", "ready", "item"] ["problem"] (defScope s_found_by_deadlines) := ⟨rfl, rfl, rfl, by decide +kernel, rfl, by decide +kernel, by decide +kernel⟩
def R_found_by_deadlines : List PyData → PyData → Prop := fun ds d => ∃ p, OkP p ∧ ds = [dP p] ∧ d = dO (edfP p)
theorem ok_found_by_deadlines (T : Txt mg) (F : Fun K "found_by_deadlines" "found_by_deadlines" s_found_by_deadlines f fd)
    (C_is_cyclic : Cal P w K mg base 3 "is_cyclic" (SpP R_is_cyclic))
    (C_earliest_of : Cal P w K mg base 3 "earliest_of" (SpP R_earliest_of))
    (C_latest_of : Cal P w K mg base 3 "latest_of" (SpP R_latest_of))
    (C_is_good : Cal P w K mg base 3 "is_good" (SpP R_is_good)) :
    FnOk P w K mg base CX0 4 f fd ["problem"] (SpP R_found_by_deadlines) := by
  refine fn_pure F sc_found_by_deadlines (by rintro _ _ ⟨p, hp, rfl, rfl⟩; rfl) fun cdv A outer s H E hr ds d h => ?_
  obtain ⟨p, hp, rfl, rfl⟩ := h
  have hn := hp.n5
  have hn1 := hp.n1
  by_cases hcy : cyclicB p = true
  · refine sd_ifT (by exact (pdt_tru (pd_call C_is_cyclic (hr.mono (by decide)) rfl (pda_cons (pd_var (i := 0) rfl rfl (.inl rfl)) pda_nil) (by walk_at "rr")) (by walk_at "sf"))) (by simp [truD, hcy]) ?_
    refine sd_ret (by exact pd_non) ?_
    show PyData.none = dO (edfP p)
    unfold edfP
    rw [if_pos hcy]
    rfl
  have hcf : cyclicB p = false := by simpa using hcy
  refine sd_ifF (by exact (pdt_tru (pd_call C_is_cyclic (hr.mono (by decide)) rfl (pda_cons (pd_var (i := 0) rfl rfl (.inl rfl)) pda_nil) (by walk_at "rr")) (by walk_at "sf"))) (by simp [truD, hcf]) ?_
  refine sd_nx (by exact (sd_asg (i := 1) sc_found_by_deadlines.nd rfl (.inr rfl) (by exact (pd_call C_earliest_of (hr.mono (by decide)) rfl (pda_cons (pd_var (i := 0) rfl rfl (.inl rfl)) pda_nil) (by walk_at "rr"))))) ?_
  refine sd_nx (by exact (sd_asg (i := 2) sc_found_by_deadlines.nd rfl (.inr rfl) (by exact (pd_call C_latest_of (hr.mono (by decide)) rfl (pda_cons (pd_var (i := 0) rfl rfl (.inl rfl)) pda_nil) (by walk_at "rr"))))) ?_
  refine sd_nx (by exact (sd_asg (i := 3) sc_found_by_deadlines.nd rfl (.inr rfl) (by exact (pd_tup pda_nil (by walk_at "sz"))))) ?_
  refine sd_then (Pg := fun G' => ∃ (pl rd : Option Sl) (fn : List Int), (edfLoop p (rng 1 p.n.toNat) [] = some fn ∧ FnG p p.n.toNat fn) ∧ G' = [some (.d (dP p)), some (.d (.list ((earlP p).map PyData.int))), some (.d (.list ((lateP p).map PyData.int))), some (.d (dR fn)), pl, rd, none]) ?_ ?_
  · refine sp_for (xs := (rng 1 (p.n + 1 - 1).toNat).map PyData.int) (fun j G' => ∃ (pl rd : Option Sl) (fn : List Int), (edfLoop p ((rng 1 p.n.toNat).drop j) fn = edfLoop p (rng 1 p.n.toNat) [] ∧ FnG p j fn) ∧ G' = [some (.d (dP p)), some (.d (.list ((earlP p).map PyData.int))), some (.d (.list ((lateP p).map PyData.int))), some (.d (dR fn)), pl, rd, none]) PassesOwn.never rfl (by exact (pdi_rng2 rfl T.range_ (by exact pd_int) (by exact (pd_bin op_addAll (pd_ix ix_seq (pd_var (i := 0) rfl rfl (.inl rfl)) pd_int (by walk_at "r2ix") (fun _ _ => rfl)) pd_int (by walk_at "r2add"))) (by omega))) (pg_name (i := 4) sc_found_by_deadlines.nd rfl (.inr rfl)) ⟨none, none, [], ⟨rfl, ⟨rfl, by simp, by simp⟩⟩, rfl⟩ ?_ ?_
    · rintro j d G' hd ⟨pl, rd, fn, ⟨hlp, hfn⟩, rfl⟩
      obtain ⟨t, ht, rfl⟩ := some_map hd
      rw [show p.n + 1 - 1 = p.n by omega] at ht
      refine ⟨_, asg_name, ?_⟩
      have hz : (rng 0 p.n.toNat).length ≤ 100000 := by rw [rng_len]; omega
      have hfl : fn.length ≤ 10 := by
        have h1 := nodup_few hfn.nd hfn.rg
        omega
      refine sd_nx (by exact (sd_setLc (zs := rng 0 p.n.toNat) (enc := PyData.int) (pr := fun i => !decide (i ∈ fn) && decide (eaI p i ≤ t)) (f := rdyD p) (i := 5) (own := [("item", 6)]) rfl sc_found_by_deadlines.nd rfl rfl (sw_true rfl rfl rfl (by decide +kernel)) (pdi_rng1 rfl T.range_ (by exact (pd_ix ix_seq (pd_var (i := 0) rfl rfl (.inl rfl)) pd_int (by walk_at "r2ix") (fun _ _ => rfl))) (by walk_at "rg")) (blkOk_by (own := [("item", 6)]) (N := ["problem", "earliest", "latest", "found", "place", "ready", "item"]) (sc := defScope s_found_by_deadlines) (by decide +kernel)) (by walk_at "hz") (stays_name (j := 6) (by decide)) (fun z _ => asg_name) (fun _ _ _ _ _ => pg_name (i := 6) sc_found_by_deadlines.nd rfl (.inl rfl)) (fun _ _ _ _ _ z hz => by
        have hzm := rng_mem.mp hz
        have hze := atI_ea (p := p) (x := z) (by omega) (by omega)
        exact pdts_one (by exact (PW.pt (pdw_and (pdt_cmp (op_notInS (hu65 hr)) (pd_var (i := 6) rfl rfl (.inl rfl)) (pd_var (i := 3) rfl rfl (.inr (.inl rfl))) (by walk_at "r2nin") rfl) (fun _ => (pdw_and1 (pdt_cmp op_le (pd_ix ix_seq (pd_var (i := 1) rfl rfl (.inr (.inl rfl))) (pd_var (i := 6) rfl rfl (.inl rfl)) (by walk_at "r2ix") (fun _ _ => rfl)) (pd_var (i := 4) rfl rfl (.inr (.inl rfl))) (by walk_at "r2b0") rfl))))))) (fun _ _ _ _ _ z hz hp => by
        have hzm := rng_mem.mp hz
        have hze := atI_la (p := p) (x := z) (by omega) (by omega)
        exact (pd_tup (pda_cons (pd_ix ix_seq (pd_var (i := 2) rfl rfl (.inr (.inl rfl))) (pd_var (i := 6) rfl rfl (.inl rfl)) (by walk_at "r2ix") (fun _ _ => rfl)) (pda_cons (pd_var (i := 6) rfl rfl (.inl rfl)) pda_nil)) (by walk_at "sz"))))) ?_
      have er : ((rng 0 p.n.toNat).filter fun i => !decide (i ∈ fn) && decide (eaI p i ≤ t)).map (rdyD p) = (readyAt p fn t).map (rdyD p) := rfl
      rw [er]
      have hdrop : (rng 1 p.n.toNat).drop j = t :: (rng 1 p.n.toNat).drop (j + 1) := by
        obtain ⟨hj, e⟩ := List.getElem?_eq_some_iff.mp ht
        rw [← e, List.getElem_cons_drop]
      refine sd_ifE (b' := (readyAt p fn t).isEmpty) (by exact (pdt_not (pdt_tru (pd_var (i := 5) rfl rfl (.inl rfl)) (by walk_at "sf")))) (by
        show (!(!((readyAt p fn t).map (rdyD p)).isEmpty)) = _
        rw [Bool.not_not, isEmpty_map']) (fun he => ?_) (fun he => ?_)
      · have he0 : readyAt p fn t = [] := List.isEmpty_iff.mp he
        refine sd_ret (by exact pd_non) ?_
        show PyData.none = dO (edfP p)
        unfold edfP
        rw [if_neg hcy, ← hlp, hdrop, edfLoop, he0]
        rfl
      · cases q : readyAt p fn t with
        | nil => rw [q] at he; cases he
        | cons x l =>
          have hal := alike_rdys (p := p) (x :: l)
          have hla := lay_rdys (p := p) (x :: l)
          have hdp := depth_rdys (p := p) (x :: l)
          have hmn := minD_rdy (p := p) l x
          refine sd_nx (by exact (sd_asg (i := 3) (d := dR (fn ++ [bestI p x l])) sc_found_by_deadlines.nd rfl (.inr rfl) (by exact (pd_eq (by exact (pd_bin op_addAll (pd_var (i := 3) rfl rfl (.inr (.inl rfl))) (pd_tup (pda_cons (by exact (pd_ix ix_seq (by exact (pd_eq (by exact (pd_callB (cr_minD hr.hd (hu62 hr)) rfl T.min_ (by decide +kernel) (pda_cons (pd_var (i := 5) rfl rfl (.inl rfl)) pda_nil) (rc_minD hal hla (Nat.le_trans hdp (by decide))))) hmn)) pd_int (r2_ixT (d := .int (bestI p x l)) rfl) (fun _ _ => rfl))) pda_nil) (by walk_at "sz")) (r2_addT (by walk_at "sz")))) dR_snoc)))) ?_
          refine sd_nil ⟨some (.d (.int t)), some (.d (.list ((x :: l).map (rdyD p)))), fn ++ [bestI p x l], ⟨?_, hfn.next q⟩, rfl⟩
          rw [← hlp, hdrop, edfLoop, q]
    · rintro G' ⟨pl, rd, fn, ⟨hlp, hfn⟩, rfl⟩
      rw [List.length_map, rng_len, show p.n + 1 - 1 = p.n by omega] at hlp hfn
      refine ⟨pl, rd, fn, ⟨?_, hfn⟩, rfl⟩
      rw [← hlp, List.drop_of_length_le (by rw [rng_len]; omega)]
      rfl
  · rintro G' ⟨pl, rd, fn, ⟨hlp, hfn⟩, rfl⟩
    have hin := inR_full hp hfn
    have hcc : OkP p ∧ ∀ c ∈ p.cs, InR c fn := ⟨hp, hin⟩
    by_cases hg : goodB p fn = true
    · refine sd_ret (pd_ifx (by exact (pdt_tru (pd_call C_is_good (hr.mono (by decide)) rfl (pda_cons (pd_var (i := 0) rfl rfl (.inl rfl)) (pda_cons (pd_var (i := 3) rfl rfl (.inr (.inl rfl))) pda_nil)) (by walk_at "rr")) (by walk_at "sf"))) (fun _ => by exact (pd_var (i := 3) rfl rfl (.inr (.inl rfl)))) (fun z => by
        exfalso
        rw [show truD (.bool (goodB p fn)) = goodB p fn from rfl, hg] at z
        cases z)) ?_
      show dR fn = dO (edfP p)
      unfold edfP
      rw [if_neg hcy, hlp]
      show _ = dO (if goodB p fn then some fn else none)
      rw [if_pos hg]
      rfl
    · refine sd_ret (pd_ifx (by exact (pdt_tru (pd_call C_is_good (hr.mono (by decide)) rfl (pda_cons (pd_var (i := 0) rfl rfl (.inl rfl)) (pda_cons (pd_var (i := 3) rfl rfl (.inr (.inl rfl))) pda_nil)) (by walk_at "rr")) (by walk_at "sf"))) (fun z => by
        exfalso
        exact hg z) (fun _ => by exact pd_non)) ?_
      show PyData.none = dO (edfP p)
      unfold edfP
      rw [if_neg hcy, hlp]
      show _ = dO (if goodB p fn then some fn else none)
      rw [if_neg hg]
      rfl
end
end RK

/-! Pairs. -/
namespace RK
open PySem PySem.Spec PyProof.Rows L2 DL
def exch (i j : Int) (r : List Int) : List Int := r.map (swp i j)
def btwB (i j : Int) (q : Con × Nat) : Bool := decide (q.1 ∈ [Con.ahd i j, Con.ahd j i])
def betw (p : Prob) (i j : Int) : List Int := (p.cs.zipIdx.filter (btwB i j)).map fun q => ((q.2 : Nat) : Int)
def swC (i j : Int) : Con → Con
  | .win k lo hi => .win (swp i j k) lo hi
  | .ahd a b => .ahd (swp i j a) (swp i j b)
def itemsOf : Con → List Int
  | .win k _ _ => [k]
  | .ahd a b => [a, b]
def oneOf (i j : Int) (c : Con) : Bool := !decide (decide (i ∈ itemsOf c) = decide (j ∈ itemsOf c))
def mrg (p : Prob) (i j : Int) : Prob := ⟨p.n, p.cs ++ (p.cs.filter (oneOf i j)).map (swC i j)⟩
structure PairOk (p : Prob) (i j : Int) : Prop where
  ok : OkP p
  c6 : p.cs.length ≤ 6
  i0 : 0 ≤ i
  ij : i < j
  jn : j < p.n
theorem swp_in {i j a n : Int} (hi : 0 ≤ i ∧ i < n) (hj : 0 ≤ j ∧ j < n) (h : 0 ≤ a ∧ a < n) : 0 ≤ swp i j a ∧ swp i j a < n := by
  unfold swp
  split
  · exact hj
  · split
    · exact hi
    · exact h
theorem swp_inj {i j a b : Int} (h : a ≠ b) : swp i j a ≠ swp i j b := by
  unfold swp
  split <;> split <;> (try split) <;> (try split) <;> omega
theorem PairOk.mrg {p : Prob} {i j : Int} (h : PairOk p i j) : OkP (mrg p i j) where
  n1 := h.ok.n1
  n5 := h.ok.n5
  c12 := by
    show (p.cs ++ (p.cs.filter (oneOf i j)).map (swC i j)).length ≤ 12
    rw [List.length_append, List.length_map]
    have h1 := List.length_filter_le (oneOf i j) p.cs
    have := h.c6
    omega
  wf := fun c hc => by
    have hi : 0 ≤ i ∧ i < p.n := ⟨h.i0, by have := h.ij; have := h.jn; omega⟩
    have hj : 0 ≤ j ∧ j < p.n := ⟨by have := h.ij; have := h.i0; omega, h.jn⟩
    rcases List.mem_append.mp hc with q | q
    · exact h.ok.wf c q
    · obtain ⟨c', hc', rfl⟩ := List.mem_map.mp q
      have hw := h.ok.wf c' (List.mem_filter.mp hc').1
      cases c' with
      | win k lo hi' =>
        have h2 := swp_in hi hj ⟨hw.1, hw.2.1⟩
        exact ⟨h2.1, h2.2, hw.2.2⟩
      | ahd a b =>
        have h2 := swp_in hi hj ⟨hw.1, hw.2.1⟩
        have h3 := swp_in hi hj ⟨hw.2.2.1, hw.2.2.2.1⟩
        exact ⟨h2.1, h2.2, h3.1, h3.2, swp_inj hw.2.2.2.2⟩
abbrev sBoth : Str := Str.ofString "both"
abbrev sNever : Str := Str.ofString "never"
theorem sBA : ¬ sBoth = sAhead := by decide +kernel
theorem sNA : ¬ sNever = sAhead := by decide +kernel
theorem sBN : ¬ sBoth = sNever := by decide +kernel
theorem sNB : ¬ sNever = sBoth := by decide +kernel
theorem sAB : ¬ sAhead = sBoth := by decide +kernel
theorem sAN : ¬ sAhead = sNever := by decide +kernel
/-- the evidence told -/
def toldE (p : Prob) (i j : Int) : PyData := match betw p i j with
  | k :: _ => .tuple [.str sAhead, .int k]
  | [] => match edfP (mrg p i j) with
    | some f => .tuple [.str sBoth, dR f]
    | none => .tuple [.str sNever, toldC (mrg p i j)]
def inBetw (p : Prob) (i j : Int) : PyData → Bool
  | .int k => decide (k ∈ betw p i j)
  | _ => false
/-- what is_evidence answers -/
inductive EV (p : Prob) (i j : Int) : PyData → Bool → Prop
  | nt {v : PyData} : isTupB v = false → EV p i j v false
  | ln {xs : List PyData} : xs.length ≠ 2 → EV p i j (.tuple xs) false
  | ns {x y : PyData} : isStrB x = false → EV p i j (.tuple [x, y]) false
  | ah {y : PyData} : EV p i j (.tuple [.str sAhead, y]) (inBetw p i j y)
  | nb {y : PyData} : betw p i j ≠ [] → EV p i j (.tuple [.str sNever, y]) false
  | nv {y : PyData} {b : Bool} : betw p i j = [] → CV (mrg p i j) y b → EV p i j (.tuple [.str sNever, y]) b
  | bn {y : PyData} : y.canLay0 = true → (∀ xs, y = .tuple xs → xs.length ≤ 1000) → rankB p.n y = false → EV p i j (.tuple [.str sBoth, y]) false
  | bo {r : List Int} : FnG p p.n.toNat r → EV p i j (.tuple [.str sBoth, dR r]) (goodB p r && goodB p (exch i j r))
theorem betw_in {p : Prob} {i j k : Int} (h : k ∈ betw p i j) : 0 ≤ k ∧ k ≤ (p.cs.length : Int) - 1 := by
  obtain ⟨q, hq, rfl⟩ := List.mem_map.mp h
  have h1 := (List.mem_filter.mp hq).1
  obtain ⟨x, n⟩ := q
  have h2 := List.mem_zipIdx h1
  simp at h2 ⊢
  omega
theorem exch_ok {p : Prob} {i j : Int} (h : PairOk p i j) {t : Nat} {r : List Int} (hr : FnG p t r) : FnG p t (exch i j r) where
  ln := by
    unfold exch
    rw [List.length_map]
    exact hr.ln
  nd := by
    unfold exch
    rw [List.nodup_iff_pairwise_ne, List.pairwise_map]
    exact List.Pairwise.imp (fun h => swp_inj h) (List.nodup_iff_pairwise_ne.mp hr.nd)
  rg := fun x hx => by
    obtain ⟨y, hy, rfl⟩ := List.mem_map.mp hx
    exact swp_in ⟨h.i0, by have := h.ij; have := h.jn; omega⟩ ⟨by have := h.ij; have := h.i0; omega, h.jn⟩ (hr.rg y hy)
theorem rankB_ints {n : Int} {r : List Int} : rankB n (dR r) = decide ((r.length : Int) = n ∧ (∀ x ∈ r, 0 ≤ x ∧ x < n) ∧ r.Nodup) := by
  have key : ∀ (r pre : List Int), ((((r.map PyData.int).zipIdx pre.length).map fun q => wholeB q.1 0 (n - 1) && !((((pre ++ r).map PyData.int).take q.2).any fun z => PyData.eqv z q.1)).all id = true) ↔ (∀ x ∈ r, 0 ≤ x ∧ x < n) ∧ r.Nodup ∧ ∀ x ∈ r, x ∉ pre := by
    intro r
    induction r with
    | nil => intro pre; simp
    | cons x r ih =>
      intro pre
      have ih2 := ih (pre ++ [x])
      rw [List.length_append, List.length_cons, List.length_nil, List.append_assoc] at ih2
      rw [List.map_cons, List.zipIdx_cons, List.map_cons, List.all_cons, Bool.and_eq_true]
      have e1 : ((pre ++ x :: r).map PyData.int).take pre.length = pre.map PyData.int := by
        rw [List.map_append, List.take_left' (by rw [List.length_map])]
      rw [e1, DL.any_ints, show pre ++ x :: r = pre ++ ([x] ++ r) from rfl, ih2]
      simp only [id, wholeB, Bool.and_eq_true, decide_eq_true_eq, Bool.not_eq_true', decide_eq_false_iff_not, List.nodup_cons, List.forall_mem_cons, List.mem_append, List.mem_singleton, not_or]
      constructor
      · rintro ⟨⟨h1, h2⟩, h3, h4, h5⟩
        refine ⟨⟨by omega, h3⟩, ⟨fun z => (h5 x z).2 rfl, h4⟩, h2, fun y hy => (h5 y hy).1⟩
      · rintro ⟨⟨h1, h2⟩, ⟨h3, h4⟩, h5, h6⟩
        refine ⟨⟨by omega, h5⟩, h2, h4, fun y hy => ⟨h6 y hy, fun z => ?_⟩⟩
        subst z
        exact h3 hy
  rw [Bool.eq_iff_iff, decide_eq_true_eq]
  show (decide (((r.map PyData.int).length : Int) = n) && (((r.map PyData.int).zipIdx.map fun q => wholeB q.1 0 (n - 1) && !(((r.map PyData.int).take q.2).any fun z => PyData.eqv z q.1)).all id)) = true ↔ _
  rw [Bool.and_eq_true, decide_eq_true_eq, List.length_map]
  have h := key r []
  rw [List.nil_append] at h
  rw [show ((r.map PyData.int).zipIdx) = (r.map PyData.int).zipIdx ([] : List Int).length from rfl, h]
  constructor
  · rintro ⟨h1, h2, h3, _⟩
    exact ⟨h1, h2, h3⟩
  · rintro ⟨h1, h2, h3⟩
    exact ⟨h1, h2, h3, by simp⟩
end RK

namespace RK
open PySem PySem.Spec PyProof.Rows L2 DL
local macro_rules | `(tactic| walk_at "sf") => `(tactic| first | exact True.intro | assumption)
local macro_rules | `(tactic| walk_at "sz") => `(tactic| first | decide | (simp only [List.length_cons, List.length_nil, List.length_map, List.length_append, List.length_reverse, rng_len, sizeLine_eq]; omega))
local macro_rules | `(tactic| walk_at "r2add") => `(tactic| first | exact r2_addI | exact r2_addT (by walk_at "sz") | exact r2_addL (by walk_at "sz"))
local macro_rules | `(tactic| walk_at "r2i0") => `(tactic| exact r2_I0)
local macro_rules | `(tactic| walk_at "r2b0") => `(tactic| exact r2_B0)
local macro_rules | `(tactic| walk_at "r2mul") => `(tactic| exact r2_I (by unfold CMul; omega))
local macro_rules | `(tactic| walk_at "r2mod") => `(tactic| exact r2_I (by omega))
local macro_rules | `(tactic| walk_at "r2div") => `(tactic| exact r2_I (by unfold CDivN; omega))
local macro_rules | `(tactic| walk_at "r2pow") => `(tactic| exact r2_I (by unfold CPow; decide))
local macro_rules | `(tactic| walk_at "r2eq") => `(tactic| first | exact r2_eqI | exact r2_eqS | exact r2_eqB | exact r2_eqD (by assumption) (by assumption))
local macro_rules | `(tactic| walk_at "r2ne") => `(tactic| first | exact r2_neI | exact r2_neS | exact r2_neB)
local macro_rules | `(tactic| walk_at "r2in") => `(tactic| first | exact r2_inLI | exact r2_inTI | assumption)
local macro_rules | `(tactic| walk_at "r2nin") => `(tactic| first | exact r2_ninLI | exact r2_ninTI | assumption)
local macro_rules | `(tactic| walk_at "r2is") => `(tactic| exact r2_isN)
local macro_rules | `(tactic| walk_at "r2isn") => `(tactic| exact r2_notN)
local macro_rules | `(tactic| walk_at "r2ix") => `(tactic| first | exact r2_ixT rfl | exact r2_ixL rfl | exact r2_ixT (by assumption) | exact r2_ixL (by assumption))
local macro_rules | `(tactic| walk_at "rc1") => `(tactic| first | exact rc_lenT | exact rc_lenL | exact rc_max2 | exact rc_max (by walk_at "sz") | exact rc_min (by walk_at "sz") | exact rc_max (ns := _ :: _) (by walk_at "sz") | exact rc_min (ns := _ :: _) (by walk_at "sz") | exact rc_all | exact rc_any | exact rc_abs | exact rc_int | exact rc_tupL | assumption)
local macro_rules | `(tactic| walk_at "mem") => `(tactic| first | assumption | (simp; done))
local macro_rules | `(tactic| walk_at "rr") => `(tactic| first | exact ⟨_, rfl, rfl⟩ | exact ⟨_, _, rfl, rfl⟩ | exact ⟨_, _, _, rfl, rfl⟩ | exact ⟨_, by assumption, rfl, rfl⟩ | exact ⟨_, _, by assumption, rfl, rfl⟩ | exact ⟨_, _, _, by assumption, rfl, rfl⟩ | exact ⟨_, _, _, _, rfl, rfl⟩ | exact ⟨_, _, _, _, by assumption, rfl, rfl⟩ | exact ⟨_, _, _, _, _, by assumption, rfl, rfl⟩ | assumption)
local macro_rules | `(tactic| walk_at "rg") => `(tactic| first | omega | (simp only [List.length_cons, List.length_nil, List.length_map]; omega))
local macro_rules | `(tactic| walk_at "hz") => `(tactic| first | assumption | (simp only [List.length_cons, List.length_nil, List.length_map, rng_len, List.length_zipIdx, List.length_zip]; omega) | omega)
local macro_rules | `(tactic| walk_at "bb") => `(tactic| first | rfl | (simp [truD, isTupB, isStrB, isIntB, isBoolB, wholeB, sAW, sWA]; done) | (simp_all [truD, isTupB, isStrB, isIntB, isBoolB, wholeB, sAW, sWA]; done) | (simp [truD, isTupB, isStrB, isIntB, isBoolB, wholeB, sAW, sWA]; omega))
local macro_rules | `(tactic| walk_at "blkfree") => `(tactic| ((repeat' (first | exact List.forall_mem_nil _ | refine List.forall_mem_cons.mpr ⟨?_, ?_⟩)) <;> first | (intro hf; cases hf; done) | exact fun _ => .inl rfl | exact fun _ => .inr rfl))

section
variable {P : Program} {w : World} {K : PySem.W.Frag} {mg : Str → Option Value} {base : Heap} {f : Addr} {fd : FuncData}
abbrev s_exchanged_in : Stmt := topS 50
theorem sc_exchanged_in : FnScope ["ranking", "one", "other", "item"] ["ranking", "one", "other"] (defScope s_exchanged_in) := ⟨rfl, rfl, rfl, by decide +kernel, rfl, by decide +kernel, by decide +kernel⟩
def R_exchanged_in : List PyData → PyData → Prop := fun ds d => ∃ r i j, (i ≠ j ∧ r.length ≤ 1000) ∧ ds = [dR r, .int i, .int j] ∧ d = dR (exch i j r)
theorem ok_exchanged_in (T : Txt mg) (F : Fun K "exchanged_in" "exchanged_in" s_exchanged_in f fd) :
    FnOk P w K mg base CX0 1 f fd ["ranking", "one", "other"] (SpP R_exchanged_in) := by
  refine fn_pure F sc_exchanged_in (by rintro _ _ ⟨r, i, j, hh, rfl, rfl⟩; rfl) fun cdv A outer s H E hr ds d h => ?_
  obtain ⟨r, i, j, hh, rfl, rfl⟩ := h
  obtain ⟨hij, hl⟩ := hh
  have hz : r.length ≤ 100000 := by omega
  have e : (r.filter fun _ => true).map (fun x => PyData.int (swp i j x)) = (exch i j r).map PyData.int := by
    rw [filter_tt]
    unfold exch
    rw [List.map_map]
    rfl
  exact sd_ret (pd_eq (by exact (pd_callTy call_tuple_ofF rfl T.tuple_ (by decide +kernel) (pda_cons (by exact (pd_lc (zs := r) (enc := PyData.int) (pr := fun _ => true) (f := fun x => .int (swp i j x)) (own := [("item", 3)]) rfl sc_exchanged_in.nd (pdi_tup (by exact (pd_var (i := 0) rfl rfl (.inl rfl)))) (blkOk_by (own := [("item", 3)]) (N := ["ranking", "one", "other", "item"]) (sc := defScope s_exchanged_in) (by decide +kernel)) (by walk_at "hz") (stays_name (j := 3) (by decide)) (fun z _ => asg_name) (fun _ _ _ _ _ => pg_name (i := 3) sc_exchanged_in.nd rfl (.inl rfl)) (fun _ _ _ _ _ z hz => pdts_nil rfl) (fun _ _ _ _ _ z hz _ => by
    exact pd_swget hij (hu1 hr) (pd_disp2 (s1 := 1) (s2 := 2) hij rfl rfl rfl rfl (.inr (.inl rfl)) (.inr (.inl rfl))) (pd_var (i := 3) rfl rfl (.inl rfl)) (pd_var (i := 3) rfl rfl (.inl rfl)) ⟨rfl, rfl, rfl, rfl⟩))) pda_nil) rc_tupL)) (by rw [e]; rfl)) rfl
abbrev s_ahead_between : Stmt := topS 54
theorem sc_ahead_between : FnScope ["problem", "one", "other", "pairs", "index", "constraint"] ["problem", "one", "other"] (defScope s_ahead_between) := ⟨rfl, rfl, rfl, by decide +kernel, rfl, by decide +kernel, by decide +kernel⟩
def R_ahead_between : List PyData → PyData → Prop := fun ds d => ∃ p i j, OkP p ∧ ds = [dP p, .int i, .int j] ∧ d = .list ((betw p i j).map PyData.int)
theorem ok_ahead_between (T : Txt mg) (F : Fun K "ahead_between" "ahead_between" s_ahead_between f fd) :
    FnOk P w K mg base CX0 1 f fd ["problem", "one", "other"] (SpP R_ahead_between) := by
  refine fn_pure F sc_ahead_between (by rintro _ _ ⟨p, i, j, hp, rfl, rfl⟩; rfl) fun cdv A outer s H E hr ds d h => ?_
  obtain ⟨p, i, j, hp, rfl, rfl⟩ := h
  have hc := hp.c12
  refine sd_nx (by exact (sd_asg (i := 3) sc_ahead_between.nd rfl (.inr rfl) (by exact (pd_tup (pda_cons (pd_tup (pda_cons pd_str (pda_cons (pd_var (i := 1) rfl rfl (.inl rfl)) (pda_cons (pd_var (i := 2) rfl rfl (.inl rfl)) pda_nil))) (by walk_at "sz")) (pda_cons (pd_tup (pda_cons pd_str (pda_cons (pd_var (i := 2) rfl rfl (.inl rfl)) (pda_cons (pd_var (i := 1) rfl rfl (.inl rfl)) pda_nil))) (by walk_at "sz")) pda_nil)) (by walk_at "sz"))))) ?_
  have hz : p.cs.zipIdx.length ≤ 100000 := by
    rw [List.length_zipIdx]
    omega
  exact sd_ret (by exact (pd_lci (zs := p.cs.zipIdx) (pr := btwB i j) (f := fun q => ((q.2 : Nat) : Int)) (own := [("index", 4), ("constraint", 5)]) rfl sc_ahead_between.nd (pdi_enum rfl T.enumerate_ (by exact (pd_ix ix_seq (pd_var (i := 0) rfl rfl (.inl rfl)) pd_int (by walk_at "r2ix") (fun _ _ => rfl)))) (blkOk_by (own := [("index", 4), ("constraint", 5)]) (N := ["problem", "one", "other", "pairs", "index", "constraint"]) (sc := defScope s_ahead_between) (by decide +kernel)) (by walk_at "hz") (stays_tup2 (K := K) (i := 4) (j := 5) (by decide) (by decide)) (fun z _ => asg_tup2) (fun _ _ _ _ _ => pg_tup rfl (pgs_cons (pg_name (i := 4) sc_ahead_between.nd rfl (.inl rfl)) (pgs_cons (pg_name (i := 5) sc_ahead_between.nd rfl (.inl rfl)) pgs_nil))) (fun _ _ _ _ _ z hz => by
    have hin := r2_inC (K := K) (cs := [Con.ahd i j, Con.ahd j i]) (c := z.1)
    exact pdts_one (by exact (pdt_cmp (op_inS (hu65 hr)) (pd_var (i := 5) rfl rfl (.inl rfl)) (pd_var (i := 3) rfl rfl (.inr (.inl rfl))) (by walk_at "r2in") rfl))) (fun _ _ _ _ _ z hz _ => by exact (pd_var (i := 4) rfl rfl (.inl rfl))))) rfl
abbrev s_replaced : Stmt := topS 55
theorem sc_replaced : FnScope ["constraint", "one", "other", "items"] ["constraint", "one", "other"] (defScope s_replaced) := ⟨rfl, rfl, rfl, by decide +kernel, rfl, by decide +kernel, by decide +kernel⟩
def R_replaced : List PyData → PyData → Prop := fun ds d => ∃ c i j, (i ≠ j ∧ (oneOf i j c = true)) ∧ ds = [dC c, .int i, .int j] ∧ d = dC (swC i j c)
theorem ok_replaced (T : Txt mg) (F : Fun K "replaced" "replaced" s_replaced f fd) :
    FnOk P w K mg base CX0 1 f fd ["constraint", "one", "other"] (SpP R_replaced) := by
  refine fn_pure F sc_replaced (by rintro _ _ ⟨c, i, j, hh, rfl, rfl⟩; rfl) fun cdv A outer s H E hr ds d h => ?_
  obtain ⟨c, i, j, hh, rfl, rfl⟩ := h
  obtain ⟨hij, hc⟩ := hh
  refine sd_nx (by exact (sd_asg (i := 3) sc_replaced.nd rfl (.inl rfl) (by exact (pd_disp2 (s1 := 1) (s2 := 2) hij rfl rfl rfl rfl (.inl rfl) (.inl rfl))))) ?_
  cases c with
  | win k lo hi =>
    have hk : k = i ∨ k = j := by
      simp [oneOf, itemsOf] at hc
      omega
    unfold dC swC
    refine sd_ifT (by exact (pdt_cmp (op_eqAll hr.units) (pd_ix ix_seq (pd_var (i := 0) rfl rfl (.inl rfl)) pd_int (by walk_at "r2ix") (fun _ _ => rfl)) pd_str (by walk_at "r2eq") rfl)) (by simp) ?_
    exact sd_ret (by exact (pd_tup (pda_cons pd_str (pda_cons (by exact (pd_swix hij hk (hu1 hr) (pd_var (i := 3) rfl rfl (.inl rfl)) (pd_ix ix_seq (pd_var (i := 0) rfl rfl (.inl rfl)) pd_int (by walk_at "r2ix") (fun _ _ => rfl)) (fun _ _ => rfl))) (pda_cons (pd_ix ix_seq (pd_var (i := 0) rfl rfl (.inl rfl)) pd_int (by walk_at "r2ix") (fun _ _ => rfl)) (pda_cons (pd_ix ix_seq (pd_var (i := 0) rfl rfl (.inl rfl)) pd_int (by walk_at "r2ix") (fun _ _ => rfl)) pda_nil)))) (by walk_at "sz"))) rfl
  | ahd a b =>
    unfold dC swC
    refine sd_ifF (by exact (pdt_cmp (op_eqAll hr.units) (pd_ix ix_seq (pd_var (i := 0) rfl rfl (.inl rfl)) pd_int (by walk_at "r2ix") (fun _ _ => rfl)) pd_str (by walk_at "r2eq") rfl)) (by simp [sAW]) ?_
    exact sd_ret (by exact (pd_tup (pda_cons pd_str (pda_cons (by exact (pd_swget hij (hu1 hr) (pd_var (i := 3) rfl rfl (.inl rfl)) (pd_ix ix_seq (pd_var (i := 0) rfl rfl (.inl rfl)) pd_int (by walk_at "r2ix") (fun _ _ => rfl)) (pd_ix ix_seq (pd_var (i := 0) rfl rfl (.inl rfl)) pd_int (by walk_at "r2ix") (fun _ _ => rfl)) ⟨rfl, rfl, rfl, rfl⟩)) (pda_cons (by exact (pd_swget hij (hu1 hr) (pd_var (i := 3) rfl rfl (.inl rfl)) (pd_ix ix_seq (pd_var (i := 0) rfl rfl (.inl rfl)) pd_int (by walk_at "r2ix") (fun _ _ => rfl)) (pd_ix ix_seq (pd_var (i := 0) rfl rfl (.inl rfl)) pd_int (by walk_at "r2ix") (fun _ _ => rfl)) ⟨rfl, rfl, rfl, rfl⟩)) pda_nil))) (by walk_at "sz"))) rfl
abbrev s_items_of : Stmt := topS 56
theorem sc_items_of : FnScope ["constraint"] ["constraint"] (defScope s_items_of) := ⟨rfl, rfl, rfl, by decide +kernel, rfl, by decide +kernel, by decide +kernel⟩
def R_items_of : List PyData → PyData → Prop := fun ds d => ∃ c, True ∧ ds = [dC c] ∧ d = dR (itemsOf c)
theorem ok_items_of (T : Txt mg) (F : Fun K "items_of" "items_of" s_items_of f fd) :
    FnOk P w K mg base CX0 1 f fd ["constraint"] (SpP R_items_of) := by
  refine fn_pure F sc_items_of (by rintro _ _ ⟨c, _, rfl, rfl⟩; rfl) fun cdv A outer s H E hr ds d h => ?_
  obtain ⟨c, _, rfl, rfl⟩ := h
  cases c with
  | win k lo hi =>
    unfold dC
    exact sd_ret (by exact (pd_ifx (by exact (pdt_eq (by exact (pdt_cmp (op_eqAll hr.units) (pd_ix ix_seq (pd_var (i := 0) rfl rfl (.inl rfl)) pd_int (by walk_at "r2ix") (fun _ _ => rfl)) pd_str (by walk_at "r2eq") rfl)) (show _ = true by simp))) (fun _ => by exact (pd_eq (by exact (pd_slice sl_tupF (pd_var (i := 0) rfl rfl (.inl rfl)) (pdo_some pd_int) (pdo_some pd_int) rs_tup)) rfl)) (fun z => by cases z))) rfl
  | ahd a b =>
    unfold dC
    exact sd_ret (by exact (pd_ifx (by exact (pdt_eq (by exact (pdt_cmp (op_eqAll hr.units) (pd_ix ix_seq (pd_var (i := 0) rfl rfl (.inl rfl)) pd_int (by walk_at "r2ix") (fun _ _ => rfl)) pd_str (by walk_at "r2eq") rfl)) (show _ = false by simp [sAW]))) (fun z => by cases z) (fun _ => by exact (pd_eq (by exact (pd_slice sl_tupF (pd_var (i := 0) rfl rfl (.inl rfl)) (pdo_some pd_int) pdo_none rs_tup)) rfl)))) rfl
end
end RK

namespace RK
open PySem PySem.Spec PyProof.Rows L2 DL
local macro_rules | `(tactic| walk_at "sf") => `(tactic| first | exact True.intro | assumption)
local macro_rules | `(tactic| walk_at "sz") => `(tactic| first | decide | (simp only [List.length_cons, List.length_nil, List.length_map, List.length_append, List.length_reverse, rng_len, sizeLine_eq]; omega))
local macro_rules | `(tactic| walk_at "r2add") => `(tactic| first | exact r2_addI | exact r2_addT (by walk_at "sz") | exact r2_addL (by walk_at "sz"))
local macro_rules | `(tactic| walk_at "r2i0") => `(tactic| exact r2_I0)
local macro_rules | `(tactic| walk_at "r2b0") => `(tactic| exact r2_B0)
local macro_rules | `(tactic| walk_at "r2mul") => `(tactic| exact r2_I (by unfold CMul; omega))
local macro_rules | `(tactic| walk_at "r2mod") => `(tactic| exact r2_I (by omega))
local macro_rules | `(tactic| walk_at "r2div") => `(tactic| exact r2_I (by unfold CDivN; omega))
local macro_rules | `(tactic| walk_at "r2pow") => `(tactic| exact r2_I (by unfold CPow; decide))
local macro_rules | `(tactic| walk_at "r2eq") => `(tactic| first | exact r2_eqI | exact r2_eqS | exact r2_eqB | exact r2_eqD (by assumption) (by assumption))
local macro_rules | `(tactic| walk_at "r2ne") => `(tactic| first | exact r2_neI | exact r2_neS | exact r2_neB)
local macro_rules | `(tactic| walk_at "r2in") => `(tactic| first | exact r2_inLI | exact r2_inTI | assumption)
local macro_rules | `(tactic| walk_at "r2nin") => `(tactic| first | exact r2_ninLI | exact r2_ninTI | assumption)
local macro_rules | `(tactic| walk_at "r2is") => `(tactic| exact r2_isN)
local macro_rules | `(tactic| walk_at "r2isn") => `(tactic| exact r2_notN)
local macro_rules | `(tactic| walk_at "r2ix") => `(tactic| first | exact r2_ixT rfl | exact r2_ixL rfl | exact r2_ixT (by assumption) | exact r2_ixL (by assumption))
local macro_rules | `(tactic| walk_at "rc1") => `(tactic| first | exact rc_lenT | exact rc_lenL | exact rc_max2 | exact rc_max (by walk_at "sz") | exact rc_min (by walk_at "sz") | exact rc_max (ns := _ :: _) (by walk_at "sz") | exact rc_min (ns := _ :: _) (by walk_at "sz") | exact rc_all | exact rc_any | exact rc_abs | exact rc_int | exact rc_tupL | assumption)
local macro_rules | `(tactic| walk_at "mem") => `(tactic| first | assumption | (simp; done))
local macro_rules | `(tactic| walk_at "rr") => `(tactic| first | exact ⟨_, rfl, rfl⟩ | exact ⟨_, _, rfl, rfl⟩ | exact ⟨_, _, _, rfl, rfl⟩ | exact ⟨_, by assumption, rfl, rfl⟩ | exact ⟨_, _, by assumption, rfl, rfl⟩ | exact ⟨_, _, _, by assumption, rfl, rfl⟩ | exact ⟨_, _, _, _, rfl, rfl⟩ | exact ⟨_, _, _, _, by assumption, rfl, rfl⟩ | exact ⟨_, _, _, _, _, by assumption, rfl, rfl⟩ | assumption)
local macro_rules | `(tactic| walk_at "rg") => `(tactic| first | omega | (simp only [List.length_cons, List.length_nil, List.length_map]; omega))
local macro_rules | `(tactic| walk_at "hz") => `(tactic| first | assumption | (simp only [List.length_cons, List.length_nil, List.length_map, rng_len, List.length_zipIdx, List.length_zip]; omega) | omega)
local macro_rules | `(tactic| walk_at "bb") => `(tactic| first | rfl | (simp [truD, isTupB, isStrB, isIntB, isBoolB, wholeB, sAW, sWA]; done) | (simp_all [truD, isTupB, isStrB, isIntB, isBoolB, wholeB, sAW, sWA]; done) | (simp [truD, isTupB, isStrB, isIntB, isBoolB, wholeB, sAW, sWA]; omega))
local macro_rules | `(tactic| walk_at "blkfree") => `(tactic| ((repeat' (first | exact List.forall_mem_nil _ | refine List.forall_mem_cons.mpr ⟨?_, ?_⟩)) <;> first | (intro hf; cases hf; done) | exact fun _ => .inl rfl | exact fun _ => .inr rfl))

section
variable {P : Program} {w : World} {K : PySem.W.Frag} {mg : Str → Option Value} {base : Heap} {f : Addr} {fd : FuncData}
abbrev s_merged_problem : Stmt := topS 57
theorem sc_merged_problem : FnScope ["problem", "one", "other", "found", "constraint"] ["problem", "one", "other"] (defScope s_merged_problem) := ⟨rfl, rfl, rfl, by decide +kernel, rfl, by decide +kernel, by decide +kernel⟩
def R_merged_problem : List PyData → PyData → Prop := fun ds d => ∃ p i j, (OkP p ∧ i ≠ j) ∧ ds = [dP p, .int i, .int j] ∧ d = dP (mrg p i j)
theorem ok_merged_problem (T : Txt mg) (F : Fun K "merged_problem" "merged_problem" s_merged_problem f fd)
    (C_items_of : Cal P w K mg base 1 "items_of" (SpP R_items_of))
    (C_replaced : Cal P w K mg base 1 "replaced" (SpP R_replaced)) :
    FnOk P w K mg base CX0 2 f fd ["problem", "one", "other"] (SpP R_merged_problem) := by
  refine fn_pure F sc_merged_problem (by rintro _ _ ⟨p, i, j, hh, rfl, rfl⟩; rfl) fun cdv A outer s H E hr ds d h => ?_
  obtain ⟨p, i, j, hh, rfl, rfl⟩ := h
  obtain ⟨hp, hij⟩ := hh
  have hc := hp.c12
  refine sd_nxA (by exact (sd_asgO (i := 3) sc_merged_problem.nd rfl (.inl rfl) (by exact (pdf_listT rfl T.list_ (by exact (pd_ix ix_seq (pd_var (i := 0) rfl rfl (.inl rfl)) pd_int (by walk_at "r2ix") (fun _ _ => rfl))))))) fun ao => ?_
  refine sd_then (Pg := fun G' => ∃ c : Option Sl, G' = [some (.d (dP p)), some (.d (.int i)), some (.d (.int j)), some (.own ao ((mrg p i j).cs.map dC)), c]) ?_ ?_
  · refine sp_for (xs := p.cs.map dC) (fun k G' => ∃ c : Option Sl, G' = [some (.d (dP p)), some (.d (.int i)), some (.d (.int j)), some (.own ao ((p.cs ++ ((p.cs.take k).filter (oneOf i j)).map (swC i j)).map dC)), c]) PassesOwn.never rfl (by exact (pdi_tup (by exact (pd_ix ix_seq (pd_var (i := 0) rfl rfl (.inl rfl)) pd_int (by walk_at "r2ix") (fun _ _ => rfl))))) (pg_name (i := 4) sc_merged_problem.nd rfl (.inl rfl)) ⟨none, by
      rw [List.take_zero, List.filter_nil, List.map_nil, List.append_nil]
      rfl⟩ ?_ ?_
    · rintro k d G' hd ⟨cc, rfl⟩
      obtain ⟨c, hck, rfl⟩ := some_map hd
      refine ⟨_, asg_name, ?_⟩
      have hfl : ((p.cs.take k).filter (oneOf i j)).length ≤ 12 := Nat.le_trans (List.length_filter_le _ _) (by rw [List.length_take]; omega)
      have htr : True := True.intro
      refine sd_one (sp_if (b := oneOf i j c) (pdt_eq (by exact (pdt_cmp (op_neAll hr.units) (pd_cmp (op_inS (hu65 hr)) (pd_var (i := 1) rfl rfl (.inl rfl)) (pd_call C_items_of (hr.mono (by decide)) rfl (pda_cons (pd_var (i := 4) rfl rfl (.inl rfl)) pda_nil) (by walk_at "rr")) (by walk_at "r2in") rfl) (pd_cmp (op_inS (hu65 hr)) (pd_var (i := 2) rfl rfl (.inl rfl)) (pd_call C_items_of (hr.mono (by decide)) rfl (pda_cons (pd_var (i := 4) rfl rfl (.inl rfl)) pda_nil) (by walk_at "rr")) (by walk_at "r2in") rfl) (by walk_at "r2ne") rfl)) rfl) (fun ho => ?_) (fun ho => ?_))
      · have hcc : i ≠ j ∧ oneOf i j c = true := ⟨hij, ho⟩
        refine sd_nx (by exact (sd_app (i := 3) (d := dC (swC i j c)) rfl (.inl rfl) (by exact (pd_call C_replaced (hr.mono (by decide)) rfl (pda_cons (pd_var (i := 4) rfl rfl (.inl rfl)) (pda_cons (pd_var (i := 1) rfl rfl (.inl rfl)) (pda_cons (pd_var (i := 2) rfl rfl (.inl rfl)) pda_nil))) (by walk_at "rr"))) rfl rfl (by rw [List.length_map, List.length_append, List.length_map]; omega))) ?_
        refine sd_nil ⟨some (.d (dC c)), ?_⟩
        rw [List.take_add_one, hck, List.filter_append]
        show _ = [_, _, _, some (Sl.own ao (List.map dC (p.cs ++ ((p.cs.take k).filter (oneOf i j) ++ [c].filter (oneOf i j)).map (swC i j)))), _]
        rw [List.filter_cons, ho, if_pos rfl, List.filter_nil, List.map_append, List.map_append, List.map_append, List.map_append, List.append_assoc]
        rfl
      · refine sd_nil ⟨some (.d (dC c)), ?_⟩
        rw [List.take_add_one, hck, List.filter_append]
        show _ = [_, _, _, some (Sl.own ao (List.map dC (p.cs ++ ((p.cs.take k).filter (oneOf i j) ++ [c].filter (oneOf i j)).map (swC i j)))), _]
        rw [List.filter_cons, ho, if_neg (by decide), List.filter_nil, List.append_nil]
        rfl
    · rintro G' ⟨cc, rfl⟩
      refine ⟨cc, ?_⟩
      rw [List.length_map, List.take_length]
      rfl
  · rintro G' ⟨cc, rfl⟩
    refine freeze (i := 3) rfl (by simp) ?_
    exact sd_ret (by exact (pd_tup (pda_cons (pd_ix ix_seq (pd_var (i := 0) rfl rfl (.inl rfl)) pd_int (by walk_at "r2ix") (fun _ _ => rfl)) (pda_cons (pd_callTy call_tuple_ofF rfl T.tuple_ (by decide +kernel) (pda_cons (pd_var (i := 3) rfl rfl (.inl rfl)) pda_nil) (by walk_at "rc1")) pda_nil)) (by walk_at "sz"))) rfl
abbrev s_check_pair : Stmt := topS 58
theorem sc_check_pair : FnScope ["problem", "one", "other"] ["problem", "one", "other"] (defScope s_check_pair) := ⟨rfl, rfl, rfl, by decide +kernel, rfl, by decide +kernel, by decide +kernel⟩
def R_check_pair : List PyData → PyData → Prop := fun ds d => ∃ p i j, PairOk p i j ∧ ds = [dP p, .int i, .int j] ∧ d = .none
theorem ok_check_pair (T : Txt mg) (F : Fun K "check_pair" "check_pair" s_check_pair f fd)
    (C_check_problem_problems : Cal P w K mg base 4 "check_problem_problems" (SpP R_check_problem_p))
    (C_is_item_exchanges : Cal P w K mg base 2 "is_item_exchanges" (SpP R_is_item_e)) :
    FnOk P w K mg base CX0 5 f fd ["problem", "one", "other"] (SpP R_check_pair) := by
  refine fn_pure F sc_check_pair (by rintro _ _ ⟨p, i, j, hh, rfl, rfl⟩; rfl) fun cdv A outer s H E hr ds d h => ?_
  obtain ⟨p, i, j, hh, rfl, rfl⟩ := h
  have hp := hh.ok
  have h1 := hh.i0
  have h2 := hh.ij
  have h3 := hh.jn
  refine sd_nx (sd_expr (by exact (pd_call C_check_problem_problems (hr.mono (by decide)) rfl (pda_cons (pd_var (i := 0) rfl rfl (.inl rfl)) pda_nil) (by walk_at "rr")))) ?_
  refine sd_ifF (by exact (pdt_not (pdt_tru (pd_call C_is_item_exchanges (hr.mono (by decide)) rfl (pda_cons (pd_var (i := 0) rfl rfl (.inl rfl)) (pda_cons (pd_var (i := 1) rfl rfl (.inl rfl)) pda_nil)) (by walk_at "rr")) (by walk_at "sf")))) (by simp [truD, wholeB]; omega) ?_
  refine sd_ifF (by exact (PW.pt (pdw_or (pdt_not (pdt_tru (pd_call C_is_item_exchanges (hr.mono (by decide)) rfl (pda_cons (pd_var (i := 0) rfl rfl (.inl rfl)) (pda_cons (pd_var (i := 2) rfl rfl (.inl rfl)) pda_nil)) (by walk_at "rr")) (by walk_at "sf"))) (fun _ => (pdw_or1 (pdt_cmp op_le (pd_var (i := 2) rfl rfl (.inl rfl)) (pd_var (i := 1) rfl rfl (.inl rfl)) (by walk_at "r2b0") rfl)))))) (by simp [truD, wholeB]; omega) ?_
  exact sd_nil rfl
abbrev s_merged : Stmt := topS 59
theorem sc_merged : FnScope ["problem", "one", "other"] ["problem", "one", "other"] (defScope s_merged) := ⟨rfl, rfl, rfl, by decide +kernel, rfl, by decide +kernel, by decide +kernel⟩
def R_merged : List PyData → PyData → Prop := fun ds d => ∃ p i j, (PairOk p i j ∧ betw p i j = []) ∧ ds = [dP p, .int i, .int j] ∧ d = .tuple ((mrg p i j).cs.map dC)
theorem ok_merged (T : Txt mg) (F : Fun K "merged" "merged" s_merged f fd)
    (C_check_pair : Cal P w K mg base 5 "check_pair" (SpP R_check_pair))
    (C_ahead_between : Cal P w K mg base 1 "ahead_between" (SpP R_ahead_between))
    (C_merged_problem : Cal P w K mg base 2 "merged_problem" (SpP R_merged_problem)) :
    FnOk P w K mg base CX0 6 f fd ["problem", "one", "other"] (SpP R_merged) := by
  refine fn_pure F sc_merged (by rintro _ _ ⟨p, i, j, hh, rfl, rfl⟩; rfl) fun cdv A outer s H E hr ds d h => ?_
  obtain ⟨p, i, j, hh, rfl, rfl⟩ := h
  obtain ⟨ho, hb⟩ := hh
  have hp := ho.ok
  have hm : OkP p ∧ i ≠ j := ⟨hp, by have := ho.ij; omega⟩
  refine sd_nx (sd_expr (by exact (pd_call C_check_pair (hr.mono (by decide)) rfl (pda_cons (pd_var (i := 0) rfl rfl (.inl rfl)) (pda_cons (pd_var (i := 1) rfl rfl (.inl rfl)) (pda_cons (pd_var (i := 2) rfl rfl (.inl rfl)) pda_nil))) (by walk_at "rr")))) ?_
  refine sd_ifF (by exact (pdt_tru (pd_call C_ahead_between (hr.mono (by decide)) rfl (pda_cons (pd_var (i := 0) rfl rfl (.inl rfl)) (pda_cons (pd_var (i := 1) rfl rfl (.inl rfl)) (pda_cons (pd_var (i := 2) rfl rfl (.inl rfl)) pda_nil))) (by walk_at "rr")) (by walk_at "sf"))) (by rw [hb]; rfl) ?_
  exact sd_ret (by exact (pd_ix ix_seq (pd_call C_merged_problem (hr.mono (by decide)) rfl (pda_cons (pd_var (i := 0) rfl rfl (.inl rfl)) (pda_cons (pd_var (i := 1) rfl rfl (.inl rfl)) (pda_cons (pd_var (i := 2) rfl rfl (.inl rfl)) pda_nil))) (by walk_at "rr")) pd_int (by walk_at "r2ix") (fun _ _ => rfl))) rfl
abbrev s_ranking_for : Stmt := topS 60
theorem sc_ranking_for : FnScope ["problem", "one", "other"] ["problem", "one", "other"] (defScope s_ranking_for) := ⟨rfl, rfl, rfl, by decide +kernel, rfl, by decide +kernel, by decide +kernel⟩
def R_ranking_for : List PyData → PyData → Prop := fun ds d => ∃ p i j, (PairOk p i j ∧ betw p i j = []) ∧ ds = [dP p, .int i, .int j] ∧ d = dO (edfP (mrg p i j))
theorem ok_ranking_for (T : Txt mg) (F : Fun K "ranking_for" "ranking_for" s_ranking_for f fd)
    (C_ahead_between : Cal P w K mg base 1 "ahead_between" (SpP R_ahead_between))
    (C_found_by_deadlines : Cal P w K mg base 4 "found_by_deadlines" (SpP R_found_by_deadlines))
    (C_merged_problem : Cal P w K mg base 2 "merged_problem" (SpP R_merged_problem)) :
    FnOk P w K mg base CX0 5 f fd ["problem", "one", "other"] (SpP R_ranking_for) := by
  refine fn_pure F sc_ranking_for (by rintro _ _ ⟨p, i, j, hh, rfl, rfl⟩; rfl) fun cdv A outer s H E hr ds d h => ?_
  obtain ⟨p, i, j, hh, rfl, rfl⟩ := h
  obtain ⟨ho, hb⟩ := hh
  have hp := ho.ok
  have hm : OkP p ∧ i ≠ j := ⟨hp, by have := ho.ij; omega⟩
  have hmp := ho.mrg
  refine sd_ifF (by exact (pdt_tru (pd_call C_ahead_between (hr.mono (by decide)) rfl (pda_cons (pd_var (i := 0) rfl rfl (.inl rfl)) (pda_cons (pd_var (i := 1) rfl rfl (.inl rfl)) (pda_cons (pd_var (i := 2) rfl rfl (.inl rfl)) pda_nil))) (by walk_at "rr")) (by walk_at "sf"))) (by rw [hb]; rfl) ?_
  exact sd_ret (by exact (pd_call C_found_by_deadlines (hr.mono (by decide)) rfl (pda_cons (pd_call C_merged_problem (hr.mono (by decide)) rfl (pda_cons (pd_var (i := 0) rfl rfl (.inl rfl)) (pda_cons (pd_var (i := 1) rfl rfl (.inl rfl)) (pda_cons (pd_var (i := 2) rfl rfl (.inl rfl)) pda_nil))) (by walk_at "rr")) pda_nil) (by walk_at "rr"))) rfl
abbrev s_evidence_for : Stmt := topS 61
theorem sc_evidence_for : FnScope ["problem", "one", "other", "indexes", "found"] ["problem", "one", "other"] (defScope s_evidence_for) := ⟨rfl, rfl, rfl, by decide +kernel, rfl, by decide +kernel, by decide +kernel⟩
def R_evidence_for : List PyData → PyData → Prop := fun ds d => ∃ p i j, PairOk p i j ∧ ds = [dP p, .int i, .int j] ∧ d = toldE p i j
theorem ok_evidence_for (T : Txt mg) (F : Fun K "evidence_for" "evidence_for" s_evidence_for f fd)
    (C_ahead_between : Cal P w K mg base 1 "ahead_between" (SpP R_ahead_between))
    (C_ranking_for : Cal P w K mg base 5 "ranking_for" (SpP R_ranking_for))
    (C_told_contradiction : Cal P w K mg base 5 "told_contradiction" (SpP R_told_contradiction))
    (C_merged_problem : Cal P w K mg base 2 "merged_problem" (SpP R_merged_problem)) :
    FnOk P w K mg base CX0 6 f fd ["problem", "one", "other"] (SpP R_evidence_for) := by
  refine fn_pure F sc_evidence_for (by rintro _ _ ⟨p, i, j, ho, rfl, rfl⟩; rfl) fun cdv A outer s H E hr ds d h => ?_
  obtain ⟨p, i, j, ho, rfl, rfl⟩ := h
  have hp := ho.ok
  have hm : OkP p ∧ i ≠ j := ⟨hp, by have := ho.ij; omega⟩
  have hmp := ho.mrg
  refine sd_nx (by exact (sd_asg (i := 3) sc_evidence_for.nd rfl (.inl rfl) (by exact (pd_call C_ahead_between (hr.mono (by decide)) rfl (pda_cons (pd_var (i := 0) rfl rfl (.inl rfl)) (pda_cons (pd_var (i := 1) rfl rfl (.inl rfl)) (pda_cons (pd_var (i := 2) rfl rfl (.inl rfl)) pda_nil))) (by walk_at "rr"))))) ?_
  cases q : betw p i j with
  | cons k l =>
    have hk : atI (List.map PyData.int (k :: l)) 0 = some (.int k) := atI_hd
    refine sd_ifT (by exact (pdt_tru (pd_var (i := 3) rfl rfl (.inl rfl)) (by walk_at "sf"))) (by rfl) ?_
    refine sd_ret (by exact (pd_tup (pda_cons pd_str (pda_cons (pd_ix ix_seq (pd_var (i := 3) rfl rfl (.inl rfl)) pd_int (by walk_at "r2ix") (fun _ _ => rfl)) pda_nil)) (by walk_at "sz"))) ?_
    show _ = toldE p i j
    unfold toldE
    rw [q]
  | nil =>
    have hb : PairOk p i j ∧ betw p i j = [] := ⟨ho, q⟩
    refine sd_ifF (by exact (pdt_tru (pd_var (i := 3) rfl rfl (.inl rfl)) (by walk_at "sf"))) (by rfl) ?_
    refine sd_nx (by exact (sd_asg (i := 4) sc_evidence_for.nd rfl (.inl rfl) (by exact (pd_call C_ranking_for (hr.mono (by decide)) rfl (pda_cons (pd_var (i := 0) rfl rfl (.inl rfl)) (pda_cons (pd_var (i := 1) rfl rfl (.inl rfl)) (pda_cons (pd_var (i := 2) rfl rfl (.inl rfl)) pda_nil))) (by walk_at "rr"))))) ?_
    cases qe : edfP (mrg p i j) with
    | some fn =>
      refine sd_ifT (by exact (pdt_cmp op_notN (pd_var (i := 4) rfl rfl (.inl rfl)) pd_non (by walk_at "r2isn") rfl)) (by rfl) ?_
      refine sd_ret (by exact (pd_tup (pda_cons pd_str (pda_cons (pd_var (i := 4) rfl rfl (.inl rfl)) pda_nil)) (by walk_at "sz"))) ?_
      show _ = toldE p i j
      unfold toldE
      rw [q]
      show _ = (match edfP (mrg p i j) with
        | some f => PyData.tuple [.str sBoth, dR f]
        | none => .tuple [.str sNever, toldC (mrg p i j)])
      rw [qe]
      rfl
    | none =>
      refine sd_ifF (by exact (pdt_cmp op_notN (pd_var (i := 4) rfl rfl (.inl rfl)) pd_non (by walk_at "r2isn") rfl)) (by rfl) ?_
      refine sd_ret (by exact (pd_tup (pda_cons pd_str (pda_cons (pd_call C_told_contradiction (hr.mono (by decide)) rfl (pda_cons (pd_call C_merged_problem (hr.mono (by decide)) rfl (pda_cons (pd_var (i := 0) rfl rfl (.inl rfl)) (pda_cons (pd_var (i := 1) rfl rfl (.inl rfl)) (pda_cons (pd_var (i := 2) rfl rfl (.inl rfl)) pda_nil))) (by walk_at "rr")) pda_nil) (by walk_at "rr")) pda_nil)) (by walk_at "sz"))) ?_
      show _ = toldE p i j
      unfold toldE
      rw [q]
      show _ = (match edfP (mrg p i j) with
        | some f => PyData.tuple [.str sBoth, dR f]
        | none => .tuple [.str sNever, toldC (mrg p i j)])
      rw [qe]
abbrev s_pair_evidence : Stmt := topS 62
theorem sc_pair_evidence : FnScope ["problem", "one", "other"] ["problem", "one", "other"] (defScope s_pair_evidence) := ⟨rfl, rfl, rfl, by decide +kernel, rfl, by decide +kernel, by decide +kernel⟩
def R_pair_evidence : List PyData → PyData → Prop := R_evidence_for
theorem ok_pair_evidence (T : Txt mg) (F : Fun K "pair_evidence" "pair_evidence" s_pair_evidence f fd)
    (C_check_pair : Cal P w K mg base 5 "check_pair" (SpP R_check_pair))
    (C_evidence_for : Cal P w K mg base 6 "evidence_for" (SpP R_evidence_for)) :
    FnOk P w K mg base CX0 7 f fd ["problem", "one", "other"] (SpP R_pair_evidence) := by
  refine fn_pure F sc_pair_evidence (by rintro _ _ ⟨p, i, j, ho, rfl, rfl⟩; rfl) fun cdv A outer s H E hr ds d h => ?_
  obtain ⟨p, i, j, ho, rfl, rfl⟩ := h
  refine sd_nx (sd_expr (by exact (pd_call C_check_pair (hr.mono (by decide)) rfl (pda_cons (pd_var (i := 0) rfl rfl (.inl rfl)) (pda_cons (pd_var (i := 1) rfl rfl (.inl rfl)) (pda_cons (pd_var (i := 2) rfl rfl (.inl rfl)) pda_nil))) (by walk_at "rr")))) ?_
  exact sd_ret (by exact (pd_call C_evidence_for (hr.mono (by decide)) rfl (pda_cons (pd_var (i := 0) rfl rfl (.inl rfl)) (pda_cons (pd_var (i := 1) rfl rfl (.inl rfl)) (pda_cons (pd_var (i := 2) rfl rfl (.inl rfl)) pda_nil))) (by walk_at "rr"))) rfl
abbrev s_is_evidence : Stmt := topS 63
theorem sc_is_evidence : FnScope ["problem", "one", "other", "value", "indexes"] ["problem", "one", "other", "value"] (defScope s_is_evidence) := ⟨rfl, rfl, rfl, by decide +kernel, rfl, by decide +kernel, by decide +kernel⟩
def R_is_evidence : List PyData → PyData → Prop := fun ds d => ∃ p i j v b, (PairOk p i j ∧ EV p i j v b) ∧ ds = [dP p, .int i, .int j, v] ∧ d = .bool b
theorem ok_is_evidence (T : Txt mg) (F : Fun K "is_evidence" "is_evidence" s_is_evidence f fd)
    (C_ahead_between : Cal P w K mg base 1 "ahead_between" (SpP R_ahead_between))
    (C_is_good : Cal P w K mg base 3 "is_good" (SpP R_is_good))
    (C_exchanged_in : Cal P w K mg base 1 "exchanged_in" (SpP R_exchanged_in))
    (C_is_whole : Cal P w K mg base 1 "is_whole" (SpP R_is_whole))
    (C_is_contradiction : Cal P w K mg base 7 "is_contradiction" (SpP R_is_contradiction))
    (C_is_ranking : Cal P w K mg base 2 "is_ranking" (SpP R_is_ranking))
    (C_merged_problem : Cal P w K mg base 2 "merged_problem" (SpP R_merged_problem)) :
    FnOk P w K mg base CX0 8 f fd ["problem", "one", "other", "value"] (SpP R_is_evidence) := by
  refine fn_pure F sc_is_evidence (by rintro _ _ ⟨p, i, j, v, b, hh, rfl, rfl⟩; rfl) fun cdv A outer s H E hr ds d h => ?_
  obtain ⟨p, i, j, v, b, hh, rfl, rfl⟩ := h
  obtain ⟨ho, hv⟩ := hh
  have hp := ho.ok
  have hne : i ≠ j := by have := ho.ij; omega
  have hm : OkP p ∧ i ≠ j := ⟨hp, hne⟩
  have hmp := ho.mrg
  have hn1 := hp.n1
  cases hv with
  | nt ht =>
    refine sd_ifT (by exact (PW.pt (pdw_orT (pdt_eq (by exact (pdt_not (pdt_tru (pd_isi (pd_var (i := 3) rfl rfl (.inl rfl)) rfl T.isinstance rfl T.tuple_ (by decide +kernel) kit_tup) (by walk_at "sf")))) (by simp [ht, truD]))))) rfl ?_
    exact sd_ret (by exact pd_bl) rfl
  | @ln xs hl =>
    refine sd_ifT (by exact (PW.pt (pdw_orF (pdt_eq (by exact (pdt_not (pdt_tru (pd_isi (pd_var (i := 3) rfl rfl (.inl rfl)) rfl T.isinstance rfl T.tuple_ (by decide +kernel) kit_tup) (by walk_at "sf")))) (by simp [isTupB, truD])) (pdw_orT (pdt_eq (by exact (pdt_cmp (op_neAll hr.units) (pd_callB call_len rfl T.len_ (by decide +kernel) (pda_cons (pd_var (i := 3) rfl rfl (.inl rfl)) pda_nil) (by walk_at "rc1")) pd_int (by walk_at "r2ne") rfl)) (by simp; omega)))))) rfl ?_
    exact sd_ret (by exact pd_bl) rfl
  | @ns x y hs =>
    refine sd_ifT (by exact (PW.pt (pdw_or (pdt_not (pdt_tru (pd_isi (pd_var (i := 3) rfl rfl (.inl rfl)) rfl T.isinstance rfl T.tuple_ (by decide +kernel) kit_tup) (by walk_at "sf"))) (fun _ => (pdw_or (pdt_cmp (op_neAll hr.units) (pd_callB call_len rfl T.len_ (by decide +kernel) (pda_cons (pd_var (i := 3) rfl rfl (.inl rfl)) pda_nil) (by walk_at "rc1")) pd_int (by walk_at "r2ne") rfl) (fun _ => (pdw_or1 (pdt_not (pdt_tru (pd_isi (pd_ix ix_seq (pd_var (i := 3) rfl rfl (.inl rfl)) pd_int (by walk_at "r2ix") (fun _ _ => rfl)) rfl T.isinstance rfl T.str_ (by decide +kernel) kit_str) (by walk_at "sf")))))))))) (by simp [isTupB, truD, hs]) ?_
    exact sd_ret (by exact pd_bl) rfl
  | @ah y =>
    refine sd_ifF (by exact (PW.pt (pdw_or (pdt_not (pdt_tru (pd_isi (pd_var (i := 3) rfl rfl (.inl rfl)) rfl T.isinstance rfl T.tuple_ (by decide +kernel) kit_tup) (by walk_at "sf"))) (fun _ => (pdw_or (pdt_cmp (op_neAll hr.units) (pd_callB call_len rfl T.len_ (by decide +kernel) (pda_cons (pd_var (i := 3) rfl rfl (.inl rfl)) pda_nil) (by walk_at "rc1")) pd_int (by walk_at "r2ne") rfl) (fun _ => (pdw_or1 (pdt_not (pdt_tru (pd_isi (pd_ix ix_seq (pd_var (i := 3) rfl rfl (.inl rfl)) pd_int (by walk_at "r2ix") (fun _ _ => rfl)) rfl T.isinstance rfl T.str_ (by decide +kernel) kit_str) (by walk_at "sf")))))))))) (by simp [isTupB, truD, isStrB]) ?_
    refine sd_nx (by exact (sd_asg (i := 4) sc_is_evidence.nd rfl (.inl rfl) (by exact (pd_call C_ahead_between (hr.mono (by decide)) rfl (pda_cons (pd_var (i := 0) rfl rfl (.inl rfl)) (pda_cons (pd_var (i := 1) rfl rfl (.inl rfl)) (pda_cons (pd_var (i := 2) rfl rfl (.inl rfl)) pda_nil))) (by walk_at "rr"))))) ?_
    refine sd_ifT (by exact (pdt_cmp (op_eqAll hr.units) (pd_ix ix_seq (pd_var (i := 3) rfl rfl (.inl rfl)) pd_int (by walk_at "r2ix") (fun _ _ => rfl)) pd_str (by walk_at "r2eq") rfl)) (by simp) ?_
    by_cases hw : wholeB y 0 ((((p.cs.map dC).length : Nat) : Int) - 1) = true
    · obtain ⟨k, rfl, _, _⟩ := whole_int hw
      exact sd_ret (pd_eq (by exact (pd_andT (by exact (pd_call C_is_whole (hr.mono (by decide)) rfl (pda_cons (pd_ix ix_seq (pd_var (i := 3) rfl rfl (.inl rfl)) pd_int (by walk_at "r2ix") (fun _ _ => rfl)) (pda_cons pd_int (pda_cons (pd_bin op_sub (pd_callB call_len rfl T.len_ (by decide +kernel) (pda_cons (pd_ix ix_seq (pd_var (i := 0) rfl rfl (.inl rfl)) pd_int (by walk_at "r2ix") (fun _ _ => rfl)) pda_nil) (by walk_at "rc1")) pd_int (by walk_at "r2i0")) pda_nil))) (by walk_at "rr"))) hw (by exact (pd_one (by exact (pd_cmp (op_inS (hu65 hr)) (pd_ix ix_seq (pd_var (i := 3) rfl rfl (.inl rfl)) pd_int (by walk_at "r2ix") (fun _ _ => rfl)) (pd_var (i := 4) rfl rfl (.inl rfl)) (by walk_at "r2in") rfl)))))) rfl) rfl
    · have hw2 : wholeB y 0 ((((p.cs.map dC).length : Nat) : Int) - 1) = false := by simpa using hw
      refine sd_ret (pd_eq (by exact (pd_andF (by exact (pd_eq (by exact (pd_call C_is_whole (hr.mono (by decide)) rfl (pda_cons (pd_ix ix_seq (pd_var (i := 3) rfl rfl (.inl rfl)) pd_int (by walk_at "r2ix") (fun _ _ => rfl)) (pda_cons pd_int (pda_cons (pd_bin op_sub (pd_callB call_len rfl T.len_ (by decide +kernel) (pda_cons (pd_ix ix_seq (pd_var (i := 0) rfl rfl (.inl rfl)) pd_int (by walk_at "r2ix") (fun _ _ => rfl)) pda_nil) (by walk_at "rc1")) pd_int (by walk_at "r2i0")) pda_nil))) (by walk_at "rr"))) (by rw [hw2]))))) ?_) rfl
      have : inBetw p i j y = false := by
        cases y with
        | int k =>
          show decide (k ∈ betw p i j) = false
          rw [decide_eq_false_iff_not]
          intro hk
          have := betw_in hk
          rw [List.length_map] at hw2
          simp [wholeB] at hw2
          omega
        | _ => rfl
      rw [this]
  | @nb y hb =>
    have hbe : (betw p i j).isEmpty = false := by
      cases q : betw p i j with
      | nil => exact absurd q hb
      | cons a b => rfl
    refine sd_ifF (by exact (PW.pt (pdw_or (pdt_not (pdt_tru (pd_isi (pd_var (i := 3) rfl rfl (.inl rfl)) rfl T.isinstance rfl T.tuple_ (by decide +kernel) kit_tup) (by walk_at "sf"))) (fun _ => (pdw_or (pdt_cmp (op_neAll hr.units) (pd_callB call_len rfl T.len_ (by decide +kernel) (pda_cons (pd_var (i := 3) rfl rfl (.inl rfl)) pda_nil) (by walk_at "rc1")) pd_int (by walk_at "r2ne") rfl) (fun _ => (pdw_or1 (pdt_not (pdt_tru (pd_isi (pd_ix ix_seq (pd_var (i := 3) rfl rfl (.inl rfl)) pd_int (by walk_at "r2ix") (fun _ _ => rfl)) rfl T.isinstance rfl T.str_ (by decide +kernel) kit_str) (by walk_at "sf")))))))))) (by simp [isTupB, truD, isStrB]) ?_
    refine sd_nx (by exact (sd_asg (i := 4) sc_is_evidence.nd rfl (.inl rfl) (by exact (pd_call C_ahead_between (hr.mono (by decide)) rfl (pda_cons (pd_var (i := 0) rfl rfl (.inl rfl)) (pda_cons (pd_var (i := 1) rfl rfl (.inl rfl)) (pda_cons (pd_var (i := 2) rfl rfl (.inl rfl)) pda_nil))) (by walk_at "rr"))))) ?_
    refine sd_ifF (by exact (pdt_cmp (op_eqAll hr.units) (pd_ix ix_seq (pd_var (i := 3) rfl rfl (.inl rfl)) pd_int (by walk_at "r2ix") (fun _ _ => rfl)) pd_str (by walk_at "r2eq") rfl)) (by simp [sNA]) ?_
    refine sd_ifT (by exact (pdt_cmp (op_eqAll hr.units) (pd_ix ix_seq (pd_var (i := 3) rfl rfl (.inl rfl)) pd_int (by walk_at "r2ix") (fun _ _ => rfl)) pd_str (by walk_at "r2eq") rfl)) (by simp) ?_
    exact sd_ret (by exact (pd_andF (by exact (pd_eq (by exact (pd_not (pd_var (i := 4) rfl rfl (.inl rfl)) (by walk_at "sf"))) (by
      show PyData.bool (!(!((betw p i j).map PyData.int).isEmpty)) = _
      rw [isEmpty_map', hbe]
      rfl))))) rfl
  | @nv y b hb hcv =>
    have hcc : OkP (mrg p i j) ∧ CV (mrg p i j) y b := ⟨hmp, hcv⟩
    refine sd_ifF (by exact (PW.pt (pdw_or (pdt_not (pdt_tru (pd_isi (pd_var (i := 3) rfl rfl (.inl rfl)) rfl T.isinstance rfl T.tuple_ (by decide +kernel) kit_tup) (by walk_at "sf"))) (fun _ => (pdw_or (pdt_cmp (op_neAll hr.units) (pd_callB call_len rfl T.len_ (by decide +kernel) (pda_cons (pd_var (i := 3) rfl rfl (.inl rfl)) pda_nil) (by walk_at "rc1")) pd_int (by walk_at "r2ne") rfl) (fun _ => (pdw_or1 (pdt_not (pdt_tru (pd_isi (pd_ix ix_seq (pd_var (i := 3) rfl rfl (.inl rfl)) pd_int (by walk_at "r2ix") (fun _ _ => rfl)) rfl T.isinstance rfl T.str_ (by decide +kernel) kit_str) (by walk_at "sf")))))))))) (by simp [isTupB, truD, isStrB]) ?_
    refine sd_nx (by exact (sd_asg (i := 4) sc_is_evidence.nd rfl (.inl rfl) (by exact (pd_call C_ahead_between (hr.mono (by decide)) rfl (pda_cons (pd_var (i := 0) rfl rfl (.inl rfl)) (pda_cons (pd_var (i := 1) rfl rfl (.inl rfl)) (pda_cons (pd_var (i := 2) rfl rfl (.inl rfl)) pda_nil))) (by walk_at "rr"))))) ?_
    refine sd_ifF (by exact (pdt_cmp (op_eqAll hr.units) (pd_ix ix_seq (pd_var (i := 3) rfl rfl (.inl rfl)) pd_int (by walk_at "r2ix") (fun _ _ => rfl)) pd_str (by walk_at "r2eq") rfl)) (by simp [sNA]) ?_
    refine sd_ifT (by exact (pdt_cmp (op_eqAll hr.units) (pd_ix ix_seq (pd_var (i := 3) rfl rfl (.inl rfl)) pd_int (by walk_at "r2ix") (fun _ _ => rfl)) pd_str (by walk_at "r2eq") rfl)) (by simp) ?_
    exact sd_ret (by exact (pd_andT (by exact (pd_not (pd_var (i := 4) rfl rfl (.inl rfl)) (by walk_at "sf"))) (by rw [hb]; rfl) (by exact (pd_one (by exact (pd_call C_is_contradiction (hr.mono (by decide)) rfl (pda_cons (pd_call C_merged_problem (hr.mono (by decide)) rfl (pda_cons (pd_var (i := 0) rfl rfl (.inl rfl)) (pda_cons (pd_var (i := 1) rfl rfl (.inl rfl)) (pda_cons (pd_var (i := 2) rfl rfl (.inl rfl)) pda_nil))) (by walk_at "rr")) (pda_cons (pd_ix ix_seq (pd_var (i := 3) rfl rfl (.inl rfl)) pd_int (by walk_at "r2ix") (fun _ _ => rfl)) pda_nil)) (by walk_at "rr"))))))) rfl
  | @bn y hcl hlen hrk =>
    have hcc : y.canLay0 = true ∧ (y = .tuple ([] : List PyData) ∨ ∀ xs, y = .tuple xs → xs.length ≤ 1000) := ⟨hcl, .inr hlen⟩
    refine sd_ifF (by exact (PW.pt (pdw_or (pdt_not (pdt_tru (pd_isi (pd_var (i := 3) rfl rfl (.inl rfl)) rfl T.isinstance rfl T.tuple_ (by decide +kernel) kit_tup) (by walk_at "sf"))) (fun _ => (pdw_or (pdt_cmp (op_neAll hr.units) (pd_callB call_len rfl T.len_ (by decide +kernel) (pda_cons (pd_var (i := 3) rfl rfl (.inl rfl)) pda_nil) (by walk_at "rc1")) pd_int (by walk_at "r2ne") rfl) (fun _ => (pdw_or1 (pdt_not (pdt_tru (pd_isi (pd_ix ix_seq (pd_var (i := 3) rfl rfl (.inl rfl)) pd_int (by walk_at "r2ix") (fun _ _ => rfl)) rfl T.isinstance rfl T.str_ (by decide +kernel) kit_str) (by walk_at "sf")))))))))) (by simp [isTupB, truD, isStrB]) ?_
    refine sd_nx (by exact (sd_asg (i := 4) sc_is_evidence.nd rfl (.inl rfl) (by exact (pd_call C_ahead_between (hr.mono (by decide)) rfl (pda_cons (pd_var (i := 0) rfl rfl (.inl rfl)) (pda_cons (pd_var (i := 1) rfl rfl (.inl rfl)) (pda_cons (pd_var (i := 2) rfl rfl (.inl rfl)) pda_nil))) (by walk_at "rr"))))) ?_
    refine sd_ifF (by exact (pdt_cmp (op_eqAll hr.units) (pd_ix ix_seq (pd_var (i := 3) rfl rfl (.inl rfl)) pd_int (by walk_at "r2ix") (fun _ _ => rfl)) pd_str (by walk_at "r2eq") rfl)) (by simp [sBA]) ?_
    refine sd_ifF (by exact (pdt_cmp (op_eqAll hr.units) (pd_ix ix_seq (pd_var (i := 3) rfl rfl (.inl rfl)) pd_int (by walk_at "r2ix") (fun _ _ => rfl)) pd_str (by walk_at "r2eq") rfl)) (by simp [sBN]) ?_
    refine sd_ifT (by exact (PW.pt (pdw_orF (pdt_eq (by exact (pdt_cmp (op_neAll hr.units) (pd_ix ix_seq (pd_var (i := 3) rfl rfl (.inl rfl)) pd_int (by walk_at "r2ix") (fun _ _ => rfl)) pd_str (by walk_at "r2ne") rfl)) (by simp)) (pdw_orT (pdt_eq (by exact (pdt_not (pdt_tru (pd_call C_is_ranking (hr.mono (by decide)) rfl (pda_cons (pd_ix ix_seq (pd_var (i := 0) rfl rfl (.inl rfl)) pd_int (by walk_at "r2ix") (fun _ _ => rfl)) (pda_cons (pd_ix ix_seq (pd_var (i := 3) rfl rfl (.inl rfl)) pd_int (by walk_at "r2ix") (fun _ _ => rfl)) pda_nil)) (by walk_at "rr")) (by walk_at "sf")))) (by simp [truD, hrk])))))) rfl ?_
    exact sd_ret (by exact pd_bl) rfl
  | @bo r hr' =>
    have hrl : r.length ≤ 1000 := by
      have := hr'.ln
      have := hp.n5
      omega
    have hrk : rankB p.n (dR r) = true := by
      rw [rankB_ints]
      exact decide_eq_true ⟨by have := hr'.ln; omega, hr'.rg, hr'.nd⟩
    have hcc : (dR r).canLay0 = true ∧ (dR r = .tuple ([] : List PyData) ∨ ∀ xs, dR r = .tuple xs → xs.length ≤ 1000) := ⟨lay_dR, .inr fun xs e => by
      have e2 : r.map PyData.int = xs := by
        unfold dR at e
        injection e
      rw [← e2, List.length_map]
      exact hrl⟩
    have hg1 : OkP p ∧ ∀ c ∈ p.cs, InR c r := ⟨hp, inR_full hp hr'⟩
    have hg2 : OkP p ∧ ∀ c ∈ p.cs, InR c (exch i j r) := ⟨hp, inR_full hp (exch_ok ho hr')⟩
    have hex : i ≠ j ∧ r.length ≤ 1000 := ⟨hne, hrl⟩
    refine sd_ifF (by exact (PW.pt (pdw_or (pdt_not (pdt_tru (pd_isi (pd_var (i := 3) rfl rfl (.inl rfl)) rfl T.isinstance rfl T.tuple_ (by decide +kernel) kit_tup) (by walk_at "sf"))) (fun _ => (pdw_or (pdt_cmp (op_neAll hr.units) (pd_callB call_len rfl T.len_ (by decide +kernel) (pda_cons (pd_var (i := 3) rfl rfl (.inl rfl)) pda_nil) (by walk_at "rc1")) pd_int (by walk_at "r2ne") rfl) (fun _ => (pdw_or1 (pdt_not (pdt_tru (pd_isi (pd_ix ix_seq (pd_var (i := 3) rfl rfl (.inl rfl)) pd_int (by walk_at "r2ix") (fun _ _ => rfl)) rfl T.isinstance rfl T.str_ (by decide +kernel) kit_str) (by walk_at "sf")))))))))) (by simp [isTupB, truD, isStrB]) ?_
    refine sd_nx (by exact (sd_asg (i := 4) sc_is_evidence.nd rfl (.inl rfl) (by exact (pd_call C_ahead_between (hr.mono (by decide)) rfl (pda_cons (pd_var (i := 0) rfl rfl (.inl rfl)) (pda_cons (pd_var (i := 1) rfl rfl (.inl rfl)) (pda_cons (pd_var (i := 2) rfl rfl (.inl rfl)) pda_nil))) (by walk_at "rr"))))) ?_
    refine sd_ifF (by exact (pdt_cmp (op_eqAll hr.units) (pd_ix ix_seq (pd_var (i := 3) rfl rfl (.inl rfl)) pd_int (by walk_at "r2ix") (fun _ _ => rfl)) pd_str (by walk_at "r2eq") rfl)) (by simp [sBA]) ?_
    refine sd_ifF (by exact (pdt_cmp (op_eqAll hr.units) (pd_ix ix_seq (pd_var (i := 3) rfl rfl (.inl rfl)) pd_int (by walk_at "r2ix") (fun _ _ => rfl)) pd_str (by walk_at "r2eq") rfl)) (by simp [sBN]) ?_
    refine sd_ifE (b' := !goodB p r) (by exact (PW.pt (pdw_or (pdt_cmp (op_neAll hr.units) (pd_ix ix_seq (pd_var (i := 3) rfl rfl (.inl rfl)) pd_int (by walk_at "r2ix") (fun _ _ => rfl)) pd_str (by walk_at "r2ne") rfl) (fun _ => (pdw_or (pdt_not (pdt_tru (pd_call C_is_ranking (hr.mono (by decide)) rfl (pda_cons (pd_ix ix_seq (pd_var (i := 0) rfl rfl (.inl rfl)) pd_int (by walk_at "r2ix") (fun _ _ => rfl)) (pda_cons (pd_ix ix_seq (pd_var (i := 3) rfl rfl (.inl rfl)) pd_int (by walk_at "r2ix") (fun _ _ => rfl)) pda_nil)) (by walk_at "rr")) (by walk_at "sf"))) (fun _ => (pdw_or1 (pdt_not (pdt_tru (pd_call C_is_good (hr.mono (by decide)) rfl (pda_cons (pd_var (i := 0) rfl rfl (.inl rfl)) (pda_cons (pd_ix ix_seq (pd_var (i := 3) rfl rfl (.inl rfl)) pd_int (by walk_at "r2ix") (fun _ _ => rfl)) pda_nil)) (by walk_at "rr")) (by walk_at "sf")))))))))) (by simp [truD, hrk]) (fun hb => ?_) (fun hb => ?_)
    · have hb' : goodB p r = false := by simpa using hb
      exact sd_ret (pd_eq (by exact pd_bl) (by rw [hb']; rfl)) rfl
    · have hb' : goodB p r = true := by simpa using hb
      exact sd_ret (pd_eq (by exact (pd_call C_is_good (hr.mono (by decide)) rfl (pda_cons (pd_var (i := 0) rfl rfl (.inl rfl)) (pda_cons (pd_call C_exchanged_in (hr.mono (by decide)) rfl (pda_cons (pd_ix ix_seq (pd_var (i := 3) rfl rfl (.inl rfl)) pd_int (by walk_at "r2ix") (fun _ _ => rfl)) (pda_cons (pd_var (i := 1) rfl rfl (.inl rfl)) (pda_cons (pd_var (i := 2) rfl rfl (.inl rfl)) pda_nil))) (by walk_at "rr")) pda_nil)) (by walk_at "rr"))) (by rw [hb']; rfl)) rfl
abbrev s_accepts_pair : Stmt := topS 64
theorem sc_accepts_pair : FnScope ["problem", "one", "other", "value"] ["problem", "one", "other", "value"] (defScope s_accepts_pair) := ⟨rfl, rfl, rfl, by decide +kernel, rfl, by decide +kernel, by decide +kernel⟩
def R_accepts_pair : List PyData → PyData → Prop := R_is_evidence
theorem ok_accepts_pair (T : Txt mg) (F : Fun K "accepts_pair" "accepts_pair" s_accepts_pair f fd)
    (C_check_pair : Cal P w K mg base 5 "check_pair" (SpP R_check_pair))
    (C_is_evidence : Cal P w K mg base 8 "is_evidence" (SpP R_is_evidence)) :
    FnOk P w K mg base CX0 9 f fd ["problem", "one", "other", "value"] (SpP R_accepts_pair) := by
  refine fn_pure F sc_accepts_pair (by rintro _ _ ⟨p, i, j, v, b, hh, rfl, rfl⟩; rfl) fun cdv A outer s H E hr ds d h => ?_
  obtain ⟨p, i, j, v, b, hh, rfl, rfl⟩ := h
  have ho := hh.1
  refine sd_nx (sd_expr (by exact (pd_call C_check_pair (hr.mono (by decide)) rfl (pda_cons (pd_var (i := 0) rfl rfl (.inl rfl)) (pda_cons (pd_var (i := 1) rfl rfl (.inl rfl)) (pda_cons (pd_var (i := 2) rfl rfl (.inl rfl)) pda_nil))) (by walk_at "rr")))) ?_
  exact sd_ret (by exact (pd_call C_is_evidence (hr.mono (by decide)) rfl (pda_cons (pd_var (i := 0) rfl rfl (.inl rfl)) (pda_cons (pd_var (i := 1) rfl rfl (.inl rfl)) (pda_cons (pd_var (i := 2) rfl rfl (.inl rfl)) (pda_cons (pd_var (i := 3) rfl rfl (.inl rfl)) pda_nil)))) (by walk_at "rr"))) rfl
end
end RK

/-! The law's stream. -/
namespace RK
open PySem PySem.Spec PyProof.Rows L2 DL
structure Stm where
  cs : List Int
  c : Int
  k : Nat
def stD (s : Stm) : List PyData := [.list (s.cs.map PyData.int), .int s.c, .int (s.k : Nat)]
def mixA (c : Int) (k : Nat) : Int := (c * 48271 + (k : Int) * 69621 + 11) % 2147483647
def mixC (c : Int) (k : Nat) : Int := (mixA c k * 16807 + 13) % 2147483647 * 65537 + mixA c k
def absI (i : Int) : Int := if i < 0 then -i else i
def seedC (s : Stm) : Int := if (s.k : Int) < (s.cs.length : Nat) then absI (s.cs.getD s.k 0) else 7 + (s.k : Int)
def cellOf (s : Stm) : Int := if s.c = 0 then (if seedC s < 10 ^ 18 then mixC (seedC s) s.k else seedC s) else s.c
def kOf (s : Stm) : Nat := if s.c = 0 then s.k + 1 else s.k
def digit (s : Stm) (m : Int) : Int := cellOf s % m
def nextS (s : Stm) (m : Int) : Stm := ⟨s.cs, cellOf s / m, kOf s⟩
theorem digit_in {s : Stm} {m : Int} (h : 0 < m) : 0 ≤ digit s m ∧ digit s m < m := ⟨Int.emod_nonneg _ (by omega), Int.emod_lt_of_pos _ h⟩
end RK

namespace RK
open PySem PySem.Spec PyProof.Rows L2 DL
local macro_rules | `(tactic| walk_at "sf") => `(tactic| first | exact True.intro | assumption)
local macro_rules | `(tactic| walk_at "sz") => `(tactic| first | decide | (simp only [List.length_cons, List.length_nil, List.length_map, List.length_append, List.length_reverse, rng_len, sizeLine_eq]; omega))
local macro_rules | `(tactic| walk_at "r2add") => `(tactic| first | exact r2_addI | exact r2_addT (by walk_at "sz") | exact r2_addL (by walk_at "sz"))
local macro_rules | `(tactic| walk_at "r2i0") => `(tactic| exact r2_I0)
local macro_rules | `(tactic| walk_at "r2b0") => `(tactic| exact r2_B0)
local macro_rules | `(tactic| walk_at "r2mul") => `(tactic| exact r2_I (by unfold CMul; omega))
local macro_rules | `(tactic| walk_at "r2mod") => `(tactic| exact r2_I (by first | omega | (show (0 : Int) < _; omega)))
local macro_rules | `(tactic| walk_at "r2div") => `(tactic| exact r2_I (by unfold CDiv; omega))
local macro_rules | `(tactic| walk_at "r2pow") => `(tactic| exact r2_I (by unfold CPow; decide))
local macro_rules | `(tactic| walk_at "r2eq") => `(tactic| first | exact r2_eqI | exact r2_eqS | exact r2_eqB | exact r2_eqD (by assumption) (by assumption))
local macro_rules | `(tactic| walk_at "r2ne") => `(tactic| first | exact r2_neI | exact r2_neS | exact r2_neB)
local macro_rules | `(tactic| walk_at "r2in") => `(tactic| first | exact r2_inLI | exact r2_inTI | assumption)
local macro_rules | `(tactic| walk_at "r2nin") => `(tactic| first | exact r2_ninLI | exact r2_ninTI | assumption)
local macro_rules | `(tactic| walk_at "r2is") => `(tactic| exact r2_isN)
local macro_rules | `(tactic| walk_at "r2isn") => `(tactic| exact r2_notN)
local macro_rules | `(tactic| walk_at "r2ix") => `(tactic| first | exact r2_ixT rfl | exact r2_ixL rfl | exact r2_ixT (by assumption) | exact r2_ixL (by assumption))
local macro_rules | `(tactic| walk_at "rc1") => `(tactic| first | exact rc_lenT | exact rc_lenL | exact rc_max2 | exact rc_max (by walk_at "sz") | exact rc_min (by walk_at "sz") | exact rc_max (ns := _ :: _) (by walk_at "sz") | exact rc_min (ns := _ :: _) (by walk_at "sz") | exact rc_all | exact rc_any | exact rc_abs | exact rc_int | exact rc_tupL | assumption)
local macro_rules | `(tactic| walk_at "mem") => `(tactic| first | assumption | (simp; done))
local macro_rules | `(tactic| walk_at "rr") => `(tactic| first | exact ⟨_, rfl, rfl⟩ | exact ⟨_, _, rfl, rfl⟩ | exact ⟨_, _, _, rfl, rfl⟩ | exact ⟨_, by assumption, rfl, rfl⟩ | exact ⟨_, _, by assumption, rfl, rfl⟩ | exact ⟨_, _, _, by assumption, rfl, rfl⟩ | exact ⟨_, _, _, _, rfl, rfl⟩ | exact ⟨_, _, _, _, by assumption, rfl, rfl⟩ | exact ⟨_, _, _, _, _, by assumption, rfl, rfl⟩ | assumption)
local macro_rules | `(tactic| walk_at "rg") => `(tactic| first | omega | (simp only [List.length_cons, List.length_nil, List.length_map]; omega))
local macro_rules | `(tactic| walk_at "hz") => `(tactic| first | assumption | (simp only [List.length_cons, List.length_nil, List.length_map, rng_len, List.length_zipIdx, List.length_zip]; omega) | omega)
local macro_rules | `(tactic| walk_at "bb") => `(tactic| first | rfl | (simp [truD, isTupB, isStrB, isIntB, isBoolB, wholeB, sAW, sWA]; done) | (simp_all [truD, isTupB, isStrB, isIntB, isBoolB, wholeB, sAW, sWA]; done) | (simp [truD, isTupB, isStrB, isIntB, isBoolB, wholeB, sAW, sWA]; omega))
local macro_rules | `(tactic| walk_at "blkfree") => `(tactic| ((repeat' (first | exact List.forall_mem_nil _ | refine List.forall_mem_cons.mpr ⟨?_, ?_⟩)) <;> first | (intro hf; cases hf; done) | exact fun _ => .inl rfl | exact fun _ => .inr rfl))
local macro_rules | `(tactic| walk_at "r2ixo") => `(tactic| first | rfl | assumption)
local macro_rules | `(tactic| walk_at "rm") => `(tactic| first | exact ⟨_, rfl, rfl, rfl, rfl⟩ | exact ⟨_, _, _, _, by assumption, rfl, rfl, rfl, rfl⟩ | assumption)

section
variable {P : Program} {w : World} {K : PySem.W.Frag} {mg : Str → Option Value} {base : Heap} {f : Addr} {fd : FuncData}
abbrev s_law_stream : Stmt := topS 66
theorem sc_law_stream : FnScope ["_law_script"] ["_law_script"] (defScope s_law_stream) := ⟨rfl, rfl, rfl, by decide +kernel, rfl, by decide +kernel, by decide +kernel⟩
def R_law_stream : List PyData → List PyData → Prop := fun ds es => ∃ cs, ds = [.list (cs.map PyData.int)] ∧ es = stD ⟨cs, 0, 0⟩
theorem ok_law_stream (T : Txt mg) (F : Fun K "_law_stream" "_law_stream" s_law_stream f fd) :
    FnOk P w K mg base CX0 1 f fd ["_law_script"] (SpF R_law_stream) := by
  refine fn_new F sc_law_stream (by rintro _ _ ⟨cs, rfl, rfl⟩; rfl) fun cdv A outer s H E hr ds d h => ?_
  obtain ⟨cs, rfl, rfl⟩ := h
  exact sn_ret (by exact (pdf_lst (pda_cons (by exact (pd_of (pdf_listL rfl T.list_ (pd_var (i := 0) rfl rfl (.inl rfl))))) (pda_cons pd_int (pda_cons pd_int pda_nil))) (by show 3 ≤ sizeLine; rw [sizeLine_eq]; omega)))
abbrev s_law_next : Stmt := topS 67
theorem sc_law_next : FnScope ["_law_stream_here", "_law_many", "_law_k", "_law_cell", "_law_digit"] ["_law_stream_here", "_law_many"] (defScope s_law_next) := ⟨rfl, rfl, rfl, by decide +kernel, rfl, by decide +kernel, by decide +kernel⟩
def R__law_next : List PyData → List PyData → PyData → List PyData → Prop := fun os ds d os' => ∃ s m, (0 < m ∧ m < 1000000) ∧ os = stD s ∧ ds = [.int m] ∧ d = .int (digit s m) ∧ os' = stD (nextS s m)
theorem ok__law_next (T : Txt mg) (F : Fun K "_law_next" "_law_next" s_law_next f fd) :
    FnOk P w K mg base CX0 1 f fd ["_law_stream_here", "_law_many"] (SpM R__law_next) := by
  refine fn_mut F sc_law_next (by rintro _ _ _ _ ⟨s, m, _, rfl, rfl, rfl, rfl⟩; rfl) fun cdv A outer s H E hr l os ds d os1 h => ?_
  obtain ⟨st, m, hm, rfl, rfl, rfl, rfl⟩ := h
  obtain ⟨cs, c, k⟩ := st
  refine sd_if (b := decide (c = 0)) (P := fun G' => ∃ (kk cc : Option Sl), G' = [some (.own l [.list (cs.map PyData.int), .int (cellOf ⟨cs, c, k⟩), .int (kOf ⟨cs, c, k⟩ : Nat)]), some (.d (.int m)), kk, cc, none]) (by exact (pdt_cmp (op_eqAll hr.units) (pd_ixO (i := 0) pd_int rfl rfl (by walk_at "r2ixo") rfl (.inl rfl) (fun _ _ => rfl)) pd_int (by walk_at "r2eq") rfl)) (fun hb => ?_) (fun hb => ?_) ?_
  · have hc0 : c = 0 := by simpa using hb
    subst hc0
    refine sd_nx (by exact (sd_asg (i := 2) sc_law_next.nd rfl (.inl rfl) (by exact (pd_ixO (i := 0) pd_int rfl rfl (by walk_at "r2ixo") rfl (.inl rfl) (fun _ _ => rfl))))) ?_
    refine sd_nx (by exact (sd_asg (i := 3) sc_law_next.nd rfl (.inl rfl) (by exact (pd_bin op_addAll pd_int (pd_var (i := 2) rfl rfl (.inl rfl)) (by walk_at "r2add"))))) ?_
    refine sd_if (b := decide ((k : Int) < (cs.length : Nat))) (P := fun G' => G' = [some (.own l (stD ⟨cs, 0, k⟩)), some (.d (.int m)), some (.d (.int (k : Nat))), some (.d (.int (seedC ⟨cs, 0, k⟩))), none]) (by exact (pdt_eq (by exact (pdt_cmp op_lt (pd_var (i := 2) rfl rfl (.inl rfl)) (pd_callB call_len rfl T.len_ (by decide +kernel) (pda_cons (pd_ixO (i := 0) pd_int rfl rfl (by walk_at "r2ixo") rfl (.inl rfl) (fun _ _ => rfl)) pda_nil) (by walk_at "rc1")) (by walk_at "r2b0") rfl)) (by rw [List.length_map]))) (fun hk => ?_) (fun hk => ?_) ?_
    · have hk' : k < cs.length := by
        simp at hk
        exact hk
      have hat : atI (cs.map PyData.int) (k : Nat) = some (.int (cs.getD k 0)) := by
        refine atI_nat ?_
        rw [List.getElem?_map, List.getElem?_eq_getElem hk', List.getD_eq_getElem?_getD, List.getElem?_eq_getElem hk']
        rfl
      refine sd_nx (by exact (sd_asg (i := 3) sc_law_next.nd rfl (.inl rfl) (by exact (pd_callB call_abs rfl T.abs_ (by decide +kernel) (pda_cons (pd_ix ix_seq (pd_ixO (i := 0) pd_int rfl rfl (by walk_at "r2ixo") rfl (.inl rfl) (fun _ _ => rfl)) (pd_var (i := 2) rfl rfl (.inl rfl)) (by walk_at "r2ix") (fun _ _ => rfl)) pda_nil) (by walk_at "rc1"))))) ?_
      refine sd_nil ?_
      show _ = _
      unfold seedC
      rw [if_pos (show ((k : Nat) : Int) < (cs.length : Nat) by omega)]
      rfl
    · have hk' : ¬ ((k : Nat) : Int) < (cs.length : Nat) := by
        simp at hk ⊢
        exact hk
      refine sd_nil ?_
      show _ = _
      unfold seedC
      rw [if_neg hk']
      rfl
    · rintro G' rfl
      generalize hse : seedC ⟨cs, 0, k⟩ = se
      refine sd_if (b := decide (se < 10 ^ 18)) (P := fun G' => G' = [some (.own l (stD ⟨cs, 0, k⟩)), some (.d (.int m)), some (.d (.int (k : Nat))), some (.d (.int (cellOf ⟨cs, 0, k⟩))), none]) (by exact (pdt_eq (by exact (pdt_cmp op_lt (pd_var (i := 3) rfl rfl (.inl rfl)) (pd_bin op_pow pd_int pd_int (by walk_at "r2pow")) (by walk_at "r2b0") rfl)) (by exact rfl))) (fun hs => ?_) (fun hs => ?_) ?_
      · have hs' : se < 10 ^ 18 := of_decide_eq_true hs
        refine sd_nx (by exact (sd_asg (i := 3) sc_law_next.nd rfl (.inl rfl) (by exact (pd_bin op_mod (pd_callTy call_int1 rfl T.int_ (by decide +kernel) (pda_cons (pd_bin op_addAll (pd_bin op_addAll (pd_bin op_mul (pd_var (i := 3) rfl rfl (.inl rfl)) pd_int (by walk_at "r2mul")) (pd_bin op_mul (pd_var (i := 2) rfl rfl (.inl rfl)) pd_int (by walk_at "r2mul")) (by walk_at "r2add")) pd_int (by walk_at "r2add")) pda_nil) (by walk_at "rc1")) pd_int (by walk_at "r2mod"))))) ?_
        refine sd_nx (by exact (sd_asg (i := 3) sc_law_next.nd rfl (.inl rfl) (by exact (pd_bin op_addAll (pd_bin op_mul (pd_bin op_mod (pd_callTy call_int1 rfl T.int_ (by decide +kernel) (pda_cons (pd_bin op_addAll (pd_bin op_mul (pd_var (i := 3) rfl rfl (.inl rfl)) pd_int (by walk_at "r2mul")) pd_int (by walk_at "r2add")) pda_nil) (by walk_at "rc1")) pd_int (by walk_at "r2mod")) pd_int (by walk_at "r2mul")) (pd_var (i := 3) rfl rfl (.inl rfl)) (by walk_at "r2add"))))) ?_
        refine sd_nil ?_
        show _ = _
        unfold cellOf
        rw [if_pos rfl, hse, if_pos hs']
        rfl
      · have hs' : ¬ se < 10 ^ 18 := of_decide_eq_false hs
        refine sd_nil ?_
        show _ = _
        unfold cellOf
        rw [if_pos rfl, hse, if_neg hs']
      · rintro G' rfl
        refine sd_nx (by exact (sd_setI (i := 0) (j := 1) (ds := stD ⟨cs, 0, k⟩) (d := .int (cellOf ⟨cs, 0, k⟩)) rfl (.inl rfl) (by exact (pd_var (i := 3) rfl rfl (.inl rfl))) (by exact (pd_eq pd_int rfl)) rfl rfl (by show 1 < 3; decide) (by exact (pg_sub (pe_var (i := 0) rfl (.inl rfl)) (by exact (pd_eq pd_int rfl)) set_list)))) ?_
        refine sd_nx (by exact (sd_setI (i := 0) (j := 2) (d := .int ((k : Int) + 1)) rfl (.inl rfl) (by exact (pd_bin op_addAll (pd_var (i := 2) rfl rfl (.inl rfl)) pd_int (by walk_at "r2add"))) (by exact (pd_eq pd_int rfl)) rfl rfl (by show 2 < 3; decide) (by exact (pg_sub (pe_var (i := 0) rfl (.inl rfl)) (by exact (pd_eq pd_int rfl)) set_list)))) ?_
        exact sd_nil ⟨_, _, rfl⟩
  · have hc0 : c ≠ 0 := by simpa using hb
    refine sd_nil ⟨none, none, ?_⟩
    unfold cellOf kOf
    rw [if_neg hc0, if_neg hc0]
    rfl
  · rintro G' ⟨kk, cc, rfl⟩
    refine sd_nx (by exact (sd_asg (i := 4) sc_law_next.nd rfl (.inl rfl) (by exact (pd_bin op_mod (pd_callTy call_int1 rfl T.int_ (by decide +kernel) (pda_cons (pd_ixO (i := 0) pd_int rfl rfl (by walk_at "r2ixo") rfl (.inl rfl) (fun _ _ => rfl)) pda_nil) (by walk_at "rc1")) (pd_var (i := 1) rfl rfl (.inl rfl)) (by walk_at "r2mod"))))) ?_
    refine sd_nx (by exact (sd_setI (i := 0) (j := 1) rfl (.inl rfl) (by exact (pd_bin op_fdiv (pd_ixO (i := 0) pd_int rfl rfl (by walk_at "r2ixo") rfl (.inl rfl) (fun _ _ => rfl)) (pd_var (i := 1) rfl rfl (.inl rfl)) (by walk_at "r2div"))) (by exact (pd_eq pd_int rfl)) rfl rfl (by show 1 < 3; decide) (by exact (pg_sub (pe_var (i := 0) rfl (.inl rfl)) (by exact (pd_eq pd_int rfl)) set_list)))) ?_
    exact sd_ret (by exact (pd_var (i := 4) rfl rfl (.inl rfl))) ⟨rfl, rfl⟩
end
end RK

/-! What the law's own defs compute. -/
namespace RK
open PySem PySem.Spec PyProof.Rows L2 DL
def isIntN : PyData → Bool
  | .int _ => true
  | _ => false
def rkExt (n : Int) (r : List Int) : List (List Int) := ((rng 0 n.toNat).filter fun i => !decide (i ∈ r)).map fun i => r ++ [i]
def rkNext (n : Int) (rows : List (List Int)) : List (List Int) := rows.flatMap (rkExt n)
def rkIt (n : Int) : Nat → List (List Int)
  | 0 => [[]]
  | k + 1 => rkNext n (rkIt n k)
def rks (n : Int) : List (List Int) := rkIt n n.toNat
structure FnN (n : Int) (t : Nat) (f : List Int) : Prop where
  ln : f.length = t
  nd : f.Nodup
  rg : ∀ x ∈ f, 0 ≤ x ∧ x < n
theorem FnN.g {p : Prob} {t : Nat} {f : List Int} (h : FnN p.n t f) : FnG p t f := ⟨h.ln, h.nd, h.rg⟩
theorem FnG.n {p : Prob} {t : Nat} {f : List Int} (h : FnG p t f) : FnN p.n t f := ⟨h.ln, h.nd, h.rg⟩
theorem rkIt_ok {n : Int} : ∀ (k : Nat), ∀ r ∈ rkIt n k, FnN n k r
  | 0 => fun r hr => by
    have : r = [] := by simpa [rkIt] using hr
    subst this
    exact ⟨rfl, by simp, by simp⟩
  | k + 1 => fun r hr => by
    obtain ⟨r0, h0, h1⟩ := List.mem_flatMap.mp hr
    obtain ⟨i, hi, rfl⟩ := List.mem_map.mp h1
    obtain ⟨h2, h3⟩ := List.mem_filter.mp hi
    have h4 := rng_mem.mp h2
    have h5 : i ∉ r0 := by simpa using h3
    have h := rkIt_ok k r0 h0
    refine ⟨by rw [List.length_append, h.ln]; rfl, ?_, fun x hx => ?_⟩
    · rw [List.nodup_append]
      refine ⟨h.nd, by simp, ?_⟩
      intro a ha b hb e
      subst e
      have : a = i := by simpa using hb
      subst this
      exact h5 ha
    · rcases List.mem_append.mp hx with q | q
      · exact h.rg x q
      · have : x = i := by simpa using q
        omega
theorem rkIt_all {n : Int} : ∀ (k : Nat) (r : List Int), FnN n k r → r ∈ rkIt n k
  | 0, r, h => by
    have : r = [] := List.eq_nil_of_length_eq_zero h.ln
    subst this
    simp [rkIt]
  | k + 1, r, h => by
    have hne : r ≠ [] := fun z => by
      have := h.ln
      rw [z] at this
      cases this
    have e := (List.dropLast_concat_getLast hne).symm
    generalize r.dropLast = r0 at e
    generalize r.getLast hne = i at e
    subst e
    have hnd := h.nd
    rw [List.nodup_append] at hnd
    have h0 : FnN n k r0 := ⟨by have := h.ln; rw [List.length_append, List.length_cons, List.length_nil] at this; omega, hnd.1, fun x hx => h.rg x (by simp [hx])⟩
    have hi := h.rg i (by simp)
    refine List.mem_flatMap.mpr ⟨r0, rkIt_all k r0 h0, List.mem_map.mpr ⟨i, List.mem_filter.mpr ⟨rng_mem.mpr (by omega), ?_⟩, rfl⟩⟩
    have : i ∉ r0 := fun z => hnd.2.2 i z i (by simp) rfl
    simpa using this
theorem rks_mem {n : Int} {r : List Int} : r ∈ rks n ↔ FnN n n.toNat r := ⟨rkIt_ok _ r, rkIt_all _ r⟩
theorem rkExt_few {n : Int} (hn : n ≤ 5) {r : List Int} : (rkExt n r).length ≤ 5 := by
  unfold rkExt
  rw [List.length_map]
  refine Nat.le_trans (List.length_filter_le _ _) ?_
  rw [rng_len]
  omega
theorem rkIt_few {n : Int} (hn : n ≤ 5) : ∀ k : Nat, (rkIt n k).length ≤ 5 ^ k
  | 0 => by simp [rkIt]
  | k + 1 => by
    have h1 := flat_few (f := rkExt n) (k := 5) (fun x => rkExt_few hn) (rkIt n k)
    have h2 : 5 * (rkIt n k).length ≤ 5 * 5 ^ k := Nat.mul_le_mul_left 5 (rkIt_few hn k)
    rw [Nat.pow_succ]
    show (rkNext n (rkIt n k)).length ≤ _
    unfold rkNext
    omega
theorem rks_few {n : Int} (hn : n ≤ 5) : (rks n).length ≤ 3125 := by
  have h1 := rkIt_few hn n.toNat
  have : 5 ^ n.toNat ≤ 5 ^ 5 := Nat.pow_le_pow_right (by decide) (by omega)
  unfold rks
  omega
theorem rng_fn {n : Int} : FnN n n.toNat (rng 0 n.toNat) := ⟨rng_len, rng_nodup, fun x hx => by have := rng_mem.mp hx; omega⟩
theorem rks_pos {n : Int} : 0 < (rks n).length := List.length_pos_iff.mpr (List.ne_nil_of_mem (rks_mem.mpr rng_fn))
def goods (p : Prob) : List (List Int) := (rks p.n).filter fun r => (p.cs.map fun c => holdsB c r).all id
theorem goods_mem {p : Prob} {r : List Int} : r ∈ goods p ↔ FnN p.n p.n.toNat r ∧ goodB p r = true := by
  unfold goods goodB
  rw [List.mem_filter, rks_mem, List.all_map]
  rfl
/-! the problem drawn -/
def winS (o m : Int) (s : Stm) : Con × Stm :=
  (.win o (1 + digit s m) (1 + digit s m + digit (nextS s m) (m + 1 - (1 + digit s m))), nextS (nextS s m) (m + 1 - (1 + digit s m)))
def conS (s : Stm) (m : Int) : Con × Stm :=
  if m > 1 then
    if digit (nextS s m) 2 = 1 then (.ahd (digit s m) ((digit s m + 1 + digit (nextS (nextS s m) 2) (m - 1)) % m), nextS (nextS (nextS s m) 2) (m - 1))
    else winS (digit s m) m (nextS (nextS s m) 2)
  else winS (digit s m) m (nextS s m)
theorem winS_ok {o m : Int} {s : Stm} (hm : 0 < m) (ho : 0 ≤ o ∧ o < m) : WfC m (winS o m s).1 := by
  have h1 := digit_in (s := s) hm
  have h2 := digit_in (s := nextS s m) (m := m + 1 - (1 + digit s m)) (by omega)
  refine ⟨ho.1, ho.2, ?_, ?_, ?_⟩ <;> (show _ ≤ _) <;> omega
theorem conS_ok {m : Int} {s : Stm} (hm : 0 < m) : WfC m (conS s m).1 := by
  have h0 := digit_in (s := s) hm
  unfold conS
  split
  · rename_i h1
    split
    · have h2 := digit_in (s := nextS (nextS s m) 2) (m := m - 1) (by omega)
      generalize digit (nextS (nextS s m) 2) (m - 1) = e at h2
      generalize digit s m = o at h0
      have h3 := Int.emod_nonneg (o + 1 + e) (b := m) (by omega)
      have h4 := Int.emod_lt_of_pos (o + 1 + e) hm
      refine ⟨h0.1, h0.2, h3, h4, ?_⟩
      intro z
      by_cases hc : o + 1 + e < m
      · rw [Int.emod_eq_of_lt (by omega) hc] at z
        omega
      · have : (o + 1 + e) % m = o + 1 + e - m := by
          rw [← Int.sub_emod_right, Int.emod_eq_of_lt (by omega) (by omega)]
        omega
    · exact winS_ok hm h0
  · exact winS_ok hm h0
structure DrS where
  cs : List Con
  s : Stm
def drStep (n : Int) (t : List Int) (d : DrS) : DrS :=
  let c := conS d.s n
  if holdsB c.1 t then ⟨d.cs ++ [c.1], c.2⟩ else if digit c.2 8 = 0 then ⟨d.cs ++ [c.1], nextS c.2 8⟩ else ⟨d.cs, nextS c.2 8⟩
def drIt (n : Int) (t : List Int) (d : DrS) : Nat → DrS
  | 0 => d
  | k + 1 => drStep n t (drIt n t d k)
theorem drIt_ok {n : Int} {t : List Int} {s : Stm} (hn : 0 < n) : ∀ k : Nat, (drIt n t ⟨[], s⟩ k).cs.length ≤ k ∧ ∀ c ∈ (drIt n t ⟨[], s⟩ k).cs, WfC n c
  | 0 => ⟨Nat.le_refl _, by simp [drIt]⟩
  | k + 1 => by
    obtain ⟨h1, h2⟩ := drIt_ok (t := t) (s := s) hn k
    have h3 := conS_ok (s := (drIt n t ⟨[], s⟩ k).s) hn
    unfold drIt drStep
    simp only
    split
    · refine ⟨by rw [List.length_append, List.length_cons, List.length_nil]; omega, fun c hc => ?_⟩
      rcases List.mem_append.mp hc with q | q
      · exact h2 c q
      · have : c = (conS (drIt n t ⟨[], s⟩ k).s n).1 := by simpa using q
        rw [this]
        exact h3
    · split
      · refine ⟨by rw [List.length_append, List.length_cons, List.length_nil]; omega, fun c hc => ?_⟩
        rcases List.mem_append.mp hc with q | q
        · exact h2 c q
        · have : c = (conS (drIt n t ⟨[], s⟩ k).s n).1 := by simpa using q
          rw [this]
          exact h3
      · exact ⟨by show (drIt n t ⟨[], s⟩ k).cs.length ≤ k + 1; omega, h2⟩
def getR (l : List (List Int)) (i : Int) : List Int := l.getD i.toNat []
/-- the problem, the stream after it -/
def prN (s : Stm) (most : Int) : Int := 1 + digit s most
def prT (s : Stm) (most : Int) : List Int := getR (rks (prN s most)) (digit (nextS s most) ((rks (prN s most)).length : Nat))
def prS2 (s : Stm) (most : Int) : Stm := nextS (nextS s most) ((rks (prN s most)).length : Nat)
def prD (s : Stm) (most size : Int) : DrS := drIt (prN s most) (prT s most) ⟨[], nextS (prS2 s most) (size + 1)⟩ (digit (prS2 s most) (size + 1)).toNat
def probP (s : Stm) (most size : Int) : Prob := ⟨prN s most, (prD s most size).cs⟩
def probS (s : Stm) (most size : Int) : Stm := (prD s most size).s
theorem probP_ok {s : Stm} : OkP (probP s 5 6) ∧ (probP s 5 6).cs.length ≤ 6 := by
  have h1 := digit_in (s := s) (m := 5) (by decide)
  have h2 := digit_in (s := prS2 s 5) (m := 6 + 1) (by decide)
  have hn : 0 < prN s 5 := by unfold prN; omega
  have h3 := drIt_ok (t := prT s 5) (s := nextS (prS2 s 5) (6 + 1)) hn (digit (prS2 s 5) (6 + 1)).toNat
  have h4 : (probP s 5 6).cs.length ≤ (digit (prS2 s 5) (6 + 1)).toNat := h3.1
  refine ⟨⟨by show 1 ≤ prN s 5; omega, by show prN s 5 ≤ 5; unfold prN; omega, by omega, h3.2⟩, by omega⟩
theorem eqv_dR {r s : List Int} : PyData.eqv (dR r) (dR s) = decide (r = s) := by
  unfold dR
  rw [eqv_tt]
  induction r generalizing s with
  | nil =>
    cases s with
    | nil => simp [PyData.eqvAll]
    | cons y s => simp [PyData.eqvAll]
  | cons x r ih =>
    cases s with
    | nil => simp [PyData.eqvAll]
    | cons y s =>
      rw [List.map_cons, List.map_cons, PyData.eqvAll, ih, eqv_ii, Bool.eq_iff_iff]
      simp
theorem layAll_dR {gs : List (List Int)} : PyData.canLayAll0 (gs.map dR) = true := by
  rw [layAll_iff]
  intro x hx
  obtain ⟨r, _, rfl⟩ := List.mem_map.mp hx
  exact lay_dR
theorem shaped_dR {r : List Int} : SeqAt.shaped (dR r) = true := by
  unfold SeqAt.shaped
  rw [lay_dR]
  simp [dR, PyData.depth, depthAll_ints]
theorem any_dR {gs : List (List Int)} {r : List Int} : (gs.map dR).any (fun z => PyData.eqv z (dR r)) = decide (r ∈ gs) := by
  rw [Bool.eq_iff_iff, List.any_eq_true, decide_eq_true_eq]
  constructor
  · rintro ⟨x, hx, h⟩
    obtain ⟨c', hc, rfl⟩ := List.mem_map.mp hx
    rw [eqv_dR, decide_eq_true_eq] at h
    rw [← h]
    exact hc
  · intro h
    exact ⟨dR r, List.mem_map.mpr ⟨r, h, rfl⟩, by rw [eqv_dR]; simp⟩
theorem r2_inR {K : PySem.W.Frag} {gs : List (List Int)} {r : List Int} : R2D (rInS K) (dR r) (.list (gs.map dR)) (.bool (decide (r ∈ gs))) := by
  rw [← any_dR]
  exact r2_inL shaped_dR layAll_dR
/-- what the law's own judge answers -/
inductive LV (p : Prob) (i j : Int) : PyData → Bool → Prop
  | nt {v : PyData} : isTupB v = false → LV p i j v false
  | ln {xs : List PyData} : xs.length ≠ 2 → LV p i j (.tuple xs) false
  | ns {x y : PyData} : isStrB x = false → LV p i j (.tuple [x, y]) false
  | ah {y : PyData} : LV p i j (.tuple [.str sAhead, y]) (inBetw p i j y)
  | nb {y : PyData} : betw p i j ≠ [] → LV p i j (.tuple [.str sNever, y]) false
  | nv {y : PyData} {b : Bool} : betw p i j = [] → CV (mrg p i j) y b → LV p i j (.tuple [.str sNever, y]) b
  | bn {y : PyData} : isTupB y = false → LV p i j (.tuple [.str sBoth, y]) false
  | bt {xs : List PyData} : SeqAt.shaped (.tuple xs) = true → ((goods p).map dR).any (fun z => PyData.eqv z (.tuple xs)) = false → LV p i j (.tuple [.str sBoth, .tuple xs]) false
  | bo {r : List Int} : r ∈ goods p → LV p i j (.tuple [.str sBoth, dR r]) (decide (exch i j r ∈ goods p))
end RK

namespace RK
open PySem PySem.Spec PyProof.Rows L2 DL
local macro_rules | `(tactic| walk_at "sf") => `(tactic| first | exact True.intro | assumption)
local macro_rules | `(tactic| walk_at "sz") => `(tactic| first | decide | (simp only [List.length_cons, List.length_nil, List.length_map, List.length_append, List.length_reverse, rng_len, sizeLine_eq]; omega))
local macro_rules | `(tactic| walk_at "r2add") => `(tactic| first | exact r2_addI | exact r2_addT (by walk_at "sz") | exact r2_addL (by walk_at "sz"))
local macro_rules | `(tactic| walk_at "r2i0") => `(tactic| exact r2_I0)
local macro_rules | `(tactic| walk_at "r2b0") => `(tactic| exact r2_B0)
local macro_rules | `(tactic| walk_at "r2mul") => `(tactic| exact r2_I (by unfold CMul; omega))
local macro_rules | `(tactic| walk_at "r2mod") => `(tactic| exact r2_I (by first | omega | (show (0 : Int) < _; omega)))
local macro_rules | `(tactic| walk_at "r2div") => `(tactic| exact r2_I (by unfold CDiv; omega))
local macro_rules | `(tactic| walk_at "r2pow") => `(tactic| exact r2_I (by unfold CPow; decide))
local macro_rules | `(tactic| walk_at "r2eq") => `(tactic| first | exact r2_eqI | exact r2_eqS | exact r2_eqB | exact r2_eqD (by assumption) (by assumption))
local macro_rules | `(tactic| walk_at "r2ne") => `(tactic| first | exact r2_neI | exact r2_neS | exact r2_neB)
local macro_rules | `(tactic| walk_at "r2in") => `(tactic| first | exact r2_inLI | exact r2_inTI | assumption)
local macro_rules | `(tactic| walk_at "r2nin") => `(tactic| first | exact r2_ninLI | exact r2_ninTI | assumption)
local macro_rules | `(tactic| walk_at "r2is") => `(tactic| exact r2_isN)
local macro_rules | `(tactic| walk_at "r2isn") => `(tactic| exact r2_notN)
local macro_rules | `(tactic| walk_at "r2ix") => `(tactic| first | exact r2_ixT rfl | exact r2_ixL rfl | exact r2_ixT (by assumption) | exact r2_ixL (by assumption))
local macro_rules | `(tactic| walk_at "rc1") => `(tactic| first | exact rc_lenT | exact rc_lenL | exact rc_max2 | exact rc_max (by walk_at "sz") | exact rc_min (by walk_at "sz") | exact rc_max (ns := _ :: _) (by walk_at "sz") | exact rc_min (ns := _ :: _) (by walk_at "sz") | exact rc_all | exact rc_any | exact rc_abs | exact rc_int | exact rc_tupL | assumption)
local macro_rules | `(tactic| walk_at "mem") => `(tactic| first | assumption | (simp; done))
local macro_rules | `(tactic| walk_at "rr") => `(tactic| first | exact ⟨_, rfl, rfl⟩ | exact ⟨_, _, rfl, rfl⟩ | exact ⟨_, _, _, rfl, rfl⟩ | exact ⟨_, by assumption, rfl, rfl⟩ | exact ⟨_, _, by assumption, rfl, rfl⟩ | exact ⟨_, _, _, by assumption, rfl, rfl⟩ | exact ⟨_, _, _, _, rfl, rfl⟩ | exact ⟨_, _, _, _, by assumption, rfl, rfl⟩ | exact ⟨_, _, _, _, _, by assumption, rfl, rfl⟩ | assumption)
local macro_rules | `(tactic| walk_at "rg") => `(tactic| first | omega | (simp only [List.length_cons, List.length_nil, List.length_map]; omega))
local macro_rules | `(tactic| walk_at "hz") => `(tactic| first | assumption | (simp only [List.length_cons, List.length_nil, List.length_map, rng_len, List.length_zipIdx, List.length_zip]; omega) | omega)
local macro_rules | `(tactic| walk_at "bb") => `(tactic| first | rfl | (simp [truD, isTupB, isStrB, isIntB, isBoolB, wholeB, sAW, sWA]; done) | (simp_all [truD, isTupB, isStrB, isIntB, isBoolB, wholeB, sAW, sWA]; done) | (simp [truD, isTupB, isStrB, isIntB, isBoolB, wholeB, sAW, sWA]; omega))
local macro_rules | `(tactic| walk_at "blkfree") => `(tactic| ((repeat' (first | exact List.forall_mem_nil _ | refine List.forall_mem_cons.mpr ⟨?_, ?_⟩)) <;> first | (intro hf; cases hf; done) | exact fun _ => .inl rfl | exact fun _ => .inr rfl))
local macro_rules | `(tactic| walk_at "r2ixo") => `(tactic| first | rfl | assumption)
local macro_rules | `(tactic| walk_at "rm") => `(tactic| first | exact ⟨_, _, by first | assumption | omega, rfl, rfl, rfl, rfl⟩ | exact ⟨_, rfl, rfl, rfl, rfl⟩ | exact ⟨_, _, _, _, by assumption, rfl, rfl, rfl, rfl⟩ | assumption)

section
variable {P : Program} {w : World} {K : PySem.W.Frag} {mg : Str → Option Value} {base : Heap} {f : Addr} {fd : FuncData}
abbrev s__law_is_integer : Stmt := topS 68
theorem sc__law_is_integer : FnScope ["_law_actual"] ["_law_actual"] (defScope s__law_is_integer) := ⟨rfl, rfl, rfl, by decide +kernel, rfl, by decide +kernel, by decide +kernel⟩
def R__law_is_integer : List PyData → PyData → Prop := fun ds d => ∃ v, ds = [v] ∧ d = .bool (isIntN v)
theorem ok__law_is_integer (T : Txt mg) (F : Fun K "_law_is_integer" "_law_is_integer" s__law_is_integer f fd) :
    FnOk P w K mg base CX0 1 f fd ["_law_actual"] (SpP R__law_is_integer) := by
  refine fn_pure F sc__law_is_integer (by rintro _ _ ⟨v, rfl, rfl⟩; rfl) fun cdv A outer s H E hr ds d h => ?_
  obtain ⟨v, rfl, rfl⟩ := h
  refine sd_ret (pd_eq (by exact (pd_and (pd_isi (pd_var (i := 0) rfl rfl (.inl rfl)) rfl T.isinstance rfl T.int_ (by decide +kernel) kit_int) (fun _ => (pd_one (pd_not (pd_isi (pd_var (i := 0) rfl rfl (.inl rfl)) rfl T.isinstance rfl T.bool_ (by decide +kernel) kit_bool) (by walk_at "sf")))))) ?_) rfl
  cases v <;> simp [isIntB, isBoolB, isIntN, truD]
abbrev s__law_equal : Stmt := topS 69
theorem sc__law_equal : FnScope ["_law_actual", "_law_due", "_law_at"] ["_law_actual", "_law_due"] (defScope s__law_equal) := ⟨rfl, rfl, rfl, by decide +kernel, rfl, by decide +kernel, by decide +kernel⟩
def R__law_equal : List PyData → PyData → Prop := fun ds d => ∃ a b : Bool, True ∧ ds = [.bool a, .bool b] ∧ d = .bool (decide (a = b))
theorem ok__law_equal (T : Txt mg) (F : Fun K "_law_equal" "_law_equal" s__law_equal f fd)
    (C__law_is_integer : Cal P w K mg base 1 "_law_is_integer" (SpP R__law_is_integer)) :
    FnOk P w K mg base CX0 2 f fd ["_law_actual", "_law_due"] (SpP R__law_equal) := by
  refine fn_pure F sc__law_equal (by rintro _ _ ⟨a, b, _, rfl, rfl⟩; rfl) fun cdv A outer s H E hr ds d h => ?_
  obtain ⟨a, b, _, rfl, rfl⟩ := h
  refine sd_ifF (by exact (pdt_cmp op_isN (pd_var (i := 1) rfl rfl (.inr (.inl rfl))) pd_non (by walk_at "r2is") rfl)) (by rfl) ?_
  refine sd_ifT (by exact (pdt_tru (pd_isi (pd_var (i := 1) rfl rfl (.inr (.inl rfl))) rfl T.isinstance rfl T.bool_ (by decide +kernel) kit_bool) (by walk_at "sf"))) (by rfl) ?_
  exact sd_ret (pd_eq (by exact (pd_and (pd_isi (pd_var (i := 0) rfl rfl (.inr (.inl rfl))) rfl T.isinstance rfl T.bool_ (by decide +kernel) kit_bool) (fun _ => (pd_one (pd_cmp (op_eqAll hr.units) (pd_var (i := 0) rfl rfl (.inr (.inl rfl))) (pd_var (i := 1) rfl rfl (.inr (.inl rfl))) (by walk_at "r2eq") rfl))))) (by simp [isBoolB])) rfl
abbrev s__law_rankings : Stmt := topS 70
theorem sc__law_rankings : FnScope ["_law_many", "_law_rows", "_law_turn", "_law_longer", "_law_row", "_law_item"] ["_law_many"] (defScope s__law_rankings) := ⟨rfl, rfl, rfl, by decide +kernel, rfl, by decide +kernel, by decide +kernel⟩
def R__law_rankings : List PyData → PyData → Prop := fun ds d => ∃ n, (1 ≤ n ∧ n ≤ 5) ∧ ds = [.int n] ∧ d = .list ((rks n).map dR)
theorem ok__law_rankings (T : Txt mg) (F : Fun K "_law_rankings" "_law_rankings" s__law_rankings f fd) :
    FnOk P w K mg base CX0 1 f fd ["_law_many"] (SpP R__law_rankings) := by
  refine fn_pure F sc__law_rankings (by rintro _ _ ⟨n, hn, rfl, rfl⟩; rfl) fun cdv A outer s H E hr ds d h => ?_
  obtain ⟨n, hn, rfl, rfl⟩ := h
  obtain ⟨hn1, hn5⟩ := hn
  refine sd_nx (by exact (sd_asg (i := 1) sc__law_rankings.nd rfl (.inl rfl) (by exact (pd_lst (pda_cons (pd_tup pda_nil (by walk_at "sz")) pda_nil) (by walk_at "sz"))))) ?_
  refine sd_then (Pg := fun G' => ∃ tu lo ro : Option Sl, G' = [some (.d (.int n)), some (.d (.list ((rks n).map dR))), tu, lo, ro, none]) ?_ ?_
  · refine sp_for (xs := (rng 0 n.toNat).map PyData.int) (fun k G' => ∃ tu lo ro : Option Sl, G' = [some (.d (.int n)), some (.d (.list ((rkIt n k).map dR))), tu, lo, ro, none]) PassesOwn.never rfl (by exact (pdi_rng1 rfl T.range_ (by exact (pd_var (i := 0) rfl rfl (.inl rfl))) (by omega))) (pg_name (i := 2) sc__law_rankings.nd rfl (.inl rfl)) ⟨none, none, none, rfl⟩ ?_ ?_
    · rintro k d G' hd ⟨tu, lo, ro, rfl⟩
      obtain ⟨u, hu, rfl⟩ := some_map hd
      refine ⟨_, asg_name, ?_⟩
      have hk : k < n.toNat := by
        obtain ⟨h, _⟩ := List.getElem?_eq_some_iff.mp hu
        rw [rng_len] at h
        exact h
      have hok := rkIt_ok (n := n) k
      have hfew := rkIt_few hn5 k
      have hpw : 5 ^ k ≤ 5 ^ 4 := Nat.pow_le_pow_right (by decide) (by omega)
      generalize hrows : rkIt n k = rows at hok hfew ⊢
      refine sd_nx (by exact (sd_asg (i := 3) sc__law_rankings.nd rfl (.inl rfl) (by exact (pd_lst pda_nil (by walk_at "sz"))))) ?_
      refine sd_then (Pg := fun G' => ∃ ro : Option Sl, G' = [some (.d (.int n)), some (.d (.list (rows.map dR))), some (.d (.int u)), some (.d (.list ((rkNext n rows).map dR))), ro, none]) ?_ ?_
      · refine sp_for (xs := rows.map dR) (fun q G' => ∃ ro : Option Sl, G' = [some (.d (.int n)), some (.d (.list (rows.map dR))), some (.d (.int u)), some (.d (.list ((rkNext n (rows.take q)).map dR))), ro, none]) PassesOwn.never rfl (by exact (pdi_list (by exact (pd_var (i := 1) rfl rfl (.inl rfl))))) (pg_name (i := 4) sc__law_rankings.nd rfl (.inr rfl)) ⟨ro, rfl⟩ ?_ ?_
        · rintro q d G' hd ⟨ro, rfl⟩
          obtain ⟨r, hrq, rfl⟩ := some_map hd
          refine ⟨_, asg_name, ?_⟩
          have hg := hok r (some_mem hrq)
          have hl5 : r.length ≤ 10 := by rw [hg.ln]; omega
          have hz : (rng 0 n.toNat).length ≤ 100000 := by rw [rng_len]; omega
          have hfe := flat_few (f := rkExt n) (k := 5) (fun x => rkExt_few hn5) (rows.take q)
          have hfl : (rows.take q).length ≤ 5 ^ 4 := Nat.le_trans (by rw [List.length_take]; omega) (Nat.le_trans hfew hpw)
          have hce := rkExt_few hn5 (r := r)
          have e1 : ((rng 0 n.toNat).filter fun i => !decide (i ∈ r)).map (fun i => dR (r ++ [i])) = (rkExt n r).map dR := by
            unfold rkExt
            rw [List.map_map]
            rfl
          have hnx : (rkNext n (rows.take q)).length ≤ 5 * 5 ^ 4 := by
            unfold rkNext
            omega
          refine sd_nx (by exact (sd_asg (i := 3) (d := .list ((rkNext n (rows.take q)).map dR ++ (rkExt n r).map dR)) sc__law_rankings.nd rfl (.inl rfl) (by
            exact (pd_bin op_addAll (pd_var (i := 3) rfl rfl (.inl rfl)) (by
              rw [← e1]
              exact (pd_lc (zs := rng 0 n.toNat) (enc := PyData.int) (pr := fun i => !decide (i ∈ r)) (f := fun i => dR (r ++ [i])) (own := [("_law_item", 5)]) rfl sc__law_rankings.nd (pdi_rng1 rfl T.range_ (by exact (pd_var (i := 0) rfl rfl (.inl rfl))) (by walk_at "rg")) (blkOk_by (own := [("_law_item", 5)]) (N := ["_law_many", "_law_rows", "_law_turn", "_law_longer", "_law_row", "_law_item"]) (sc := defScope s__law_rankings) (by decide +kernel)) (by walk_at "hz") (stays_name (j := 5) (by decide)) (fun z _ => asg_name) (fun _ _ _ _ _ => pg_name (i := 5) sc__law_rankings.nd rfl (.inl rfl)) (fun _ _ _ _ _ z hz => by exact pdts_one (by exact (pdt_cmp (op_notInS (hu65 hr)) (pd_var (i := 5) rfl rfl (.inl rfl)) (pd_var (i := 4) rfl rfl (.inr (.inl rfl))) (by walk_at "r2nin") rfl))) (fun _ _ _ _ _ z hz hp => by exact pd_eq (by exact (pd_bin op_addAll (pd_var (i := 4) rfl rfl (.inr (.inl rfl))) (pd_tup (pda_cons (pd_var (i := 5) rfl rfl (.inl rfl)) pda_nil) (by walk_at "sz")) (by walk_at "r2add"))) dR_snoc))) (r2_addL (by rw [List.length_map, List.length_map, sizeLine_eq]; omega)))))) ?_
          refine sd_nil ⟨some (.d (dR r)), ?_⟩
          have e2 : rkNext n (rows.take (q + 1)) = rkNext n (rows.take q) ++ rkExt n r := by
            unfold rkNext
            rw [List.take_add_one, hrq, List.flatMap_append]
            simp
          rw [e2, List.map_append]
          rfl
        · rintro G' ⟨ro, rfl⟩
          refine ⟨ro, ?_⟩
          rw [List.length_map, List.take_length]
      · rintro G' ⟨ro, rfl⟩
        refine sd_nx (by exact (sd_asg (i := 1) sc__law_rankings.nd rfl (.inl rfl) (by exact (pd_var (i := 3) rfl rfl (.inl rfl))))) ?_
        refine sd_nil ⟨some (.d (.int u)), some (.d (.list ((rkNext n rows).map dR))), ro, ?_⟩
        show _ = [_, some (Sl.d (.list ((rkNext n (rkIt n k)).map dR))), _, _, _, _]
        rw [hrows]
        rfl
    · rintro G' ⟨tu, lo, ro, rfl⟩
      refine ⟨tu, lo, ro, ?_⟩
      rw [List.length_map, rng_len]
      rfl
  · rintro G' ⟨tu, lo, ro, rfl⟩
    exact sd_ret (by exact (pd_var (i := 1) rfl rfl (.inl rfl))) rfl
abbrev s__law_holds : Stmt := topS 71
theorem sc__law_holds : FnScope ["_law_constraint_here", "_law_ranking"] ["_law_constraint_here", "_law_ranking"] (defScope s__law_holds) := ⟨rfl, rfl, rfl, by decide +kernel, rfl, by decide +kernel, by decide +kernel⟩
def R__law_holds : List PyData → PyData → Prop := R_holds
theorem ok__law_holds (T : Txt mg) (F : Fun K "_law_holds" "_law_holds" s__law_holds f fd) :
    FnOk P w K mg base CX0 1 f fd ["_law_constraint_here", "_law_ranking"] (SpP R__law_holds) := by
  refine fn_pure F sc__law_holds (by rintro _ _ ⟨c, r, hi, rfl, rfl⟩; rfl) fun cdv A outer s H E hr ds d h => ?_
  obtain ⟨c, r, hi, rfl, rfl⟩ := h
  cases c with
  | ahd a b =>
    obtain ⟨h1, h2⟩ := hi
    unfold dC dR
    refine sd_ifT (by exact (pdt_cmp (op_eqAll hr.units) (pd_ix ix_seq (pd_var (i := 0) rfl rfl (.inl rfl)) pd_int (by walk_at "r2ix") (fun _ _ => rfl)) pd_str (by walk_at "r2eq") rfl)) (by walk_at "bb") ?_
    exact sd_ret (by exact (pd_cmp op_lt (pd_index hr.hd (pd_var (i := 1) rfl rfl (.inl rfl)) (pd_ix ix_seq (pd_var (i := 0) rfl rfl (.inl rfl)) pd_int (by walk_at "r2ix") (fun _ _ => rfl)) (by walk_at "mem")) (pd_index hr.hd (pd_var (i := 1) rfl rfl (.inl rfl)) (pd_ix ix_seq (pd_var (i := 0) rfl rfl (.inl rfl)) pd_int (by walk_at "r2ix") (fun _ _ => rfl)) (by walk_at "mem")) (by walk_at "r2b0") rfl)) rfl
  | win i lo hi' =>
    have h1 : i ∈ r := hi
    unfold dC dR
    refine sd_ifF (by exact (pdt_cmp (op_eqAll hr.units) (pd_ix ix_seq (pd_var (i := 0) rfl rfl (.inl rfl)) pd_int (by walk_at "r2ix") (fun _ _ => rfl)) pd_str (by walk_at "r2eq") rfl)) (by decide +kernel) ?_
    exact sd_ret (by exact (pd_chain op_le op_le (pd_ix ix_seq (pd_var (i := 0) rfl rfl (.inl rfl)) pd_int (by walk_at "r2ix") (fun _ _ => rfl)) (pd_bin op_addAll (pd_index hr.hd (pd_var (i := 1) rfl rfl (.inl rfl)) (pd_ix ix_seq (pd_var (i := 0) rfl rfl (.inl rfl)) pd_int (by walk_at "r2ix") (fun _ _ => rfl)) (by walk_at "mem")) pd_int (by walk_at "r2add")) (pd_ix ix_seq (pd_var (i := 0) rfl rfl (.inl rfl)) pd_int (by walk_at "r2ix") (fun _ _ => rfl)) (by walk_at "r2b0") (fun _ => by walk_at "r2b0"))) rfl
abbrev s__law_good : Stmt := topS 72
theorem sc__law_good : FnScope ["_law_many", "_law_constraints", "_law_ranking", "_law_one"] ["_law_many", "_law_constraints"] (defScope s__law_good) := ⟨rfl, rfl, rfl, by decide +kernel, rfl, by decide +kernel, by decide +kernel⟩
def R__law_good : List PyData → PyData → Prop := fun ds d => ∃ p, OkP p ∧ ds = [.int p.n, .tuple (p.cs.map dC)] ∧ d = .list ((goods p).map dR)
theorem ok__law_good (T : Txt mg) (F : Fun K "_law_good" "_law_good" s__law_good f fd)
    (C__law_rankings : Cal P w K mg base 1 "_law_rankings" (SpP R__law_rankings))
    (C__law_holds : Cal P w K mg base 1 "_law_holds" (SpP R__law_holds)) :
    FnOk P w K mg base CX0 2 f fd ["_law_many", "_law_constraints"] (SpP R__law_good) := by
  refine fn_pure F sc__law_good (by rintro _ _ ⟨p, hp, rfl, rfl⟩; rfl) fun cdv A outer s H E hr ds d h => ?_
  obtain ⟨p, hp, rfl, rfl⟩ := h
  have hn : 1 ≤ p.n ∧ p.n ≤ 5 := ⟨hp.n1, hp.n5⟩
  have hc := hp.c12
  have hz : (rks p.n).length ≤ 100000 := Nat.le_trans (rks_few hn.2) (by decide)
  exact sd_ret (by exact (pd_lc (zs := rks p.n) (enc := dR) (pr := fun r => (p.cs.map fun c => holdsB c r).all id) (f := dR) (own := [("_law_ranking", 2)]) rfl sc__law_good.nd (pdi_list (by exact (pd_call C__law_rankings (hr.mono (by decide)) rfl (pda_cons (pd_var (i := 0) rfl rfl (.inl rfl)) pda_nil) (by walk_at "rr")))) (blkOk_by (own := [("_law_ranking", 2)]) (N := ["_law_many", "_law_constraints", "_law_ranking", "_law_one"]) (sc := defScope s__law_good) (by decide +kernel)) (by walk_at "hz") (stays_name (j := 2) (by decide)) (fun z _ => asg_name) (fun _ _ _ _ _ => pg_name (i := 2) sc__law_good.nd rfl (.inr rfl)) (fun _ _ _ _ _ z hz => by
    have hzz : p.cs.length ≤ 100000 := by omega
    have hin := inR_full hp (rks_mem.mp hz).g
    exact pdts_one (by exact (pdt_eq (by exact (pdt_tru (pd_callB (cr_all rfl) rfl T.all_ (by decide +kernel) (pda_cons (pd_lcb (zs := p.cs) (enc := dC) (f := fun c => holdsB c z) (own := [("_law_one", 3)]) rfl sc__law_good.nd (pdi_tup (by exact (pd_var (i := 1) rfl rfl (.inr (.inl rfl))))) (blkOk_nest (N := ["_law_many", "_law_constraints", "_law_ranking", "_law_one"]) rfl (by decide +kernel) (by walk_at "blkfree")) (by walk_at "hz") (stays_name (j := 3) (by decide)) (fun z _ => asg_name) (fun _ _ _ _ _ => pg_name (i := 3) sc__law_good.nd rfl (.inl rfl)) (fun _ _ _ _ _ y hy => by
      have hy2 := hin y hy
      exact (pd_call C__law_holds (hr.mono (by decide)) rfl (pda_cons (pd_var (i := 3) rfl rfl (.inl rfl)) (pda_cons (pd_var (i := 2) rfl rfl (.inr (.inl rfl))) pda_nil)) (by walk_at "rr")))) pda_nil) rc_all) (by walk_at "sf"))) (by exact rfl)))) (fun _ _ _ _ _ z hz _ => by exact (pd_var (i := 2) rfl rfl (.inr (.inl rfl)))))) rfl
abbrev s__law_exchanged : Stmt := topS 75
theorem sc__law_exchanged : FnScope ["_law_ranking", "_law_one", "_law_other", "_law_found", "_law_item"] ["_law_ranking", "_law_one", "_law_other"] (defScope s__law_exchanged) := ⟨rfl, rfl, rfl, by decide +kernel, rfl, by decide +kernel, by decide +kernel⟩
def R__law_exchanged : List PyData → PyData → Prop := fun ds d => ∃ r i j, r.length ≤ 1000 ∧ ds = [dR r, .int i, .int j] ∧ d = dR (exch i j r)
theorem ok__law_exchanged (T : Txt mg) (F : Fun K "_law_exchanged" "_law_exchanged" s__law_exchanged f fd) :
    FnOk P w K mg base CX0 1 f fd ["_law_ranking", "_law_one", "_law_other"] (SpP R__law_exchanged) := by
  refine fn_pure F sc__law_exchanged (by rintro _ _ ⟨r, i, j, hl, rfl, rfl⟩; rfl) fun cdv A outer s H E hr ds d h => ?_
  obtain ⟨r, i, j, hl, rfl, rfl⟩ := h
  refine sd_nxA (by exact (sd_asgO (i := 3) sc__law_exchanged.nd rfl (.inl rfl) (pdf_lst pda_nil (by decide)))) fun ao => ?_
  refine sd_then (Pg := fun G' => ∃ it : Option Sl, G' = [some (.d (dR r)), some (.d (.int i)), some (.d (.int j)), some (.own ao ((exch i j r).map PyData.int)), it]) ?_ ?_
  · refine sp_for (xs := r.map PyData.int) (fun k G' => ∃ it : Option Sl, G' = [some (.d (dR r)), some (.d (.int i)), some (.d (.int j)), some (.own ao ((exch i j (r.take k)).map PyData.int)), it]) PassesOwn.never rfl (by exact (pdi_tup (by exact (pd_var (i := 0) rfl rfl (.inl rfl))))) (pg_name (i := 4) sc__law_exchanged.nd rfl (.inl rfl)) ⟨none, rfl⟩ ?_ ?_
    · rintro k d G' hd ⟨it, rfl⟩
      obtain ⟨x, hx, rfl⟩ := some_map hd
      refine ⟨_, asg_name, ?_⟩
      have hlk : (exch i j (r.take k)).length ≤ 1000 := by
        unfold exch
        rw [List.length_map, List.length_take]
        omega
      have hend : exch i j (r.take (k + 1)) = exch i j (r.take k) ++ [swp i j x] := by
        unfold exch
        rw [List.take_add_one, hx, List.map_append]
        rfl
      refine sd_one (sp_if (by exact (pdt_cmp (op_eqAll hr.units) (pd_var (i := 4) rfl rfl (.inl rfl)) (pd_var (i := 1) rfl rfl (.inl rfl)) (by walk_at "r2eq") rfl)) (fun hb => ?_) (fun hb => ?_))
      · have hb' : x = i := by simpa using hb
        refine sd_nx (by exact (sd_app (i := 3) rfl (.inl rfl) (by exact (pd_var (i := 2) rfl rfl (.inl rfl))) rfl rfl (by rw [List.length_map]; omega))) ?_
        refine sd_nil ⟨some (.d (.int x)), ?_⟩
        rw [hend, List.map_append]
        unfold swp
        rw [if_pos hb']
        rfl
      · have hb' : ¬ x = i := by simpa using hb
        refine sd_one (sp_if (by exact (pdt_cmp (op_eqAll hr.units) (pd_var (i := 4) rfl rfl (.inl rfl)) (pd_var (i := 2) rfl rfl (.inl rfl)) (by walk_at "r2eq") rfl)) (fun hc => ?_) (fun hc => ?_))
        · have hc' : x = j := by simpa using hc
          refine sd_nx (by exact (sd_app (i := 3) rfl (.inl rfl) (by exact (pd_var (i := 1) rfl rfl (.inl rfl))) rfl rfl (by rw [List.length_map]; omega))) ?_
          refine sd_nil ⟨some (.d (.int x)), ?_⟩
          rw [hend, List.map_append]
          unfold swp
          rw [if_neg hb', if_pos hc']
          rfl
        · have hc' : ¬ x = j := by simpa using hc
          refine sd_nx (by exact (sd_app (i := 3) rfl (.inl rfl) (by exact (pd_var (i := 4) rfl rfl (.inl rfl))) rfl rfl (by rw [List.length_map]; omega))) ?_
          refine sd_nil ⟨some (.d (.int x)), ?_⟩
          rw [hend, List.map_append]
          unfold swp
          rw [if_neg hb', if_neg hc']
          rfl
    · rintro G' ⟨it, rfl⟩
      refine ⟨it, ?_⟩
      rw [List.length_map, List.take_length]
  · rintro G' ⟨it, rfl⟩
    refine freeze (i := 3) rfl (by simp) ?_
    exact sd_ret (by exact (pd_callTy call_tuple_ofF rfl T.tuple_ (by decide +kernel) (pda_cons (pd_var (i := 3) rfl rfl (.inl rfl)) pda_nil) (by walk_at "rc1"))) rfl
abbrev s__law_can_be : Stmt := topS 76
theorem sc__law_can_be : FnScope ["_law_good_here", "_law_one", "_law_other", "_law_ranking"] ["_law_good_here", "_law_one", "_law_other"] (defScope s__law_can_be) := ⟨rfl, rfl, rfl, by decide +kernel, rfl, by decide +kernel, by decide +kernel⟩
def canB (gs : List (List Int)) (i j : Int) : Bool := (gs.map fun r => decide (exch i j r ∈ gs)).any id
def R__law_can_be : List PyData → PyData → Prop := fun ds d => ∃ (gs : List (List Int)) (i j : Int), (gs.length ≤ 10000 ∧ ∀ r ∈ gs, r.length ≤ 1000) ∧ ds = [.list (gs.map dR), .int i, .int j] ∧ d = .bool (canB gs i j)
theorem ok__law_can_be (T : Txt mg) (F : Fun K "_law_can_be" "_law_can_be" s__law_can_be f fd)
    (C__law_exchanged : Cal P w K mg base 1 "_law_exchanged" (SpP R__law_exchanged)) :
    FnOk P w K mg base CX0 2 f fd ["_law_good_here", "_law_one", "_law_other"] (SpP R__law_can_be) := by
  refine fn_pure F sc__law_can_be (by rintro _ _ ⟨gs, i, j, hh, rfl, rfl⟩; rfl) fun cdv A outer s H E hr ds d h => ?_
  obtain ⟨gs, i, j, hh, rfl, rfl⟩ := h
  obtain ⟨hg, hl⟩ := hh
  have hz : gs.length ≤ 100000 := by omega
  exact sd_ret (by exact (pd_callB (cr_any rfl) rfl T.any_ (by decide +kernel) (pda_cons (pd_lcb (zs := gs) (enc := dR) (f := fun r => decide (exch i j r ∈ gs)) (own := [("_law_ranking", 3)]) rfl sc__law_can_be.nd (pdi_list (by exact (pd_var (i := 0) rfl rfl (.inr (.inl rfl))))) (blkOk_by (own := [("_law_ranking", 3)]) (N := ["_law_good_here", "_law_one", "_law_other", "_law_ranking"]) (sc := defScope s__law_can_be) (by decide +kernel)) (by walk_at "hz") (stays_name (j := 3) (by decide)) (fun z _ => asg_name) (fun _ _ _ _ _ => pg_name (i := 3) sc__law_can_be.nd rfl (.inl rfl)) (fun _ _ _ _ _ z hz => by
    have hzl := hl z hz
    have hin := r2_inR (K := K) (gs := gs) (r := exch i j z)
    exact (pd_cmp (op_inS (hu65 hr)) (pd_call C__law_exchanged (hr.mono (by decide)) rfl (pda_cons (pd_var (i := 3) rfl rfl (.inl rfl)) (pda_cons (pd_var (i := 1) rfl rfl (.inr (.inl rfl))) (pda_cons (pd_var (i := 2) rfl rfl (.inr (.inl rfl))) pda_nil))) (by walk_at "rr")) (pd_var (i := 0) rfl rfl (.inr (.inl rfl))) (by walk_at "r2in") rfl))) pda_nil) rc_any)) rfl
end
end RK

namespace RK
open PySem PySem.Spec PyProof.Rows L2 DL
theorem inR_wf {n : Int} {c : Con} {t : List Int} (hn : 0 < n) (hw : WfC n c) (h : FnN n n.toNat t) : InR c t := by
  cases c with
  | win i lo hi => exact full_in (by omega) h.ln h.nd h.rg i hw.1 hw.2.1
  | ahd a b => exact ⟨full_in (by omega) h.ln h.nd h.rg a hw.1 hw.2.1, full_in (by omega) h.ln h.nd h.rg b hw.2.2.1 hw.2.2.2.1⟩
theorem getR_mem {l : List (List Int)} {i : Int} (h0 : 0 ≤ i) (h1 : i < (l.length : Nat)) : getR l i ∈ l := by
  unfold getR
  rw [List.getD_eq_getElem?_getD, List.getElem?_eq_getElem (by omega)]
  exact List.getElem_mem (by omega)
theorem getR_at {l : List (List Int)} {i : Int} (h0 : 0 ≤ i) (h1 : i < (l.length : Nat)) : atI (l.map dR) i = some (dR (getR l i)) := by
  have h2 : i.toNat < l.length := by omega
  have h3 : (l.map dR)[i.toNat]? = some (dR (getR l i)) := by
    unfold getR
    rw [List.getElem?_map, List.getD_eq_getElem?_getD, List.getElem?_eq_getElem h2]
    rfl
  have h4 := atI_nat h3
  rw [show ((i.toNat : Nat) : Int) = i by omega] at h4
  exact h4
theorem prT_ok {s : Stm} : FnN (prN s 5) (prN s 5).toNat (prT s 5) := by
  have h := digit_in (s := nextS s 5) (m := ((rks (prN s 5)).length : Nat)) (by have := rks_pos (n := prN s 5); omega)
  exact rks_mem.mp (getR_mem h.1 h.2)
def conAt (cs : List Con) (k : Int) : Con := cs.getD k.toNat (.ahd 0 0)
theorem rng_succ {a : Int} {n : Nat} : rng a (n + 1) = a :: rng (a + 1) n := by
  unfold rng
  rw [List.range_succ_eq_map, List.map_cons, List.map_map]
  congr 1
  · simp
  · apply List.map_congr_left
    intro k _
    show a + ((k + 1 : Nat) : Int) = a + 1 + (k : Int)
    omega
theorem betw_rng {q : Con → Bool} : ∀ (cs pre : List Con), (rng (pre.length : Nat) cs.length).filter (fun k => q (conAt (pre ++ cs) k)) = ((cs.zipIdx pre.length).filter fun x => q x.1).map fun x => ((x.2 : Nat) : Int)
  | [], pre => by simp [rng]
  | c :: cs, pre => by
    have ih := betw_rng (q := q) cs (pre ++ [c])
    rw [List.length_append, List.length_cons, List.length_nil, List.append_assoc] at ih
    rw [List.length_cons, rng_succ, List.filter_cons, List.zipIdx_cons, List.filter_cons]
    have e1 : conAt (pre ++ c :: cs) (pre.length : Nat) = c := by
      unfold conAt
      rw [Int.toNat_natCast, List.getD_eq_getElem?_getD, List.getElem?_append_right (Nat.le_refl _), Nat.sub_self]
      rfl
    rw [e1]
    have e2 : pre ++ ([c] ++ cs) = pre ++ c :: cs := rfl
    rw [e2, show (((pre.length + 1 : Nat)) : Int) = (pre.length : Nat) + 1 by omega] at ih
    have e3 : pre.length + (0 + 1) = pre.length + 1 := rfl
    rw [ih]
    split <;> rfl
theorem betw_eq {p : Prob} {i j : Int} : (rng 0 p.cs.length).filter (fun k => decide (conAt p.cs k ∈ [Con.ahd i j, Con.ahd j i])) = betw p i j := betw_rng (q := fun c => decide (c ∈ [Con.ahd i j, Con.ahd j i])) p.cs []
theorem conAt_at {cs : List Con} {k : Int} (h0 : 0 ≤ k) (h1 : k < (cs.length : Nat)) : atI (cs.map dC) k = some (dC (conAt cs k)) := by
  have h2 : k.toNat < cs.length := by omega
  have h3 : (cs.map dC)[k.toNat]? = some (dC (conAt cs k)) := by
    unfold conAt
    rw [List.getElem?_map, List.getD_eq_getElem?_getD, List.getElem?_eq_getElem h2]
    rfl
  have h4 := atI_nat h3
  rw [show ((k.toNat : Nat) : Int) = k by omega] at h4
  exact h4
end RK

namespace RK
open PySem PySem.Spec PyProof.Rows L2 DL
local macro_rules | `(tactic| walk_at "sf") => `(tactic| first | exact True.intro | assumption)
local macro_rules | `(tactic| walk_at "sz") => `(tactic| first | decide | (simp only [List.length_cons, List.length_nil, List.length_map, List.length_append, List.length_reverse, rng_len, sizeLine_eq]; omega))
local macro_rules | `(tactic| walk_at "r2add") => `(tactic| first | exact r2_addI | exact r2_addT (by walk_at "sz") | exact r2_addL (by walk_at "sz"))
local macro_rules | `(tactic| walk_at "r2i0") => `(tactic| exact r2_I0)
local macro_rules | `(tactic| walk_at "r2b0") => `(tactic| exact r2_B0)
local macro_rules | `(tactic| walk_at "r2mul") => `(tactic| exact r2_I (by unfold CMul; omega))
local macro_rules | `(tactic| walk_at "r2mod") => `(tactic| exact r2_I (by first | omega | (show (0 : Int) < _; omega)))
local macro_rules | `(tactic| walk_at "r2div") => `(tactic| exact r2_I (by unfold CDiv; omega))
local macro_rules | `(tactic| walk_at "r2pow") => `(tactic| exact r2_I (by unfold CPow; decide))
local macro_rules | `(tactic| walk_at "r2eq") => `(tactic| first | exact r2_eqI | exact r2_eqS | exact r2_eqB | exact r2_eqD (by assumption) (by assumption))
local macro_rules | `(tactic| walk_at "r2ne") => `(tactic| first | exact r2_neI | exact r2_neS | exact r2_neB)
local macro_rules | `(tactic| walk_at "r2in") => `(tactic| first | exact r2_inLI | exact r2_inTI | assumption)
local macro_rules | `(tactic| walk_at "r2nin") => `(tactic| first | exact r2_ninLI | exact r2_ninTI | assumption)
local macro_rules | `(tactic| walk_at "r2is") => `(tactic| exact r2_isN)
local macro_rules | `(tactic| walk_at "r2isn") => `(tactic| exact r2_notN)
local macro_rules | `(tactic| walk_at "r2ix") => `(tactic| first | exact r2_ixT rfl | exact r2_ixL rfl | exact r2_ixT (by assumption) | exact r2_ixL (by assumption))
local macro_rules | `(tactic| walk_at "rc1") => `(tactic| first | exact rc_lenT | exact rc_lenL | exact rc_max2 | exact rc_max (by walk_at "sz") | exact rc_min (by walk_at "sz") | exact rc_max (ns := _ :: _) (by walk_at "sz") | exact rc_min (ns := _ :: _) (by walk_at "sz") | exact rc_all | exact rc_any | exact rc_abs | exact rc_int | exact rc_tupL | assumption)
local macro_rules | `(tactic| walk_at "mem") => `(tactic| first | assumption | (simp; done))
local macro_rules | `(tactic| walk_at "rr") => `(tactic| first | exact ⟨_, rfl, rfl⟩ | exact ⟨_, _, rfl, rfl⟩ | exact ⟨_, _, _, rfl, rfl⟩ | exact ⟨_, by assumption, rfl, rfl⟩ | exact ⟨_, _, by assumption, rfl, rfl⟩ | exact ⟨_, _, _, by assumption, rfl, rfl⟩ | exact ⟨_, _, _, _, rfl, rfl⟩ | exact ⟨_, _, _, _, by assumption, rfl, rfl⟩ | exact ⟨_, _, _, _, _, by assumption, rfl, rfl⟩ | assumption)
local macro_rules | `(tactic| walk_at "rg") => `(tactic| first | omega | (simp only [List.length_cons, List.length_nil, List.length_map]; omega))
local macro_rules | `(tactic| walk_at "hz") => `(tactic| first | assumption | (simp only [List.length_cons, List.length_nil, List.length_map, rng_len, List.length_zipIdx, List.length_zip]; omega) | omega)
local macro_rules | `(tactic| walk_at "bb") => `(tactic| first | rfl | (simp [truD, isTupB, isStrB, isIntB, isBoolB, wholeB, sAW, sWA]; done) | (simp_all [truD, isTupB, isStrB, isIntB, isBoolB, wholeB, sAW, sWA]; done) | (simp [truD, isTupB, isStrB, isIntB, isBoolB, wholeB, sAW, sWA]; omega))
local macro_rules | `(tactic| walk_at "blkfree") => `(tactic| ((repeat' (first | exact List.forall_mem_nil _ | refine List.forall_mem_cons.mpr ⟨?_, ?_⟩)) <;> first | (intro hf; cases hf; done) | exact fun _ => .inl rfl | exact fun _ => .inr rfl))
local macro_rules | `(tactic| walk_at "r2ixo") => `(tactic| first | rfl | assumption)
local macro_rules | `(tactic| walk_at "rm") => `(tactic| first | exact ⟨_, _, by first | assumption | omega, rfl, rfl, rfl, rfl⟩ | exact ⟨_, rfl, rfl, rfl, rfl⟩ | exact ⟨_, _, _, _, by assumption, rfl, rfl, rfl, rfl⟩ | assumption)

section
variable {P : Program} {w : World} {K : PySem.W.Frag} {mg : Str → Option Value} {base : Heap} {f : Addr} {fd : FuncData}
theorem freezeM {X : Cx} {mu : List Addr} {G : Gm} {i : Nat} {ds : List PyData} {body : List Stmt} {O : Outc → Prop} {a : Addr} (hG : G[i]? = some (some (.own a ds))) (hm : ∀ l ∈ mu, ∃ j es, j ≠ i ∧ G[j]? = some (some (.own l es))) (h : PSs X body (rdS mu (G.set i (some (.d (.list ds)))) O)) : PSs X body (rdS mu G O) :=
  pss_w h fun D sg H ⟨H0, B0, B, w, s, k⟩ => let ⟨B1, w1, _, s1⟩ := s.freeze hG w (fun hl => let ⟨j, es, hne, hj⟩ := hm a hl; hne (s.sep j i a es ds hj hG)); ⟨H0, B0, B1, w1, s1, k⟩
abbrev s__law_constraint : Stmt := topS 73
theorem sc__law_constraint : FnScope ["_law_stream_here", "_law_many", "_law_one", "_law_low"] ["_law_stream_here", "_law_many"] (defScope s__law_constraint) := ⟨rfl, rfl, rfl, by decide +kernel, rfl, by decide +kernel, by decide +kernel⟩
def R__law_constraint : List PyData → List PyData → PyData → List PyData → Prop := fun os ds d os' => ∃ s m, (0 < m ∧ m < 1000) ∧ os = stD s ∧ ds = [.int m] ∧ d = dC (conS s m).1 ∧ os' = stD (conS s m).2
theorem ok__law_constraint (T : Txt mg) (F : Fun K "_law_constraint" "_law_constraint" s__law_constraint f fd)
    (C__law_next : Cal P w K mg base 1 "_law_next" (SpM R__law_next)) :
    FnOk P w K mg base CX0 2 f fd ["_law_stream_here", "_law_many"] (SpM R__law_constraint) := by
  refine fn_mut F sc__law_constraint (by rintro _ _ _ _ ⟨s, m, hm, rfl, rfl, rfl, rfl⟩; rfl) fun cdv A outer s H E hr l os ds d os1 h => ?_
  obtain ⟨s, m, hm, rfl, rfl, rfl, rfl⟩ := h
  have hd0 := digit_in (s := s) hm.1
  have hm2 : 0 < m ∧ m < 1000000 := ⟨hm.1, by omega⟩
  have h22 : (0 : Int) < 2 ∧ (2 : Int) < 1000000 := by decide
  refine sd_nx (by exact (sd_asg (i := 2) sc__law_constraint.nd rfl (.inl rfl) (by exact (pd_callM (i := 0) C__law_next (hr.mono (by decide)) rfl rfl rfl (.inl rfl) (pda_cons (pd_var (i := 1) rfl rfl (.inl rfl)) pda_nil) (by walk_at "rm"))))) ?_
  generalize ho : digit s m = o at hd0 ⊢
  by_cases h1 : m > 1
  · have hm1 : 0 < m - 1 ∧ m - 1 < 1000000 := ⟨by omega, by omega⟩
    refine sd_ifL (b := decide (digit (nextS s m) 2 = 1)) (by exact (PW.pt (pdw_andT (pdt_eq (by exact (pdt_cmp op_gt (pd_var (i := 1) rfl rfl (.inl rfl)) pd_int (by walk_at "r2b0") rfl)) (by exact decide_eq_true h1)) (pdw_and1 (by exact (pdt_cmp (op_eqAll hr.units) (pd_callM (i := 0) C__law_next (hr.mono (by decide)) rfl rfl rfl (.inl rfl) (pda_cons pd_int pda_nil) (by walk_at "rm")) pd_int (by walk_at "r2eq") rfl)))))) (fun hb => ?_) (fun hb => ?_)
    · have hb' : digit (nextS s m) 2 = 1 := of_decide_eq_true hb
      have e : conS s m = (.ahd o ((o + 1 + digit (nextS (nextS s m) 2) (m - 1)) % m), nextS (nextS (nextS s m) 2) (m - 1)) := by
        unfold conS
        rw [if_pos h1, if_pos hb', ho]
      rw [e]
      exact sd_ret (by exact (pd_tup (pda_cons pd_str (pda_cons (pd_var (i := 2) rfl rfl (.inl rfl)) (pda_cons (pd_bin op_mod (pd_callTy call_int1 rfl T.int_ (by decide +kernel) (pda_cons (pd_bin op_addAll (pd_bin op_addAll (pd_var (i := 2) rfl rfl (.inl rfl)) pd_int (by walk_at "r2add")) (pd_callM (i := 0) C__law_next (hr.mono (by decide)) rfl rfl rfl (.inl rfl) (pda_cons (pd_bin op_sub (pd_var (i := 1) rfl rfl (.inl rfl)) pd_int (by walk_at "r2i0")) pda_nil) (by walk_at "rm")) (by walk_at "r2add")) pda_nil) (by walk_at "rc1")) (pd_var (i := 1) rfl rfl (.inl rfl)) (by walk_at "r2mod")) pda_nil))) (by walk_at "sz"))) ⟨rfl, rfl⟩
    · have hb' : ¬ digit (nextS s m) 2 = 1 := of_decide_eq_false hb
      have e : conS s m = winS o m (nextS (nextS s m) 2) := by
        unfold conS
        rw [if_pos h1, if_neg hb', ho]
      rw [e]
      generalize nextS (nextS s m) 2 = s2
      have hd1 := digit_in (s := s2) hm.1
      refine sd_nx (by exact (sd_asg (i := 3) sc__law_constraint.nd rfl (.inl rfl) (by exact (pd_bin op_addAll pd_int (pd_callM (i := 0) C__law_next (hr.mono (by decide)) rfl rfl rfl (.inl rfl) (pda_cons (pd_var (i := 1) rfl rfl (.inl rfl)) pda_nil) (by walk_at "rm")) (by walk_at "r2add"))))) ?_
      have hm3 : 0 < m + 1 - (1 + digit s2 m) ∧ m + 1 - (1 + digit s2 m) < 1000000 := ⟨by omega, by omega⟩
      exact sd_ret (by exact (pd_tup (pda_cons pd_str (pda_cons (pd_var (i := 2) rfl rfl (.inl rfl)) (pda_cons (pd_var (i := 3) rfl rfl (.inl rfl)) (pda_cons (pd_bin op_addAll (pd_var (i := 3) rfl rfl (.inl rfl)) (pd_callM (i := 0) C__law_next (hr.mono (by decide)) rfl rfl rfl (.inl rfl) (pda_cons (pd_bin op_sub (pd_bin op_addAll (pd_var (i := 1) rfl rfl (.inl rfl)) pd_int (by walk_at "r2add")) (pd_var (i := 3) rfl rfl (.inl rfl)) (by walk_at "r2i0")) pda_nil) (by walk_at "rm")) (by walk_at "r2add")) pda_nil)))) (by walk_at "sz"))) ⟨rfl, rfl⟩
  · refine sd_ifF (by exact (PW.pt (pdw_andF (pdt_eq (by exact (pdt_cmp op_gt (pd_var (i := 1) rfl rfl (.inl rfl)) pd_int (by walk_at "r2b0") rfl)) (by exact decide_eq_false h1))))) (by rfl) ?_
    have e : conS s m = winS o m (nextS s m) := by
      unfold conS
      rw [if_neg h1, ho]
    rw [e]
    generalize nextS s m = s2
    have hd1 := digit_in (s := s2) hm.1
    refine sd_nx (by exact (sd_asg (i := 3) sc__law_constraint.nd rfl (.inl rfl) (by exact (pd_bin op_addAll pd_int (pd_callM (i := 0) C__law_next (hr.mono (by decide)) rfl rfl rfl (.inl rfl) (pda_cons (pd_var (i := 1) rfl rfl (.inl rfl)) pda_nil) (by walk_at "rm")) (by walk_at "r2add"))))) ?_
    have hm3 : 0 < m + 1 - (1 + digit s2 m) ∧ m + 1 - (1 + digit s2 m) < 1000000 := ⟨by omega, by omega⟩
    exact sd_ret (by exact (pd_tup (pda_cons pd_str (pda_cons (pd_var (i := 2) rfl rfl (.inl rfl)) (pda_cons (pd_var (i := 3) rfl rfl (.inl rfl)) (pda_cons (pd_bin op_addAll (pd_var (i := 3) rfl rfl (.inl rfl)) (pd_callM (i := 0) C__law_next (hr.mono (by decide)) rfl rfl rfl (.inl rfl) (pda_cons (pd_bin op_sub (pd_bin op_addAll (pd_var (i := 1) rfl rfl (.inl rfl)) pd_int (by walk_at "r2add")) (pd_var (i := 3) rfl rfl (.inl rfl)) (by walk_at "r2i0")) pda_nil) (by walk_at "rm")) (by walk_at "r2add")) pda_nil)))) (by walk_at "sz"))) ⟨rfl, rfl⟩
abbrev s__law_problem : Stmt := topS 74
theorem sc__law_problem : FnScope ["_law_stream_here", "_law_most", "_law_size", "_law_many", "_law_found", "_law_target", "_law_turn", "_law_one"] ["_law_stream_here", "_law_most", "_law_size"] (defScope s__law_problem) := ⟨rfl, rfl, rfl, by decide +kernel, rfl, by decide +kernel, by decide +kernel⟩
def R__law_problem : List PyData → List PyData → PyData → List PyData → Prop := fun os ds d os' => ∃ s, os = stD s ∧ ds = [.int 5, .int 6] ∧ d = dP (probP s 5 6) ∧ os' = stD (probS s 5 6)
theorem ok__law_problem (T : Txt mg) (F : Fun K "_law_problem" "_law_problem" s__law_problem f fd)
    (C__law_rankings : Cal P w K mg base 1 "_law_rankings" (SpP R__law_rankings))
    (C__law_next : Cal P w K mg base 1 "_law_next" (SpM R__law_next))
    (C__law_constraint : Cal P w K mg base 2 "_law_constraint" (SpM R__law_constraint))
    (C__law_holds : Cal P w K mg base 1 "_law_holds" (SpP R__law_holds)) :
    FnOk P w K mg base CX0 3 f fd ["_law_stream_here", "_law_most", "_law_size"] (SpM R__law_problem) := by
  refine fn_mut F sc__law_problem (by rintro _ _ _ _ ⟨s, rfl, rfl, rfl, rfl⟩; rfl) fun cdv A outer s H E hr l os ds d os1 h => ?_
  obtain ⟨s, rfl, rfl, rfl, rfl⟩ := h
  have h5 : (0 : Int) < 5 ∧ (5 : Int) < 1000000 := by decide
  have h7 : (0 : Int) < 6 + 1 ∧ (6 + 1 : Int) < 1000000 := by decide
  have h8 : (0 : Int) < 8 ∧ (8 : Int) < 1000000 := by decide
  have hd := digit_in (s := s) h5.1
  have ht := prT_ok (s := s)
  have hpn : 1 ≤ prN s 5 ∧ prN s 5 ≤ 5 := by unfold prN; omega
  refine sd_nx (by exact (sd_asg (i := 3) (d := .int (prN s 5)) sc__law_problem.nd rfl (.inl rfl) (by exact (pd_bin op_addAll pd_int (pd_callM (i := 0) C__law_next (hr.mono (by decide)) rfl rfl rfl (.inl rfl) (pda_cons (pd_var (i := 1) rfl rfl (.inl rfl)) pda_nil) (by walk_at "rm")) (by walk_at "r2add"))))) ?_
  have epd : probP s 5 6 = ⟨prN s 5, (prD s 5 6).cs⟩ := rfl
  have eps : probS s 5 6 = (prD s 5 6).s := rfl
  have eprd : prD s 5 6 = drIt (prN s 5) (prT s 5) ⟨[], nextS (prS2 s 5) (6 + 1)⟩ (digit (prS2 s 5) (6 + 1)).toNat := rfl
  have hrl := rks_few hpn.2
  have hrp := rks_pos (n := prN s 5)
  have hm1 : 0 < (((rks (prN s 5)).length : Nat) : Int) ∧ (((rks (prN s 5)).length : Nat) : Int) < 1000000 := by omega
  refine sd_nxA (by exact (sd_asgO (i := 4) sc__law_problem.nd rfl (.inl rfl) (pdf_lst pda_nil (by decide)))) fun ao => ?_
  refine sd_nx (by exact (sd_asg (i := 5) sc__law_problem.nd rfl (.inl rfl) (by exact (pd_call C__law_rankings (hr.mono (by decide)) rfl (pda_cons (pd_var (i := 3) rfl rfl (.inl rfl)) pda_nil) (by walk_at "rr"))))) ?_
  have hdt := digit_in (s := nextS s 5) hm1.1
  have hat := getR_at (l := rks (prN s 5)) hdt.1 hdt.2
  have elen : (((rks (prN s 5)).map dR).length : Int) = ((rks (prN s 5)).length : Nat) := by rw [List.length_map]
  refine sd_nx (by exact (sd_asg (i := 5) (d := dR (prT s 5)) sc__law_problem.nd rfl (.inl rfl) (by exact (pd_ix ix_seq (pd_var (i := 5) rfl rfl (.inl rfl)) (by exact (pd_callM (i := 0) (os' := stD (prS2 s 5)) C__law_next (hr.mono (by decide)) rfl rfl rfl (.inl rfl) (pda_cons (by exact (pd_eq (by exact (pd_callB call_len rfl T.len_ (by decide +kernel) (pda_cons (pd_var (i := 5) rfl rfl (.inl rfl)) pda_nil) (by walk_at "rc1"))) (congrArg PyData.int elen))) pda_nil) ⟨_, _, hm1, rfl, rfl, rfl, rfl⟩)) (r2_ixL hat) (fun _ _ => rfl))))) ?_
  generalize hs2 : prS2 s 5 = s2 at eprd ⊢
  generalize hpt : prT s 5 = t at eprd ht ⊢
  generalize hnn : prN s 5 = n at epd eprd ht hpn ⊢
  have hd2 := digit_in (s := s2) h7.1
  generalize hdg : digit s2 (6 + 1) = dg at eprd hd2
  refine sd_then (Pg := fun G' => ∃ (tu on : Option Sl), G' = [some (.own l (stD (prD s 5 6).s)), some (.d (.int 5)), some (.d (.int 6)), some (.d (.int n)), some (.own ao ((prD s 5 6).cs.map dC)), some (.d (dR t)), tu, on]) ?_ ?_
  · refine sp_for (xs := (rng 0 dg.toNat).map PyData.int) (fun k G' => ∃ (tu on : Option Sl), G' = [some (.own l (stD (drIt n t ⟨[], nextS s2 (6 + 1)⟩ k).s)), some (.d (.int 5)), some (.d (.int 6)), some (.d (.int n)), some (.own ao ((drIt n t ⟨[], nextS s2 (6 + 1)⟩ k).cs.map dC)), some (.d (dR t)), tu, on]) PassesOwn.never rfl (by
        rw [← hdg]
        exact (pdi_rng1 rfl T.range_ (by exact (pd_callM (i := 0) C__law_next (hr.mono (by decide)) rfl rfl rfl (.inl rfl) (pda_cons (pd_bin op_addAll (pd_var (i := 2) rfl rfl (.inl rfl)) pd_int (by walk_at "r2add")) pda_nil) (by walk_at "rm"))) (by rw [hdg]; omega))) (pg_name (i := 6) sc__law_problem.nd rfl (.inl rfl)) ⟨none, none, rfl⟩ ?_ ?_
    · rintro k d G' hdk ⟨tu, on, rfl⟩
      obtain ⟨u, hu, rfl⟩ := some_map hdk
      refine ⟨_, asg_name, ?_⟩
      have hk : k < dg.toNat := by
        obtain ⟨h, _⟩ := List.getElem?_eq_some_iff.mp hu
        rw [rng_len] at h
        exact h
      have hok := drIt_ok (n := n) (t := t) (s := nextS s2 (6 + 1)) (by omega) k
      have hstep : drIt n t ⟨[], nextS s2 (6 + 1)⟩ (k + 1) = drStep n t (drIt n t ⟨[], nextS s2 (6 + 1)⟩ k) := rfl
      rw [hstep]
      generalize drIt n t ⟨[], nextS s2 (6 + 1)⟩ k = dd at hok ⊢
      have hnm : 0 < n ∧ n < 1000 := by omega
      have hwf := conS_ok (s := dd.s) hnm.1
      refine sd_nx (by exact (sd_asg (i := 7) sc__law_problem.nd rfl (.inl rfl) (by exact (pd_callM (i := 0) C__law_constraint (hr.mono (by decide)) rfl rfl rfl (.inl rfl) (pda_cons (pd_var (i := 3) rfl rfl (.inl rfl)) pda_nil) (by walk_at "rm"))))) ?_
      have hin := inR_wf hnm.1 hwf ht
      unfold drStep
      simp only
      generalize conS dd.s n = cc at hwf hin ⊢
      by_cases hh : holdsB cc.1 t = true
      · refine sd_one (sp_if (b := true) (by exact (PW.pt (pdw_orT (by exact (pdt_eq (by exact (pdt_tru (pd_call C__law_holds (hr.mono (by decide)) rfl (pda_cons (pd_var (i := 7) rfl rfl (.inl rfl)) (pda_cons (pd_var (i := 5) rfl rfl (.inl rfl)) pda_nil)) (by walk_at "rr")) (by walk_at "sf"))) (by exact hh)))))) (fun _ => ?_) (fun z => by cases z))
        refine sd_nx (by exact (sd_app (i := 4) (d := dC cc.1) rfl (.inl rfl) (by exact (pd_var (i := 7) rfl rfl (.inl rfl))) rfl rfl (by rw [List.length_map]; omega))) ?_
        refine sd_nil ⟨some (.d (.int u)), some (.d (dC cc.1)), ?_⟩
        rw [if_pos hh, List.map_append]
        rfl
      · have hh' : holdsB cc.1 t = false := by simpa using hh
        refine sd_one (sp_if (b := decide (digit cc.2 8 = 0)) (by exact (PW.pt (pdw_orF (by exact (pdt_eq (by exact (pdt_tru (pd_call C__law_holds (hr.mono (by decide)) rfl (pda_cons (pd_var (i := 7) rfl rfl (.inl rfl)) (pda_cons (pd_var (i := 5) rfl rfl (.inl rfl)) pda_nil)) (by walk_at "rr")) (by walk_at "sf"))) (by exact hh'))) (pdw_or1 (by exact (pdt_cmp (op_eqAll hr.units) (pd_callM (i := 0) C__law_next (hr.mono (by decide)) rfl rfl rfl (.inl rfl) (pda_cons pd_int pda_nil) (by walk_at "rm")) pd_int (by walk_at "r2eq") rfl)))))) (fun hb => ?_) (fun hb => ?_))
        · have hb' : digit cc.2 8 = 0 := of_decide_eq_true hb
          refine sd_nx (by exact (sd_app (i := 4) (d := dC cc.1) rfl (.inl rfl) (by exact (pd_var (i := 7) rfl rfl (.inl rfl))) rfl rfl (by rw [List.length_map]; omega))) ?_
          refine sd_nil ⟨some (.d (.int u)), some (.d (dC cc.1)), ?_⟩
          rw [if_neg hh, if_pos hb', List.map_append]
          rfl
        · have hb' : ¬ digit cc.2 8 = 0 := of_decide_eq_false hb
          refine sd_nil ⟨some (.d (.int u)), some (.d (dC cc.1)), ?_⟩
          rw [if_neg hh, if_neg hb']
          rfl
    · rintro G' ⟨tu, on, rfl⟩
      refine ⟨tu, on, ?_⟩
      rw [List.length_map, rng_len, eprd]
  · rintro G' ⟨tu, on, rfl⟩
    refine freezeM (i := 4) rfl (fun b hb => ⟨0, stD (prD s 5 6).s, by decide, by rw [List.mem_singleton.mp hb]; rfl⟩) ?_
    rw [epd, eps]
    exact sd_ret (by exact (pd_tup (pda_cons (pd_var (i := 3) rfl rfl (.inl rfl)) (pda_cons (pd_callTy call_tuple_ofF rfl T.tuple_ (by decide +kernel) (pda_cons (pd_var (i := 4) rfl rfl (.inl rfl)) pda_nil) (by walk_at "rc1")) pda_nil)) (by walk_at "sz"))) ⟨rfl, rfl⟩
end
end RK

namespace RK
open PySem PySem.Spec PyProof.Rows L2 DL
local macro_rules | `(tactic| walk_at "sf") => `(tactic| first | exact True.intro | assumption)
local macro_rules | `(tactic| walk_at "sz") => `(tactic| first | decide | (simp only [List.length_cons, List.length_nil, List.length_map, List.length_append, List.length_reverse, rng_len, sizeLine_eq]; omega))
local macro_rules | `(tactic| walk_at "r2add") => `(tactic| first | exact r2_addI | exact r2_addT (by walk_at "sz") | exact r2_addL (by walk_at "sz"))
local macro_rules | `(tactic| walk_at "r2i0") => `(tactic| exact r2_I0)
local macro_rules | `(tactic| walk_at "r2b0") => `(tactic| exact r2_B0)
local macro_rules | `(tactic| walk_at "r2mul") => `(tactic| exact r2_I (by unfold CMul; omega))
local macro_rules | `(tactic| walk_at "r2mod") => `(tactic| exact r2_I (by first | omega | (show (0 : Int) < _; omega)))
local macro_rules | `(tactic| walk_at "r2div") => `(tactic| exact r2_I (by unfold CDiv; omega))
local macro_rules | `(tactic| walk_at "r2pow") => `(tactic| exact r2_I (by unfold CPow; decide))
local macro_rules | `(tactic| walk_at "r2eq") => `(tactic| first | exact r2_eqI | exact r2_eqS | exact r2_eqB | exact r2_eqD (by assumption) (by assumption))
local macro_rules | `(tactic| walk_at "r2ne") => `(tactic| first | exact r2_neI | exact r2_neS | exact r2_neB)
local macro_rules | `(tactic| walk_at "r2in") => `(tactic| first | exact r2_inLI | exact r2_inTI | assumption)
local macro_rules | `(tactic| walk_at "r2nin") => `(tactic| first | exact r2_ninLI | exact r2_ninTI | assumption)
local macro_rules | `(tactic| walk_at "r2is") => `(tactic| exact r2_isN)
local macro_rules | `(tactic| walk_at "r2isn") => `(tactic| exact r2_notN)
local macro_rules | `(tactic| walk_at "r2ix") => `(tactic| first | exact r2_ixT rfl | exact r2_ixL rfl | exact r2_ixT (by assumption) | exact r2_ixL (by assumption))
local macro_rules | `(tactic| walk_at "rc1") => `(tactic| first | exact rc_lenT | exact rc_lenL | exact rc_max2 | exact rc_max (by walk_at "sz") | exact rc_min (by walk_at "sz") | exact rc_max (ns := _ :: _) (by walk_at "sz") | exact rc_min (ns := _ :: _) (by walk_at "sz") | exact rc_all | exact rc_any | exact rc_abs | exact rc_int | exact rc_tupL | assumption)
local macro_rules | `(tactic| walk_at "mem") => `(tactic| first | assumption | (simp; done))
local macro_rules | `(tactic| walk_at "rr") => `(tactic| first | exact ⟨_, rfl, rfl⟩ | exact ⟨_, _, rfl, rfl⟩ | exact ⟨_, _, _, rfl, rfl⟩ | exact ⟨_, by assumption, rfl, rfl⟩ | exact ⟨_, _, by assumption, rfl, rfl⟩ | exact ⟨_, _, _, by assumption, rfl, rfl⟩ | exact ⟨_, _, _, _, rfl, rfl⟩ | exact ⟨_, _, _, _, by assumption, rfl, rfl⟩ | exact ⟨_, _, _, _, _, by assumption, rfl, rfl⟩ | assumption)
local macro_rules | `(tactic| walk_at "rg") => `(tactic| first | omega | (simp only [List.length_cons, List.length_nil, List.length_map]; omega))
local macro_rules | `(tactic| walk_at "hz") => `(tactic| first | assumption | (simp only [List.length_cons, List.length_nil, List.length_map, rng_len, List.length_zipIdx, List.length_zip]; omega) | omega)
local macro_rules | `(tactic| walk_at "bb") => `(tactic| first | rfl | (simp [truD, isTupB, isStrB, isIntB, isBoolB, wholeB, sAW, sWA]; done) | (simp_all [truD, isTupB, isStrB, isIntB, isBoolB, wholeB, sAW, sWA]; done) | (simp [truD, isTupB, isStrB, isIntB, isBoolB, wholeB, sAW, sWA]; omega))
local macro_rules | `(tactic| walk_at "blkfree") => `(tactic| ((repeat' (first | exact List.forall_mem_nil _ | refine List.forall_mem_cons.mpr ⟨?_, ?_⟩)) <;> first | (intro hf; cases hf; done) | exact fun _ => .inl rfl | exact fun _ => .inr rfl))
local macro_rules | `(tactic| walk_at "r2ixo") => `(tactic| first | rfl | assumption)
local macro_rules | `(tactic| walk_at "rm") => `(tactic| first | exact ⟨_, _, by first | assumption | omega, rfl, rfl, rfl, rfl⟩ | exact ⟨_, rfl, rfl, rfl, rfl⟩ | exact ⟨_, _, _, _, by assumption, rfl, rfl, rfl, rfl⟩ | assumption)

section
variable {P : Program} {w : World} {K : PySem.W.Frag} {mg : Str → Option Value} {base : Heap} {f : Addr} {fd : FuncData}
abbrev s__law_is_evidence : Stmt := topS 77
theorem sc__law_is_evidence : FnScope ["_law_problem_here", "_law_good_here", "_law_one", "_law_other", "_law_value", "_law_between", "_law_at", "_law_item"] ["_law_problem_here", "_law_good_here", "_law_one", "_law_other", "_law_value"] (defScope s__law_is_evidence) := ⟨rfl, rfl, rfl, by decide +kernel, rfl, by decide +kernel, by decide +kernel⟩
def R__law_is_evidence : List PyData → PyData → Prop := fun ds d => ∃ p i j v b, (PairOk p i j ∧ LV p i j v b) ∧ ds = [dP p, .list ((goods p).map dR), .int i, .int j, v] ∧ d = .bool b
theorem ok__law_is_evidence (T : Txt mg) (F : Fun K "_law_is_evidence" "_law_is_evidence" s__law_is_evidence f fd)
    (C_accepts_contradiction : Cal P w K mg base 8 "accepts_contradiction" (SpP R_accepts_contradiction))
    (C__law_is_integer : Cal P w K mg base 1 "_law_is_integer" (SpP R__law_is_integer))
    (C_merged : Cal P w K mg base 6 "merged" (SpP R_merged))
    (C__law_exchanged : Cal P w K mg base 1 "_law_exchanged" (SpP R__law_exchanged)) :
    FnOk P w K mg base CX0 9 f fd ["_law_problem_here", "_law_good_here", "_law_one", "_law_other", "_law_value"] (SpP R__law_is_evidence) := by
  refine fn_pure F sc__law_is_evidence (by rintro _ _ ⟨p, i, j, v, b, hh, rfl, rfl⟩; rfl) fun cdv A outer s H E hr ds d h => ?_
  obtain ⟨p, i, j, v, b, hh, rfl, rfl⟩ := h
  obtain ⟨ho, hv⟩ := hh
  have hp := ho.ok
  have hc := hp.c12
  have hmp := ho.mrg
  have hn1 := hp.n1
  have hz : (rng 0 ((((p.cs.map dC).length : Nat) : Int)).toNat).length ≤ 100000 := by
    rw [rng_len, List.length_map]
    omega
  have ebt : (((rng 0 ((((p.cs.map dC).length : Nat) : Int)).toNat).filter fun k => decide (conAt p.cs k ∈ [Con.ahd i j, Con.ahd j i])).map fun k => k) = betw p i j := by
    rw [List.map_id', List.length_map, Int.toNat_natCast]
    exact betw_eq
  cases hv with
  | nt ht =>
    refine sd_ifT (by exact (PW.pt (pdw_orT (pdt_eq (by exact (pdt_not (pdt_tru (pd_isi (pd_var (i := 4) rfl rfl (.inl rfl)) rfl T.isinstance rfl T.tuple_ (by decide +kernel) kit_tup) (by walk_at "sf")))) (by simp [ht, truD]))))) rfl ?_
    exact sd_ret (by exact pd_bl) rfl
  | @ln xs hl =>
    refine sd_ifT (by exact (PW.pt (pdw_orF (pdt_eq (by exact (pdt_not (pdt_tru (pd_isi (pd_var (i := 4) rfl rfl (.inl rfl)) rfl T.isinstance rfl T.tuple_ (by decide +kernel) kit_tup) (by walk_at "sf")))) (by simp [isTupB, truD])) (pdw_orT (pdt_eq (by exact (pdt_cmp (op_neAll hr.units) (pd_callB call_len rfl T.len_ (by decide +kernel) (pda_cons (pd_var (i := 4) rfl rfl (.inl rfl)) pda_nil) (by walk_at "rc1")) pd_int (by walk_at "r2ne") rfl)) (by simp; omega)))))) rfl ?_
    exact sd_ret (by exact pd_bl) rfl
  | @ns x y hs =>
    refine sd_ifT (by exact (PW.pt (pdw_or (pdt_not (pdt_tru (pd_isi (pd_var (i := 4) rfl rfl (.inl rfl)) rfl T.isinstance rfl T.tuple_ (by decide +kernel) kit_tup) (by walk_at "sf"))) (fun _ => (pdw_or (pdt_cmp (op_neAll hr.units) (pd_callB call_len rfl T.len_ (by decide +kernel) (pda_cons (pd_var (i := 4) rfl rfl (.inl rfl)) pda_nil) (by walk_at "rc1")) pd_int (by walk_at "r2ne") rfl) (fun _ => (pdw_or1 (pdt_not (pdt_tru (pd_isi (pd_ix ix_seq (pd_var (i := 4) rfl rfl (.inl rfl)) pd_int (by walk_at "r2ix") (fun _ _ => rfl)) rfl T.isinstance rfl T.str_ (by decide +kernel) kit_str) (by walk_at "sf")))))))))) (by simp [isTupB, truD, hs]) ?_
    exact sd_ret (by exact pd_bl) rfl
  | @ah y =>
    refine sd_ifF (by exact (PW.pt (pdw_or (pdt_not (pdt_tru (pd_isi (pd_var (i := 4) rfl rfl (.inl rfl)) rfl T.isinstance rfl T.tuple_ (by decide +kernel) kit_tup) (by walk_at "sf"))) (fun _ => (pdw_or (pdt_cmp (op_neAll hr.units) (pd_callB call_len rfl T.len_ (by decide +kernel) (pda_cons (pd_var (i := 4) rfl rfl (.inl rfl)) pda_nil) (by walk_at "rc1")) pd_int (by walk_at "r2ne") rfl) (fun _ => (pdw_or1 (pdt_not (pdt_tru (pd_isi (pd_ix ix_seq (pd_var (i := 4) rfl rfl (.inl rfl)) pd_int (by walk_at "r2ix") (fun _ _ => rfl)) rfl T.isinstance rfl T.str_ (by decide +kernel) kit_str) (by walk_at "sf")))))))))) (by simp [isTupB, truD, isStrB]) ?_
    refine sd_nx (by exact (sd_setLci (zs := rng 0 ((((p.cs.map dC).length : Nat) : Int)).toNat) (enc := PyData.int) (pr := fun k => decide (conAt p.cs k ∈ [Con.ahd i j, Con.ahd j i])) (f := fun k => k) (i := 5) (own := [("_law_at", 6)]) rfl sc__law_is_evidence.nd rfl rfl (sw_true rfl rfl rfl (by decide +kernel)) (pdi_rng1 rfl T.range_ (by exact (pd_callB call_len rfl T.len_ (by decide +kernel) (pda_cons (pd_ix ix_seq (pd_var (i := 0) rfl rfl (.inr (.inl rfl))) pd_int (by walk_at "r2ix") (fun _ _ => rfl)) pda_nil) (by walk_at "rc1"))) (by walk_at "rg")) (blkOk_by (own := [("_law_at", 6)]) (N := ["_law_problem_here", "_law_good_here", "_law_one", "_law_other", "_law_value", "_law_between", "_law_at", "_law_item"]) (sc := defScope s__law_is_evidence) (by decide +kernel)) (by walk_at "hz") (stays_name (j := 6) (by decide)) (fun z _ => asg_name) (fun _ _ _ _ _ => pg_name (i := 6) sc__law_is_evidence.nd rfl (.inl rfl)) (fun _ _ _ _ _ z hz => by
      have hzm := rng_mem.mp hz
      rw [List.length_map] at hzm
      have hat := conAt_at (cs := p.cs) (k := z) (by omega) (by omega)
      have hin := r2_inCL (K := K) (cs := [Con.ahd i j, Con.ahd j i]) (c := conAt p.cs z)
      exact pdts_one (by exact (pdt_cmp (op_inS (hu65 hr)) (pd_ix ix_seq (pd_ix ix_seq (pd_var (i := 0) rfl rfl (.inr (.inl rfl))) pd_int (by walk_at "r2ix") (fun _ _ => rfl)) (pd_var (i := 6) rfl rfl (.inl rfl)) (by walk_at "r2ix") (fun _ _ => rfl)) (pd_lst (pda_cons (pd_tup (pda_cons pd_str (pda_cons (pd_var (i := 2) rfl rfl (.inr (.inl rfl))) (pda_cons (pd_var (i := 3) rfl rfl (.inr (.inl rfl))) pda_nil))) (by walk_at "sz")) (pda_cons (pd_tup (pda_cons pd_str (pda_cons (pd_var (i := 3) rfl rfl (.inr (.inl rfl))) (pda_cons (pd_var (i := 2) rfl rfl (.inr (.inl rfl))) pda_nil))) (by walk_at "sz")) pda_nil)) (by walk_at "sz")) (by walk_at "r2in") rfl))) (fun _ _ _ _ _ z hz _ => by exact (pd_var (i := 6) rfl rfl (.inl rfl))))) ?_
    rw [ebt]
    refine sd_ifF (by exact (pdt_cmp (op_eqAll hr.units) (pd_ix ix_seq (pd_var (i := 4) rfl rfl (.inl rfl)) pd_int (by walk_at "r2ix") (fun _ _ => rfl)) pd_str (by walk_at "r2eq") rfl)) (by simp [sAB]) ?_
    refine sd_ifT (by exact (pdt_cmp (op_eqAll hr.units) (pd_ix ix_seq (pd_var (i := 4) rfl rfl (.inl rfl)) pd_int (by walk_at "r2ix") (fun _ _ => rfl)) pd_str (by walk_at "r2eq") rfl)) (by simp) ?_
    cases y with
    | int k => exact sd_ret (pd_eq (by exact (pd_and (pd_call C__law_is_integer (hr.mono (by decide)) rfl (pda_cons (pd_ix ix_seq (pd_var (i := 4) rfl rfl (.inl rfl)) pd_int (by walk_at "r2ix") (fun _ _ => rfl)) pda_nil) (by walk_at "rr")) (fun _ => (pd_one (pd_cmp (op_inS (hu65 hr)) (pd_ix ix_seq (pd_var (i := 4) rfl rfl (.inl rfl)) pd_int (by walk_at "r2ix") (fun _ _ => rfl)) (pd_var (i := 5) rfl rfl (.inl rfl)) (by walk_at "r2in") rfl))))) (by simp [isIntN, inBetw])) rfl
    | _ => exact sd_ret (by exact (pd_andF (by exact (pd_call C__law_is_integer (hr.mono (by decide)) rfl (pda_cons (pd_ix ix_seq (pd_var (i := 4) rfl rfl (.inl rfl)) pd_int (by walk_at "r2ix") (fun _ _ => rfl)) pda_nil) (by walk_at "rr"))))) rfl
  | @nb y hb =>
    refine sd_ifF (by exact (PW.pt (pdw_or (pdt_not (pdt_tru (pd_isi (pd_var (i := 4) rfl rfl (.inl rfl)) rfl T.isinstance rfl T.tuple_ (by decide +kernel) kit_tup) (by walk_at "sf"))) (fun _ => (pdw_or (pdt_cmp (op_neAll hr.units) (pd_callB call_len rfl T.len_ (by decide +kernel) (pda_cons (pd_var (i := 4) rfl rfl (.inl rfl)) pda_nil) (by walk_at "rc1")) pd_int (by walk_at "r2ne") rfl) (fun _ => (pdw_or1 (pdt_not (pdt_tru (pd_isi (pd_ix ix_seq (pd_var (i := 4) rfl rfl (.inl rfl)) pd_int (by walk_at "r2ix") (fun _ _ => rfl)) rfl T.isinstance rfl T.str_ (by decide +kernel) kit_str) (by walk_at "sf")))))))))) (by simp [isTupB, truD, isStrB]) ?_
    refine sd_nx (by exact (sd_setLci (zs := rng 0 ((((p.cs.map dC).length : Nat) : Int)).toNat) (enc := PyData.int) (pr := fun k => decide (conAt p.cs k ∈ [Con.ahd i j, Con.ahd j i])) (f := fun k => k) (i := 5) (own := [("_law_at", 6)]) rfl sc__law_is_evidence.nd rfl rfl (sw_true rfl rfl rfl (by decide +kernel)) (pdi_rng1 rfl T.range_ (by exact (pd_callB call_len rfl T.len_ (by decide +kernel) (pda_cons (pd_ix ix_seq (pd_var (i := 0) rfl rfl (.inr (.inl rfl))) pd_int (by walk_at "r2ix") (fun _ _ => rfl)) pda_nil) (by walk_at "rc1"))) (by walk_at "rg")) (blkOk_by (own := [("_law_at", 6)]) (N := ["_law_problem_here", "_law_good_here", "_law_one", "_law_other", "_law_value", "_law_between", "_law_at", "_law_item"]) (sc := defScope s__law_is_evidence) (by decide +kernel)) (by walk_at "hz") (stays_name (j := 6) (by decide)) (fun z _ => asg_name) (fun _ _ _ _ _ => pg_name (i := 6) sc__law_is_evidence.nd rfl (.inl rfl)) (fun _ _ _ _ _ z hz => by
      have hzm := rng_mem.mp hz
      rw [List.length_map] at hzm
      have hat := conAt_at (cs := p.cs) (k := z) (by omega) (by omega)
      have hin := r2_inCL (K := K) (cs := [Con.ahd i j, Con.ahd j i]) (c := conAt p.cs z)
      exact pdts_one (by exact (pdt_cmp (op_inS (hu65 hr)) (pd_ix ix_seq (pd_ix ix_seq (pd_var (i := 0) rfl rfl (.inr (.inl rfl))) pd_int (by walk_at "r2ix") (fun _ _ => rfl)) (pd_var (i := 6) rfl rfl (.inl rfl)) (by walk_at "r2ix") (fun _ _ => rfl)) (pd_lst (pda_cons (pd_tup (pda_cons pd_str (pda_cons (pd_var (i := 2) rfl rfl (.inr (.inl rfl))) (pda_cons (pd_var (i := 3) rfl rfl (.inr (.inl rfl))) pda_nil))) (by walk_at "sz")) (pda_cons (pd_tup (pda_cons pd_str (pda_cons (pd_var (i := 3) rfl rfl (.inr (.inl rfl))) (pda_cons (pd_var (i := 2) rfl rfl (.inr (.inl rfl))) pda_nil))) (by walk_at "sz")) pda_nil)) (by walk_at "sz")) (by walk_at "r2in") rfl))) (fun _ _ _ _ _ z hz _ => by exact (pd_var (i := 6) rfl rfl (.inl rfl))))) ?_
    rw [ebt]
    have hbe : (betw p i j).isEmpty = false := by
      cases q : betw p i j with
      | nil => exact absurd q hb
      | cons a b => rfl
    refine sd_ifF (by exact (pdt_cmp (op_eqAll hr.units) (pd_ix ix_seq (pd_var (i := 4) rfl rfl (.inl rfl)) pd_int (by walk_at "r2ix") (fun _ _ => rfl)) pd_str (by walk_at "r2eq") rfl)) (by simp [sNB]) ?_
    refine sd_ifF (by exact (pdt_cmp (op_eqAll hr.units) (pd_ix ix_seq (pd_var (i := 4) rfl rfl (.inl rfl)) pd_int (by walk_at "r2ix") (fun _ _ => rfl)) pd_str (by walk_at "r2eq") rfl)) (by simp [sNA]) ?_
    refine sd_ifT (by exact (PW.pt (pdw_or (pdt_cmp (op_neAll hr.units) (pd_ix ix_seq (pd_var (i := 4) rfl rfl (.inl rfl)) pd_int (by walk_at "r2ix") (fun _ _ => rfl)) pd_str (by walk_at "r2ne") rfl) (fun _ => (pdw_or1 (pdt_tru (pd_var (i := 5) rfl rfl (.inl rfl)) (by walk_at "sf"))))))) (by simp [truD, isEmpty_map', hbe]) ?_
    exact sd_ret (by exact pd_bl) rfl
  | @nv y b hb hcv =>
    refine sd_ifF (by exact (PW.pt (pdw_or (pdt_not (pdt_tru (pd_isi (pd_var (i := 4) rfl rfl (.inl rfl)) rfl T.isinstance rfl T.tuple_ (by decide +kernel) kit_tup) (by walk_at "sf"))) (fun _ => (pdw_or (pdt_cmp (op_neAll hr.units) (pd_callB call_len rfl T.len_ (by decide +kernel) (pda_cons (pd_var (i := 4) rfl rfl (.inl rfl)) pda_nil) (by walk_at "rc1")) pd_int (by walk_at "r2ne") rfl) (fun _ => (pdw_or1 (pdt_not (pdt_tru (pd_isi (pd_ix ix_seq (pd_var (i := 4) rfl rfl (.inl rfl)) pd_int (by walk_at "r2ix") (fun _ _ => rfl)) rfl T.isinstance rfl T.str_ (by decide +kernel) kit_str) (by walk_at "sf")))))))))) (by simp [isTupB, truD, isStrB]) ?_
    refine sd_nx (by exact (sd_setLci (zs := rng 0 ((((p.cs.map dC).length : Nat) : Int)).toNat) (enc := PyData.int) (pr := fun k => decide (conAt p.cs k ∈ [Con.ahd i j, Con.ahd j i])) (f := fun k => k) (i := 5) (own := [("_law_at", 6)]) rfl sc__law_is_evidence.nd rfl rfl (sw_true rfl rfl rfl (by decide +kernel)) (pdi_rng1 rfl T.range_ (by exact (pd_callB call_len rfl T.len_ (by decide +kernel) (pda_cons (pd_ix ix_seq (pd_var (i := 0) rfl rfl (.inr (.inl rfl))) pd_int (by walk_at "r2ix") (fun _ _ => rfl)) pda_nil) (by walk_at "rc1"))) (by walk_at "rg")) (blkOk_by (own := [("_law_at", 6)]) (N := ["_law_problem_here", "_law_good_here", "_law_one", "_law_other", "_law_value", "_law_between", "_law_at", "_law_item"]) (sc := defScope s__law_is_evidence) (by decide +kernel)) (by walk_at "hz") (stays_name (j := 6) (by decide)) (fun z _ => asg_name) (fun _ _ _ _ _ => pg_name (i := 6) sc__law_is_evidence.nd rfl (.inl rfl)) (fun _ _ _ _ _ z hz => by
      have hzm := rng_mem.mp hz
      rw [List.length_map] at hzm
      have hat := conAt_at (cs := p.cs) (k := z) (by omega) (by omega)
      have hin := r2_inCL (K := K) (cs := [Con.ahd i j, Con.ahd j i]) (c := conAt p.cs z)
      exact pdts_one (by exact (pdt_cmp (op_inS (hu65 hr)) (pd_ix ix_seq (pd_ix ix_seq (pd_var (i := 0) rfl rfl (.inr (.inl rfl))) pd_int (by walk_at "r2ix") (fun _ _ => rfl)) (pd_var (i := 6) rfl rfl (.inl rfl)) (by walk_at "r2ix") (fun _ _ => rfl)) (pd_lst (pda_cons (pd_tup (pda_cons pd_str (pda_cons (pd_var (i := 2) rfl rfl (.inr (.inl rfl))) (pda_cons (pd_var (i := 3) rfl rfl (.inr (.inl rfl))) pda_nil))) (by walk_at "sz")) (pda_cons (pd_tup (pda_cons pd_str (pda_cons (pd_var (i := 3) rfl rfl (.inr (.inl rfl))) (pda_cons (pd_var (i := 2) rfl rfl (.inr (.inl rfl))) pda_nil))) (by walk_at "sz")) pda_nil)) (by walk_at "sz")) (by walk_at "r2in") rfl))) (fun _ _ _ _ _ z hz _ => by exact (pd_var (i := 6) rfl rfl (.inl rfl))))) ?_
    rw [ebt]
    have hcc : OkP (mrg p i j) ∧ CV (mrg p i j) y b := ⟨hmp, hcv⟩
    have hpb : PairOk p i j ∧ betw p i j = [] := ⟨ho, hb⟩
    refine sd_ifF (by exact (pdt_cmp (op_eqAll hr.units) (pd_ix ix_seq (pd_var (i := 4) rfl rfl (.inl rfl)) pd_int (by walk_at "r2ix") (fun _ _ => rfl)) pd_str (by walk_at "r2eq") rfl)) (by simp [sNB]) ?_
    refine sd_ifF (by exact (pdt_cmp (op_eqAll hr.units) (pd_ix ix_seq (pd_var (i := 4) rfl rfl (.inl rfl)) pd_int (by walk_at "r2ix") (fun _ _ => rfl)) pd_str (by walk_at "r2eq") rfl)) (by simp [sNA]) ?_
    refine sd_ifF (by exact (PW.pt (pdw_or (pdt_cmp (op_neAll hr.units) (pd_ix ix_seq (pd_var (i := 4) rfl rfl (.inl rfl)) pd_int (by walk_at "r2ix") (fun _ _ => rfl)) pd_str (by walk_at "r2ne") rfl) (fun _ => (pdw_or1 (pdt_tru (pd_var (i := 5) rfl rfl (.inl rfl)) (by walk_at "sf"))))))) (by simp [truD, hb]) ?_
    exact sd_ret (by exact (pd_call C_accepts_contradiction (hr.mono (by decide)) rfl (pda_cons (by exact (pd_eq (by exact (pd_tup (pda_cons (pd_ix ix_seq (pd_var (i := 0) rfl rfl (.inr (.inl rfl))) pd_int (by walk_at "r2ix") (fun _ _ => rfl)) (pda_cons (pd_call C_merged (hr.mono (by decide)) rfl (pda_cons (pd_var (i := 0) rfl rfl (.inr (.inl rfl))) (pda_cons (pd_var (i := 2) rfl rfl (.inr (.inl rfl))) (pda_cons (pd_var (i := 3) rfl rfl (.inr (.inl rfl))) pda_nil))) (by walk_at "rr")) pda_nil)) (by walk_at "sz"))) (rfl : _ = dP (mrg p i j)))) (pda_cons (pd_ix ix_seq (pd_var (i := 4) rfl rfl (.inl rfl)) pd_int (by walk_at "r2ix") (fun _ _ => rfl)) pda_nil)) ⟨mrg p i j, _, _, hcc, rfl, rfl⟩)) rfl
  | @bn y hy =>
    refine sd_ifF (by exact (PW.pt (pdw_or (pdt_not (pdt_tru (pd_isi (pd_var (i := 4) rfl rfl (.inl rfl)) rfl T.isinstance rfl T.tuple_ (by decide +kernel) kit_tup) (by walk_at "sf"))) (fun _ => (pdw_or (pdt_cmp (op_neAll hr.units) (pd_callB call_len rfl T.len_ (by decide +kernel) (pda_cons (pd_var (i := 4) rfl rfl (.inl rfl)) pda_nil) (by walk_at "rc1")) pd_int (by walk_at "r2ne") rfl) (fun _ => (pdw_or1 (pdt_not (pdt_tru (pd_isi (pd_ix ix_seq (pd_var (i := 4) rfl rfl (.inl rfl)) pd_int (by walk_at "r2ix") (fun _ _ => rfl)) rfl T.isinstance rfl T.str_ (by decide +kernel) kit_str) (by walk_at "sf")))))))))) (by simp [isTupB, truD, isStrB]) ?_
    refine sd_nx (by exact (sd_setLci (zs := rng 0 ((((p.cs.map dC).length : Nat) : Int)).toNat) (enc := PyData.int) (pr := fun k => decide (conAt p.cs k ∈ [Con.ahd i j, Con.ahd j i])) (f := fun k => k) (i := 5) (own := [("_law_at", 6)]) rfl sc__law_is_evidence.nd rfl rfl (sw_true rfl rfl rfl (by decide +kernel)) (pdi_rng1 rfl T.range_ (by exact (pd_callB call_len rfl T.len_ (by decide +kernel) (pda_cons (pd_ix ix_seq (pd_var (i := 0) rfl rfl (.inr (.inl rfl))) pd_int (by walk_at "r2ix") (fun _ _ => rfl)) pda_nil) (by walk_at "rc1"))) (by walk_at "rg")) (blkOk_by (own := [("_law_at", 6)]) (N := ["_law_problem_here", "_law_good_here", "_law_one", "_law_other", "_law_value", "_law_between", "_law_at", "_law_item"]) (sc := defScope s__law_is_evidence) (by decide +kernel)) (by walk_at "hz") (stays_name (j := 6) (by decide)) (fun z _ => asg_name) (fun _ _ _ _ _ => pg_name (i := 6) sc__law_is_evidence.nd rfl (.inl rfl)) (fun _ _ _ _ _ z hz => by
      have hzm := rng_mem.mp hz
      rw [List.length_map] at hzm
      have hat := conAt_at (cs := p.cs) (k := z) (by omega) (by omega)
      have hin := r2_inCL (K := K) (cs := [Con.ahd i j, Con.ahd j i]) (c := conAt p.cs z)
      exact pdts_one (by exact (pdt_cmp (op_inS (hu65 hr)) (pd_ix ix_seq (pd_ix ix_seq (pd_var (i := 0) rfl rfl (.inr (.inl rfl))) pd_int (by walk_at "r2ix") (fun _ _ => rfl)) (pd_var (i := 6) rfl rfl (.inl rfl)) (by walk_at "r2ix") (fun _ _ => rfl)) (pd_lst (pda_cons (pd_tup (pda_cons pd_str (pda_cons (pd_var (i := 2) rfl rfl (.inr (.inl rfl))) (pda_cons (pd_var (i := 3) rfl rfl (.inr (.inl rfl))) pda_nil))) (by walk_at "sz")) (pda_cons (pd_tup (pda_cons pd_str (pda_cons (pd_var (i := 3) rfl rfl (.inr (.inl rfl))) (pda_cons (pd_var (i := 2) rfl rfl (.inr (.inl rfl))) pda_nil))) (by walk_at "sz")) pda_nil)) (by walk_at "sz")) (by walk_at "r2in") rfl))) (fun _ _ _ _ _ z hz _ => by exact (pd_var (i := 6) rfl rfl (.inl rfl))))) ?_
    rw [ebt]
    refine sd_ifT (by exact (pdt_cmp (op_eqAll hr.units) (pd_ix ix_seq (pd_var (i := 4) rfl rfl (.inl rfl)) pd_int (by walk_at "r2ix") (fun _ _ => rfl)) pd_str (by walk_at "r2eq") rfl)) (by simp) ?_
    exact sd_ret (by exact (pd_andF (by exact (pd_eq (by exact (pd_isi (pd_ix ix_seq (pd_var (i := 4) rfl rfl (.inl rfl)) pd_int (by walk_at "r2ix") (fun _ _ => rfl)) rfl T.isinstance rfl T.tuple_ (by decide +kernel) kit_tup)) (by rw [hy]))))) rfl
  | @bt xs hsh hany =>
    refine sd_ifF (by exact (PW.pt (pdw_or (pdt_not (pdt_tru (pd_isi (pd_var (i := 4) rfl rfl (.inl rfl)) rfl T.isinstance rfl T.tuple_ (by decide +kernel) kit_tup) (by walk_at "sf"))) (fun _ => (pdw_or (pdt_cmp (op_neAll hr.units) (pd_callB call_len rfl T.len_ (by decide +kernel) (pda_cons (pd_var (i := 4) rfl rfl (.inl rfl)) pda_nil) (by walk_at "rc1")) pd_int (by walk_at "r2ne") rfl) (fun _ => (pdw_or1 (pdt_not (pdt_tru (pd_isi (pd_ix ix_seq (pd_var (i := 4) rfl rfl (.inl rfl)) pd_int (by walk_at "r2ix") (fun _ _ => rfl)) rfl T.isinstance rfl T.str_ (by decide +kernel) kit_str) (by walk_at "sf")))))))))) (by simp [isTupB, truD, isStrB]) ?_
    refine sd_nx (by exact (sd_setLci (zs := rng 0 ((((p.cs.map dC).length : Nat) : Int)).toNat) (enc := PyData.int) (pr := fun k => decide (conAt p.cs k ∈ [Con.ahd i j, Con.ahd j i])) (f := fun k => k) (i := 5) (own := [("_law_at", 6)]) rfl sc__law_is_evidence.nd rfl rfl (sw_true rfl rfl rfl (by decide +kernel)) (pdi_rng1 rfl T.range_ (by exact (pd_callB call_len rfl T.len_ (by decide +kernel) (pda_cons (pd_ix ix_seq (pd_var (i := 0) rfl rfl (.inr (.inl rfl))) pd_int (by walk_at "r2ix") (fun _ _ => rfl)) pda_nil) (by walk_at "rc1"))) (by walk_at "rg")) (blkOk_by (own := [("_law_at", 6)]) (N := ["_law_problem_here", "_law_good_here", "_law_one", "_law_other", "_law_value", "_law_between", "_law_at", "_law_item"]) (sc := defScope s__law_is_evidence) (by decide +kernel)) (by walk_at "hz") (stays_name (j := 6) (by decide)) (fun z _ => asg_name) (fun _ _ _ _ _ => pg_name (i := 6) sc__law_is_evidence.nd rfl (.inl rfl)) (fun _ _ _ _ _ z hz => by
      have hzm := rng_mem.mp hz
      rw [List.length_map] at hzm
      have hat := conAt_at (cs := p.cs) (k := z) (by omega) (by omega)
      have hin := r2_inCL (K := K) (cs := [Con.ahd i j, Con.ahd j i]) (c := conAt p.cs z)
      exact pdts_one (by exact (pdt_cmp (op_inS (hu65 hr)) (pd_ix ix_seq (pd_ix ix_seq (pd_var (i := 0) rfl rfl (.inr (.inl rfl))) pd_int (by walk_at "r2ix") (fun _ _ => rfl)) (pd_var (i := 6) rfl rfl (.inl rfl)) (by walk_at "r2ix") (fun _ _ => rfl)) (pd_lst (pda_cons (pd_tup (pda_cons pd_str (pda_cons (pd_var (i := 2) rfl rfl (.inr (.inl rfl))) (pda_cons (pd_var (i := 3) rfl rfl (.inr (.inl rfl))) pda_nil))) (by walk_at "sz")) (pda_cons (pd_tup (pda_cons pd_str (pda_cons (pd_var (i := 3) rfl rfl (.inr (.inl rfl))) (pda_cons (pd_var (i := 2) rfl rfl (.inr (.inl rfl))) pda_nil))) (by walk_at "sz")) pda_nil)) (by walk_at "sz")) (by walk_at "r2in") rfl))) (fun _ _ _ _ _ z hz _ => by exact (pd_var (i := 6) rfl rfl (.inl rfl))))) ?_
    rw [ebt]
    have hin : R2D (rInS K) (.tuple xs) (.list ((goods p).map dR)) (.bool (((goods p).map dR).any fun z => PyData.eqv z (.tuple xs))) := r2_inL hsh layAll_dR
    rw [hany] at hin
    refine sd_ifT (by exact (pdt_cmp (op_eqAll hr.units) (pd_ix ix_seq (pd_var (i := 4) rfl rfl (.inl rfl)) pd_int (by walk_at "r2ix") (fun _ _ => rfl)) pd_str (by walk_at "r2eq") rfl)) (by simp) ?_
    exact sd_ret (by exact (pd_andT (by exact (pd_isi (pd_ix ix_seq (pd_var (i := 4) rfl rfl (.inl rfl)) pd_int (by walk_at "r2ix") (fun _ _ => rfl)) rfl T.isinstance rfl T.tuple_ (by decide +kernel) kit_tup)) (by rfl) (by exact (pd_andF (by exact (pd_cmp (op_inS (hu65 hr)) (pd_ix ix_seq (pd_var (i := 4) rfl rfl (.inl rfl)) pd_int (by walk_at "r2ix") (fun _ _ => rfl)) (pd_var (i := 1) rfl rfl (.inl rfl)) (by walk_at "r2in") rfl)))))) rfl
  | @bo r hr0 =>
    refine sd_ifF (by exact (PW.pt (pdw_or (pdt_not (pdt_tru (pd_isi (pd_var (i := 4) rfl rfl (.inl rfl)) rfl T.isinstance rfl T.tuple_ (by decide +kernel) kit_tup) (by walk_at "sf"))) (fun _ => (pdw_or (pdt_cmp (op_neAll hr.units) (pd_callB call_len rfl T.len_ (by decide +kernel) (pda_cons (pd_var (i := 4) rfl rfl (.inl rfl)) pda_nil) (by walk_at "rc1")) pd_int (by walk_at "r2ne") rfl) (fun _ => (pdw_or1 (pdt_not (pdt_tru (pd_isi (pd_ix ix_seq (pd_var (i := 4) rfl rfl (.inl rfl)) pd_int (by walk_at "r2ix") (fun _ _ => rfl)) rfl T.isinstance rfl T.str_ (by decide +kernel) kit_str) (by walk_at "sf")))))))))) (by simp [isTupB, truD, isStrB]) ?_
    refine sd_nx (by exact (sd_setLci (zs := rng 0 ((((p.cs.map dC).length : Nat) : Int)).toNat) (enc := PyData.int) (pr := fun k => decide (conAt p.cs k ∈ [Con.ahd i j, Con.ahd j i])) (f := fun k => k) (i := 5) (own := [("_law_at", 6)]) rfl sc__law_is_evidence.nd rfl rfl (sw_true rfl rfl rfl (by decide +kernel)) (pdi_rng1 rfl T.range_ (by exact (pd_callB call_len rfl T.len_ (by decide +kernel) (pda_cons (pd_ix ix_seq (pd_var (i := 0) rfl rfl (.inr (.inl rfl))) pd_int (by walk_at "r2ix") (fun _ _ => rfl)) pda_nil) (by walk_at "rc1"))) (by walk_at "rg")) (blkOk_by (own := [("_law_at", 6)]) (N := ["_law_problem_here", "_law_good_here", "_law_one", "_law_other", "_law_value", "_law_between", "_law_at", "_law_item"]) (sc := defScope s__law_is_evidence) (by decide +kernel)) (by walk_at "hz") (stays_name (j := 6) (by decide)) (fun z _ => asg_name) (fun _ _ _ _ _ => pg_name (i := 6) sc__law_is_evidence.nd rfl (.inl rfl)) (fun _ _ _ _ _ z hz => by
      have hzm := rng_mem.mp hz
      rw [List.length_map] at hzm
      have hat := conAt_at (cs := p.cs) (k := z) (by omega) (by omega)
      have hin := r2_inCL (K := K) (cs := [Con.ahd i j, Con.ahd j i]) (c := conAt p.cs z)
      exact pdts_one (by exact (pdt_cmp (op_inS (hu65 hr)) (pd_ix ix_seq (pd_ix ix_seq (pd_var (i := 0) rfl rfl (.inr (.inl rfl))) pd_int (by walk_at "r2ix") (fun _ _ => rfl)) (pd_var (i := 6) rfl rfl (.inl rfl)) (by walk_at "r2ix") (fun _ _ => rfl)) (pd_lst (pda_cons (pd_tup (pda_cons pd_str (pda_cons (pd_var (i := 2) rfl rfl (.inr (.inl rfl))) (pda_cons (pd_var (i := 3) rfl rfl (.inr (.inl rfl))) pda_nil))) (by walk_at "sz")) (pda_cons (pd_tup (pda_cons pd_str (pda_cons (pd_var (i := 3) rfl rfl (.inr (.inl rfl))) (pda_cons (pd_var (i := 2) rfl rfl (.inr (.inl rfl))) pda_nil))) (by walk_at "sz")) pda_nil)) (by walk_at "sz")) (by walk_at "r2in") rfl))) (fun _ _ _ _ _ z hz _ => by exact (pd_var (i := 6) rfl rfl (.inl rfl))))) ?_
    rw [ebt]
    have hin := r2_inR (K := K) (gs := goods p) (r := r)
    have hin2 := r2_inR (K := K) (gs := goods p) (r := exch i j r)
    have hg := (goods_mem.mp hr0).1
    have hrl : r.length ≤ 1000 := by
      have := hg.ln
      have := hp.n5
      omega
    have hz : r.length ≤ 100000 := by omega
    refine sd_ifT (by exact (pdt_cmp (op_eqAll hr.units) (pd_ix ix_seq (pd_var (i := 4) rfl rfl (.inl rfl)) pd_int (by walk_at "r2ix") (fun _ _ => rfl)) pd_str (by walk_at "r2eq") rfl)) (by simp) ?_
    refine sd_ret (pd_eq (by exact (pd_and (by exact (pd_isi (pd_ix ix_seq (pd_var (i := 4) rfl rfl (.inl rfl)) pd_int (by walk_at "r2ix") (fun _ _ => rfl)) rfl T.isinstance rfl T.tuple_ (by decide +kernel) kit_tup)) (fun _ => by exact (pd_and (by exact (pd_cmp (op_inS (hu65 hr)) (pd_ix ix_seq (pd_var (i := 4) rfl rfl (.inl rfl)) pd_int (by walk_at "r2ix") (fun _ _ => rfl)) (pd_var (i := 1) rfl rfl (.inl rfl)) (by walk_at "r2in") rfl)) (fun _ => by exact (pd_and (by exact (pd_cmp (op_inS (hu65 hr)) (pd_call C__law_exchanged (hr.mono (by decide)) rfl (pda_cons (pd_ix ix_seq (pd_var (i := 4) rfl rfl (.inl rfl)) pd_int (by walk_at "r2ix") (fun _ _ => rfl)) (pda_cons (pd_var (i := 2) rfl rfl (.inr (.inl rfl))) (pda_cons (pd_var (i := 3) rfl rfl (.inr (.inl rfl))) pda_nil))) (by walk_at "rr")) (pd_var (i := 1) rfl rfl (.inl rfl)) (by walk_at "r2in") rfl)) (fun _ => by exact (pd_one (by exact (pd_callB (cr_all rfl) rfl T.all_ (by decide +kernel) (pda_cons (pd_lcb (zs := r) (enc := PyData.int) (f := fun _ => true) (own := [("_law_item", 7)]) rfl sc__law_is_evidence.nd (pdi_tup (by exact (pd_ix ix_seq (pd_var (i := 4) rfl rfl (.inl rfl)) pd_int (by walk_at "r2ix") (fun _ _ => rfl)))) (blkOk_by (own := [("_law_item", 7)]) (N := ["_law_problem_here", "_law_good_here", "_law_one", "_law_other", "_law_value", "_law_between", "_law_at", "_law_item"]) (sc := defScope s__law_is_evidence) (by decide +kernel)) (by walk_at "hz") (stays_name (j := 7) (by decide)) (fun z _ => asg_name) (fun _ _ _ _ _ => pg_name (i := 7) sc__law_is_evidence.nd rfl (.inl rfl)) (fun _ _ _ _ _ y hy => by exact (pd_call C__law_is_integer (hr.mono (by decide)) rfl (pda_cons (pd_var (i := 7) rfl rfl (.inl rfl)) pda_nil) (by walk_at "rr")))) pda_nil) rc_all)))))))))) ?_) rfl
    rw [all_true, decide_eq_true hr0]
    simp [dR, isTupB]
end
end RK

/-! The stream, from the law's own argument. -/
namespace RK
open PySem PySem.Spec PyProof.Rows L2 DL
local macro_rules | `(tactic| walk_at "sf") => `(tactic| first | exact True.intro | assumption)
local macro_rules | `(tactic| walk_at "sz") => `(tactic| first | decide | (simp only [List.length_cons, List.length_nil, List.length_map, List.length_append, List.length_reverse, rng_len, sizeLine_eq]; omega))
local macro_rules | `(tactic| walk_at "r2add") => `(tactic| first | exact r2_addI | exact r2_addT (by walk_at "sz") | exact r2_addL (by walk_at "sz"))
local macro_rules | `(tactic| walk_at "r2i0") => `(tactic| exact r2_I0)
local macro_rules | `(tactic| walk_at "r2b0") => `(tactic| exact r2_B0)
local macro_rules | `(tactic| walk_at "r2mul") => `(tactic| exact r2_I (by unfold CMul; omega))
local macro_rules | `(tactic| walk_at "r2mod") => `(tactic| exact r2_I (by first | omega | (show (0 : Int) < _; omega)))
local macro_rules | `(tactic| walk_at "r2div") => `(tactic| exact r2_I (by unfold CDiv; omega))
local macro_rules | `(tactic| walk_at "r2pow") => `(tactic| exact r2_I (by unfold CPow; decide))
local macro_rules | `(tactic| walk_at "r2eq") => `(tactic| first | exact r2_eqI | exact r2_eqS | exact r2_eqB | exact r2_eqD (by assumption) (by assumption))
local macro_rules | `(tactic| walk_at "r2ne") => `(tactic| first | exact r2_neI | exact r2_neS | exact r2_neB)
local macro_rules | `(tactic| walk_at "r2in") => `(tactic| first | exact r2_inLI | exact r2_inTI | assumption)
local macro_rules | `(tactic| walk_at "r2nin") => `(tactic| first | exact r2_ninLI | exact r2_ninTI | assumption)
local macro_rules | `(tactic| walk_at "r2is") => `(tactic| exact r2_isN)
local macro_rules | `(tactic| walk_at "r2isn") => `(tactic| exact r2_notN)
local macro_rules | `(tactic| walk_at "r2ix") => `(tactic| first | exact r2_ixT rfl | exact r2_ixL rfl | exact r2_ixT (by assumption) | exact r2_ixL (by assumption))
local macro_rules | `(tactic| walk_at "rc1") => `(tactic| first | exact rc_lenT | exact rc_lenL | exact rc_max2 | exact rc_max (by walk_at "sz") | exact rc_min (by walk_at "sz") | exact rc_max (ns := _ :: _) (by walk_at "sz") | exact rc_min (ns := _ :: _) (by walk_at "sz") | exact rc_all | exact rc_any | exact rc_abs | exact rc_int | exact rc_tupL | assumption)
local macro_rules | `(tactic| walk_at "mem") => `(tactic| first | assumption | (simp; done))
local macro_rules | `(tactic| walk_at "rr") => `(tactic| first | exact ⟨_, rfl, rfl⟩ | exact ⟨_, _, rfl, rfl⟩ | exact ⟨_, _, _, rfl, rfl⟩ | exact ⟨_, by assumption, rfl, rfl⟩ | exact ⟨_, _, by assumption, rfl, rfl⟩ | exact ⟨_, _, _, by assumption, rfl, rfl⟩ | exact ⟨_, _, _, _, rfl, rfl⟩ | exact ⟨_, _, _, _, by assumption, rfl, rfl⟩ | exact ⟨_, _, _, _, _, by assumption, rfl, rfl⟩ | assumption)
local macro_rules | `(tactic| walk_at "rg") => `(tactic| first | omega | (simp only [List.length_cons, List.length_nil, List.length_map]; omega))
local macro_rules | `(tactic| walk_at "hz") => `(tactic| first | assumption | (simp only [List.length_cons, List.length_nil, List.length_map, rng_len, List.length_zipIdx, List.length_zip]; omega) | omega)
local macro_rules | `(tactic| walk_at "bb") => `(tactic| first | rfl | (simp [truD, isTupB, isStrB, isIntB, isBoolB, wholeB, sAW, sWA]; done) | (simp_all [truD, isTupB, isStrB, isIntB, isBoolB, wholeB, sAW, sWA]; done) | (simp [truD, isTupB, isStrB, isIntB, isBoolB, wholeB, sAW, sWA]; omega))
local macro_rules | `(tactic| walk_at "blkfree") => `(tactic| ((repeat' (first | exact List.forall_mem_nil _ | refine List.forall_mem_cons.mpr ⟨?_, ?_⟩)) <;> first | (intro hf; cases hf; done) | exact fun _ => .inl rfl | exact fun _ => .inr rfl))
local macro_rules | `(tactic| walk_at "r2ixo") => `(tactic| first | rfl | assumption)
local macro_rules | `(tactic| walk_at "rm") => `(tactic| first | exact ⟨_, _, by first | assumption | omega, rfl, rfl, rfl, rfl⟩ | exact ⟨_, rfl, rfl, rfl, rfl⟩ | exact ⟨_, _, _, _, by assumption, rfl, rfl, rfl, rfl⟩ | assumption)

section
variable {P : Program} {w : World} {K : PySem.W.Frag} {mg : Str → Option Value} {base : Heap} {f : Addr} {fd : FuncData}
def SpS (K : PySem.W.Frag) : Sp := fun vs H Q _ => ∃ (a : Addr) (ns : List Int), vs = [.ref a] ∧ SqL K H a (ns.map V.int) ∧ ∀ p q, H q = none → p ≠ q → H p = none → Q (.ref p) (upd (upd H q (.lst (ns.map V.int))) p (.lst [.ref q, .int 0, .int 0]))
def SpLaw (K : PySem.W.Frag) : Sp := fun vs H Q _ => ∃ (a : Addr) (ns : List Int), vs = [.ref a] ∧ SqL K H a (ns.map V.int) ∧ ∀ H', Q (.bl true) H'
theorem ok_law_streamS (T : Txt mg) (F : Fun K "_law_stream" "_law_stream" s_law_stream f fd) :
    FnOk P w K mg base CX0 1 f fd ["_law_script"] (SpS K) := by
  refine F.ok sc_law_stream (fun vs H Q E ⟨a, ns, ev, _⟩ => by rw [ev]; rfl) fun cdv A outer s H vs Q E hr ⟨a, ns, ev, hS, q⟩ => ?_
  subst ev
  refine ⟨_, (pss_one (ps_ret (pe_lst (pa_cons (pe_callTy call_list_of rfl T.list_ (by decide +kernel) (pa_cons (pe_var (i := 0) rfl (.inl rfl)) pa_nil)) (pa_cons pe_int (pa_cons pe_int pa_nil))))) : PSs (BX P w K mg base ["_law_script"] "_law_stream" s_law_stream f cdv A outer s H E) (defBody s_law_stream) _), ?_⟩
  refine ⟨.ref a, rfl, a, ns.map V.int, rfl, .inl hS, fun r hr0 => ?_⟩
  refine ⟨by show 3 ≤ sizeLine; rw [sizeLine_eq]; omega, fun p hp => ?_⟩
  have hne : p ≠ r := fun z => by
    rw [z, upd_same] at hp
    cases hp
  rw [upd_ne hne] at hp
  exact q p r hr0 hne hp
/-- x = f(a): the first statement of the law -/
theorem sd_first {X : Cx} {i0 i k : Nat} {n x y : Str} {p p2 p' pos pos' : Pos} (C : Cal X.prog X.w X.K X.mg X.base k n (SpS X.K)) (hr : Room k X.A) (hg : Gl X n) (hN0 : X.N[i0]? = some x) (hv : Vis X.env.scope x) (hN : X.N.Nodup) (hi : X.N[i]? = some y) (hx : Loc X.env.scope y)
    (hd : (x == ("__debug__" : Str)) = false := by decide) (hcd : (x == ("__classdict__" : Str)) = false := by decide) (hdb : (n == ("__debug__" : Str)) = false := by decide)
    (he : starEach [.Name x p2] X.env = (false, eval (.Name x p2) X.env) :: starEach [] X.env := by rfl) (hpl : (backTo pos (starEach [] X.env)).any (·.1) = false := by rfl)
    (hs : swapsWith (.Call (.Name n p) [.Name x p2] [] pos) (some (.Name y p')) pos'.line X.env = pure false := by rfl) (hf : X.fn y = true ∨ X.env.scope.names.lookup y = some .local := by first | exact .inl rfl | exact .inr rfl | assumption) :
    PS X (.Assign [.Name y p'] (.Call (.Name n p) [.Name x p2] [] pos) pos') (fun D sg H => ∃ (a : Addr) (ns : List Int), sg[i0]? = some (some (.ref a)) ∧ SqL X.K H a (ns.map V.int) ∧
      ∀ p q, H q = none → p ≠ q → H p = none → D.nx (sg.set i (some (.ref p))) (upd (upd H q (.lst (ns.map V.int))) p (.lst [.ref q, .int 0, .int 0]))) := by
  obtain ⟨f, fd, ps, F, hm, hk, hb⟩ := C
  refine ps_w (ps_set hN hi hx (pe_call (E := E0) F hr hg hm hk hb .nil pass0 (pa_cons (pe_var hN0 hv hd hcd) pa_nil he) hdb he hpl) hs (hf := hf)) fun D sg H ⟨a, ns, e, hS, q⟩ => ?_
  exact ⟨.ref a, e, a, ns, rfl, hS, fun p r h1 h2 h3 => q p r h1 h2 h3⟩
end
end RK

/-! No ranking where a contradiction is told; one where none is. -/
namespace RK
open PySem PySem.Spec PyProof.Rows L2 DL
theorem idx_split {x : Int} : ∀ {a b : List Int}, x ∉ a → idx (a ++ x :: b) x = (a.length : Nat) := by
  intro a b h
  unfold idx
  congr 1
  induction a with
  | nil => simp [List.idxOf_cons]
  | cons y a ih =>
    rw [List.mem_cons, not_or] at h
    rw [List.cons_append, List.idxOf_cons, ih h.2]
    have : (y == x) = false := by simpa using fun z => h.1 z.symm
    rw [this]
    rfl
theorem idx_nn {r : List Int} {x : Int} : 0 ≤ idx r x := by unfold idx; omega
theorem idx_lt {r : List Int} {x : Int} (h : x ∈ r) : idx r x < (r.length : Nat) := by
  unfold idx
  have := List.idxOf_lt_length_of_mem h
  omega
theorem idx_inj {r : List Int} {x y : Int} (hx : x ∈ r) (hy : y ∈ r) (h : idx r x = idx r y) : x = y := by
  unfold idx at h
  have h1 := List.idxOf_lt_length_of_mem hx
  have h2 := List.idxOf_lt_length_of_mem hy
  have e : r.idxOf x = r.idxOf y := by omega
  have g1 := List.getElem_idxOf h1
  have g2 := List.getElem_idxOf h2
  rw [← g1, ← g2]
  congr 1
theorem full_mem {p : Prob} (hp : OkP p) {r : List Int} (h : FnG p p.n.toNat r) {x : Int} (h0 : 0 ≤ x) (h1 : x < p.n) : x ∈ r := full_in (by have := hp.n1; omega) h.ln h.nd h.rg x h0 h1
theorem good_all {p : Prob} {r : List Int} : goodB p r = true ↔ ∀ c ∈ p.cs, holdsB c r = true := by
  unfold goodB
  rw [List.all_eq_true]
theorem good_ahd {p : Prob} {r : List Int} (h : goodB p r = true) {a b : Int} (hc : Con.ahd a b ∈ p.cs) : idx r a < idx r b := of_decide_eq_true (good_all.mp h _ hc)
theorem good_win {p : Prob} {r : List Int} (h : goodB p r = true) {i lo hi : Int} (hc : Con.win i lo hi ∈ p.cs) : lo ≤ idx r i + 1 ∧ idx r i + 1 ≤ hi := by
  have h1 : (decide (lo ≤ idx r i + 1) && decide (idx r i + 1 ≤ hi)) = true := good_all.mp h _ hc
  rw [Bool.and_eq_true, decide_eq_true_eq, decide_eq_true_eq] at h1
  exact h1
/-- a chain goes up -/
theorem chn_up {p : Prob} {r : List Int} (h : goodB p r = true) : ∀ {c : List Int}, Chn p c → c ≠ [] → idx r (c.headD 0) + c.length - 1 ≤ idx r (lastI c)
  | [], _, hn => absurd rfl hn
  | [x], _, _ => by
    show idx r x + ((1 : Nat) : Int) - 1 ≤ idx r x
    omega
  | x :: y :: l, hc, _ => by
    have h1 := good_ahd h hc.1
    have h2 := chn_up h hc.2 (by simp)
    have e : lastI (x :: y :: l) = lastI (y :: l) := rfl
    rw [e]
    have e2 : (y :: l).headD 0 = y := rfl
    have e3 : (x :: y :: l).headD 0 = x := rfl
    rw [e2] at h2
    rw [e3]
    rw [List.length_cons] at h2 ⊢
    rw [List.length_cons]
    omega
theorem no_cyc {p : Prob} {c r : List Int} (hc : CyOk p c) : goodB p r = false := by
  cases h : goodB p r with
  | false => rfl
  | true =>
    have := chn_up h hc.ch.ch hc.ch.ne
    rw [hc.bk] at this
    have := hc.ln
    omega
theorem low_le {p : Prob} {r : List Int} (h : goodB p r = true) {i : Int} : gLow p i ≤ idx r i + 1 := by
  have hm := maxL_mem (ns := 1 :: (p.cs.filter (isWinOf i)).map conLo) (Nat.succ_pos _)
  unfold gLow
  rcases List.mem_cons.mp hm with q | q
  · rw [q]
    have := idx_nn (r := r) (x := i)
    omega
  · obtain ⟨c, hc, e⟩ := List.mem_map.mp q
    rw [← e]
    obtain ⟨h1, h2⟩ := List.mem_filter.mp hc
    cases c with
    | win j lo hi =>
      have : j = i := by simpa [isWinOf] using h2
      subst this
      exact (good_win h h1).1
    | ahd a b => simp [isWinOf] at h2
theorem high_ge {p : Prob} {r : List Int} (h : goodB p r = true) {i : Int} (hi : idx r i + 1 ≤ p.n) : idx r i + 1 ≤ gHigh p i := by
  have hm := minL_mem (ns := p.n :: (p.cs.filter (isWinOf i)).map conHi) (Nat.succ_pos _)
  unfold gHigh
  rcases List.mem_cons.mp hm with q | q
  · rw [q]
    exact hi
  · obtain ⟨c, hc, e⟩ := List.mem_map.mp q
    rw [← e]
    obtain ⟨h1, h2⟩ := List.mem_filter.mp hc
    cases c with
    | win j lo hi =>
      have : j = i := by simpa [isWinOf] using h2
      subst this
      exact (good_win h h1).2
    | ahd a b => simp [isWinOf] at h2
theorem ea_le {p : Prob} (hp : OkP p) (hcy : cyclicB p = false) {r : List Int} (hr : FnG p p.n.toNat r) (h : goodB p r = true) : ∀ (k : Nat) (i : Int), 0 ≤ i → i < p.n → idx r i < k → eaI p i ≤ idx r i + 1
  | 0, i, _, _, hk => by
    have := idx_nn (r := r) (x := i)
    omega
  | k + 1, i, h0, h1, hk => by
    rw [earl_fix hp hcy h0 h1]
    have hm := maxL_mem (ns := gLow p i :: (bef p i).map fun o => eaI p o + 1) (Nat.succ_pos _)
    rcases List.mem_cons.mp hm with q | q
    · rw [q]
      exact low_le h
    · obtain ⟨o, ho, e⟩ := List.mem_map.mp q
      rw [← e]
      have h2 := good_ahd h (mem_bef.mp ho)
      have h3 := bef_in hp ho
      have h4 := ea_le hp hcy hr h k o h3.1 h3.2 (by omega)
      omega
theorem la_ge {p : Prob} (hp : OkP p) (hcy : cyclicB p = false) {r : List Int} (hr : FnG p p.n.toNat r) (h : goodB p r = true) : ∀ (k : Nat) (i : Int), 0 ≤ i → i < p.n → p.n - idx r i ≤ k → idx r i + 1 ≤ laI p i
  | 0, i, h0, h1, hk => by
    have := idx_lt (full_mem hp hr h0 h1)
    have := hr.ln
    have := hp.n1
    omega
  | k + 1, i, h0, h1, hk => by
    rw [late_fix hp hcy h0 h1]
    have hm := minL_mem (ns := gHigh p i :: (beh p i).map fun o => laI p o - 1) (Nat.succ_pos _)
    rcases List.mem_cons.mp hm with q | q
    · rw [q]
      refine high_ge h ?_
      have := idx_lt (full_mem hp hr h0 h1)
      have := hr.ln
      have := hp.n1
      omega
    · obtain ⟨o, ho, e⟩ := List.mem_map.mp q
      rw [← e]
      have h2 := good_ahd h (mem_beh.mp ho)
      have h3 := beh_in hp ho
      have h4 := la_ge hp hcy hr h k o h3.1 h3.2 (by omega)
      omega
/-- too many items for the places: no ranking -/
theorem no_over {p : Prob} (hp : OkP p) (hcy : cyclicB p = false) {r : List Int} (hr : FnG p p.n.toNat r) {lo hi : Int} (hv : plc lo hi < (itemsIn p lo hi).length) : goodB p r = false := by
  cases h : goodB p r with
  | false => rfl
  | true =>
    exfalso
    have hnd : (itemsIn p lo hi).Nodup := (rng_nodup.filter _).filter _
    have hlen := hr.ln
    have hm : ((itemsIn p lo hi).map fun i => idx r i + 1).length ≤ (rng lo (hi - lo + 1).toNat).length := by
      refine List.Nodup.length_le_of_subset ?_ ?_
      · rw [List.nodup_iff_pairwise_ne, List.pairwise_map]
        refine List.Pairwise.imp_of_mem ?_ (List.nodup_iff_pairwise_ne.mp hnd)
        intro a b ha hb hne e
        have ha2 := (itemsIn_in.mp ha).1
        have hb2 := (itemsIn_in.mp hb).1
        exact hne (idx_inj (full_mem hp hr ha2.1 ha2.2) (full_mem hp hr hb2.1 hb2.2) (by omega))
      · intro x hx
        obtain ⟨i, hi2, rfl⟩ := List.mem_map.mp hx
        obtain ⟨⟨h0, h1⟩, h2, h3⟩ := itemsIn_in.mp hi2
        have h4 := ea_le hp hcy hr h (idx r i + 1).toNat i h0 h1 (by have := idx_nn (r := r) (x := i); omega)
        have h5 := la_ge hp hcy hr h (p.n - idx r i).toNat i h0 h1 (by omega)
        exact rng_mem.mpr (by omega)
    rw [List.length_map, rng_len] at hm
    unfold plc at hv
    split at hv <;> omega
/-! ### where the deadlines fail -/
def Tr (p : Prob) (f : List Int) : Prop := ∀ a x b, f = a ++ x :: b → eaI p x ≤ a.length + 1 ∧ ∀ y, 0 ≤ y → y < p.n → y ∉ a → eaI p y ≤ a.length + 1 → laI p x ≤ laI p y
theorem tr_snoc {p : Prob} {f : List Int} {x : Int} (h : Tr p f) (h1 : eaI p x ≤ f.length + 1) (h2 : ∀ y, 0 ≤ y → y < p.n → y ∉ f → eaI p y ≤ f.length + 1 → laI p x ≤ laI p y) : Tr p (f ++ [x]) := by
  intro a z b e
  rcases List.append_eq_append_iff.mp e with ⟨c, e1, e2⟩ | ⟨c, e1, e2⟩
  · cases c with
    | nil =>
      rw [List.append_nil] at e1
      have e3 : [x] = z :: b := e2
      injection e3 with e4 e5
      subst e4
      rw [e1]
      exact ⟨h1, h2⟩
    | cons w c =>
      have e3 : [x] = w :: (c ++ z :: b) := e2
      injection e3 with e4 e5
      cases c <;> cases e5
  · cases c with
    | nil =>
      have e3 : z :: b = [x] := e2
      injection e3 with e4 e5
      subst e4
      rw [List.append_nil] at e1
      rw [← e1]
      exact ⟨h1, h2⟩
    | cons w c =>
      have e3 : z :: b = w :: (c ++ [x]) := e2
      injection e3 with e4 e5
      subst e4
      exact h a z c e1
/-- what the loop leaves: all placed by the rule, or a place for which nothing is ready -/
theorem edf_two {p : Prob} : ∀ (m : Nat) (t : Nat) (f : List Int), t + m = p.n.toNat → FnG p t f → Tr p f →
    (∃ r, edfLoop p (rng ((t : Int) + 1) m) f = some r ∧ FnG p p.n.toNat r ∧ Tr p r) ∨ (edfLoop p (rng ((t : Int) + 1) m) f = none ∧ ∃ (t' : Nat) (f' : List Int), t' < p.n.toNat ∧ FnG p t' f' ∧ readyAt p f' ((t' : Int) + 1) = [])
  | 0, t, f, hm, hf, htr => .inl ⟨f, by simp [rng, edfLoop], by have : t = p.n.toNat := by omega
                                                                rw [← this]; exact hf, htr⟩
  | m + 1, t, f, hm, hf, htr => by
    rw [rng_succ, edfLoop]
    cases q : readyAt p f ((t : Int) + 1) with
    | nil => exact .inr ⟨rfl, t, f, by omega, hf, q⟩
    | cons x l =>
      have hmem := bestI_mem (p := p) l x
      have hle := bestI_le (p := p) l x
      rw [← q] at hmem hle
      have h3 := (readyAt_mem.mp hmem).2.2
      have hl := hf.ln
      have ih := edf_two m (t + 1) (f ++ [bestI p x l]) (by omega) (hf.next q) (tr_snoc htr (by omega) fun y h0 h1 hn he => hle y (readyAt_mem.mpr ⟨⟨h0, h1⟩, hn, by omega⟩))
      rw [show (((t + 1 : Nat)) : Int) + 1 = (t : Int) + 1 + 1 by omega] at ih
      exact ih
theorem nodup_split {a b : List Int} {x : Int} (h : (a ++ x :: b).Nodup) : x ∉ a ∧ x ∉ b ∧ ∀ y ∈ x :: b, y ∉ a := by
  rw [List.nodup_append, List.nodup_cons] at h
  exact ⟨fun z => h.2.2 x z x (by simp) rfl, h.2.1.1, fun y hy z => h.2.2 y z y hy rfl⟩
/-- all in time: all the constraints hold -/
theorem on_time {p : Prob} (hp : OkP p) (hcy : cyclicB p = false) {f : List Int} (hf : FnG p p.n.toNat f) (htr : Tr p f) (h : ∀ x ∈ f, idx f x + 1 ≤ laI p x) : goodB p f = true := by
  have hea : ∀ x ∈ f, eaI p x ≤ idx f x + 1 := fun x hx => by
    obtain ⟨a, b, e⟩ := List.append_of_mem hx
    have h1 := (htr a x b e).1
    have hnd := hf.nd
    rw [e] at hnd ⊢
    rw [idx_split (nodup_split hnd).1]
    exact h1
  refine good_all.mpr fun c hc => ?_
  have hw := hp.wf c hc
  cases c with
  | win i lo hi =>
    have hi' := full_mem hp hf hw.1 hw.2.1
    have h1 := hea i hi'
    have h2 := h i hi'
    have h3 := ea_low hp hcy hw.1 hw.2.1
    have h4 := la_high hp hcy hw.1 hw.2.1
    have h5 : lo ≤ gLow p i := maxL_ge (List.mem_cons_of_mem _ (List.mem_map.mpr ⟨.win i lo hi, List.mem_filter.mpr ⟨hc, by simp [isWinOf]⟩, rfl⟩))
    have h6 : gHigh p i ≤ hi := minL_le (List.mem_cons_of_mem _ (List.mem_map.mpr ⟨.win i lo hi, List.mem_filter.mpr ⟨hc, by simp [isWinOf]⟩, rfl⟩))
    show (decide (lo ≤ idx f i + 1) && decide (idx f i + 1 ≤ hi)) = true
    rw [decide_eq_true (by omega), decide_eq_true (by omega)]
    rfl
  | ahd a b =>
    have ha := full_mem hp hf hw.1 hw.2.1
    have hb := full_mem hp hf hw.2.2.1 hw.2.2.2.1
    have h1 := ea_ahd hp hcy hc
    have h2 := la_ahd hp hcy hc
    refine decide_eq_true ?_
    rcases Int.lt_trichotomy (idx f a) (idx f b) with z | z | z
    · exact z
    · exact absurd (idx_inj ha hb z) hw.2.2.2.2
    · exfalso
      obtain ⟨u, v, e⟩ := List.append_of_mem hb
      have hnd := hf.nd
      obtain ⟨h3, h4⟩ := htr u b v e
      rw [e] at hnd z
      have hs := nodup_split hnd
      rw [idx_split hs.1] at z
      have hau : a ∉ u := fun q => by
        obtain ⟨u1, u2, e2⟩ := List.append_of_mem q
        rw [e2, List.append_assoc] at z hnd
        have hs2 := nodup_split hnd
        have e3 : idx (u1 ++ (a :: u2 ++ b :: v)) a = (u1.length : Nat) := idx_split hs2.1
        rw [e3, List.length_append] at z
        omega
      have h5 := h4 a hw.1 hw.2.1 hau (by omega)
      omega
theorem last_big {p : Prob} {d : Int} : ∀ a : List Int, ∃ a1 a2, a = a1 ++ a2 ∧ (∀ y ∈ a2, laI p y ≤ d) ∧ (a1 = [] ∨ ∃ a0 z, a1 = a0 ++ [z] ∧ d < laI p z) := by
  intro a
  induction a with
  | nil => exact ⟨[], [], rfl, by simp, .inl rfl⟩
  | cons x a ih =>
    obtain ⟨a1, a2, e, h1, h2⟩ := ih
    rcases h2 with q | ⟨a0, z, q, hz⟩
    · subst q
      by_cases hx : laI p x ≤ d
      · exact ⟨[], x :: a, rfl, fun y hy => by
          rcases List.mem_cons.mp hy with q | q
          · rw [q]; exact hx
          · exact h1 y (by rw [e] at q; exact q), .inl rfl⟩
      · exact ⟨[x], a, rfl, fun y hy => h1 y (by rw [e] at hy; exact hy), .inr ⟨[], x, rfl, by omega⟩⟩
    · exact ⟨x :: a1, a2, by rw [e]; rfl, h1, .inr ⟨x :: a0, z, by rw [q]; rfl, hz⟩⟩
theorem intv_mk {p : Prob} {lo hi : Int} (h1 : 1 ≤ lo) (h2 : lo ≤ p.n + 1) (h3 : 0 ≤ hi) (h4 : hi ≤ p.n) : (lo, hi, itemsIn p lo hi) ∈ intvs p :=
  List.mem_flatMap.mpr ⟨lo, rng_mem.mpr (by omega), List.mem_map.mpr ⟨hi, rng_mem.mpr (by omega), rfl⟩⟩
theorem late_over {p : Prob} (hp : OkP p) (hcy : cyclicB p = false) {f : List Int} (hf : FnG p p.n.toNat f) (htr : Tr p f) {x : Int} (hx : x ∈ f) (hlate : laI p x < idx f x + 1) : ∃ v ∈ intvs p, overB v = true := by
  obtain ⟨a, b, e⟩ := List.append_of_mem hx
  have hnd := hf.nd
  have hrg := hf.rg
  have hln := hf.ln
  have hn1 := hp.n1
  rw [e] at hnd hrg hlate hln
  rw [idx_split (nodup_split hnd).1] at hlate
  obtain ⟨a1, a2, e1, h1, h2⟩ := last_big (p := p) (d := laI p x) a
  subst e1
  have hxr := hrg x (by simp)
  have hbd := la_bd hp hxr.1 hxr.2
  rw [List.length_append, List.length_cons, List.length_append] at hln
  rw [List.length_append] at hlate
  have hS : ∀ y ∈ a2 ++ [x], (0 ≤ y ∧ y < p.n) ∧ laI p y ≤ laI p x ∧ (a1.length : Int) + 1 ≤ eaI p y := by
    intro y hy
    have hyr : 0 ≤ y ∧ y < p.n := hrg y (by
      rcases List.mem_append.mp hy with q | q
      · simp [q]
      · have : y = x := by simpa using q
        simp [this])
    have hyl : laI p y ≤ laI p x := by
      rcases List.mem_append.mp hy with q | q
      · exact h1 y q
      · have : y = x := by simpa using q
        rw [this]
        exact Int.le_refl _
    refine ⟨hyr, hyl, ?_⟩
    rcases h2 with q | ⟨a0, z, q, hz⟩
    · rw [q]
      have := (ea_bd hp hyr.1 hyr.2).1
      simpa using this
    · subst q
      have e2 : f = a0 ++ z :: (a2 ++ x :: b) := by rw [e]; simp
      obtain ⟨h3, h4⟩ := htr a0 z _ e2
      have hnd2 : (a0 ++ z :: (a2 ++ x :: b)).Nodup := by rw [← e2]; exact hf.nd
      have hs := nodup_split hnd2
      have hya : y ∉ a0 := hs.2.2 y (by
        rcases List.mem_append.mp hy with q | q
        · simp [q]
        · have : y = x := by simpa using q
          simp [this])
      rcases Int.lt_or_le (eaI p y) (a0.length + 1 + 1) with w | w
      · have := h4 y hyr.1 hyr.2 hya (by omega)
        omega
      · rw [List.length_append, List.length_cons, List.length_nil]
        omega
  have hSn : (a2 ++ [x]).Nodup := by
    have e3 : (a1 ++ a2) ++ x :: b = a1 ++ ((a2 ++ [x]) ++ b) := by simp
    rw [e3, List.nodup_append] at hnd
    have := hnd.2.1
    rw [List.nodup_append] at this
    exact this.1
  generalize hD : (if 0 ≤ laI p x then laI p x else 0) = D
  have hD0 : 0 ≤ D := by rw [← hD]; split <;> omega
  have hD1 : laI p x ≤ D := by rw [← hD]; split <;> omega
  have hD2 : D ≤ p.n := by rw [← hD]; split <;> omega
  have hD3 : D < (a1.length : Int) + (a2.length : Int) + 1 := by rw [← hD]; split <;> omega
  refine ⟨((a1.length : Int) + 1, D, itemsIn p ((a1.length : Int) + 1) D), intv_mk (by omega) (by omega) hD0 hD2, decide_eq_true ?_⟩
  have hsub := List.Nodup.length_le_of_subset (l₂ := itemsIn p ((a1.length : Int) + 1) D) hSn (fun y hy => by
    obtain ⟨k1, k2, k3⟩ := hS y hy
    exact itemsIn_in.mpr ⟨k1, k3, by omega⟩)
  rw [List.length_append, List.length_cons, List.length_nil] at hsub
  show plc ((a1.length : Int) + 1) D < ((itemsIn p ((a1.length : Int) + 1) D).length : Nat)
  unfold plc
  split <;> omega
theorem stuck_over {p : Prob} (hp : OkP p) {t : Nat} {f : List Int} (ht : t < p.n.toNat) (hf : FnG p t f) (he : readyAt p f ((t : Int) + 1) = []) : ∃ v ∈ intvs p, overB v = true := by
  have hn1 := hp.n1
  refine ⟨((t : Int) + 2, p.n, itemsIn p ((t : Int) + 2) p.n), intv_mk (by omega) (by omega) (by omega) (by omega), decide_eq_true ?_⟩
  have h1 := filter_two (fun i => decide (i ∈ f)) (rng 0 p.n.toNat)
  have h2 : ((rng 0 p.n.toNat).filter fun i => decide (i ∈ f)).length ≤ f.length := by
    refine List.Nodup.length_le_of_subset (rng_nodup.filter _) fun x hx => ?_
    simpa using (List.mem_filter.mp hx).2
  have h3 : ((rng 0 p.n.toNat).filter fun i => !decide (i ∈ f)).length ≤ (itemsIn p ((t : Int) + 2) p.n).length := by
    refine List.Nodup.length_le_of_subset (rng_nodup.filter _) fun x hx => ?_
    obtain ⟨k1, k2⟩ := List.mem_filter.mp hx
    have k3 := rng_mem.mp k1
    have k4 : x ∉ f := by simpa using k2
    have hxr : 0 ≤ x ∧ x < p.n := by omega
    refine itemsIn_in.mpr ⟨hxr, ?_, (la_bd hp hxr.1 hxr.2).2⟩
    rcases Int.lt_or_le (eaI p x) ((t : Int) + 2) with w | w
    · have : x ∈ readyAt p f ((t : Int) + 1) := readyAt_mem.mpr ⟨hxr, k4, by omega⟩
      rw [he] at this
      cases this
    · exact w
  rw [rng_len] at h1
  have h4 := hf.ln
  show plc ((t : Int) + 2) p.n < ((itemsIn p ((t : Int) + 2) p.n).length : Nat)
  unfold plc
  split <;> omega
theorem edf_over {p : Prob} (hp : OkP p) (hcy : cyclicB p = false) (h : edfP p = none) : ∃ v ∈ intvs p, overB v = true := by
  unfold edfP at h
  rw [hcy] at h
  have h2 := edf_two (p := p) p.n.toNat 0 [] (by omega) ⟨rfl, by simp, by simp⟩ (fun a x b e => by cases a <;> cases e)
  rw [show (((0 : Nat)) : Int) + 1 = 1 from rfl] at h2
  rcases h2 with ⟨r, h3, h4, h5⟩ | ⟨h3, t, f, h4, h5, h6⟩
  · rw [h3] at h
    have hg : goodB p r ≠ true := fun z => by
      have h' : (if goodB p r = true then some r else none) = none := h
      rw [if_pos z] at h'
      cases h'
    by_cases hall : ∀ x ∈ r, idx r x + 1 ≤ laI p x
    · exact absurd (on_time hp hcy h4 h5 hall) hg
    · simp only [Classical.not_forall] at hall
      obtain ⟨x, hx, hl⟩ := hall
      exact late_over hp hcy h4 h5 hx (by omega)
  · exact stuck_over hp h4 h5 h6
theorem edf_good {p : Prob} {f : List Int} (h : edfP p = some f) : FnG p p.n.toNat f ∧ goodB p f = true := by
  unfold edfP at h
  split at h
  · cases h
  · split at h
    · cases h
    · rename_i g hg
      split at h
      · rename_i hgood
        have e : g = f := Option.some.inj h
        subst e
        have := edfLoop_ok (p := p) (rng 1 p.n.toNat) [] g 0 ⟨rfl, by simp, by simp⟩ hg
        rw [rng_len, Nat.zero_add] at this
        exact ⟨this, hgood⟩
      · cases h
end RK

/-! The evidence told is accepted; both judges say the same. -/
namespace RK
open PySem PySem.Spec PyProof.Rows L2 DL
/-! chains -/
theorem lowLoop_spec {p : Prob} (hp : OkP p) (hcy : cyclicB p = false) {i : Int} : ∀ (k : Nat) (x : Int) (c : List Int), (∀ y ∈ x :: c, 0 ≤ y ∧ y < p.n) → Chn p (x :: c) → lastI (x :: c) = i → eaI p x + c.length = eaI p i → (eaI p x).toNat < k →
    ∃ y d, lowLoop p k (x :: c) = y :: d ∧ (∀ z ∈ y :: d, 0 ≤ z ∧ z < p.n) ∧ Chn p (y :: d) ∧ lastI (y :: d) = i ∧ gLow p y + d.length = eaI p i ∧ eaI p y = gLow p y
  | 0, _, _, _, _, _, _, h => by omega
  | k + 1, x, c, hr, hc, hl, he, hk => by
    have hx := hr x (by simp)
    have h1 := ea_bd hp hx.1 hx.2
    rw [lowLoop]
    show ∃ y d, (if gLow p x = eaI p x then x :: c else lowLoop p k ((lowNear p x).headD 0 :: x :: c)) = y :: d ∧ _
    by_cases hg : gLow p x = eaI p x
    · rw [if_pos hg]
      exact ⟨x, c, rfl, hr, hc, hl, by omega, hg.symm⟩
    · rw [if_neg hg]
      obtain ⟨y, l, hy, hy1, hy2, hy3⟩ := lowNear_hd hp hcy hx.1 hx.2 hg
      rw [hy]
      show ∃ z d, lowLoop p k (y :: x :: c) = z :: d ∧ _
      have h2 := ea_bd hp hy3.1 hy3.2
      exact lowLoop_spec hp hcy k y (x :: c) (fun z hz => by
        rcases List.mem_cons.mp hz with q | q
        · rw [q]; exact hy3
        · exact hr z q) (chn_cons hy1 hc) hl (by rw [List.length_cons]; omega) (by omega)
theorem lowChain_ok {p : Prob} (hp : OkP p) (hcy : cyclicB p = false) {i lo : Int} (h0 : 0 ≤ i) (h1 : i < p.n) (hlo : lo ≤ eaI p i) : ShowsLow p i lo (lowChain p i) := by
  obtain ⟨y, d, e, k1, k2, k3, k4, k5⟩ := lowLoop_spec hp hcy (i := i) ((eaI p i).toNat + 1) i [] (by simp; exact ⟨h0, h1⟩) True.intro rfl (by simp) (by omega)
  unfold lowChain
  rw [e]
  have hb := ea_bd hp h0 h1
  have hy := gLow_ge (p := p) (i := y)
  refine ⟨⟨by simp, k1, k2, by rw [List.length_cons]; omega⟩, k3, ?_⟩
  show lo ≤ gLow p y + ((y :: d).length : Nat) - 1
  rw [List.length_cons]
  omega
theorem lastI_mem {c : List Int} (hn : c ≠ []) : lastI c ∈ c := by
  cases c with
  | nil => exact absurd rfl hn
  | cons x l =>
    unfold lastI
    rw [List.getLastD_cons, ← List.getLast_eq_getLastD (by simp)]
    exact List.getLast_mem (by simp)
theorem upLoop_spec {p : Prob} (hp : OkP p) (hcy : cyclicB p = false) {i : Int} : ∀ (k : Nat) (c : List Int), c ≠ [] → (∀ y ∈ c, 0 ≤ y ∧ y < p.n) → Chn p c → c.headD 0 = i → laI p (lastI c) - c.length + 1 = laI p i → (p.n - laI p (lastI c)).toNat < k →
    ∃ d, upLoop p k c = d ∧ d ≠ [] ∧ (∀ z ∈ d, 0 ≤ z ∧ z < p.n) ∧ Chn p d ∧ d.headD 0 = i ∧ gHigh p (lastI d) - d.length + 1 = laI p i
  | 0, _, _, _, _, _, _, h => by omega
  | k + 1, c, hn, hr, hc, hl, he, hk => by
    have hx : 0 ≤ lastI c ∧ lastI c < p.n := hr _ (lastI_mem hn)
    have h1 := la_bd hp hx.1 hx.2
    rw [upLoop]
    by_cases hg : gHigh p (lastI c) = laI p (lastI c)
    · rw [if_pos hg]
      exact ⟨c, rfl, hn, hr, hc, hl, by omega⟩
    · rw [if_neg hg]
      obtain ⟨y, l, hy, hy1, hy2, hy3⟩ := upNear_hd hp hcy hx.1 hx.2 hg
      rw [hy]
      have h2 := la_bd hp hy3.1 hy3.2
      refine upLoop_spec hp hcy k (c ++ [y]) (by simp) (fun z hz => ?_) (chn_snoc hn hc hy1) (by rw [hd_app hn]; exact hl) ?_ ?_
      · rcases List.mem_append.mp hz with q | q
        · exact hr z q
        · have : z = y := by simpa using q
          rw [this]; exact hy3
      · show laI p (lastI (c ++ [y])) - ((c ++ [y]).length : Nat) + 1 = _
        rw [lastI_snoc, List.length_append, List.length_cons, List.length_nil]
        omega
      · show (p.n - laI p (lastI (c ++ [y]))).toNat < k
        rw [lastI_snoc]
        omega
theorem upChain_ok {p : Prob} (hp : OkP p) (hcy : cyclicB p = false) {i hi : Int} (h0 : 0 ≤ i) (h1 : i < p.n) (hhi : laI p i ≤ hi) : ShowsHigh p i hi (upChain p i) := by
  obtain ⟨d, e, k0, k1, k2, k3, k4⟩ := upLoop_spec hp hcy (i := i) ((p.n - laI p i).toNat + 1) [i] (by simp) (by simp; exact ⟨h0, h1⟩) True.intro rfl (by show laI p i - ((1 : Nat) : Int) + 1 = laI p i; omega) (by show (p.n - laI p i).toNat < _; omega)
  unfold upChain
  rw [e]
  have hb := la_bd hp h0 h1
  have hy := gHigh_le (p := p) (i := lastI d)
  have hn := hp.n5
  exact ⟨⟨k0, k1, k2, by omega⟩, k3, by omega⟩
theorem rng_asc {lo : Int} {n : Nat} : (rng lo n).Pairwise (· < ·) := by
  unfold rng
  rw [List.pairwise_map]
  exact List.Pairwise.imp (fun h => by omega) List.pairwise_lt_range
/-- what is told -/
theorem told_shape {p : Prob} (hp : OkP p) (h : edfP p = none) :
    (∀ r, FnG p p.n.toNat r → goodB p r = false) ∧ ((∃ c, toldC p = .tuple [.str sCycle, dR c] ∧ CyOk p c) ∨ ∃ lo hi rs, toldC p = .tuple [.str sOver, .int lo, .int hi, .tuple (rs.map dRow)] ∧ OvOk p lo hi rs) := by
  by_cases hcy : cyclicB p = true
  · obtain ⟨c, e, hc⟩ := cycOf_ok hp hcy
    refine ⟨fun r _ => no_cyc hc, .inl ⟨c, ?_, hc⟩⟩
    unfold toldC
    rw [if_pos hcy, e]
  · have hcf : cyclicB p = false := by simpa using hcy
    obtain ⟨v0, hv0, ho0⟩ := edf_over hp hcf h
    cases hf : (intvs p).find? overB with
    | none =>
      rw [List.find?_eq_none] at hf
      exact absurd ho0 (hf v0 hv0)
    | some v =>
      have hm := List.mem_of_find?_eq_some hf
      have ho := List.find?_some hf
      obtain ⟨lo, hlo, hm2⟩ := List.mem_flatMap.mp hm
      obtain ⟨hi, hhi, rfl⟩ := List.mem_map.mp hm2
      have hlo2 := rng_mem.mp hlo
      have hhi2 := rng_mem.mp hhi
      have hn5 := hp.n5
      have hov : plc lo hi < ((itemsIn p lo hi).length : Nat) := of_decide_eq_true ho
      have hfew := itemsIn_few hp (lo := lo) (hi := hi)
      refine ⟨fun r hr => no_over hp hcf hr hov, .inr ⟨lo, hi, (itemsIn p lo hi).map (rowOf p), ?_, ?_⟩⟩
      · unfold toldC
        rw [if_neg hcy, hf]
      · refine ⟨by omega, by omega, by omega, by omega, fun r hr => ?_, ?_, ?_, ?_⟩
        · obtain ⟨i, hi2, rfl⟩ := List.mem_map.mp hr
          obtain ⟨h1, h2, h3⟩ := itemsIn_in.mp hi2
          exact ⟨h1, lowChain_ok hp hcf h1.1 h1.2 h2, upChain_ok hp hcf h1.1 h1.2 h3⟩
        · rw [List.map_map]
          have e : (Prod.fst ∘ rowOf p : Int → Int) = id := rfl
          rw [e, List.map_id]
          exact (rng_asc.filter _).filter _
        · rw [List.length_map]
          exact hov
        · rw [List.length_map]
          omega
/-! merging -/
theorem swp_swp {i j x : Int} : swp i j (swp i j x) = x := by
  unfold swp
  split <;> split <;> (try split) <;> omega
theorem idx_exch {i j x : Int} : ∀ {r : List Int}, idx (exch i j r) x = idx r (swp i j x) := by
  intro r
  unfold idx exch
  congr 1
  induction r with
  | nil => rfl
  | cons y r ih =>
    rw [List.map_cons, List.idxOf_cons, List.idxOf_cons, ih]
    have e : (swp i j y == x) = (y == swp i j x) := by
      rw [Bool.eq_iff_iff, beq_iff_eq, beq_iff_eq]
      constructor
      · intro h
        rw [← h, swp_swp]
      · intro h
        rw [h, swp_swp]
    rw [e]
theorem holds_exch {i j : Int} {c : Con} {r : List Int} : holdsB c (exch i j r) = holdsB (swC i j c) r := by
  cases c with
  | win k lo hi =>
    show (decide (lo ≤ idx (exch i j r) k + 1) && decide (idx (exch i j r) k + 1 ≤ hi)) = _
    rw [idx_exch]
    rfl
  | ahd a b =>
    show decide (idx (exch i j r) a < idx (exch i j r) b) = _
    rw [idx_exch, idx_exch]
    rfl
theorem betw_mem {p : Prob} {i j : Int} : betw p i j = [] ↔ Con.ahd i j ∉ p.cs ∧ Con.ahd j i ∉ p.cs := by
  unfold betw
  rw [List.map_eq_nil_iff, List.filter_eq_nil_iff]
  have hz : ∀ c, c ∈ p.cs ↔ ∃ q ∈ p.cs.zipIdx, q.1 = c := fun c => by
    constructor
    · intro hc
      obtain ⟨k, hk, e⟩ := List.mem_iff_getElem.mp hc
      exact ⟨(c, k), List.mem_zipIdx_iff_getElem?.mpr (by rw [List.getElem?_eq_getElem hk, e]), rfl⟩
    · rintro ⟨q, hq, rfl⟩
      obtain ⟨x, n⟩ := q
      exact List.fst_mem_of_mem_zipIdx hq
  constructor
  · intro h
    refine ⟨fun hc => ?_, fun hc => ?_⟩
    · obtain ⟨q, hq, e⟩ := (hz _).mp hc
      exact h q hq (by simp [btwB, e])
    · obtain ⟨q, hq, e⟩ := (hz _).mp hc
      exact h q hq (by simp [btwB, e])
  · rintro ⟨h1, h2⟩ q hq hb
    have hc := (hz q.1).mpr ⟨q, hq, rfl⟩
    simp [btwB] at hb
    rcases hb with e | e
    · rw [e] at hc
      exact h1 hc
    · rw [e] at hc
      exact h2 hc
theorem swp_fix {i j k : Int} (h1 : k ≠ i) (h2 : k ≠ j) : swp i j k = k := by
  unfold swp
  rw [if_neg h1, if_neg h2]
theorem swC_same {p : Prob} {i j : Int} (hij : i ≠ j) (hb : betw p i j = []) {c : Con} (hc : c ∈ p.cs) (ho : oneOf i j c = false) : swC i j c = c := by
  obtain ⟨h1, h2⟩ := betw_mem.mp hb
  cases c with
  | win k lo hi =>
    simp [oneOf, itemsOf] at ho
    show Con.win (swp i j k) lo hi = _
    have k1 : k ≠ i := fun z => hij (by rw [ho.mp z.symm, z])
    have k2 : k ≠ j := fun z => hij (by rw [ho.mpr z.symm, z])
    rw [swp_fix k1 k2]
  | ahd a b =>
    simp [oneOf, itemsOf] at ho
    rw [Bool.eq_iff_iff, Bool.or_eq_true, Bool.or_eq_true, decide_eq_true_eq, decide_eq_true_eq, decide_eq_true_eq, decide_eq_true_eq] at ho
    have h3 : ¬ (a = i ∧ b = j) := fun z => by
      rw [z.1, z.2] at hc
      exact h1 hc
    have h4 : ¬ (a = j ∧ b = i) := fun z => by
      rw [z.1, z.2] at hc
      exact h2 hc
    show Con.ahd (swp i j a) (swp i j b) = _
    have hi : ¬ (i = a ∨ i = b) := fun z => by
      have := ho.mp z
      omega
    have hj : ¬ (j = a ∨ j = b) := fun z => hi (ho.mpr z)
    rw [swp_fix (by omega) (by omega), swp_fix (by omega) (by omega)]
theorem good_mrg {p : Prob} {i j : Int} (h : PairOk p i j) (hb : betw p i j = []) {r : List Int} : goodB (mrg p i j) r = (goodB p r && goodB p (exch i j r)) := by
  rw [Bool.eq_iff_iff, Bool.and_eq_true, good_all, good_all, good_all]
  constructor
  · intro hg
    refine ⟨fun c hc => hg c (List.mem_append_left _ hc), fun c hc => ?_⟩
    rw [holds_exch]
    by_cases ho : oneOf i j c = true
    · exact hg _ (List.mem_append_right _ (List.mem_map.mpr ⟨c, List.mem_filter.mpr ⟨hc, ho⟩, rfl⟩))
    · rw [swC_same (by have := h.ij; omega) hb hc (by simpa using ho)]
      exact hg c (List.mem_append_left _ hc)
  · rintro ⟨h1, h2⟩ c hc
    rcases List.mem_append.mp hc with q | q
    · exact h1 c q
    · obtain ⟨c', hc', rfl⟩ := List.mem_map.mp q
      have := h2 c' (List.mem_filter.mp hc').1
      rw [holds_exch] at this
      exact this
theorem no_betw {p : Prob} {i j : Int} (hb : betw p i j ≠ []) {r : List Int} (h1 : goodB p r = true) (h2 : goodB p (exch i j r) = true) : False := by
  have hor : Con.ahd i j ∈ p.cs ∨ Con.ahd j i ∈ p.cs := by
    by_cases q : Con.ahd i j ∈ p.cs
    · exact .inl q
    · by_cases q2 : Con.ahd j i ∈ p.cs
      · exact .inr q2
      · exact absurd (betw_mem.mpr ⟨q, q2⟩) hb
  have hi : swp i j i = j := by unfold swp; rw [if_pos rfl]
  have hj : swp i j j = i := by
    unfold swp
    by_cases e : j = i
    · rw [if_pos e, e]
    · rw [if_neg e, if_pos rfl]
  rcases hor with hc | hc
  · have a1 := good_ahd h1 hc
    have a2 := good_ahd h2 hc
    rw [idx_exch, idx_exch, hi, hj] at a2
    omega
  · have a1 := good_ahd h1 hc
    have a2 := good_ahd h2 hc
    rw [idx_exch, idx_exch, hi, hj] at a2
    omega
/-- whether the two can change places: as the evidence says -/
theorem can_iff {p : Prob} {i j : Int} (h : PairOk p i j) : canB (goods p) i j = true ↔ betw p i j = [] ∧ edfP (mrg p i j) ≠ none := by
  unfold canB
  rw [List.any_eq_true]
  constructor
  · rintro ⟨b, hb, hid⟩
    obtain ⟨r, hr, rfl⟩ := List.mem_map.mp hb
    have hex : exch i j r ∈ goods p := of_decide_eq_true hid
    obtain ⟨hf, hg⟩ := goods_mem.mp hr
    have hg2 := (goods_mem.mp hex).2
    have hbe : betw p i j = [] := by
      cases q : betw p i j with
      | nil => rfl
      | cons a b => exact (no_betw (by rw [q]; simp) hg hg2).elim
    refine ⟨hbe, fun z => ?_⟩
    have h1 := (told_shape h.mrg z).1 r ⟨hf.ln, hf.nd, hf.rg⟩
    rw [good_mrg h hbe, hg, hg2] at h1
    cases h1
  · rintro ⟨hbe, hne⟩
    cases q : edfP (mrg p i j) with
    | none => exact absurd q hne
    | some f =>
      obtain ⟨h1, h2⟩ := edf_good q
      rw [good_mrg h hbe, Bool.and_eq_true] at h2
      have h1' : FnG p p.n.toNat f := ⟨h1.ln, h1.nd, h1.rg⟩
      exact ⟨_, List.mem_map.mpr ⟨f, goods_mem.mpr ⟨h1'.n, h2.1⟩, rfl⟩, decide_eq_true (goods_mem.mpr ⟨(exch_ok h h1').n, h2.2⟩)⟩
end RK

/-! The values put to both judges. -/
namespace RK
open PySem PySem.Spec PyProof.Rows L2 DL
def fineB (p : Prob) (i j : Int) : Bool := canB (goods p) i j
def JOk (p : Prob) (i j : Int) (v : PyData) : Prop := ∃ b, EV p i j v b ∧ LV p i j v b ∧ (b = true → ∃ W Y, v = .tuple [.str W, Y] ∧ decide (W = sBoth) = fineB p i j)
structure YOk (p : Prob) (i j : Int) (y : PyData) : Prop where
  sh : SeqAt.shaped y = true
  ln : ∀ xs, y = .tuple xs → xs.length ≤ 1000
  nb : ∀ xs, y = .tuple xs → ∀ x ∈ xs, isBoolB x = false
  cv : betw p i j = [] → ∃ b, CV (mrg p i j) y b ∧ (b = true → edfP (mrg p i j) = none)
theorem j_nt {p : Prob} {i j : Int} {v : PyData} (h : isTupB v = false) : JOk p i j v := ⟨false, .nt h, .nt h, fun z => by cases z⟩
theorem j_ln {p : Prob} {i j : Int} {xs : List PyData} (h : xs.length ≠ 2) : JOk p i j (.tuple xs) := ⟨false, .ln h, .ln h, fun z => by cases z⟩
theorem j_ns {p : Prob} {i j : Int} {x y : PyData} (h : isStrB x = false) : JOk p i j (.tuple [x, y]) := ⟨false, .ns h, .ns h, fun z => by cases z⟩
theorem fine_false {p : Prob} {i j : Int} (h : PairOk p i j) (hn : betw p i j ≠ [] ∨ edfP (mrg p i j) = none) : fineB p i j = false := by
  cases q : fineB p i j with
  | false => rfl
  | true =>
    obtain ⟨h1, h2⟩ := (can_iff h).mp q
    rcases hn with z | z
    · exact absurd h1 z
    · exact absurd z h2
theorem sh_lay {y : PyData} (h : SeqAt.shaped y = true) : y.canLay0 = true := by
  unfold SeqAt.shaped at h
  rw [Bool.and_eq_true] at h
  exact h.1
theorem ints_of {xs : List PyData} (h : ∀ x ∈ xs, ∃ i, x = PyData.int i) : ∃ r : List Int, xs = r.map PyData.int := by
  induction xs with
  | nil => exact ⟨[], rfl⟩
  | cons x xs ih =>
    obtain ⟨i, e⟩ := h x (by simp)
    obtain ⟨r, e2⟩ := ih fun y hy => h y (by simp [hy])
    exact ⟨i :: r, by rw [e, e2]; rfl⟩
theorem rankB_form {n : Int} {xs : List PyData} (h : rankB n (.tuple xs) = true) : ∃ r : List Int, xs = r.map PyData.int := by
  refine ints_of fun x hx => ?_
  rw [show rankB n (.tuple xs) = (decide ((xs.length : Int) = n) && (xs.zipIdx.map fun q => wholeB q.1 0 (n - 1) && !((xs.take q.2).any fun z => PyData.eqv z q.1)).all id) from rfl, Bool.and_eq_true, List.all_eq_true] at h
  obtain ⟨k, hk, e⟩ := List.mem_iff_getElem.mp hx
  have := h.2 _ (List.mem_map.mpr ⟨(x, k), List.mem_zipIdx_iff_getElem?.mpr (by rw [List.getElem?_eq_getElem hk, e]), rfl⟩)
  rw [id, Bool.and_eq_true] at this
  obtain ⟨i, e2, _⟩ := whole_int this.1
  exact ⟨i, e2⟩
theorem eqv_int_nb {a : Int} {x : PyData} (h : PyData.eqv (.int a) x = true) (hb : isBoolB x = false) : x = .int a := by
  cases x with
  | int i =>
    rw [eqv_ii, decide_eq_true_eq] at h
    rw [h]
  | bool b => cases hb
  | none => simp [PyData.eqv] at h
  | str s => simp [PyData.eqv] at h
  | list l => simp [PyData.eqv] at h
  | tuple l => simp [PyData.eqv] at h
  | dict l => simp [PyData.eqv] at h
theorem eqvAll_form : ∀ {r : List Int} {xs : List PyData}, PyData.eqvAll (r.map PyData.int) xs = true → (∀ x ∈ xs, isBoolB x = false) → xs = r.map PyData.int
  | [], [], _, _ => rfl
  | [], x :: xs, h, _ => by simp [PyData.eqvAll] at h
  | a :: r, [], h, _ => by simp [PyData.eqvAll] at h
  | a :: r, x :: xs, h, hb => by
    rw [List.map_cons, PyData.eqvAll, Bool.and_eq_true] at h
    rw [eqv_int_nb h.1 (hb x (by simp)), eqvAll_form h.2 fun y hy => hb y (by simp [hy])]
    rfl
theorem j_both {p : Prob} {i j : Int} (h : PairOk p i j) {y : PyData} (hy : YOk p i j y) : JOk p i j (.tuple [.str sBoth, y]) := by
  have hl := sh_lay hy.sh
  by_cases ht : isTupB y = true
  · cases y with
    | tuple xs =>
      by_cases hf : ∃ r, xs = r.map PyData.int ∧ FnN p.n p.n.toNat r
      · obtain ⟨r, e, hr⟩ := hf
        subst e
        have e2 : PyData.tuple (r.map PyData.int) = dR r := rfl
        rw [e2] at hy ⊢
        by_cases hg : r ∈ goods p
        · have hg2 := (goods_mem.mp hg).2
          have heq : (goodB p r && goodB p (exch i j r)) = decide (exch i j r ∈ goods p) := by
            rw [hg2, Bool.true_and, Bool.eq_iff_iff, decide_eq_true_eq, goods_mem]
            exact ⟨fun z => ⟨(exch_ok h hr.g).n, z⟩, fun z => z.2⟩
          refine ⟨_, .bo hr.g, by rw [heq]; exact .bo hg, fun z => ⟨sBoth, dR r, rfl, ?_⟩⟩
          rw [heq] at z
          have hfine : fineB p i j = true := by
            unfold fineB canB
            rw [List.any_eq_true]
            exact ⟨_, List.mem_map.mpr ⟨r, hg, rfl⟩, z⟩
          rw [hfine]
          simp
        · have hgf : goodB p r = false := by
            cases q : goodB p r with
            | false => rfl
            | true => exact absurd (goods_mem.mpr ⟨hr, q⟩) hg
          refine ⟨false, ?_, .bt hy.sh (by
            show ((goods p).map dR).any (fun z => PyData.eqv z (dR r)) = false
            rw [any_dR, decide_eq_false hg]), fun z => by cases z⟩
          have := EV.bo (p := p) (i := i) (j := j) hr.g
          rw [hgf, Bool.false_and] at this
          exact this
      · refine ⟨false, .bn hl hy.ln ?_, .bt hy.sh ?_, fun z => by cases z⟩
        · cases q : rankB p.n (.tuple xs) with
          | false => rfl
          | true =>
            exfalso
            obtain ⟨r, e⟩ := rankB_form q
            refine hf ⟨r, e, ?_⟩
            rw [e, show PyData.tuple (r.map PyData.int) = dR r from rfl, rankB_ints, decide_eq_true_eq] at q
            exact ⟨by omega, q.2.2, q.2.1⟩
        · cases q : ((goods p).map dR).any (fun z => PyData.eqv z (.tuple xs)) with
          | false => rfl
          | true =>
            exfalso
            rw [List.any_eq_true] at q
            obtain ⟨z, hz, he⟩ := q
            obtain ⟨r, hr, rfl⟩ := List.mem_map.mp hz
            unfold dR at he
            rw [eqv_tt] at he
            exact hf ⟨r, eqvAll_form he (hy.nb xs rfl), (goods_mem.mp hr).1⟩
    | _ => cases ht
  · have ht2 : isTupB y = false := by simpa using ht
    refine ⟨false, .bn hl hy.ln ?_, .bn ht2, fun z => by cases z⟩
    cases y <;> first | rfl | cases ht2
theorem j_ahead {p : Prob} {i j : Int} (h : PairOk p i j) {y : PyData} : JOk p i j (.tuple [.str sAhead, y]) := by
  refine ⟨_, .ah, .ah, fun z => ⟨sAhead, y, rfl, ?_⟩⟩
  have hb : betw p i j ≠ [] := by
    cases y with
    | int k =>
      have : k ∈ betw p i j := of_decide_eq_true z
      exact List.ne_nil_of_mem this
    | _ => cases z
  rw [fine_false h (.inl hb)]
  decide +kernel
theorem j_never {p : Prob} {i j : Int} (h : PairOk p i j) {y : PyData} (hy : YOk p i j y) : JOk p i j (.tuple [.str sNever, y]) := by
  by_cases hb : betw p i j = []
  · obtain ⟨b, hc, hn⟩ := hy.cv hb
    refine ⟨b, .nv hb hc, .nv hb hc, fun z => ⟨sNever, y, rfl, ?_⟩⟩
    rw [fine_false h (.inr (hn z))]
    decide +kernel
  · exact ⟨false, .nb hb, .nb hb, fun z => by cases z⟩
def isWord (W : Str) : Prop := W = sBoth ∨ W = sAhead ∨ W = sNever
theorem j_word {p : Prob} {i j : Int} (h : PairOk p i j) {W : Str} (hw : isWord W) {y : PyData} (hy : YOk p i j y) : JOk p i j (.tuple [.str W, y]) := by
  rcases hw with e | e | e
  · rw [e]; exact j_both h hy
  · rw [e]; exact j_ahead h
  · rw [e]; exact j_never h hy
/-! which values -/
theorem y_non {p : Prob} {i j : Int} {y : PyData} (hs : SeqAt.shaped y = true) (ht : isTupB y = false) : YOk p i j y where
  sh := hs
  ln := fun xs e => by rw [e] at ht; cases ht
  nb := fun xs e => by rw [e] at ht; cases ht
  cv := fun _ => ⟨false, .nt ht, fun z => by cases z⟩
theorem shaped_tup {xs : List PyData} : SeqAt.shaped (.tuple xs) = true ↔ PyData.canLayAll0 xs = true ∧ PyData.depthAll xs ≤ 63 := by
  unfold SeqAt.shaped
  rw [Bool.and_eq_true, decide_eq_true_eq, lay_tup]
  simp only [PyData.depth]
  exact ⟨fun h => ⟨h.1, by omega⟩, fun h => ⟨h.1, by omega⟩⟩
theorem shaped_list {xs : List PyData} : SeqAt.shaped (.list xs) = true ↔ PyData.canLayAll0 xs = true ∧ PyData.depthAll xs ≤ 63 := by
  unfold SeqAt.shaped
  rw [Bool.and_eq_true, decide_eq_true_eq]
  simp only [PyData.depth, PyData.canLay0]
  exact ⟨fun h => ⟨h.1, by omega⟩, fun h => ⟨h.1, by omega⟩⟩
theorem depthAll_le {xs : List PyData} {k : Nat} : PyData.depthAll xs ≤ k ↔ ∀ x ∈ xs, x.depth ≤ k := by
  induction xs with
  | nil => simp [PyData.depthAll]
  | cons x xs ih =>
    simp only [PyData.depthAll, List.forall_mem_cons]
    rw [← ih]
    omega
/-- items fit for a value: no truth values, not deep -/
def ItOk (x : PyData) : Prop := x.canLay0 = true ∧ x.depth ≤ 63 ∧ isBoolB x = false
theorem it_shaped {xs : List PyData} (h : ∀ x ∈ xs, ItOk x) : PyData.canLayAll0 xs = true ∧ PyData.depthAll xs ≤ 63 := ⟨layAll_iff.mpr fun x hx => (h x hx).1, depthAll_le.mpr fun x hx => (h x hx).2.1⟩
theorem y_tup {p : Prob} {i j : Int} {xs : List PyData} (h : ∀ x ∈ xs, ItOk x) (hl : xs.length ≤ 1000) (hc : betw p i j = [] → ∃ b, CV (mrg p i j) (.tuple xs) b ∧ (b = true → edfP (mrg p i j) = none)) : YOk p i j (.tuple xs) where
  sh := shaped_tup.mpr (it_shaped h)
  ln := fun ys e => by
    injection e with e
    rw [← e]
    exact hl
  nb := fun ys e => by
    injection e with e
    rw [← e]
    exact fun x hx => (h x hx).2.2
  cv := hc
theorem it_int {k : Int} : ItOk (.int k) := ⟨lay_int, by simp [PyData.depth], rfl⟩
theorem it_non : ItOk .none := ⟨by simp [PyData.canLay0], by simp [PyData.depth], rfl⟩
theorem it_str {s : Str} (h : PyData.strOk s = true) : ItOk (.str s) := ⟨lay_str h, by simp [PyData.depth], rfl⟩
theorem it_dR {r : List Int} : ItOk (dR r) := ⟨lay_dR, by simp [dR, PyData.depth, depthAll_ints], rfl⟩
theorem lay_dRow {r : Row} : (dRow r).canLay0 = true := by
  unfold dRow
  rw [lay_tup, layAll_iff]
  intro x hx
  simp only [List.mem_cons, List.not_mem_nil, or_false] at hx
  rcases hx with rfl | rfl | rfl
  · exact lay_int
  · exact lay_dR
  · exact lay_dR
theorem depth_dRow {r : Row} : (dRow r).depth = 2 := by
  unfold dRow dR
  simp only [PyData.depth, PyData.depthAll, depthAll_ints]
  omega
theorem it_rows {rs : List Row} : ItOk (.tuple (rs.map dRow)) := by
  refine ⟨?_, ?_, rfl⟩
  · rw [lay_tup, layAll_iff]
    intro x hx
    obtain ⟨r, _, rfl⟩ := List.mem_map.mp hx
    exact lay_dRow
  · have : PyData.depthAll (rs.map dRow) ≤ 2 := depthAll_le.mpr fun x hx => by
      obtain ⟨r, _, rfl⟩ := List.mem_map.mp hx
      rw [depth_dRow]
      exact Nat.le_refl _
    simp only [PyData.depth]
    omega
/-- the values that stand behind a word at first -/
inductive Bas (p : Prob) (i j : Int) : PyData → Prop
  | int (k : Int) : Bas p i j (.int k)
  | row {r : List Int} : r.length ≤ 10 → Bas p i j (dR r)
  | cyc {c : List Int} : betw p i j = [] → edfP (mrg p i j) = none → CyOk (mrg p i j) c → Bas p i j (.tuple [.str sCycle, dR c])
  | ov {lo hi : Int} {rs : List Row} : betw p i j = [] → edfP (mrg p i j) = none → OvOk (mrg p i j) lo hi rs → Bas p i j (.tuple [.str sOver, .int lo, .int hi, .tuple (rs.map dRow)])
theorem it_cyc {c : List Int} : ∀ x ∈ [PyData.str sCycle, dR c], ItOk x := by
  intro x hx
  simp only [List.mem_cons, List.not_mem_nil, or_false] at hx
  rcases hx with rfl | rfl
  · exact it_str (by decide +kernel)
  · exact it_dR
theorem it_ov {lo hi : Int} {rs : List Row} : ∀ x ∈ [PyData.str sOver, .int lo, .int hi, .tuple (rs.map dRow)], ItOk x := by
  intro x hx
  simp only [List.mem_cons, List.not_mem_nil, or_false] at hx
  rcases hx with rfl | rfl | rfl | rfl
  · exact it_str (by decide +kernel)
  · exact it_int
  · exact it_int
  · exact it_rows
theorem it_ints {r : List Int} : ∀ x ∈ r.map PyData.int, ItOk x := by
  intro x hx
  obtain ⟨k, _, rfl⟩ := List.mem_map.mp hx
  exact it_int
theorem bas_ok {p : Prob} {i j : Int} {y : PyData} (h : Bas p i j y) : YOk p i j y := by
  cases h with
  | int k => exact y_non shaped_int rfl
  | @row r hl =>
    refine y_tup it_ints (by rw [List.length_map]; omega) fun _ => ?_
    cases r with
    | nil => exact ⟨false, .emp, fun z => by cases z⟩
    | cons k r => exact ⟨false, .ns rfl, fun z => by cases z⟩
  | cyc hb he hc => exact y_tup it_cyc (by simp) fun _ => ⟨true, .cy hc.ch hc.ln hc.bk, fun _ => he⟩
  | ov hb he ho => exact y_tup it_ov (by simp) fun _ => ⟨true, .ov ho, fun _ => he⟩
def mods (xs : List PyData) : List PyData := [.tuple (xs.drop 1), .tuple (xs.take (xs.length - 1)), .tuple xs.reverse, .tuple (xs ++ xs.take 1), .list xs, .tuple (xs ++ [.none])]
theorem cv_false {p : Prob} {i j : Int} {y : PyData} (h : CV (mrg p i j) y false) : betw p i j = [] → ∃ b, CV (mrg p i j) y b ∧ (b = true → edfP (mrg p i j) = none) := fun _ => ⟨false, h, fun z => by cases z⟩
theorem cv_nostr {q : Prob} {xs : List PyData} (h : ∀ x ∈ xs, isStrB x = false) : CV q (.tuple xs) false := by
  cases xs with
  | nil => exact .emp
  | cons x xs => exact .ns (h x (by simp))
theorem mods_ok {p : Prob} {i j : Int} {xs : List PyData} (h : Bas p i j (.tuple xs)) : ∀ z ∈ mods xs, YOk p i j z := by
  have hit : ∀ x ∈ xs, ItOk x := by
    generalize hy : PyData.tuple xs = y at h
    cases h with
    | int k => cases hy
    | row hl =>
      unfold dR at hy
      injection hy with hy
      rw [hy]
      exact it_ints
    | cyc => injection hy with hy; rw [hy]; exact it_cyc
    | ov => injection hy with hy; rw [hy]; exact it_ov
  have hlen : xs.length ≤ 10 := by
    generalize hy : PyData.tuple xs = y at h
    cases h with
    | int k => cases hy
    | row hl =>
      unfold dR at hy
      injection hy with hy
      rw [hy, List.length_map]
      exact hl
    | cyc => injection hy with hy; rw [hy]; simp
    | ov => injection hy with hy; rw [hy]; simp
  have hcv : CV (mrg p i j) (.tuple (xs.drop 1)) false ∧ CV (mrg p i j) (.tuple (xs.take (xs.length - 1))) false ∧ CV (mrg p i j) (.tuple xs.reverse) false ∧ CV (mrg p i j) (.tuple (xs ++ xs.take 1)) false ∧ CV (mrg p i j) (.tuple (xs ++ [.none])) false := by
    generalize hy : PyData.tuple xs = y at h
    cases h with
    | int k => cases hy
    | @row r hl =>
      unfold dR at hy
      injection hy with hy
      subst hy
      have hns : ∀ x ∈ r.map PyData.int, isStrB x = false := fun x hx => by
        obtain ⟨k, _, rfl⟩ := List.mem_map.mp hx
        rfl
      refine ⟨cv_nostr fun x hx => hns x (List.mem_of_mem_drop hx), cv_nostr fun x hx => hns x (List.mem_of_mem_take hx), cv_nostr fun x hx => hns x (List.mem_reverse.mp hx), cv_nostr fun x hx => ?_, cv_nostr fun x hx => ?_⟩
      · rcases List.mem_append.mp hx with q | q
        · exact hns x q
        · exact hns x (List.mem_of_mem_take q)
      · rcases List.mem_append.mp hx with q | q
        · exact hns x q
        · have : x = .none := by simpa using q
          rw [this]
          rfl
    | @cyc c _ _ _ =>
      injection hy with hy
      subst hy
      exact ⟨.ns rfl, .cyL (by simp), .ns rfl, .cyL (by simp), .cyL (by simp)⟩
    | @ov lo hi rs _ _ _ =>
      injection hy with hy
      subst hy
      exact ⟨.ns rfl, .ovL (by simp), .ns rfl, .ovL (by simp), .ovL (by simp)⟩
  intro z hz
  unfold mods at hz
  simp only [List.mem_cons, List.not_mem_nil, or_false] at hz
  rcases hz with rfl | rfl | rfl | rfl | rfl | rfl
  · exact y_tup (fun x hx => hit x (List.mem_of_mem_drop hx)) (by rw [List.length_drop]; omega) (cv_false hcv.1)
  · exact y_tup (fun x hx => hit x (List.mem_of_mem_take hx)) (by rw [List.length_take]; omega) (cv_false hcv.2.1)
  · exact y_tup (fun x hx => hit x (List.mem_reverse.mp hx)) (by rw [List.length_reverse]; omega) (cv_false hcv.2.2.1)
  · refine y_tup (fun x hx => ?_) (by rw [List.length_append, List.length_take]; omega) (cv_false hcv.2.2.2.1)
    rcases List.mem_append.mp hx with q | q
    · exact hit x q
    · exact hit x (List.mem_of_mem_take q)
  · exact y_non (shaped_list.mpr (it_shaped hit)) rfl
  · refine y_tup (fun x hx => ?_) (by rw [List.length_append, List.length_cons, List.length_nil]; omega) (cv_false hcv.2.2.2.2)
    rcases List.mem_append.mp hx with q | q
    · exact hit x q
    · have : x = .none := by simpa using q
      rw [this]
      exact it_non
/-- the odd ones -/
def odds (W : Str) (y : PyData) : List PyData := [.none, .list [.str W, y], .tuple [.str W], .tuple [.str W, y, .int 0], .tuple [y, .str W], .tuple [.str sBoth, y], .tuple [.str sAhead, y], .tuple [.str sNever, y],
  .tuple [.none, y], .tuple [.str W, .none], .tuple [.str W, .tuple []], .tuple [.str W, .bool true], .tuple [.str W, .list [.int 0]]]
theorem bas_nstr {p : Prob} {i j : Int} {y : PyData} (h : Bas p i j y) : isStrB y = false := by
  cases h <;> rfl
theorem odds_ok {p : Prob} {i j : Int} (h : PairOk p i j) {W : Str} (hw : isWord W) {y : PyData} (hy : Bas p i j y) : ∀ v ∈ odds W y, JOk p i j v := by
  intro v hv
  unfold odds at hv
  simp only [List.mem_cons, List.not_mem_nil, or_false] at hv
  rcases hv with rfl | rfl | rfl | rfl | rfl | rfl | rfl | rfl | rfl | rfl | rfl | rfl | rfl
  · exact j_nt rfl
  · exact j_nt rfl
  · exact j_ln (by simp)
  · exact j_ln (by simp)
  · exact j_ns (bas_nstr hy)
  · exact j_both h (bas_ok hy)
  · exact j_ahead h
  · exact j_never h (bas_ok hy)
  · exact j_ns rfl
  · exact j_word h hw (y_non (by simp [SeqAt.shaped, PyData.canLay0, PyData.depth]) rfl)
  · exact j_word h hw (y_tup (by simp) (by simp) fun _ => ⟨false, .emp, fun z => by cases z⟩)
  · exact j_word h hw (y_non (by simp [SeqAt.shaped, PyData.canLay0, PyData.depth]) rfl)
  · exact j_word h hw (y_non (by simp [SeqAt.shaped, PyData.canLay0, PyData.depth, PyData.canLayAll0, PyData.depthAll]) rfl)
/-! the evidence told -/
theorem told_form {p : Prob} {i j : Int} (h : PairOk p i j) : ∃ W y, toldE p i j = .tuple [.str W, y] ∧ isWord W ∧ Bas p i j y ∧ decide (W = sBoth) = fineB p i j ∧ EV p i j (toldE p i j) true ∧ LV p i j (toldE p i j) true := by
  unfold toldE
  cases q : betw p i j with
  | cons k l =>
    have hne : betw p i j ≠ [] := by rw [q]; simp
    have hb : inBetw p i j (.int k) = true := decide_eq_true (by rw [q]; simp)
    have e1 : EV p i j (.tuple [.str sAhead, .int k]) true := by
      have := EV.ah (p := p) (i := i) (j := j) (y := .int k)
      rw [hb] at this
      exact this
    have e2 : LV p i j (.tuple [.str sAhead, .int k]) true := by
      have := LV.ah (p := p) (i := i) (j := j) (y := .int k)
      rw [hb] at this
      exact this
    refine ⟨sAhead, .int k, rfl, .inr (.inl rfl), .int k, ?_, e1, e2⟩
    rw [fine_false h (.inl hne)]
    decide +kernel
  | nil =>
    cases qe : edfP (mrg p i j) with
    | some f =>
      obtain ⟨h1, h2⟩ := edf_good qe
      rw [good_mrg h q, Bool.and_eq_true] at h2
      have h1' : FnG p p.n.toNat f := ⟨h1.ln, h1.nd, h1.rg⟩
      have hg : f ∈ goods p := goods_mem.mpr ⟨h1'.n, h2.1⟩
      have hg2 : exch i j f ∈ goods p := goods_mem.mpr ⟨(exch_ok h h1').n, h2.2⟩
      have e1 : EV p i j (.tuple [.str sBoth, dR f]) true := by
        have := EV.bo (p := p) (i := i) (j := j) h1'
        rw [h2.1, h2.2] at this
        exact this
      have e2 : LV p i j (.tuple [.str sBoth, dR f]) true := by
        have := LV.bo (p := p) (i := i) (j := j) hg
        rw [decide_eq_true hg2] at this
        exact this
      refine ⟨sBoth, dR f, rfl, .inl rfl, .row (by have := h1'.ln; have := h.ok.n5; omega), ?_, e1, e2⟩
      have : fineB p i j = true := (can_iff h).mpr ⟨q, by rw [qe]; simp⟩
      rw [this]
      simp
    | none =>
      have hfine := fine_false h (.inr qe)
      have hw : decide (sNever = sBoth) = fineB p i j := by
        rw [hfine]
        decide +kernel
      rcases (told_shape h.mrg qe).2 with ⟨c, e, hc⟩ | ⟨lo, hi, rs, e, ho⟩
      · refine ⟨sNever, toldC (mrg p i j), rfl, .inr (.inr rfl), by rw [e]; exact .cyc q qe hc, hw, ?_, ?_⟩
        · show EV p i j (.tuple [.str sNever, toldC (mrg p i j)]) true
          rw [e]
          exact .nv q (.cy hc.ch hc.ln hc.bk)
        · show LV p i j (.tuple [.str sNever, toldC (mrg p i j)]) true
          rw [e]
          exact .nv q (.cy hc.ch hc.ln hc.bk)
      · refine ⟨sNever, toldC (mrg p i j), rfl, .inr (.inr rfl), by rw [e]; exact .ov q qe ho, hw, ?_, ?_⟩
        · show EV p i j (.tuple [.str sNever, toldC (mrg p i j)]) true
          rw [e]
          exact .nv q (.ov ho)
        · show LV p i j (.tuple [.str sNever, toldC (mrg p i j)]) true
          rw [e]
          exact .nv q (.ov ho)
end RK

namespace RK
open PySem PySem.Spec PyProof.Rows L2 DL
local macro_rules | `(tactic| walk_at "sf") => `(tactic| first | exact True.intro | assumption)
local macro_rules | `(tactic| walk_at "sz") => `(tactic| first | decide | (simp only [List.length_cons, List.length_nil, List.length_map, List.length_append, List.length_reverse, rng_len, sizeLine_eq]; omega))
local macro_rules | `(tactic| walk_at "r2add") => `(tactic| first | exact r2_addI | exact r2_addT (by walk_at "sz") | exact r2_addL (by walk_at "sz"))
local macro_rules | `(tactic| walk_at "r2i0") => `(tactic| exact r2_I0)
local macro_rules | `(tactic| walk_at "r2b0") => `(tactic| exact r2_B0)
local macro_rules | `(tactic| walk_at "r2mul") => `(tactic| exact r2_I (by unfold CMul; omega))
local macro_rules | `(tactic| walk_at "r2mod") => `(tactic| exact r2_I (by first | omega | (show (0 : Int) < _; omega)))
local macro_rules | `(tactic| walk_at "r2div") => `(tactic| exact r2_I (by unfold CDiv; omega))
local macro_rules | `(tactic| walk_at "r2pow") => `(tactic| exact r2_I (by unfold CPow; decide))
local macro_rules | `(tactic| walk_at "r2eq") => `(tactic| first | exact r2_eqI | exact r2_eqS | exact r2_eqB | exact r2_eqD (by assumption) (by assumption))
local macro_rules | `(tactic| walk_at "r2ne") => `(tactic| first | exact r2_neI | exact r2_neS | exact r2_neB)
local macro_rules | `(tactic| walk_at "r2in") => `(tactic| first | exact r2_inLI | exact r2_inTI | assumption)
local macro_rules | `(tactic| walk_at "r2nin") => `(tactic| first | exact r2_ninLI | exact r2_ninTI | assumption)
local macro_rules | `(tactic| walk_at "r2is") => `(tactic| exact r2_isN)
local macro_rules | `(tactic| walk_at "r2isn") => `(tactic| exact r2_notN)
local macro_rules | `(tactic| walk_at "r2ix") => `(tactic| first | exact r2_ixT rfl | exact r2_ixL rfl | exact r2_ixT (by assumption) | exact r2_ixL (by assumption))
local macro_rules | `(tactic| walk_at "rc1") => `(tactic| first | exact rc_lenT | exact rc_lenL | exact rc_max2 | exact rc_max (by walk_at "sz") | exact rc_min (by walk_at "sz") | exact rc_max (ns := _ :: _) (by walk_at "sz") | exact rc_min (ns := _ :: _) (by walk_at "sz") | exact rc_all | exact rc_any | exact rc_abs | exact rc_int | exact rc_tupL | assumption)
local macro_rules | `(tactic| walk_at "mem") => `(tactic| first | assumption | (simp; done))
local macro_rules | `(tactic| walk_at "rr") => `(tactic| first | exact ⟨_, rfl, rfl⟩ | exact ⟨_, _, rfl, rfl⟩ | exact ⟨_, _, _, rfl, rfl⟩ | exact ⟨_, by assumption, rfl, rfl⟩ | exact ⟨_, _, by assumption, rfl, rfl⟩ | exact ⟨_, _, _, by assumption, rfl, rfl⟩ | exact ⟨_, _, _, _, rfl, rfl⟩ | exact ⟨_, _, _, _, by assumption, rfl, rfl⟩ | exact ⟨_, _, _, _, _, by assumption, rfl, rfl⟩ | assumption)
local macro_rules | `(tactic| walk_at "rg") => `(tactic| first | omega | (simp only [List.length_cons, List.length_nil, List.length_map]; omega))
local macro_rules | `(tactic| walk_at "hz") => `(tactic| first | assumption | (simp only [List.length_cons, List.length_nil, List.length_map, rng_len, List.length_zipIdx, List.length_zip]; omega) | omega)
local macro_rules | `(tactic| walk_at "bb") => `(tactic| first | rfl | (simp [truD, isTupB, isStrB, isIntB, isBoolB, wholeB, sAW, sWA]; done) | (simp_all [truD, isTupB, isStrB, isIntB, isBoolB, wholeB, sAW, sWA]; done) | (simp [truD, isTupB, isStrB, isIntB, isBoolB, wholeB, sAW, sWA]; omega))
local macro_rules | `(tactic| walk_at "blkfree") => `(tactic| ((repeat' (first | exact List.forall_mem_nil _ | refine List.forall_mem_cons.mpr ⟨?_, ?_⟩)) <;> first | (intro hf; cases hf; done) | exact fun _ => .inl rfl | exact fun _ => .inr rfl))
local macro_rules | `(tactic| walk_at "r2ixo") => `(tactic| first | rfl | assumption)
local macro_rules | `(tactic| walk_at "rm") => `(tactic| first | exact ⟨_, _, by first | assumption | omega, rfl, rfl, rfl, rfl⟩ | exact ⟨_, rfl, rfl, rfl, rfl⟩ | exact ⟨_, _, _, _, by assumption, rfl, rfl, rfl, rfl⟩ | assumption)

section
variable {P : Program} {w : World} {K : PySem.W.Frag} {mg : Str → Option Value} {base : Heap} {f : Addr} {fd : FuncData}
theorem sd_asgT {X : Cx} {mu : List Addr} {G G1 G2 : Gm} {tg e : Expr} {g : TG} {d : PyData} {pos : Pos} (he : PE X e (rdE mu G d G1)) (hg : PG X tg g) (ha : AsgD Dd g d G1 G2) (hs : swapsWithSole [tg] e pos.line X.env = pure false := by rfl) (hw : swappedStores [tg] e X.env = pure none := by rfl)
    (h1 : (assignEach [tg] X.env).map (·.2) = [assign tg X.env] := by rfl) : PS X (.Assign [tg] e pos) (rdS mu G (nxO G2)) :=
  ps_w (ps_asg he hg hs hw h1) fun D sg H ⟨H0, B0, B, w, s, k⟩ => ⟨H0, B0, B, w, s, fun v B1 H1 e1 w1 s1 dv => ha mu H0 B1 H1 sg v s1 w1.s dv _ fun sg' s' => k _ rfl sg' B1 H1 w1 s'⟩
theorem at_mem {l : List PyData} {k : Int} (h0 : 0 ≤ k) (h1 : k < (l.length : Nat)) : ∃ v, atI l k = some v ∧ v ∈ l := by
  have h2 : k.toNat < l.length := by omega
  have h4 := atI_nat (xs := l) (j := k.toNat) (List.getElem?_eq_getElem h2)
  rw [show ((k.toNat : Nat) : Int) = k by omega] at h4
  exact ⟨_, h4, List.getElem_mem h2⟩
theorem cut_but {xs : List PyData} : DL.cutD xs none (some (-1)) = xs.take (xs.length - 1) := by
  unfold DL.cutD
  rw [HT.sIx_none, List.drop_zero, Nat.sub_zero]
  have h : HT.sIx xs.length xs.length (some (-1)) = xs.length - 1 := by
    show (if (-1 : Int) < 0 then ((-1 : Int) + (xs.length : Int)).toNat else min (-1 : Int).toNat xs.length) = _
    rw [if_pos (by decide)]
    omega
  rw [h]
abbrev LG (l : Addr) (s : Stm) (p : Prob) (i j : Int) (td ev md : PyData) (tu va pi od inn du : Option Sl) : Gm :=
  [none, some (.own l (stD s)), some (.d (dP p)), some (.d (.int p.n)), some (.d (.tuple (p.cs.map dC))), some (.d (.list ((goods p).map dR))), some (.d (.int j)), some (.d (.int i)), some (.d (.bool (fineB p i j))), some (.d (td)), some (.d (ev)), some (.d (md)), tu, va, pi, od, inn, du]
abbrev s_law : Stmt := topS 78
theorem sc_law : FnScope ["_law_script", "_law_stream_here", "_law_problem_here", "_law_many", "_law_constraints", "_law_good_here", "_law_other", "_law_one", "_law_fine", "_law_told", "_law_every", "_law_made", "_law_turn", "_law_value", "_law_pick", "_law_odd", "_law_inner", "_law_due"] ["_law_script"] (defScope s_law) := ⟨rfl, rfl, rfl, by decide +kernel, rfl, by decide +kernel, by decide +kernel⟩
theorem law_rest (T : Txt mg) 
    (C__law_problem : Cal P w K mg base 3 "_law_problem" (SpM R__law_problem))
    (C__law_good : Cal P w K mg base 2 "_law_good" (SpP R__law_good))
    (C__law_next : Cal P w K mg base 1 "_law_next" (SpM R__law_next))
    (C__law_can_be : Cal P w K mg base 2 "_law_can_be" (SpP R__law_can_be))
    (C_pair_evidence : Cal P w K mg base 7 "pair_evidence" (SpP R_pair_evidence))
    (C__law_is_evidence : Cal P w K mg base 9 "_law_is_evidence" (SpP R__law_is_evidence))
    (C_accepts_pair : Cal P w K mg base 9 "accepts_pair" (SpP R_accepts_pair))
    (C__law_rankings : Cal P w K mg base 1 "_law_rankings" (SpP R__law_rankings))
    (C__law_equal : Cal P w K mg base 2 "_law_equal" (SpP R__law_equal)) (cdv : Value) (A : Around) (outer : List Env) (s : Shared) (H : Hp) (E : XK) (lv : Nat) (hlv : lv = 10 - 1)
    (hr : Room lv (A.deeper (envOfC "law" (defScope s_law) s.heap.objs.size f cdv))) (l : Addr) (cs : List Int) :
    PSs (BX P w K mg base ["_law_script", "_law_stream_here", "_law_problem_here", "_law_many", "_law_constraints", "_law_good_here", "_law_other", "_law_one", "_law_fine", "_law_told", "_law_every", "_law_made", "_law_turn", "_law_value", "_law_pick", "_law_odd", "_law_inner", "_law_due"] "law" s_law f cdv A outer s H E) ((defBody s_law).drop 1) (rdS [] [none, some (.own l (stD ⟨cs, 0, 0⟩)), none, none, none, none, none, none, none, none, none, none, none, none, none, none, none, none] (retO (.bool true))) := by
  subst hlv
  refine sd_nx (by exact (sd_asg (i := 2) sc_law.nd rfl (.inl rfl) (by exact (pd_callM (i := 1) C__law_problem (hr.mono (by decide)) rfl rfl rfl (.inl rfl) (pda_cons pd_int (pda_cons pd_int pda_nil)) (by walk_at "rm"))))) ?_
  obtain ⟨hp, hc6⟩ := probP_ok (s := ⟨cs, 0, 0⟩)
  generalize probP ⟨cs, 0, 0⟩ 5 6 = p at hp hc6 ⊢
  generalize probS ⟨cs, 0, 0⟩ 5 6 = s1
  show PSs _ _ (rdS [] [none, some (.own l (stD s1)), some (.d (dP p)), none, none, none, none, none, none, none, none, none, none, none, none, none, none, none] _)
  have hn1 := hp.n1
  have hn5 := hp.n5
  refine sd_nx (by exact (sd_asgT (by exact (pd_var (i := 2) rfl rfl (.inl rfl))) (pg_tup rfl (pgs_cons (pg_name (i := 3) sc_law.nd rfl (.inl rfl)) (pgs_cons (pg_name (i := 4) sc_law.nd rfl (.inl rfl)) pgs_nil))) asg_tup2F)) ?_
  show PSs _ _ (rdS [] [none, some (.own l (stD s1)), some (.d (dP p)), some (.d (.int p.n)), some (.d (.tuple (p.cs.map dC))), none, none, none, none, none, none, none, none, none, none, none, none, none] _)
  refine sd_nx (by exact (sd_asg (i := 5) sc_law.nd rfl (.inl rfl) (by exact (pd_call C__law_good (hr.mono (by decide)) rfl (pda_cons (pd_var (i := 3) rfl rfl (.inl rfl)) (pda_cons (pd_var (i := 4) rfl rfl (.inl rfl)) pda_nil)) ⟨p, hp, rfl, rfl⟩)))) ?_
  show PSs _ _ (rdS [] [none, some (.own l (stD s1)), some (.d (dP p)), some (.d (.int p.n)), some (.d (.tuple (p.cs.map dC))), some (.d (.list ((goods p).map dR))), none, none, none, none, none, none, none, none, none, none, none, none] _)
  refine sd_ifE (b' := decide (p.n < 2)) (by exact (pdt_cmp op_lt (pd_var (i := 3) rfl rfl (.inl rfl)) pd_int (by walk_at "r2b0") rfl)) rfl (fun hb => ?_) (fun hb => ?_)
  · exact sd_ret (by exact pd_bl) rfl
  have hn2 : ¬ p.n < 2 := of_decide_eq_false hb
  have hm1 : 0 < p.n - 1 ∧ p.n - 1 < 1000000 := by omega
  have hd1 := digit_in (s := s1) hm1.1
  refine sd_nx (by exact (sd_asg (i := 6) sc_law.nd rfl (.inl rfl) (by exact (pd_bin op_addAll pd_int (pd_callM (i := 1) C__law_next (hr.mono (by decide)) rfl rfl rfl (.inl rfl) (pda_cons (pd_bin op_sub (pd_var (i := 3) rfl rfl (.inl rfl)) pd_int (by walk_at "r2i0")) pda_nil) (by walk_at "rm")) (by walk_at "r2add"))))) ?_
  generalize hj : 1 + digit s1 (p.n - 1) = j
  show PSs _ _ (rdS [] [none, some (.own l (stD (nextS s1 (p.n - 1)))), some (.d (dP p)), some (.d (.int p.n)), some (.d (.tuple (p.cs.map dC))), some (.d (.list ((goods p).map dR))), some (.d (.int j)), none, none, none, none, none, none, none, none, none, none, none] _)
  have hj0 : 1 ≤ j ∧ j < p.n := by omega
  have hm2 : 0 < j ∧ j < 1000000 := by omega
  have hd2 := digit_in (s := nextS s1 (p.n - 1)) hm2.1
  refine sd_nx (by exact (sd_asg (i := 7) sc_law.nd rfl (.inl rfl) (by exact (pd_callM (i := 1) C__law_next (hr.mono (by decide)) rfl rfl rfl (.inl rfl) (pda_cons (pd_var (i := 6) rfl rfl (.inl rfl)) pda_nil) (by walk_at "rm"))))) ?_
  generalize digit (nextS s1 (p.n - 1)) j = i at hd2 ⊢
  generalize nextS (nextS s1 (p.n - 1)) j = s2
  show PSs _ _ (rdS [] [none, some (.own l (stD s2)), some (.d (dP p)), some (.d (.int p.n)), some (.d (.tuple (p.cs.map dC))), some (.d (.list ((goods p).map dR))), some (.d (.int j)), some (.d (.int i)), none, none, none, none, none, none, none, none, none, none] _)
  have ho : PairOk p i j := ⟨hp, hc6, hd2.1, hd2.2, hj0.2⟩
  have hgl : (goods p).length ≤ 3125 := Nat.le_trans (List.length_filter_le _ _) (rks_few hn5)
  have hgs : (goods p).length ≤ 10000 ∧ ∀ r ∈ goods p, r.length ≤ 1000 := ⟨by omega, fun r hr => by
    have := (goods_mem.mp hr).1.ln
    omega⟩
  refine sd_nx (by exact (sd_asg (i := 8) sc_law.nd rfl (.inl rfl) (by exact (pd_call C__law_can_be (hr.mono (by decide)) rfl (pda_cons (pd_var (i := 5) rfl rfl (.inl rfl)) (pda_cons (pd_var (i := 7) rfl rfl (.inl rfl)) (pda_cons (pd_var (i := 6) rfl rfl (.inl rfl)) pda_nil))) ⟨goods p, i, j, hgs, rfl, rfl⟩)))) ?_
  show PSs _ _ (rdS [] [none, some (.own l (stD s2)), some (.d (dP p)), some (.d (.int p.n)), some (.d (.tuple (p.cs.map dC))), some (.d (.list ((goods p).map dR))), some (.d (.int j)), some (.d (.int i)), some (.d (.bool (fineB p i j))), none, none, none, none, none, none, none, none, none] _)
  refine sd_nx (by exact (sd_asg (i := 9) sc_law.nd rfl (.inl rfl) (by exact (pd_call C_pair_evidence (hr.mono (by decide)) rfl (pda_cons (pd_var (i := 2) rfl rfl (.inl rfl)) (pda_cons (pd_var (i := 7) rfl rfl (.inl rfl)) (pda_cons (pd_var (i := 6) rfl rfl (.inl rfl)) pda_nil))) ⟨p, i, j, ho, rfl, rfl⟩)))) ?_
  show PSs _ _ (rdS [] [none, some (.own l (stD s2)), some (.d (dP p)), some (.d (.int p.n)), some (.d (.tuple (p.cs.map dC))), some (.d (.list ((goods p).map dR))), some (.d (.int j)), some (.d (.int i)), some (.d (.bool (fineB p i j))), some (.d (toldE p i j)), none, none, none, none, none, none, none, none] _)
  obtain ⟨W, y, etold, hw, hbas, hfine, hEV0, hLV0⟩ := told_form ho
  rw [etold] at hEV0 hLV0 ⊢
  show PSs _ _ (rdS [] [none, some (.own l (stD s2)), some (.d (dP p)), some (.d (.int p.n)), some (.d (.tuple (p.cs.map dC))), some (.d (.list ((goods p).map dR))), some (.d (.int j)), some (.d (.int i)), some (.d (.bool (fineB p i j))), some (.d (.tuple [.str W, y])), none, none, none, none, none, none, none, none] _)
  have hEV : PairOk p i j ∧ EV p i j (.tuple [.str W, y]) true := ⟨ho, hEV0⟩
  have hLV : PairOk p i j ∧ LV p i j (.tuple [.str W, y]) true := ⟨ho, hLV0⟩
  have htr : True := True.intro
  refine sd_ifF (by exact (PW.pt (pdw_or (by exact (pdt_cmp (op_neAll hr.units) (pd_cmp (op_eqAll hr.units) (pd_ix ix_seq (pd_var (i := 9) rfl rfl (.inl rfl)) pd_int (by walk_at "r2ix") (fun _ _ => rfl)) pd_str (by walk_at "r2eq") rfl) (pd_var (i := 8) rfl rfl (.inl rfl)) (by walk_at "r2ne") rfl)) (fun _ => pdw_or (by exact (pdt_not (pdt_tru (pd_call C__law_is_evidence (hr.mono (by decide)) rfl (pda_cons (pd_var (i := 2) rfl rfl (.inl rfl)) (pda_cons (pd_var (i := 5) rfl rfl (.inl rfl)) (pda_cons (pd_var (i := 7) rfl rfl (.inl rfl)) (pda_cons (pd_var (i := 6) rfl rfl (.inl rfl)) (pda_cons (pd_var (i := 9) rfl rfl (.inl rfl)) pda_nil))))) ⟨p, i, j, _, true, hLV, rfl, rfl⟩) True.intro))) (fun _ => pdw_or1 (by exact (pdt_cmp op_notBl (pd_call C_accepts_pair (hr.mono (by decide)) rfl (pda_cons (pd_var (i := 2) rfl rfl (.inl rfl)) (pda_cons (pd_var (i := 7) rfl rfl (.inl rfl)) (pda_cons (pd_var (i := 6) rfl rfl (.inl rfl)) (pda_cons (pd_var (i := 9) rfl rfl (.inl rfl)) pda_nil)))) ⟨p, i, j, _, true, hEV, rfl, rfl⟩) pd_bl r2_notB rfl))))))) (by
    show (!decide (decide (W = sBoth) = canB (goods p) i j) || _) = false
    rw [show decide (decide (W = sBoth) = canB (goods p) i j) = true from decide_eq_true hfine]
    rfl) ?_
  have hnr : 1 ≤ p.n ∧ p.n ≤ 5 := ⟨hn1, hn5⟩
  refine sd_nx (by exact (sd_asg (i := 10) sc_law.nd rfl (.inl rfl) (by exact (pd_call C__law_rankings (hr.mono (by decide)) rfl (pda_cons (pd_var (i := 3) rfl rfl (.inl rfl)) pda_nil) ⟨p.n, hnr, rfl, rfl⟩)))) ?_
  show PSs _ _ (rdS [] [none, some (.own l (stD s2)), some (.d (dP p)), some (.d (.int p.n)), some (.d (.tuple (p.cs.map dC))), some (.d (.list ((goods p).map dR))), some (.d (.int j)), some (.d (.int i)), some (.d (.bool (fineB p i j))), some (.d (.tuple [.str W, y])), some (.d (.list ((rks p.n).map dR))), none, none, none, none, none, none, none] _)
  have hrl := rks_few hn5
  have hrp := rks_pos (n := p.n)
  have hm3 : 0 < (((rks p.n).length : Nat) : Int) ∧ (((rks p.n).length : Nat) : Int) < 1000000 := by omega
  have hd3 := digit_in (s := s2) hm3.1
  have hat3 := getR_at (l := rks p.n) hd3.1 hd3.2
  have hr3 := rks_mem.mp (getR_mem (l := rks p.n) hd3.1 hd3.2)
  have elen3 : ((((rks p.n).map dR).length : Nat) : Int) = ((rks p.n).length : Nat) := by rw [List.length_map]
  generalize getR (rks p.n) (digit s2 ((rks p.n).length : Nat)) = r3 at hat3 hr3
  have h6 : (0 : Int) < 6 ∧ (6 : Int) < 1000000 := by decide
  refine sd_nxA (by exact (sd_asgO (i := 11) (ds := [.tuple [.str W, y], .tuple [.str sBoth, dR r3], .tuple [.str sAhead, .int (digit (nextS s2 ((rks p.n).length : Nat)) 6)], .tuple [.str sNever, y]]) sc_law.nd rfl (.inl rfl) (by exact (pdf_lst (pda_cons (pd_var (i := 9) rfl rfl (.inl rfl)) (pda_cons (by exact (pd_tup (pda_cons pd_str (pda_cons (by exact (pd_ix ix_seq (pd_var (i := 10) rfl rfl (.inl rfl)) (by exact (pd_callM (i := 1) (os' := stD (nextS s2 ((rks p.n).length : Nat))) C__law_next (hr.mono (by decide)) rfl rfl rfl (.inl rfl) (pda_cons (by exact (pd_eq (by exact (pd_callB call_len rfl T.len_ (by decide +kernel) (pda_cons (pd_var (i := 10) rfl rfl (.inl rfl)) pda_nil) (by walk_at "rc1"))) (congrArg PyData.int elen3))) pda_nil) ⟨_, _, hm3, rfl, rfl, rfl, rfl⟩)) (r2_ixL hat3) (fun _ _ => rfl))) pda_nil)) (by walk_at "sz"))) (pda_cons (by exact (pd_tup (pda_cons pd_str (pda_cons (pd_callM (i := 1) C__law_next (hr.mono (by decide)) rfl rfl rfl (.inl rfl) (pda_cons pd_int pda_nil) (by walk_at "rm")) pda_nil)) (by walk_at "sz"))) (pda_cons (by exact (pd_tup (pda_cons pd_str (pda_cons (pd_ix ix_seq (pd_var (i := 9) rfl rfl (.inl rfl)) pd_int (by walk_at "r2ix") (fun _ _ => rfl)) pda_nil)) (by walk_at "sz"))) pda_nil)))) (by walk_at "sz"))))) fun mo => ?_
  generalize nextS (nextS s2 ((rks p.n).length : Nat)) 6 = s3
  generalize digit (nextS s2 ((rks p.n).length : Nat)) 6 = a3
  show PSs _ _ (rdS [] [none, some (.own l (stD s3)), some (.d (dP p)), some (.d (.int p.n)), some (.d (.tuple (p.cs.map dC))), some (.d (.list ((goods p).map dR))), some (.d (.int j)), some (.d (.int i)), some (.d (.bool (fineB p i j))), some (.d (.tuple [.str W, y])), some (.d (.list ((rks p.n).map dR))), some (.own mo [PyData.tuple [.str W, y], .tuple [.str sBoth, dR r3], .tuple [.str sAhead, .int a3], .tuple [.str sNever, y]]), none, none, none, none, none, none] _)
  have hmade0 : ∀ v ∈ [PyData.tuple [.str W, y], .tuple [.str sBoth, dR r3], .tuple [.str sAhead, .int a3], .tuple [.str sNever, y]], ∃ W Y, v = .tuple [.str W, Y] ∧ isWord W ∧ Bas p i j Y := by
    intro v hv
    simp only [List.mem_cons, List.not_mem_nil, or_false] at hv
    rcases hv with rfl | rfl | rfl | rfl
    · exact ⟨_, _, rfl, hw, hbas⟩
    · exact ⟨_, _, rfl, .inl rfl, .row (by have := hr3.ln; omega)⟩
    · exact ⟨_, _, rfl, .inr (.inl rfl), .int _⟩
    · exact ⟨_, _, rfl, .inr (.inr rfl), hbas⟩
  refine sd_then (Pg := fun G' => ∃ (s : Stm) (md : List PyData), ((0 < md.length ∧ md.length ≤ 5) ∧ ∀ v ∈ md, ∃ W Y, v = .tuple [.str W, Y] ∧ isWord W ∧ Bas p i j Y) ∧ G' = [none, some (.own l (stD s)), some (.d (dP p)), some (.d (.int p.n)), some (.d (.tuple (p.cs.map dC))), some (.d (.list ((goods p).map dR))), some (.d (.int j)), some (.d (.int i)), some (.d (.bool (fineB p i j))), some (.d (.tuple [.str W, y])), some (.d (.list ((rks p.n).map dR))), some (.own mo md), none, none, none, none, none, none]) ?_ ?_
  · refine sp_if (b := !(goods p).isEmpty) (by exact (pdt_eq (by exact (pdt_tru (pd_var (i := 5) rfl rfl (.inl rfl)) (by walk_at "sf"))) (by exact (congrArg (!·) isEmpty_map')))) (fun hb => ?_) (fun hb => ?_)
    · have hg0 : 0 < (goods p).length := by
        cases q : goods p with
        | nil => rw [q] at hb; cases hb
        | cons a b => simp
      have hm4 : 0 < (((goods p).length : Nat) : Int) ∧ (((goods p).length : Nat) : Int) < 1000000 := by omega
      have hd4 := digit_in (s := s3) hm4.1
      have hat4 := getR_at (l := goods p) hd4.1 hd4.2
      have hr4 := (goods_mem.mp (getR_mem (l := goods p) hd4.1 hd4.2)).1
      have elen4 : ((((goods p).map dR).length : Nat) : Int) = ((goods p).length : Nat) := by rw [List.length_map]
      generalize getR (goods p) (digit s3 ((goods p).length : Nat)) = r4 at hat4 hr4
      refine sd_nx (by exact (sd_app (i := 11) (d := .tuple [.str sBoth, dR r4]) rfl (.inl rfl) (by exact (pd_tup (pda_cons pd_str (pda_cons (by exact (pd_ix ix_seq (pd_var (i := 5) rfl rfl (.inl rfl)) (by exact (pd_callM (i := 1) (os' := stD (nextS s3 ((goods p).length : Nat))) C__law_next (hr.mono (by decide)) rfl rfl rfl (.inl rfl) (pda_cons (by exact (pd_eq (by exact (pd_callB call_len rfl T.len_ (by decide +kernel) (pda_cons (pd_var (i := 5) rfl rfl (.inl rfl)) pda_nil) (by walk_at "rc1"))) (congrArg PyData.int elen4))) pda_nil) ⟨_, _, hm4, rfl, rfl, rfl, rfl⟩)) (r2_ixL hat4) (fun _ _ => rfl))) pda_nil)) (by walk_at "sz"))) rfl rfl (by show 4 < 100000; decide))) ?_
      refine sd_nil ⟨_, _, ⟨⟨by simp, by simp⟩, fun v hv => ?_⟩, rfl⟩
      rcases List.mem_append.mp hv with q | q
      · exact hmade0 v q
      · have : v = .tuple [.str sBoth, dR r4] := by simpa using q
        exact ⟨_, _, this, .inl rfl, .row (by have := hr4.ln; omega)⟩
    · exact sd_nil ⟨s3, _, ⟨⟨by simp, by simp⟩, hmade0⟩, rfl⟩
  rintro G' ⟨s4, md, ⟨⟨hmd0, hmd5⟩, hmd⟩, rfl⟩
  refine freeze (i := 11) rfl (by simp) ?_
  show PSs _ _ (rdS [] (LG l s4 p i j (.tuple [.str W, y]) (.list ((rks p.n).map dR)) (.list md) none none none none none none) _)
  refine sd_then (Pg := fun G' => ∃ (s : Stm) (tu va pi od inn du : Option Sl), G' = LG l s p i j (.tuple [.str W, y]) (.list ((rks p.n).map dR)) (.list md) tu va pi od inn du) ?_ ?_
  · refine sp_for (xs := (rng 0 (8 : Int).toNat).map PyData.int) (fun k G' => ∃ (s : Stm) (tu va pi od inn du : Option Sl), G' = LG l s p i j (.tuple [.str W, y]) (.list ((rks p.n).map dR)) (.list md) tu va pi od inn du) PassesOwn.never rfl (by exact (pdi_rng1 rfl T.range_ (by exact pd_int) (by decide))) (pg_name (i := 12) sc_law.nd rfl (.inl rfl)) ⟨s4, none, none, none, none, none, none, rfl⟩ ?_ ?_
    · rintro k d G' hdk ⟨s5, tu, va, pi, od, inn, du, rfl⟩
      obtain ⟨u, hu, rfl⟩ := some_map hdk
      refine ⟨_, asg_name, ?_⟩
      have hmm : 0 < ((md.length : Nat) : Int) ∧ ((md.length : Nat) : Int) < 1000000 := by omega
      have hdm := digit_in (s := s5) hmm.1
      obtain ⟨v, hatv, hvm⟩ := at_mem hdm.1 hdm.2
      obtain ⟨V, Y, rfl, hV, hY⟩ := hmd v hvm
      refine sd_nx (by exact (sd_asg (i := 13) sc_law.nd rfl (.inl rfl) (by exact (pd_ix ix_seq (pd_var (i := 11) rfl rfl (.inl rfl)) (pd_callM (i := 1) C__law_next (hr.mono (by decide)) rfl rfl rfl (.inl rfl) (pda_cons (pd_callB call_len rfl T.len_ (by decide +kernel) (pda_cons (pd_var (i := 11) rfl rfl (.inl rfl)) pda_nil) (by walk_at "rc1")) pda_nil) (by walk_at "rm")) (by walk_at "r2ix") (fun _ _ => rfl))))) ?_
      generalize nextS s5 ((md.length : Nat) : Int) = s6
      show PSs _ _ (rdS [] (LG l s6 p i j (.tuple [.str W, y]) (.list ((rks p.n).map dR)) (.list md) (some (.d (.int u))) (some (.d (.tuple [.str V, Y]))) pi od inn du) _)
      have h3 : (0 : Int) < 3 ∧ (3 : Int) < 1000000 := by decide
      refine sd_nx (by exact (sd_asg (i := 14) sc_law.nd rfl (.inl rfl) (by exact (pd_callM (i := 1) C__law_next (hr.mono (by decide)) rfl rfl rfl (.inl rfl) (pda_cons pd_int pda_nil) (by walk_at "rm"))))) ?_
      generalize digit s6 3 = pk
      generalize nextS s6 3 = s7
      show PSs _ _ (rdS [] (LG l s7 p i j (.tuple [.str W, y]) (.list ((rks p.n).map dR)) (.list md) (some (.d (.int u))) (some (.d (.tuple [.str V, Y]))) (some (.d (.int pk))) od inn du) _)
      refine sd_then (Pg := fun G' => ∃ (s : Stm) (v : PyData) (od inn : Option Sl), JOk p i j v ∧ G' = LG l s p i j (.tuple [.str W, y]) (.list ((rks p.n).map dR)) (.list md) (some (.d (.int u))) (some (.d v)) (some (.d (.int pk))) od inn du) ?_ ?_
      · refine sp_if (by exact (pdt_cmp (op_eqAll hr.units) (pd_var (i := 14) rfl rfl (.inl rfl)) pd_int (by walk_at "r2eq") rfl)) (fun _ => ?_) (fun _ => ?_)
        · have h13 : (0 : Int) < 13 ∧ (13 : Int) < 1000000 := by decide
          have hd13 := digit_in (s := s7) h13.1
          obtain ⟨v, hat13, hv13⟩ := at_mem (l := odds V Y) hd13.1 hd13.2
          refine sd_nx (by exact (sd_asg (i := 15) sc_law.nd rfl (.inl rfl) (by exact (pd_lst (pda_cons pd_non (pda_cons (pd_of (pdf_listT rfl T.list_ (pd_var (i := 13) rfl rfl (.inl rfl)))) (pda_cons (pd_slice sl_tupF (pd_var (i := 13) rfl rfl (.inl rfl)) pdo_none (pdo_some pd_int) rs_tup) (pda_cons (pd_bin op_addAll (pd_var (i := 13) rfl rfl (.inl rfl)) (pd_tup (pda_cons pd_int pda_nil) (by walk_at "sz")) (by walk_at "r2add")) (pda_cons (pd_revT (pd_var (i := 13) rfl rfl (.inl rfl))) (pda_cons (pd_tup (pda_cons pd_str (pda_cons (pd_ix ix_seq (pd_var (i := 13) rfl rfl (.inl rfl)) pd_int (by walk_at "r2ix") (fun _ _ => rfl)) pda_nil)) (by walk_at "sz")) (pda_cons (pd_tup (pda_cons pd_str (pda_cons (pd_ix ix_seq (pd_var (i := 13) rfl rfl (.inl rfl)) pd_int (by walk_at "r2ix") (fun _ _ => rfl)) pda_nil)) (by walk_at "sz")) (pda_cons (pd_tup (pda_cons pd_str (pda_cons (pd_ix ix_seq (pd_var (i := 13) rfl rfl (.inl rfl)) pd_int (by walk_at "r2ix") (fun _ _ => rfl)) pda_nil)) (by walk_at "sz")) pda_nil)))))))) (by walk_at "sz"))))) ?_
          show PSs _ _ (rdS [] (LG l s7 p i j (.tuple [.str W, y]) (.list ((rks p.n).map dR)) (.list md) (some (.d (.int u))) (some (.d (.tuple [.str V, Y]))) (some (.d (.int pk))) (some (.d (.list [.none, .list [.str V, Y], .tuple (DL.cutD [.str V, Y] none (some 1)), .tuple ([.str V, Y] ++ [.int 0]), .tuple [PyData.str V, Y].reverse, .tuple [.str sBoth, Y], .tuple [.str sAhead, Y], .tuple [.str sNever, Y]]))) inn du) _)
          refine sd_nx (by exact (sd_asg (i := 15) (d := .list (odds V Y)) sc_law.nd rfl (.inl rfl) (by exact (pd_eq (by exact (pd_bin op_addAll (pd_var (i := 15) rfl rfl (.inl rfl)) (pd_lst (pda_cons (pd_tup (pda_cons pd_non (pda_cons (pd_ix ix_seq (pd_var (i := 13) rfl rfl (.inl rfl)) pd_int (by walk_at "r2ix") (fun _ _ => rfl)) pda_nil)) (by walk_at "sz")) (pda_cons (pd_tup (pda_cons (pd_ix ix_seq (pd_var (i := 13) rfl rfl (.inl rfl)) pd_int (by walk_at "r2ix") (fun _ _ => rfl)) (pda_cons pd_non pda_nil)) (by walk_at "sz")) (pda_cons (pd_tup (pda_cons (pd_ix ix_seq (pd_var (i := 13) rfl rfl (.inl rfl)) pd_int (by walk_at "r2ix") (fun _ _ => rfl)) (pda_cons (pd_tup pda_nil (by walk_at "sz")) pda_nil)) (by walk_at "sz")) (pda_cons (pd_tup (pda_cons (pd_ix ix_seq (pd_var (i := 13) rfl rfl (.inl rfl)) pd_int (by walk_at "r2ix") (fun _ _ => rfl)) (pda_cons pd_bl pda_nil)) (by walk_at "sz")) (pda_cons (pd_tup (pda_cons (pd_ix ix_seq (pd_var (i := 13) rfl rfl (.inl rfl)) pd_int (by walk_at "r2ix") (fun _ _ => rfl)) (pda_cons (pd_lst (pda_cons pd_int pda_nil) (by walk_at "sz")) pda_nil)) (by walk_at "sz")) pda_nil))))) (by walk_at "sz")) (by walk_at "r2add"))) (by exact rfl))))) ?_
          show PSs _ _ (rdS [] (LG l s7 p i j (.tuple [.str W, y]) (.list ((rks p.n).map dR)) (.list md) (some (.d (.int u))) (some (.d (.tuple [.str V, Y]))) (some (.d (.int pk))) (some (.d (.list (odds V Y)))) inn du) _)
          refine sd_nx (by exact (sd_asg (i := 13) (d := v) sc_law.nd rfl (.inl rfl) (by exact (pd_ix ix_seq (pd_var (i := 15) rfl rfl (.inl rfl)) (pd_callM (i := 1) C__law_next (hr.mono (by decide)) rfl rfl rfl (.inl rfl) (pda_cons pd_int pda_nil) (by walk_at "rm")) (by walk_at "r2ix") (fun _ _ => rfl))))) ?_
          exact sd_nil ⟨_, v, _, _, odds_ok ho hV hY v hv13, rfl⟩
        · refine sd_one ?_
          by_cases ht : isTupB Y = true
          · cases Y with
            | tuple xs =>
              have hxl := (bas_ok hY).ln xs rfl
              refine sp_if (by exact (PW.pt (pdw_and (pdt_cmp (op_eqAll hr.units) (pd_var (i := 14) rfl rfl (.inl rfl)) pd_int (by walk_at "r2eq") rfl) (fun _ => (pdw_and1 (pdt_tru (pd_isi (pd_ix ix_seq (pd_var (i := 13) rfl rfl (.inl rfl)) pd_int (by walk_at "r2ix") (fun _ _ => rfl)) rfl T.isinstance rfl T.tuple_ (by decide +kernel) kit_tup) (by walk_at "sf"))))))) (fun _ => ?_) (fun _ => ?_)
              · have hd6 := digit_in (s := s7) h6.1
                obtain ⟨z, hat6, hz6⟩ := at_mem (l := mods xs) hd6.1 hd6.2
                refine sd_nx (by exact (sd_asg (i := 16) sc_law.nd rfl (.inl rfl) (by exact (pd_ix ix_seq (pd_var (i := 13) rfl rfl (.inl rfl)) pd_int (by walk_at "r2ix") (fun _ _ => rfl))))) ?_
                show PSs _ _ (rdS [] (LG l s7 p i j (.tuple [.str W, y]) (.list ((rks p.n).map dR)) (.list md) (some (.d (.int u))) (some (.d (.tuple [.str V, .tuple xs]))) (some (.d (.int pk))) od (some (.d (.tuple xs))) du) _)
                have hck : DL.cutD xs none (some 1) = xs.take 1 := cut_to (k := 1)
                have htk : (xs.take 1).length ≤ 1 := by rw [List.length_take]; omega
                refine sd_nx (by exact (sd_asg (i := 13) (d := .tuple [.str V, z]) sc_law.nd rfl (.inl rfl) (by exact (pd_tup (pda_cons (pd_ix ix_seq (pd_var (i := 13) rfl rfl (.inl rfl)) pd_int (by walk_at "r2ix") (fun _ _ => rfl)) (pda_cons (by exact (pd_ix ix_seq (by exact (pd_eq (d' := .list (mods xs)) (by exact (pd_lst (pda_cons (by exact (pd_slice sl_tupF (pd_var (i := 16) rfl rfl (.inl rfl)) (pdo_some pd_int) pdo_none rs_tup)) (pda_cons (by exact (pd_slice sl_tupF (pd_var (i := 16) rfl rfl (.inl rfl)) pdo_none (pdo_some (pd_un un_neg pd_int ru_neg)) rs_tup)) (pda_cons (by exact (pd_revT (pd_var (i := 16) rfl rfl (.inl rfl)))) (pda_cons (by exact (pd_bin op_addAll (pd_var (i := 16) rfl rfl (.inl rfl)) (by exact (pd_eq (by exact (pd_slice sl_tupF (pd_var (i := 16) rfl rfl (.inl rfl)) pdo_none (pdo_some pd_int) rs_tup)) (congrArg PyData.tuple hck))) (r2_addT (by rw [sizeLine_eq]; omega)))) (pda_cons (by exact (pd_of (pdf_listT rfl T.list_ (pd_var (i := 16) rfl rfl (.inl rfl))))) (pda_cons (by exact (pd_bin op_addAll (pd_var (i := 16) rfl rfl (.inl rfl)) (pd_tup (pda_cons pd_non pda_nil) (by walk_at "sz")) (r2_addT (by rw [sizeLine_eq]; simp only [List.length_cons, List.length_nil]; omega)))) pda_nil)))))) (by walk_at "sz"))) (by rw [cut_tail, cut_but]; rfl))) (pd_callM (i := 1) C__law_next (hr.mono (by decide)) rfl rfl rfl (.inl rfl) (pda_cons pd_int pda_nil) (by walk_at "rm")) (r2_ixL hat6) (fun _ _ => rfl))) pda_nil)) (by walk_at "sz"))))) ?_
                exact sd_nil ⟨_, _, _, _, j_word ho hV (mods_ok hY z hz6), rfl⟩
              · exact sd_nil ⟨_, _, _, _, j_word ho hV (bas_ok hY), rfl⟩
            | _ => cases ht
          · have ht2 : isTupB Y = false := by simpa using ht
            refine sp_if (b := false) (by exact (pdt_eq (by exact (PW.pt (pdw_and (pdt_cmp (op_eqAll hr.units) (pd_var (i := 14) rfl rfl (.inl rfl)) pd_int (by walk_at "r2eq") rfl) (fun _ => (pdw_and1 (pdt_tru (pd_isi (pd_ix ix_seq (pd_var (i := 13) rfl rfl (.inl rfl)) pd_int (by walk_at "r2ix") (fun _ _ => rfl)) rfl T.isinstance rfl T.tuple_ (by decide +kernel) kit_tup) (by walk_at "sf"))))))) (by rw [show truD (.bool (isTupB Y)) = isTupB Y from rfl, ht2, Bool.and_false]))) (fun z => by cases z) (fun _ => ?_)
            exact sd_nil ⟨_, _, _, _, j_word ho hV (bas_ok hY), rfl⟩
      · rintro G' ⟨s8, v, od, inn, ⟨b, hE, hL, hcon⟩, rfl⟩
        have hEV2 : PairOk p i j ∧ EV p i j v b := ⟨ho, hE⟩
        have hLV2 : PairOk p i j ∧ LV p i j v b := ⟨ho, hL⟩
        refine sd_nx (by exact (sd_asg (i := 17) sc_law.nd rfl (.inl rfl) (by exact (pd_call C__law_is_evidence (hr.mono (by decide)) rfl (pda_cons (pd_var (i := 2) rfl rfl (.inl rfl)) (pda_cons (pd_var (i := 5) rfl rfl (.inl rfl)) (pda_cons (pd_var (i := 7) rfl rfl (.inl rfl)) (pda_cons (pd_var (i := 6) rfl rfl (.inl rfl)) (pda_cons (pd_var (i := 13) rfl rfl (.inl rfl)) pda_nil))))) ⟨p, i, j, v, b, hLV2, rfl, rfl⟩)))) ?_
        show PSs _ _ (rdS [] (LG l s8 p i j (.tuple [.str W, y]) (.list ((rks p.n).map dR)) (.list md) (some (.d (.int u))) (some (.d v)) (some (.d (.int pk))) od inn (some (.d (.bool b)))) _)
        refine sd_ifF (by exact (pdt_not (pdt_tru (pd_call C__law_equal (hr.mono (by decide)) rfl (pda_cons (by exact (pd_call C_accepts_pair (hr.mono (by decide)) rfl (pda_cons (pd_var (i := 2) rfl rfl (.inl rfl)) (pda_cons (pd_var (i := 7) rfl rfl (.inl rfl)) (pda_cons (pd_var (i := 6) rfl rfl (.inl rfl)) (pda_cons (pd_var (i := 13) rfl rfl (.inl rfl)) pda_nil)))) ⟨p, i, j, v, b, hEV2, rfl, rfl⟩)) (pda_cons (pd_var (i := 17) rfl rfl (.inl rfl)) pda_nil)) ⟨b, b, htr, rfl, rfl⟩) True.intro))) (by
          show (!decide (b = b)) = false
          simp) ?_
        cases b with
        | false =>
          refine sd_ifF (by exact (PW.pt (pdw_andF (by exact (pdt_eq (by exact (pdt_tru (pd_var (i := 17) rfl rfl (.inl rfl)) (by walk_at "sf"))) (by exact rfl)))))) rfl ?_
          exact sd_nil ⟨_, _, _, _, _, _, _, rfl⟩
        | true =>
          obtain ⟨W2, Y2, rfl, hf2⟩ := hcon rfl
          refine sd_ifF (by exact (PW.pt (pdw_and (pdt_tru (pd_var (i := 17) rfl rfl (.inl rfl)) (by walk_at "sf")) (fun _ => (pdw_and1 (pdt_cmp (op_neAll hr.units) (pd_cmp (op_eqAll hr.units) (pd_ix ix_seq (pd_var (i := 13) rfl rfl (.inl rfl)) pd_int (by walk_at "r2ix") (fun _ _ => rfl)) pd_str (by walk_at "r2eq") rfl) (pd_var (i := 8) rfl rfl (.inl rfl)) (by walk_at "r2ne") rfl)))))) (by
            show (true && !decide (decide (W2 = sBoth) = fineB p i j)) = false
            rw [decide_eq_true hf2]
            rfl) ?_
          exact sd_nil ⟨_, _, _, _, _, _, _, rfl⟩
    · rintro G' ⟨s5, tu, va, pi, od, inn, du, rfl⟩
      exact ⟨s5, tu, va, pi, od, inn, du, rfl⟩
  · rintro G' ⟨s5, tu, va, pi, od, inn, du, rfl⟩
    exact sd_ret (by exact pd_bl) rfl
end
end RK

/-! The end. -/
namespace RK
open PySem PySem.Spec PyProof.Rows L2 DL
local macro_rules | `(tactic| walk_at "sf") => `(tactic| first | exact True.intro | assumption)
local macro_rules | `(tactic| walk_at "sz") => `(tactic| first | decide | (simp only [List.length_cons, List.length_nil, List.length_map, List.length_append, List.length_reverse, rng_len, sizeLine_eq]; omega))
local macro_rules | `(tactic| walk_at "r2add") => `(tactic| first | exact r2_addI | exact r2_addT (by walk_at "sz") | exact r2_addL (by walk_at "sz"))
local macro_rules | `(tactic| walk_at "r2i0") => `(tactic| exact r2_I0)
local macro_rules | `(tactic| walk_at "r2b0") => `(tactic| exact r2_B0)
local macro_rules | `(tactic| walk_at "r2mul") => `(tactic| exact r2_I (by unfold CMul; omega))
local macro_rules | `(tactic| walk_at "r2mod") => `(tactic| exact r2_I (by first | omega | (show (0 : Int) < _; omega)))
local macro_rules | `(tactic| walk_at "r2div") => `(tactic| exact r2_I (by unfold CDiv; omega))
local macro_rules | `(tactic| walk_at "r2pow") => `(tactic| exact r2_I (by unfold CPow; decide))
local macro_rules | `(tactic| walk_at "r2eq") => `(tactic| first | exact r2_eqI | exact r2_eqS | exact r2_eqB | exact r2_eqD (by assumption) (by assumption))
local macro_rules | `(tactic| walk_at "r2ne") => `(tactic| first | exact r2_neI | exact r2_neS | exact r2_neB)
local macro_rules | `(tactic| walk_at "r2in") => `(tactic| first | exact r2_inLI | exact r2_inTI | assumption)
local macro_rules | `(tactic| walk_at "r2nin") => `(tactic| first | exact r2_ninLI | exact r2_ninTI | assumption)
local macro_rules | `(tactic| walk_at "r2is") => `(tactic| exact r2_isN)
local macro_rules | `(tactic| walk_at "r2isn") => `(tactic| exact r2_notN)
local macro_rules | `(tactic| walk_at "r2ix") => `(tactic| first | exact r2_ixT rfl | exact r2_ixL rfl | exact r2_ixT (by assumption) | exact r2_ixL (by assumption))
local macro_rules | `(tactic| walk_at "rc1") => `(tactic| first | exact rc_lenT | exact rc_lenL | exact rc_max2 | exact rc_max (by walk_at "sz") | exact rc_min (by walk_at "sz") | exact rc_max (ns := _ :: _) (by walk_at "sz") | exact rc_min (ns := _ :: _) (by walk_at "sz") | exact rc_all | exact rc_any | exact rc_abs | exact rc_int | exact rc_tupL | assumption)
local macro_rules | `(tactic| walk_at "mem") => `(tactic| first | assumption | (simp; done))
local macro_rules | `(tactic| walk_at "rr") => `(tactic| first | exact ⟨_, rfl, rfl⟩ | exact ⟨_, _, rfl, rfl⟩ | exact ⟨_, _, _, rfl, rfl⟩ | exact ⟨_, by assumption, rfl, rfl⟩ | exact ⟨_, _, by assumption, rfl, rfl⟩ | exact ⟨_, _, _, by assumption, rfl, rfl⟩ | exact ⟨_, _, _, _, rfl, rfl⟩ | exact ⟨_, _, _, _, by assumption, rfl, rfl⟩ | exact ⟨_, _, _, _, _, by assumption, rfl, rfl⟩ | assumption)
local macro_rules | `(tactic| walk_at "rg") => `(tactic| first | omega | (simp only [List.length_cons, List.length_nil, List.length_map]; omega))
local macro_rules | `(tactic| walk_at "hz") => `(tactic| first | assumption | (simp only [List.length_cons, List.length_nil, List.length_map, rng_len, List.length_zipIdx, List.length_zip]; omega) | omega)
local macro_rules | `(tactic| walk_at "bb") => `(tactic| first | rfl | (simp [truD, isTupB, isStrB, isIntB, isBoolB, wholeB, sAW, sWA]; done) | (simp_all [truD, isTupB, isStrB, isIntB, isBoolB, wholeB, sAW, sWA]; done) | (simp [truD, isTupB, isStrB, isIntB, isBoolB, wholeB, sAW, sWA]; omega))
local macro_rules | `(tactic| walk_at "blkfree") => `(tactic| ((repeat' (first | exact List.forall_mem_nil _ | refine List.forall_mem_cons.mpr ⟨?_, ?_⟩)) <;> first | (intro hf; cases hf; done) | exact fun _ => .inl rfl | exact fun _ => .inr rfl))
local macro_rules | `(tactic| walk_at "r2ixo") => `(tactic| first | rfl | assumption)
local macro_rules | `(tactic| walk_at "rm") => `(tactic| first | exact ⟨_, _, by first | assumption | omega, rfl, rfl, rfl, rfl⟩ | exact ⟨_, rfl, rfl, rfl, rfl⟩ | exact ⟨_, _, _, _, by assumption, rfl, rfl, rfl, rfl⟩ | assumption)

section
variable {P : Program} {w : World} {K : PySem.W.Frag} {mg : Str → Option Value} {base : Heap} {f : Addr} {fd : FuncData}

theorem ok_law (T : Txt mg) (F : Fun K "law" "law" s_law f fd)
    (C__law_stream : Cal P w K mg base 1 "_law_stream" (SpS K))
    (C__law_problem : Cal P w K mg base 3 "_law_problem" (SpM R__law_problem))
    (C__law_good : Cal P w K mg base 2 "_law_good" (SpP R__law_good))
    (C__law_next : Cal P w K mg base 1 "_law_next" (SpM R__law_next))
    (C__law_can_be : Cal P w K mg base 2 "_law_can_be" (SpP R__law_can_be))
    (C_pair_evidence : Cal P w K mg base 7 "pair_evidence" (SpP R_pair_evidence))
    (C__law_rankings : Cal P w K mg base 1 "_law_rankings" (SpP R__law_rankings))
    (C__law_is_evidence : Cal P w K mg base 9 "_law_is_evidence" (SpP R__law_is_evidence))
    (C_accepts_pair : Cal P w K mg base 9 "accepts_pair" (SpP R_accepts_pair))
    (C__law_equal : Cal P w K mg base 2 "_law_equal" (SpP R__law_equal)) :
    FnOk P w K mg base CX0 10 f fd ["_law_script"] (SpLaw K) := by
  refine F.ok sc_law (fun vs H Q E ⟨a, ns, ev, _⟩ => by rw [ev]; rfl) fun cdv A outer s H vs Q E hr ⟨a, ns, ev, hS, hq⟩ => ?_
  subst ev
  have hrest : PSs (BX P w K mg base ["_law_script", "_law_stream_here", "_law_problem_here", "_law_many", "_law_constraints", "_law_good_here", "_law_other", "_law_one", "_law_fine", "_law_told", "_law_every", "_law_made", "_law_turn", "_law_value", "_law_pick", "_law_odd", "_law_inner", "_law_due"] "law" s_law f cdv A outer s H E) ((defBody s_law).drop 1) (fun D sg H' => ∃ l, rdS [] [none, some (.own l (stD ⟨ns, 0, 0⟩)), none, none, none, none, none, none, none, none, none, none, none, none, none, none, none, none] (retO (.bool true)) D sg H') :=
    ⟨fun pins s2 sg H2 D I ⟨l, q⟩ => (law_rest T C__law_problem C__law_good C__law_next C__law_can_be C_pair_evidence C__law_is_evidence C_accepts_pair C__law_rankings C__law_equal cdv A outer s H E _ rfl hr l ns).run pins s2 sg H2 D I q⟩
  refine ⟨_, (pss_cons (sd_first (i0 := 0) (i := 1) C__law_stream (hr.mono (by decide)) rfl rfl (.inl rfl) sc_law.nd rfl (.inl rfl)) hrest : PSs (BX P w K mg base ["_law_script", "_law_stream_here", "_law_problem_here", "_law_many", "_law_constraints", "_law_good_here", "_law_other", "_law_one", "_law_fine", "_law_told", "_law_every", "_law_made", "_law_turn", "_law_value", "_law_pick", "_law_odd", "_law_inner", "_law_due"] "law" s_law f cdv A outer s H E) (defBody s_law) _), ?_⟩
  refine ⟨a, ns, rfl, hS, fun p q hqn hpq hpn => ⟨p, H, fun _ => none, upd (fun _ => none) q (.lst (ns.map V.int)), ?_, ?_, fun o ho => ?_⟩⟩
  · have w0 : Wf [] (fun _ => none) H (fun _ => none) H := Wf.refl (fun _ _ z => nomatch z)
    have w1 := w0.step (Wf.new (o := .lst (ns.map V.int)) w0.s hqn)
    have hp1 : (upd H q (.lst (ns.map V.int))) p = none := by
      rw [upd_ne hpq]
      exact hpn
    exact w1.step (Wf.newU (o := .lst [.ref q, .int 0, .int 0]) w1.s hp1)
  · have hrep : ∀ (k : Nat) (x : Option Sl), (List.replicate 16 (none : Option Sl))[k]? = some x → x = none := fun k x e => by
      rw [List.getElem?_replicate] at e
      split at e
      · exact (Option.some.inj e).symm
      · cases e
    have hrepG : ∀ (k : Nat) (x : Option Sl), ([none, some (.own p (stD ⟨ns, 0, 0⟩)), none, none, none, none, none, none, none, none, none, none, none, none, none, none, none, none] : Gm)[k]? = some x → (k = 1 ∧ x = some (.own p (stD ⟨ns, 0, 0⟩))) ∨ x = none := fun k x e => by
      match k, e with
      | 0, e => exact .inr (Option.some.inj e).symm
      | 1, e => exact .inl ⟨rfl, (Option.some.inj e).symm⟩
      | k + 2, e => exact .inr (hrep k x e)
    refine ⟨rfl, fun i x e => ?_, fun i b es e => ?_, fun i j b es fs e e' => ?_⟩
    · rcases hrepG i _ e with ⟨_, z⟩ | z
      · cases z
      · cases z
    · rcases hrepG i _ e with ⟨hi, z⟩ | z
      · subst hi
        have z2 := Option.some.inj z
        injection z2 with z3 z4
        subst z3 z4
        refine ⟨rfl, by rw [upd_ne hpq], .inl hpn, [.ref q, .int 0, .int 0], upd_same, ?_⟩
        exact .cons (.lst upd_same ddAll_ints) (.cons (.int 0) (.cons (.int 0) .nil))
      · cases z
    · rcases hrepG i _ e with ⟨hi, _⟩ | z
      · rcases hrepG j _ e' with ⟨hj, _⟩ | z
        · rw [hi, hj]
        · cases z
      · cases z
  · cases o with
    | nx G => cases (show PyData.bool true = .none from ho)
    | rt d' G =>
      intro v sg' B' H' w' s' dv
      exact (by
        have z : d' = .bool true := ho
        subst z
        cases dv
        exact hq H')
    | bk G => exact ho.elim
    | ct G => exact ho.elim
end

theorem all_mk {l : PySem.W.OpenLaw} {w : World} {K : PySem.W.Frag} {h : Heap} {mg : Str → Option Value} {fa f7 f8 f9 f10 f11 f12 f13 f14 f17 f19 f20 f22 f23 f24 f25 f26 f27 f28 f29 f30 f31 f32 f34 f35 f38 f39 f40 f41 f42 f43 f44 f45 f46 f48 f50 f52 f54 f55 f56 f57 f58 f59 f60 f61 f62 f63 f64 f66 f67 f68 f69 f70 f71 f72 f73 f74 f75 f76 f77 f78 : Addr} (X : K.In h) (G : h.Ns mainGlobals mg) (hfa : mg "law" = some (.ref fa))
    {od7 an7 od8 an8 od9 an9 od10 an10 od11 an11 od12 an12 od13 an13 od14 an14 od17 an17 od19 an19 od20 an20 od22 an22 od23 an23 od24 an24 od25 an25 od26 an26 od27 an27 od28 an28 od29 an29 od30 an30 od31 an31 od32 an32 od34 an34 od35 an35 od38 an38 od39 an39 od40 an40 od41 an41 od42 an42 od43 an43 od44 an44 od45 an45 od46 an46 od48 an48 od50 an50 od52 an52 od54 an54 od55 an55 od56 an56 od57 an57 od58 an58 od59 an59 od60 an60 od61 an61 od62 an62 od63 an63 od64 an64 od66 an66 od67 an67 od68 an68 od69 an69 od70 an70 od71 an71 od72 an72 od73 an73 od74 an74 od75 an75 od76 an76 od77 an77 od78 an78 : Option Addr} {sl7 sl8 sl9 sl10 sl11 sl12 sl13 sl14 sl17 sl19 sl20 sl22 sl23 sl24 sl25 sl26 sl27 sl28 sl29 sl30 sl31 sl32 sl34 sl35 sl38 sl39 sl40 sl41 sl42 sl43 sl44 sl45 sl46 sl48 sl50 sl52 sl54 sl55 sl56 sl57 sl58 sl59 sl60 sl61 sl62 sl63 sl64 sl66 sl67 sl68 sl69 sl70 sl71 sl72 sl73 sl74 sl75 sl76 sl77 sl78 : Array (Option Value)}
    {oc7 kV7 dc7 pm7 cd7 ct7 oc8 kV8 dc8 pm8 cd8 ct8 oc9 kV9 dc9 pm9 cd9 ct9 oc10 kV10 dc10 pm10 cd10 ct10 oc11 kV11 dc11 pm11 cd11 ct11 oc12 kV12 dc12 pm12 cd12 ct12 oc13 kV13 dc13 pm13 cd13 ct13 oc14 kV14 dc14 pm14 cd14 ct14 oc17 kV17 dc17 pm17 cd17 ct17 oc19 kV19 dc19 pm19 cd19 ct19 oc20 kV20 dc20 pm20 cd20 ct20 oc22 kV22 dc22 pm22 cd22 ct22 oc23 kV23 dc23 pm23 cd23 ct23 oc24 kV24 dc24 pm24 cd24 ct24 oc25 kV25 dc25 pm25 cd25 ct25 oc26 kV26 dc26 pm26 cd26 ct26 oc27 kV27 dc27 pm27 cd27 ct27 oc28 kV28 dc28 pm28 cd28 ct28 oc29 kV29 dc29 pm29 cd29 ct29 oc30 kV30 dc30 pm30 cd30 ct30 oc31 kV31 dc31 pm31 cd31 ct31 oc32 kV32 dc32 pm32 cd32 ct32 oc34 kV34 dc34 pm34 cd34 ct34 oc35 kV35 dc35 pm35 cd35 ct35 oc38 kV38 dc38 pm38 cd38 ct38 oc39 kV39 dc39 pm39 cd39 ct39 oc40 kV40 dc40 pm40 cd40 ct40 oc41 kV41 dc41 pm41 cd41 ct41 oc42 kV42 dc42 pm42 cd42 ct42 oc43 kV43 dc43 pm43 cd43 ct43 oc44 kV44 dc44 pm44 cd44 ct44 oc45 kV45 dc45 pm45 cd45 ct45 oc46 kV46 dc46 pm46 cd46 ct46 oc48 kV48 dc48 pm48 cd48 ct48 oc50 kV50 dc50 pm50 cd50 ct50 oc52 kV52 dc52 pm52 cd52 ct52 oc54 kV54 dc54 pm54 cd54 ct54 oc55 kV55 dc55 pm55 cd55 ct55 oc56 kV56 dc56 pm56 cd56 ct56 oc57 kV57 dc57 pm57 cd57 ct57 oc58 kV58 dc58 pm58 cd58 ct58 oc59 kV59 dc59 pm59 cd59 ct59 oc60 kV60 dc60 pm60 cd60 ct60 oc61 kV61 dc61 pm61 cd61 ct61 oc62 kV62 dc62 pm62 cd62 ct62 oc63 kV63 dc63 pm63 cd63 ct63 oc64 kV64 dc64 pm64 cd64 ct64 oc66 kV66 dc66 pm66 cd66 ct66 oc67 kV67 dc67 pm67 cd67 ct67 oc68 kV68 dc68 pm68 cd68 ct68 oc69 kV69 dc69 pm69 cd69 ct69 oc70 kV70 dc70 pm70 cd70 ct70 oc71 kV71 dc71 pm71 cd71 ct71 oc72 kV72 dc72 pm72 cd72 ct72 oc73 kV73 dc73 pm73 cd73 ct73 oc74 kV74 dc74 pm74 cd74 ct74 oc75 kV75 dc75 pm75 cd75 ct75 oc76 kV76 dc76 pm76 cd76 ct76 oc77 kV77 dc77 pm77 cd77 ct77 oc78 kV78 dc78 pm78 cd78 ct78 : Value}
    (a7 : PySem.W.nsIn K mainGlobals "is_whole" = some (some (.ref f7)))
    (l7 : K.lookup f7 = some ⟨oc7, od7, .func (PySem.W.fnOf "is_whole" "is_whole" (defArgs s_is_whole) (defBody s_is_whole) (defScope s_is_whole) .none kV7 dc7 pm7 an7 cd7 ct7), sl7⟩)
    (c7 : PySem.W.codeIn K cd7 "is_whole" = true) (k7 : PySem.W.keepIn K (.ref f7) = true)
    (a8 : PySem.W.nsIn K mainGlobals "is_constraint" = some (some (.ref f8)))
    (l8 : K.lookup f8 = some ⟨oc8, od8, .func (PySem.W.fnOf "is_constraint" "is_constraint" (defArgs s_is_constraint) (defBody s_is_constraint) (defScope s_is_constraint) .none kV8 dc8 pm8 an8 cd8 ct8), sl8⟩)
    (c8 : PySem.W.codeIn K cd8 "is_constraint" = true) (k8 : PySem.W.keepIn K (.ref f8) = true)
    (a9 : PySem.W.nsIn K mainGlobals "is_problem" = some (some (.ref f9)))
    (l9 : K.lookup f9 = some ⟨oc9, od9, .func (PySem.W.fnOf "is_problem" "is_problem" (defArgs s_is_problem) (defBody s_is_problem) (defScope s_is_problem) .none kV9 dc9 pm9 an9 cd9 ct9), sl9⟩)
    (c9 : PySem.W.codeIn K cd9 "is_problem" = true) (k9 : PySem.W.keepIn K (.ref f9) = true)
    (a10 : PySem.W.nsIn K mainGlobals "is_ranking" = some (some (.ref f10)))
    (l10 : K.lookup f10 = some ⟨oc10, od10, .func (PySem.W.fnOf "is_ranking" "is_ranking" (defArgs s_is_ranking) (defBody s_is_ranking) (defScope s_is_ranking) .none kV10 dc10 pm10 an10 cd10 ct10), sl10⟩)
    (c10 : PySem.W.codeIn K cd10 "is_ranking" = true) (k10 : PySem.W.keepIn K (.ref f10) = true)
    (a11 : PySem.W.nsIn K mainGlobals "holds" = some (some (.ref f11)))
    (l11 : K.lookup f11 = some ⟨oc11, od11, .func (PySem.W.fnOf "holds" "holds" (defArgs s_holds) (defBody s_holds) (defScope s_holds) .none kV11 dc11 pm11 an11 cd11 ct11), sl11⟩)
    (c11 : PySem.W.codeIn K cd11 "holds" = true) (k11 : PySem.W.keepIn K (.ref f11) = true)
    (a12 : PySem.W.nsIn K mainGlobals "violated_by" = some (some (.ref f12)))
    (l12 : K.lookup f12 = some ⟨oc12, od12, .func (PySem.W.fnOf "violated_by" "violated_by" (defArgs s_violated_by) (defBody s_violated_by) (defScope s_violated_by) .none kV12 dc12 pm12 an12 cd12 ct12), sl12⟩)
    (c12 : PySem.W.codeIn K cd12 "violated_by" = true) (k12 : PySem.W.keepIn K (.ref f12) = true)
    (a13 : PySem.W.nsIn K mainGlobals "is_good" = some (some (.ref f13)))
    (l13 : K.lookup f13 = some ⟨oc13, od13, .func (PySem.W.fnOf "is_good" "is_good" (defArgs s_is_good) (defBody s_is_good) (defScope s_is_good) .none kV13 dc13 pm13 an13 cd13 ct13), sl13⟩)
    (c13 : PySem.W.codeIn K cd13 "is_good" = true) (k13 : PySem.W.keepIn K (.ref f13) = true)
    (a14 : PySem.W.nsIn K mainGlobals "check_problem_problems" = some (some (.ref f14)))
    (l14 : K.lookup f14 = some ⟨oc14, od14, .func (PySem.W.fnOf "check_problem" "check_problem" (defArgs s_check_problem_p) (defBody s_check_problem_p) (defScope s_check_problem_p) .none kV14 dc14 pm14 an14 cd14 ct14), sl14⟩)
    (c14 : PySem.W.codeIn K cd14 "check_problem" = true) (k14 : PySem.W.keepIn K (.ref f14) = true)
    (a17 : PySem.W.nsIn K mainGlobals "check_problem_windows" = some (some (.ref f17)))
    (l17 : K.lookup f17 = some ⟨oc17, od17, .func (PySem.W.fnOf "check_problem" "check_problem" (defArgs s_check_problem_w) (defBody s_check_problem_w) (defScope s_check_problem_w) .none kV17 dc17 pm17 an17 cd17 ct17), sl17⟩)
    (c17 : PySem.W.codeIn K cd17 "check_problem" = true) (k17 : PySem.W.keepIn K (.ref f17) = true)
    (a19 : PySem.W.nsIn K mainGlobals "is_between" = some (some (.ref f19)))
    (l19 : K.lookup f19 = some ⟨oc19, od19, .func (PySem.W.fnOf "is_between" "is_between" (defArgs s_is_between) (defBody s_is_between) (defScope s_is_between) .none kV19 dc19 pm19 an19 cd19 ct19), sl19⟩)
    (c19 : PySem.W.codeIn K cd19 "is_between" = true) (k19 : PySem.W.keepIn K (.ref f19) = true)
    (a20 : PySem.W.nsIn K mainGlobals "is_item_windows" = some (some (.ref f20)))
    (l20 : K.lookup f20 = some ⟨oc20, od20, .func (PySem.W.fnOf "is_item" "is_item" (defArgs s_is_item_w) (defBody s_is_item_w) (defScope s_is_item_w) .none kV20 dc20 pm20 an20 cd20 ct20), sl20⟩)
    (c20 : PySem.W.codeIn K cd20 "is_item" = true) (k20 : PySem.W.keepIn K (.ref f20) = true)
    (a22 : PySem.W.nsIn K mainGlobals "given_low" = some (some (.ref f22)))
    (l22 : K.lookup f22 = some ⟨oc22, od22, .func (PySem.W.fnOf "given_low" "given_low" (defArgs s_given_low) (defBody s_given_low) (defScope s_given_low) .none kV22 dc22 pm22 an22 cd22 ct22), sl22⟩)
    (c22 : PySem.W.codeIn K cd22 "given_low" = true) (k22 : PySem.W.keepIn K (.ref f22) = true)
    (a23 : PySem.W.nsIn K mainGlobals "given_high" = some (some (.ref f23)))
    (l23 : K.lookup f23 = some ⟨oc23, od23, .func (PySem.W.fnOf "given_high" "given_high" (defArgs s_given_high) (defBody s_given_high) (defScope s_given_high) .none kV23 dc23 pm23 an23 cd23 ct23), sl23⟩)
    (c23 : PySem.W.codeIn K cd23 "given_high" = true) (k23 : PySem.W.keepIn K (.ref f23) = true)
    (a24 : PySem.W.nsIn K mainGlobals "before" = some (some (.ref f24)))
    (l24 : K.lookup f24 = some ⟨oc24, od24, .func (PySem.W.fnOf "before" "before" (defArgs s_before) (defBody s_before) (defScope s_before) .none kV24 dc24 pm24 an24 cd24 ct24), sl24⟩)
    (c24 : PySem.W.codeIn K cd24 "before" = true) (k24 : PySem.W.keepIn K (.ref f24) = true)
    (a25 : PySem.W.nsIn K mainGlobals "behind" = some (some (.ref f25)))
    (l25 : K.lookup f25 = some ⟨oc25, od25, .func (PySem.W.fnOf "behind" "behind" (defArgs s_behind) (defBody s_behind) (defScope s_behind) .none kV25 dc25 pm25 an25 cd25 ct25), sl25⟩)
    (c25 : PySem.W.codeIn K cd25 "behind" = true) (k25 : PySem.W.keepIn K (.ref f25) = true)
    (a26 : PySem.W.nsIn K mainGlobals "ordered" = some (some (.ref f26)))
    (l26 : K.lookup f26 = some ⟨oc26, od26, .func (PySem.W.fnOf "ordered" "ordered" (defArgs s_ordered) (defBody s_ordered) (defScope s_ordered) .none kV26 dc26 pm26 an26 cd26 ct26), sl26⟩)
    (c26 : PySem.W.codeIn K cd26 "ordered" = true) (k26 : PySem.W.keepIn K (.ref f26) = true)
    (a27 : PySem.W.nsIn K mainGlobals "is_cyclic" = some (some (.ref f27)))
    (l27 : K.lookup f27 = some ⟨oc27, od27, .func (PySem.W.fnOf "is_cyclic" "is_cyclic" (defArgs s_is_cyclic) (defBody s_is_cyclic) (defScope s_is_cyclic) .none kV27 dc27 pm27 an27 cd27 ct27), sl27⟩)
    (c27 : PySem.W.codeIn K cd27 "is_cyclic" = true) (k27 : PySem.W.keepIn K (.ref f27) = true)
    (a28 : PySem.W.nsIn K mainGlobals "earliest_of" = some (some (.ref f28)))
    (l28 : K.lookup f28 = some ⟨oc28, od28, .func (PySem.W.fnOf "earliest_of" "earliest_of" (defArgs s_earliest_of) (defBody s_earliest_of) (defScope s_earliest_of) .none kV28 dc28 pm28 an28 cd28 ct28), sl28⟩)
    (c28 : PySem.W.codeIn K cd28 "earliest_of" = true) (k28 : PySem.W.keepIn K (.ref f28) = true)
    (a29 : PySem.W.nsIn K mainGlobals "latest_of" = some (some (.ref f29)))
    (l29 : K.lookup f29 = some ⟨oc29, od29, .func (PySem.W.fnOf "latest_of" "latest_of" (defArgs s_latest_of) (defBody s_latest_of) (defScope s_latest_of) .none kV29 dc29 pm29 an29 cd29 ct29), sl29⟩)
    (c29 : PySem.W.codeIn K cd29 "latest_of" = true) (k29 : PySem.W.keepIn K (.ref f29) = true)
    (a30 : PySem.W.nsIn K mainGlobals "lower_chain" = some (some (.ref f30)))
    (l30 : K.lookup f30 = some ⟨oc30, od30, .func (PySem.W.fnOf "lower_chain" "lower_chain" (defArgs s_lower_chain) (defBody s_lower_chain) (defScope s_lower_chain) .none kV30 dc30 pm30 an30 cd30 ct30), sl30⟩)
    (c30 : PySem.W.codeIn K cd30 "lower_chain" = true) (k30 : PySem.W.keepIn K (.ref f30) = true)
    (a31 : PySem.W.nsIn K mainGlobals "upper_chain" = some (some (.ref f31)))
    (l31 : K.lookup f31 = some ⟨oc31, od31, .func (PySem.W.fnOf "upper_chain" "upper_chain" (defArgs s_upper_chain) (defBody s_upper_chain) (defScope s_upper_chain) .none kV31 dc31 pm31 an31 cd31 ct31), sl31⟩)
    (c31 : PySem.W.codeIn K cd31 "upper_chain" = true) (k31 : PySem.W.keepIn K (.ref f31) = true)
    (a32 : PySem.W.nsIn K mainGlobals "is_chain" = some (some (.ref f32)))
    (l32 : K.lookup f32 = some ⟨oc32, od32, .func (PySem.W.fnOf "is_chain" "is_chain" (defArgs s_is_chain) (defBody s_is_chain) (defScope s_is_chain) .none kV32 dc32 pm32 an32 cd32 ct32), sl32⟩)
    (c32 : PySem.W.codeIn K cd32 "is_chain" = true) (k32 : PySem.W.keepIn K (.ref f32) = true)
    (a34 : PySem.W.nsIn K mainGlobals "cycles_from" = some (some (.ref f34)))
    (l34 : K.lookup f34 = some ⟨oc34, od34, .func (PySem.W.fnOf "cycles_from" "cycles_from" (defArgs s_cycles_from) (defBody s_cycles_from) (defScope s_cycles_from) .none kV34 dc34 pm34 an34 cd34 ct34), sl34⟩)
    (c34 : PySem.W.codeIn K cd34 "cycles_from" = true) (k34 : PySem.W.keepIn K (.ref f34) = true)
    (a35 : PySem.W.nsIn K mainGlobals "cycle_of" = some (some (.ref f35)))
    (l35 : K.lookup f35 = some ⟨oc35, od35, .func (PySem.W.fnOf "cycle_of" "cycle_of" (defArgs s_cycle_of) (defBody s_cycle_of) (defScope s_cycle_of) .none kV35 dc35 pm35 an35 cd35 ct35), sl35⟩)
    (c35 : PySem.W.codeIn K cd35 "cycle_of" = true) (k35 : PySem.W.keepIn K (.ref f35) = true)
    (a38 : PySem.W.nsIn K mainGlobals "places_of" = some (some (.ref f38)))
    (l38 : K.lookup f38 = some ⟨oc38, od38, .func (PySem.W.fnOf "places_of" "places_of" (defArgs s_places_of) (defBody s_places_of) (defScope s_places_of) .none kV38 dc38 pm38 an38 cd38 ct38), sl38⟩)
    (c38 : PySem.W.codeIn K cd38 "places_of" = true) (k38 : PySem.W.keepIn K (.ref f38) = true)
    (a39 : PySem.W.nsIn K mainGlobals "intervals_of" = some (some (.ref f39)))
    (l39 : K.lookup f39 = some ⟨oc39, od39, .func (PySem.W.fnOf "intervals_of" "intervals_of" (defArgs s_intervals_of) (defBody s_intervals_of) (defScope s_intervals_of) .none kV39 dc39 pm39 an39 cd39 ct39), sl39⟩)
    (c39 : PySem.W.codeIn K cd39 "intervals_of" = true) (k39 : PySem.W.keepIn K (.ref f39) = true)
    (a40 : PySem.W.nsIn K mainGlobals "told_contradiction" = some (some (.ref f40)))
    (l40 : K.lookup f40 = some ⟨oc40, od40, .func (PySem.W.fnOf "told_contradiction" "told_contradiction" (defArgs s_told_contradiction) (defBody s_told_contradiction) (defScope s_told_contradiction) .none kV40 dc40 pm40 an40 cd40 ct40), sl40⟩)
    (c40 : PySem.W.codeIn K cd40 "told_contradiction" = true) (k40 : PySem.W.keepIn K (.ref f40) = true)
    (a41 : PySem.W.nsIn K mainGlobals "shows_low" = some (some (.ref f41)))
    (l41 : K.lookup f41 = some ⟨oc41, od41, .func (PySem.W.fnOf "shows_low" "shows_low" (defArgs s_shows_low) (defBody s_shows_low) (defScope s_shows_low) .none kV41 dc41 pm41 an41 cd41 ct41), sl41⟩)
    (c41 : PySem.W.codeIn K cd41 "shows_low" = true) (k41 : PySem.W.keepIn K (.ref f41) = true)
    (a42 : PySem.W.nsIn K mainGlobals "shows_high" = some (some (.ref f42)))
    (l42 : K.lookup f42 = some ⟨oc42, od42, .func (PySem.W.fnOf "shows_high" "shows_high" (defArgs s_shows_high) (defBody s_shows_high) (defScope s_shows_high) .none kV42 dc42 pm42 an42 cd42 ct42), sl42⟩)
    (c42 : PySem.W.codeIn K cd42 "shows_high" = true) (k42 : PySem.W.keepIn K (.ref f42) = true)
    (a43 : PySem.W.nsIn K mainGlobals "is_row" = some (some (.ref f43)))
    (l43 : K.lookup f43 = some ⟨oc43, od43, .func (PySem.W.fnOf "is_row" "is_row" (defArgs s_is_row) (defBody s_is_row) (defScope s_is_row) .none kV43 dc43 pm43 an43 cd43 ct43), sl43⟩)
    (c43 : PySem.W.codeIn K cd43 "is_row" = true) (k43 : PySem.W.keepIn K (.ref f43) = true)
    (a44 : PySem.W.nsIn K mainGlobals "is_overfull" = some (some (.ref f44)))
    (l44 : K.lookup f44 = some ⟨oc44, od44, .func (PySem.W.fnOf "is_overfull" "is_overfull" (defArgs s_is_overfull) (defBody s_is_overfull) (defScope s_is_overfull) .none kV44 dc44 pm44 an44 cd44 ct44), sl44⟩)
    (c44 : PySem.W.codeIn K cd44 "is_overfull" = true) (k44 : PySem.W.keepIn K (.ref f44) = true)
    (a45 : PySem.W.nsIn K mainGlobals "is_contradiction" = some (some (.ref f45)))
    (l45 : K.lookup f45 = some ⟨oc45, od45, .func (PySem.W.fnOf "is_contradiction" "is_contradiction" (defArgs s_is_contradiction) (defBody s_is_contradiction) (defScope s_is_contradiction) .none kV45 dc45 pm45 an45 cd45 ct45), sl45⟩)
    (c45 : PySem.W.codeIn K cd45 "is_contradiction" = true) (k45 : PySem.W.keepIn K (.ref f45) = true)
    (a46 : PySem.W.nsIn K mainGlobals "accepts_contradiction" = some (some (.ref f46)))
    (l46 : K.lookup f46 = some ⟨oc46, od46, .func (PySem.W.fnOf "accepts_contradiction" "accepts_contradiction" (defArgs s_accepts_contradiction) (defBody s_accepts_contradiction) (defScope s_accepts_contradiction) .none kV46 dc46 pm46 an46 cd46 ct46), sl46⟩)
    (c46 : PySem.W.codeIn K cd46 "accepts_contradiction" = true) (k46 : PySem.W.keepIn K (.ref f46) = true)
    (a48 : PySem.W.nsIn K mainGlobals "is_item_exchanges" = some (some (.ref f48)))
    (l48 : K.lookup f48 = some ⟨oc48, od48, .func (PySem.W.fnOf "is_item" "is_item" (defArgs s_is_item_e) (defBody s_is_item_e) (defScope s_is_item_e) .none kV48 dc48 pm48 an48 cd48 ct48), sl48⟩)
    (c48 : PySem.W.codeIn K cd48 "is_item" = true) (k48 : PySem.W.keepIn K (.ref f48) = true)
    (a50 : PySem.W.nsIn K mainGlobals "exchanged_in" = some (some (.ref f50)))
    (l50 : K.lookup f50 = some ⟨oc50, od50, .func (PySem.W.fnOf "exchanged_in" "exchanged_in" (defArgs s_exchanged_in) (defBody s_exchanged_in) (defScope s_exchanged_in) .none kV50 dc50 pm50 an50 cd50 ct50), sl50⟩)
    (c50 : PySem.W.codeIn K cd50 "exchanged_in" = true) (k50 : PySem.W.keepIn K (.ref f50) = true)
    (a52 : PySem.W.nsIn K mainGlobals "found_by_deadlines" = some (some (.ref f52)))
    (l52 : K.lookup f52 = some ⟨oc52, od52, .func (PySem.W.fnOf "found_by_deadlines" "found_by_deadlines" (defArgs s_found_by_deadlines) (defBody s_found_by_deadlines) (defScope s_found_by_deadlines) .none kV52 dc52 pm52 an52 cd52 ct52), sl52⟩)
    (c52 : PySem.W.codeIn K cd52 "found_by_deadlines" = true) (k52 : PySem.W.keepIn K (.ref f52) = true)
    (a54 : PySem.W.nsIn K mainGlobals "ahead_between" = some (some (.ref f54)))
    (l54 : K.lookup f54 = some ⟨oc54, od54, .func (PySem.W.fnOf "ahead_between" "ahead_between" (defArgs s_ahead_between) (defBody s_ahead_between) (defScope s_ahead_between) .none kV54 dc54 pm54 an54 cd54 ct54), sl54⟩)
    (c54 : PySem.W.codeIn K cd54 "ahead_between" = true) (k54 : PySem.W.keepIn K (.ref f54) = true)
    (a55 : PySem.W.nsIn K mainGlobals "replaced" = some (some (.ref f55)))
    (l55 : K.lookup f55 = some ⟨oc55, od55, .func (PySem.W.fnOf "replaced" "replaced" (defArgs s_replaced) (defBody s_replaced) (defScope s_replaced) .none kV55 dc55 pm55 an55 cd55 ct55), sl55⟩)
    (c55 : PySem.W.codeIn K cd55 "replaced" = true) (k55 : PySem.W.keepIn K (.ref f55) = true)
    (a56 : PySem.W.nsIn K mainGlobals "items_of" = some (some (.ref f56)))
    (l56 : K.lookup f56 = some ⟨oc56, od56, .func (PySem.W.fnOf "items_of" "items_of" (defArgs s_items_of) (defBody s_items_of) (defScope s_items_of) .none kV56 dc56 pm56 an56 cd56 ct56), sl56⟩)
    (c56 : PySem.W.codeIn K cd56 "items_of" = true) (k56 : PySem.W.keepIn K (.ref f56) = true)
    (a57 : PySem.W.nsIn K mainGlobals "merged_problem" = some (some (.ref f57)))
    (l57 : K.lookup f57 = some ⟨oc57, od57, .func (PySem.W.fnOf "merged_problem" "merged_problem" (defArgs s_merged_problem) (defBody s_merged_problem) (defScope s_merged_problem) .none kV57 dc57 pm57 an57 cd57 ct57), sl57⟩)
    (c57 : PySem.W.codeIn K cd57 "merged_problem" = true) (k57 : PySem.W.keepIn K (.ref f57) = true)
    (a58 : PySem.W.nsIn K mainGlobals "check_pair" = some (some (.ref f58)))
    (l58 : K.lookup f58 = some ⟨oc58, od58, .func (PySem.W.fnOf "check_pair" "check_pair" (defArgs s_check_pair) (defBody s_check_pair) (defScope s_check_pair) .none kV58 dc58 pm58 an58 cd58 ct58), sl58⟩)
    (c58 : PySem.W.codeIn K cd58 "check_pair" = true) (k58 : PySem.W.keepIn K (.ref f58) = true)
    (a59 : PySem.W.nsIn K mainGlobals "merged" = some (some (.ref f59)))
    (l59 : K.lookup f59 = some ⟨oc59, od59, .func (PySem.W.fnOf "merged" "merged" (defArgs s_merged) (defBody s_merged) (defScope s_merged) .none kV59 dc59 pm59 an59 cd59 ct59), sl59⟩)
    (c59 : PySem.W.codeIn K cd59 "merged" = true) (k59 : PySem.W.keepIn K (.ref f59) = true)
    (a60 : PySem.W.nsIn K mainGlobals "ranking_for" = some (some (.ref f60)))
    (l60 : K.lookup f60 = some ⟨oc60, od60, .func (PySem.W.fnOf "ranking_for" "ranking_for" (defArgs s_ranking_for) (defBody s_ranking_for) (defScope s_ranking_for) .none kV60 dc60 pm60 an60 cd60 ct60), sl60⟩)
    (c60 : PySem.W.codeIn K cd60 "ranking_for" = true) (k60 : PySem.W.keepIn K (.ref f60) = true)
    (a61 : PySem.W.nsIn K mainGlobals "evidence_for" = some (some (.ref f61)))
    (l61 : K.lookup f61 = some ⟨oc61, od61, .func (PySem.W.fnOf "evidence_for" "evidence_for" (defArgs s_evidence_for) (defBody s_evidence_for) (defScope s_evidence_for) .none kV61 dc61 pm61 an61 cd61 ct61), sl61⟩)
    (c61 : PySem.W.codeIn K cd61 "evidence_for" = true) (k61 : PySem.W.keepIn K (.ref f61) = true)
    (a62 : PySem.W.nsIn K mainGlobals "pair_evidence" = some (some (.ref f62)))
    (l62 : K.lookup f62 = some ⟨oc62, od62, .func (PySem.W.fnOf "pair_evidence" "pair_evidence" (defArgs s_pair_evidence) (defBody s_pair_evidence) (defScope s_pair_evidence) .none kV62 dc62 pm62 an62 cd62 ct62), sl62⟩)
    (c62 : PySem.W.codeIn K cd62 "pair_evidence" = true) (k62 : PySem.W.keepIn K (.ref f62) = true)
    (a63 : PySem.W.nsIn K mainGlobals "is_evidence" = some (some (.ref f63)))
    (l63 : K.lookup f63 = some ⟨oc63, od63, .func (PySem.W.fnOf "is_evidence" "is_evidence" (defArgs s_is_evidence) (defBody s_is_evidence) (defScope s_is_evidence) .none kV63 dc63 pm63 an63 cd63 ct63), sl63⟩)
    (c63 : PySem.W.codeIn K cd63 "is_evidence" = true) (k63 : PySem.W.keepIn K (.ref f63) = true)
    (a64 : PySem.W.nsIn K mainGlobals "accepts_pair" = some (some (.ref f64)))
    (l64 : K.lookup f64 = some ⟨oc64, od64, .func (PySem.W.fnOf "accepts_pair" "accepts_pair" (defArgs s_accepts_pair) (defBody s_accepts_pair) (defScope s_accepts_pair) .none kV64 dc64 pm64 an64 cd64 ct64), sl64⟩)
    (c64 : PySem.W.codeIn K cd64 "accepts_pair" = true) (k64 : PySem.W.keepIn K (.ref f64) = true)
    (a66 : PySem.W.nsIn K mainGlobals "_law_stream" = some (some (.ref f66)))
    (l66 : K.lookup f66 = some ⟨oc66, od66, .func (PySem.W.fnOf "_law_stream" "_law_stream" (defArgs s_law_stream) (defBody s_law_stream) (defScope s_law_stream) .none kV66 dc66 pm66 an66 cd66 ct66), sl66⟩)
    (c66 : PySem.W.codeIn K cd66 "_law_stream" = true) (k66 : PySem.W.keepIn K (.ref f66) = true)
    (a67 : PySem.W.nsIn K mainGlobals "_law_next" = some (some (.ref f67)))
    (l67 : K.lookup f67 = some ⟨oc67, od67, .func (PySem.W.fnOf "_law_next" "_law_next" (defArgs s_law_next) (defBody s_law_next) (defScope s_law_next) .none kV67 dc67 pm67 an67 cd67 ct67), sl67⟩)
    (c67 : PySem.W.codeIn K cd67 "_law_next" = true) (k67 : PySem.W.keepIn K (.ref f67) = true)
    (a68 : PySem.W.nsIn K mainGlobals "_law_is_integer" = some (some (.ref f68)))
    (l68 : K.lookup f68 = some ⟨oc68, od68, .func (PySem.W.fnOf "_law_is_integer" "_law_is_integer" (defArgs s__law_is_integer) (defBody s__law_is_integer) (defScope s__law_is_integer) .none kV68 dc68 pm68 an68 cd68 ct68), sl68⟩)
    (c68 : PySem.W.codeIn K cd68 "_law_is_integer" = true) (k68 : PySem.W.keepIn K (.ref f68) = true)
    (a69 : PySem.W.nsIn K mainGlobals "_law_equal" = some (some (.ref f69)))
    (l69 : K.lookup f69 = some ⟨oc69, od69, .func (PySem.W.fnOf "_law_equal" "_law_equal" (defArgs s__law_equal) (defBody s__law_equal) (defScope s__law_equal) .none kV69 dc69 pm69 an69 cd69 ct69), sl69⟩)
    (c69 : PySem.W.codeIn K cd69 "_law_equal" = true) (k69 : PySem.W.keepIn K (.ref f69) = true)
    (a70 : PySem.W.nsIn K mainGlobals "_law_rankings" = some (some (.ref f70)))
    (l70 : K.lookup f70 = some ⟨oc70, od70, .func (PySem.W.fnOf "_law_rankings" "_law_rankings" (defArgs s__law_rankings) (defBody s__law_rankings) (defScope s__law_rankings) .none kV70 dc70 pm70 an70 cd70 ct70), sl70⟩)
    (c70 : PySem.W.codeIn K cd70 "_law_rankings" = true) (k70 : PySem.W.keepIn K (.ref f70) = true)
    (a71 : PySem.W.nsIn K mainGlobals "_law_holds" = some (some (.ref f71)))
    (l71 : K.lookup f71 = some ⟨oc71, od71, .func (PySem.W.fnOf "_law_holds" "_law_holds" (defArgs s__law_holds) (defBody s__law_holds) (defScope s__law_holds) .none kV71 dc71 pm71 an71 cd71 ct71), sl71⟩)
    (c71 : PySem.W.codeIn K cd71 "_law_holds" = true) (k71 : PySem.W.keepIn K (.ref f71) = true)
    (a72 : PySem.W.nsIn K mainGlobals "_law_good" = some (some (.ref f72)))
    (l72 : K.lookup f72 = some ⟨oc72, od72, .func (PySem.W.fnOf "_law_good" "_law_good" (defArgs s__law_good) (defBody s__law_good) (defScope s__law_good) .none kV72 dc72 pm72 an72 cd72 ct72), sl72⟩)
    (c72 : PySem.W.codeIn K cd72 "_law_good" = true) (k72 : PySem.W.keepIn K (.ref f72) = true)
    (a73 : PySem.W.nsIn K mainGlobals "_law_constraint" = some (some (.ref f73)))
    (l73 : K.lookup f73 = some ⟨oc73, od73, .func (PySem.W.fnOf "_law_constraint" "_law_constraint" (defArgs s__law_constraint) (defBody s__law_constraint) (defScope s__law_constraint) .none kV73 dc73 pm73 an73 cd73 ct73), sl73⟩)
    (c73 : PySem.W.codeIn K cd73 "_law_constraint" = true) (k73 : PySem.W.keepIn K (.ref f73) = true)
    (a74 : PySem.W.nsIn K mainGlobals "_law_problem" = some (some (.ref f74)))
    (l74 : K.lookup f74 = some ⟨oc74, od74, .func (PySem.W.fnOf "_law_problem" "_law_problem" (defArgs s__law_problem) (defBody s__law_problem) (defScope s__law_problem) .none kV74 dc74 pm74 an74 cd74 ct74), sl74⟩)
    (c74 : PySem.W.codeIn K cd74 "_law_problem" = true) (k74 : PySem.W.keepIn K (.ref f74) = true)
    (a75 : PySem.W.nsIn K mainGlobals "_law_exchanged" = some (some (.ref f75)))
    (l75 : K.lookup f75 = some ⟨oc75, od75, .func (PySem.W.fnOf "_law_exchanged" "_law_exchanged" (defArgs s__law_exchanged) (defBody s__law_exchanged) (defScope s__law_exchanged) .none kV75 dc75 pm75 an75 cd75 ct75), sl75⟩)
    (c75 : PySem.W.codeIn K cd75 "_law_exchanged" = true) (k75 : PySem.W.keepIn K (.ref f75) = true)
    (a76 : PySem.W.nsIn K mainGlobals "_law_can_be" = some (some (.ref f76)))
    (l76 : K.lookup f76 = some ⟨oc76, od76, .func (PySem.W.fnOf "_law_can_be" "_law_can_be" (defArgs s__law_can_be) (defBody s__law_can_be) (defScope s__law_can_be) .none kV76 dc76 pm76 an76 cd76 ct76), sl76⟩)
    (c76 : PySem.W.codeIn K cd76 "_law_can_be" = true) (k76 : PySem.W.keepIn K (.ref f76) = true)
    (a77 : PySem.W.nsIn K mainGlobals "_law_is_evidence" = some (some (.ref f77)))
    (l77 : K.lookup f77 = some ⟨oc77, od77, .func (PySem.W.fnOf "_law_is_evidence" "_law_is_evidence" (defArgs s__law_is_evidence) (defBody s__law_is_evidence) (defScope s__law_is_evidence) .none kV77 dc77 pm77 an77 cd77 ct77), sl77⟩)
    (c77 : PySem.W.codeIn K cd77 "_law_is_evidence" = true) (k77 : PySem.W.keepIn K (.ref f77) = true)
    (a78 : PySem.W.nsIn K mainGlobals "law" = some (some (.ref f78)))
    (l78 : K.lookup f78 = some ⟨oc78, od78, .func (PySem.W.fnOf "law" "law" (defArgs s_law) (defBody s_law) (defScope s_law) .none kV78 dc78 pm78 an78 cd78 ct78), sl78⟩)
    (c78 : PySem.W.codeIn K cd78 "law" = true) (k78 : PySem.W.keepIn K (.ref f78) = true)
    (z_len : PySem.W.nsIn K mainGlobals "len" = some none)
    (z_isinstance : PySem.W.nsIn K mainGlobals "isinstance" = some none)
    (z_tuple : PySem.W.nsIn K mainGlobals "tuple" = some none)
    (z_int : PySem.W.nsIn K mainGlobals "int" = some none)
    (z_bool : PySem.W.nsIn K mainGlobals "bool" = some none)
    (z_str : PySem.W.nsIn K mainGlobals "str" = some none)
    (z_list : PySem.W.nsIn K mainGlobals "list" = some none)
    (z_all : PySem.W.nsIn K mainGlobals "all" = some none)
    (z_any : PySem.W.nsIn K mainGlobals "any" = some none)
    (z_range : PySem.W.nsIn K mainGlobals "range" = some none)
    (z_enumerate : PySem.W.nsIn K mainGlobals "enumerate" = some none)
    (z_max : PySem.W.nsIn K mainGlobals "max" = some none)
    (z_min : PySem.W.nsIn K mainGlobals "min" = some none)
    (z_sorted : PySem.W.nsIn K mainGlobals "sorted" = some none)
    (z_reversed : PySem.W.nsIn K mainGlobals "reversed" = some none)
    (z_zip : PySem.W.nsIn K mainGlobals "zip" = some none)
    (z_abs : PySem.W.nsIn K mainGlobals "abs" = some none)
    {t1 t2 t3 : Tok}
    (m1 : PySem.W.nsIn K mainGlobals "MOST_ITEMS" = some (some (.int 7 t1)))
    (m2 : PySem.W.nsIn K mainGlobals "MOST_CONSTRAINTS" = some (some (.int 12 t2)))
    (m3 : PySem.W.nsIn K mainGlobals "MOST_NUMBER" = some (some (.int 20 t3)))
    : ∃ fd : FuncData, (∀ (s : Shared) (v : Value), BindsTo s fd ⟨[v], []⟩ [("_law_script", v)]) ∧ ∀ base : Heap, K.In base → base.Ns mainGlobals mg → FnOk l.prog w K mg base CX0 10 fa fd ["_law_script"] (SpLaw K) := by
  have e := hfa.symm.trans (PySem.W.mg_of X G a78)
  cases e
  have T : Txt mg := { len_ := PySem.W.mg_none_of X G z_len, isinstance := PySem.W.mg_none_of X G z_isinstance, tuple_ := PySem.W.mg_none_of X G z_tuple, int_ := PySem.W.mg_none_of X G z_int, bool_ := PySem.W.mg_none_of X G z_bool, str_ := PySem.W.mg_none_of X G z_str, list_ := PySem.W.mg_none_of X G z_list, all_ := PySem.W.mg_none_of X G z_all, any_ := PySem.W.mg_none_of X G z_any, range_ := PySem.W.mg_none_of X G z_range, enumerate_ := PySem.W.mg_none_of X G z_enumerate, max_ := PySem.W.mg_none_of X G z_max, min_ := PySem.W.mg_none_of X G z_min, sorted_ := PySem.W.mg_none_of X G z_sorted, reversed_ := PySem.W.mg_none_of X G z_reversed, zip_ := PySem.W.mg_none_of X G z_zip, abs_ := PySem.W.mg_none_of X G z_abs, mostItems := ⟨t1, PySem.W.mg_of X G m1⟩, mostConstraints := ⟨t2, PySem.W.mg_of X G m2⟩, mostNumber := ⟨t3, PySem.W.mg_of X G m3⟩ }
  have F7 := fun_mk (st := s_is_whole) l7 c7 k7
  have F8 := fun_mk (st := s_is_constraint) l8 c8 k8
  have F9 := fun_mk (st := s_is_problem) l9 c9 k9
  have F10 := fun_mk (st := s_is_ranking) l10 c10 k10
  have F11 := fun_mk (st := s_holds) l11 c11 k11
  have F12 := fun_mk (st := s_violated_by) l12 c12 k12
  have F13 := fun_mk (st := s_is_good) l13 c13 k13
  have F14 := fun_mk (st := s_check_problem_p) l14 c14 k14
  have F17 := fun_mk (st := s_check_problem_w) l17 c17 k17
  have F19 := fun_mk (st := s_is_between) l19 c19 k19
  have F20 := fun_mk (st := s_is_item_w) l20 c20 k20
  have F22 := fun_mk (st := s_given_low) l22 c22 k22
  have F23 := fun_mk (st := s_given_high) l23 c23 k23
  have F24 := fun_mk (st := s_before) l24 c24 k24
  have F25 := fun_mk (st := s_behind) l25 c25 k25
  have F26 := fun_mk (st := s_ordered) l26 c26 k26
  have F27 := fun_mk (st := s_is_cyclic) l27 c27 k27
  have F28 := fun_mk (st := s_earliest_of) l28 c28 k28
  have F29 := fun_mk (st := s_latest_of) l29 c29 k29
  have F30 := fun_mk (st := s_lower_chain) l30 c30 k30
  have F31 := fun_mk (st := s_upper_chain) l31 c31 k31
  have F32 := fun_mk (st := s_is_chain) l32 c32 k32
  have F34 := fun_mk (st := s_cycles_from) l34 c34 k34
  have F35 := fun_mk (st := s_cycle_of) l35 c35 k35
  have F38 := fun_mk (st := s_places_of) l38 c38 k38
  have F39 := fun_mk (st := s_intervals_of) l39 c39 k39
  have F40 := fun_mk (st := s_told_contradiction) l40 c40 k40
  have F41 := fun_mk (st := s_shows_low) l41 c41 k41
  have F42 := fun_mk (st := s_shows_high) l42 c42 k42
  have F43 := fun_mk (st := s_is_row) l43 c43 k43
  have F44 := fun_mk (st := s_is_overfull) l44 c44 k44
  have F45 := fun_mk (st := s_is_contradiction) l45 c45 k45
  have F46 := fun_mk (st := s_accepts_contradiction) l46 c46 k46
  have F48 := fun_mk (st := s_is_item_e) l48 c48 k48
  have F50 := fun_mk (st := s_exchanged_in) l50 c50 k50
  have F52 := fun_mk (st := s_found_by_deadlines) l52 c52 k52
  have F54 := fun_mk (st := s_ahead_between) l54 c54 k54
  have F55 := fun_mk (st := s_replaced) l55 c55 k55
  have F56 := fun_mk (st := s_items_of) l56 c56 k56
  have F57 := fun_mk (st := s_merged_problem) l57 c57 k57
  have F58 := fun_mk (st := s_check_pair) l58 c58 k58
  have F59 := fun_mk (st := s_merged) l59 c59 k59
  have F60 := fun_mk (st := s_ranking_for) l60 c60 k60
  have F61 := fun_mk (st := s_evidence_for) l61 c61 k61
  have F62 := fun_mk (st := s_pair_evidence) l62 c62 k62
  have F63 := fun_mk (st := s_is_evidence) l63 c63 k63
  have F64 := fun_mk (st := s_accepts_pair) l64 c64 k64
  have F66 := fun_mk (st := s_law_stream) l66 c66 k66
  have F67 := fun_mk (st := s_law_next) l67 c67 k67
  have F68 := fun_mk (st := s__law_is_integer) l68 c68 k68
  have F69 := fun_mk (st := s__law_equal) l69 c69 k69
  have F70 := fun_mk (st := s__law_rankings) l70 c70 k70
  have F71 := fun_mk (st := s__law_holds) l71 c71 k71
  have F72 := fun_mk (st := s__law_good) l72 c72 k72
  have F73 := fun_mk (st := s__law_constraint) l73 c73 k73
  have F74 := fun_mk (st := s__law_problem) l74 c74 k74
  have F75 := fun_mk (st := s__law_exchanged) l75 c75 k75
  have F76 := fun_mk (st := s__law_can_be) l76 c76 k76
  have F77 := fun_mk (st := s__law_is_evidence) l77 c77 k77
  have F78 := fun_mk (st := s_law) l78 c78 k78
  have b7 := F7.binds (ps := ["value", "low", "high"]) fun _ _ _ _ _ _ us hl => match us, hl with | [_, _, _], _ => rfl
  have b8 := F8.binds (ps := ["items", "value"]) fun _ _ _ _ _ _ us hl => match us, hl with | [_, _], _ => rfl
  have b9 := F9.binds (ps := ["value"]) fun _ _ _ _ _ _ us hl => match us, hl with | [_], _ => rfl
  have b10 := F10.binds (ps := ["items", "value"]) fun _ _ _ _ _ _ us hl => match us, hl with | [_, _], _ => rfl
  have b11 := F11.binds (ps := ["constraint", "ranking"]) fun _ _ _ _ _ _ us hl => match us, hl with | [_, _], _ => rfl
  have b12 := F12.binds (ps := ["problem", "ranking"]) fun _ _ _ _ _ _ us hl => match us, hl with | [_, _], _ => rfl
  have b13 := F13.binds (ps := ["problem", "ranking"]) fun _ _ _ _ _ _ us hl => match us, hl with | [_, _], _ => rfl
  have b14 := F14.binds (ps := ["problem"]) fun _ _ _ _ _ _ us hl => match us, hl with | [_], _ => rfl
  have b17 := F17.binds (ps := ["value"]) fun _ _ _ _ _ _ us hl => match us, hl with | [_], _ => rfl
  have b19 := F19.binds (ps := ["value", "low", "high"]) fun _ _ _ _ _ _ us hl => match us, hl with | [_, _, _], _ => rfl
  have b20 := F20.binds (ps := ["value", "problem"]) fun _ _ _ _ _ _ us hl => match us, hl with | [_, _], _ => rfl
  have b22 := F22.binds (ps := ["problem", "item"]) fun _ _ _ _ _ _ us hl => match us, hl with | [_, _], _ => rfl
  have b23 := F23.binds (ps := ["problem", "item"]) fun _ _ _ _ _ _ us hl => match us, hl with | [_, _], _ => rfl
  have b24 := F24.binds (ps := ["problem", "item"]) fun _ _ _ _ _ _ us hl => match us, hl with | [_, _], _ => rfl
  have b25 := F25.binds (ps := ["problem", "item"]) fun _ _ _ _ _ _ us hl => match us, hl with | [_, _], _ => rfl
  have b26 := F26.binds (ps := ["problem"]) fun _ _ _ _ _ _ us hl => match us, hl with | [_], _ => rfl
  have b27 := F27.binds (ps := ["problem"]) fun _ _ _ _ _ _ us hl => match us, hl with | [_], _ => rfl
  have b28 := F28.binds (ps := ["problem"]) fun _ _ _ _ _ _ us hl => match us, hl with | [_], _ => rfl
  have b29 := F29.binds (ps := ["problem"]) fun _ _ _ _ _ _ us hl => match us, hl with | [_], _ => rfl
  have b30 := F30.binds (ps := ["problem", "item"]) fun _ _ _ _ _ _ us hl => match us, hl with | [_, _], _ => rfl
  have b31 := F31.binds (ps := ["problem", "item"]) fun _ _ _ _ _ _ us hl => match us, hl with | [_, _], _ => rfl
  have b32 := F32.binds (ps := ["problem", "value"]) fun _ _ _ _ _ _ us hl => match us, hl with | [_, _], _ => rfl
  have b34 := F34.binds (ps := ["problem", "item"]) fun _ _ _ _ _ _ us hl => match us, hl with | [_, _], _ => rfl
  have b35 := F35.binds (ps := ["problem"]) fun _ _ _ _ _ _ us hl => match us, hl with | [_], _ => rfl
  have b38 := F38.binds (ps := ["low", "high"]) fun _ _ _ _ _ _ us hl => match us, hl with | [_, _], _ => rfl
  have b39 := F39.binds (ps := ["problem"]) fun _ _ _ _ _ _ us hl => match us, hl with | [_], _ => rfl
  have b40 := F40.binds (ps := ["problem"]) fun _ _ _ _ _ _ us hl => match us, hl with | [_], _ => rfl
  have b41 := F41.binds (ps := ["problem", "item", "low", "value"]) fun _ _ _ _ _ _ us hl => match us, hl with | [_, _, _, _], _ => rfl
  have b42 := F42.binds (ps := ["problem", "item", "high", "value"]) fun _ _ _ _ _ _ us hl => match us, hl with | [_, _, _, _], _ => rfl
  have b43 := F43.binds (ps := ["problem", "low", "high", "value"]) fun _ _ _ _ _ _ us hl => match us, hl with | [_, _, _, _], _ => rfl
  have b44 := F44.binds (ps := ["problem", "low", "high", "rows"]) fun _ _ _ _ _ _ us hl => match us, hl with | [_, _, _, _], _ => rfl
  have b45 := F45.binds (ps := ["problem", "value"]) fun _ _ _ _ _ _ us hl => match us, hl with | [_, _], _ => rfl
  have b46 := F46.binds (ps := ["problem", "value"]) fun _ _ _ _ _ _ us hl => match us, hl with | [_, _], _ => rfl
  have b48 := F48.binds (ps := ["problem", "value"]) fun _ _ _ _ _ _ us hl => match us, hl with | [_, _], _ => rfl
  have b50 := F50.binds (ps := ["ranking", "one", "other"]) fun _ _ _ _ _ _ us hl => match us, hl with | [_, _, _], _ => rfl
  have b52 := F52.binds (ps := ["problem"]) fun _ _ _ _ _ _ us hl => match us, hl with | [_], _ => rfl
  have b54 := F54.binds (ps := ["problem", "one", "other"]) fun _ _ _ _ _ _ us hl => match us, hl with | [_, _, _], _ => rfl
  have b55 := F55.binds (ps := ["constraint", "one", "other"]) fun _ _ _ _ _ _ us hl => match us, hl with | [_, _, _], _ => rfl
  have b56 := F56.binds (ps := ["constraint"]) fun _ _ _ _ _ _ us hl => match us, hl with | [_], _ => rfl
  have b57 := F57.binds (ps := ["problem", "one", "other"]) fun _ _ _ _ _ _ us hl => match us, hl with | [_, _, _], _ => rfl
  have b58 := F58.binds (ps := ["problem", "one", "other"]) fun _ _ _ _ _ _ us hl => match us, hl with | [_, _, _], _ => rfl
  have b59 := F59.binds (ps := ["problem", "one", "other"]) fun _ _ _ _ _ _ us hl => match us, hl with | [_, _, _], _ => rfl
  have b60 := F60.binds (ps := ["problem", "one", "other"]) fun _ _ _ _ _ _ us hl => match us, hl with | [_, _, _], _ => rfl
  have b61 := F61.binds (ps := ["problem", "one", "other"]) fun _ _ _ _ _ _ us hl => match us, hl with | [_, _, _], _ => rfl
  have b62 := F62.binds (ps := ["problem", "one", "other"]) fun _ _ _ _ _ _ us hl => match us, hl with | [_, _, _], _ => rfl
  have b63 := F63.binds (ps := ["problem", "one", "other", "value"]) fun _ _ _ _ _ _ us hl => match us, hl with | [_, _, _, _], _ => rfl
  have b64 := F64.binds (ps := ["problem", "one", "other", "value"]) fun _ _ _ _ _ _ us hl => match us, hl with | [_, _, _, _], _ => rfl
  have b66 := F66.binds (ps := ["_law_script"]) fun _ _ _ _ _ _ us hl => match us, hl with | [_], _ => rfl
  have b67 := F67.binds (ps := ["_law_stream_here", "_law_many"]) fun _ _ _ _ _ _ us hl => match us, hl with | [_, _], _ => rfl
  have b68 := F68.binds (ps := ["_law_actual"]) fun _ _ _ _ _ _ us hl => match us, hl with | [_], _ => rfl
  have b69 := F69.binds (ps := ["_law_actual", "_law_due"]) fun _ _ _ _ _ _ us hl => match us, hl with | [_, _], _ => rfl
  have b70 := F70.binds (ps := ["_law_many"]) fun _ _ _ _ _ _ us hl => match us, hl with | [_], _ => rfl
  have b71 := F71.binds (ps := ["_law_constraint_here", "_law_ranking"]) fun _ _ _ _ _ _ us hl => match us, hl with | [_, _], _ => rfl
  have b72 := F72.binds (ps := ["_law_many", "_law_constraints"]) fun _ _ _ _ _ _ us hl => match us, hl with | [_, _], _ => rfl
  have b73 := F73.binds (ps := ["_law_stream_here", "_law_many"]) fun _ _ _ _ _ _ us hl => match us, hl with | [_, _], _ => rfl
  have b74 := F74.binds (ps := ["_law_stream_here", "_law_most", "_law_size"]) fun _ _ _ _ _ _ us hl => match us, hl with | [_, _, _], _ => rfl
  have b75 := F75.binds (ps := ["_law_ranking", "_law_one", "_law_other"]) fun _ _ _ _ _ _ us hl => match us, hl with | [_, _, _], _ => rfl
  have b76 := F76.binds (ps := ["_law_good_here", "_law_one", "_law_other"]) fun _ _ _ _ _ _ us hl => match us, hl with | [_, _, _], _ => rfl
  have b77 := F77.binds (ps := ["_law_problem_here", "_law_good_here", "_law_one", "_law_other", "_law_value"]) fun _ _ _ _ _ _ us hl => match us, hl with | [_, _, _, _, _], _ => rfl
  refine ⟨PySem.W.fnOf "law" "law" (defArgs s_law) (defBody s_law) (defScope s_law) .none kV78 dc78 pm78 an78 cd78 ct78, fun s v => .of_eq rfl, fun base _ _ => ?_⟩
  have C7 : Cal l.prog w K mg base 1 "is_whole" (SpP R_is_whole) := ⟨f7, _, _, ok_is_whole T F7, PySem.W.mg_of X G a7, k7, b7⟩
  have C8 : Cal l.prog w K mg base 2 "is_constraint" (SpP R_is_constraint) := ⟨f8, _, _, ok_is_constraint T F8 C7, PySem.W.mg_of X G a8, k8, b8⟩
  have C9 : Cal l.prog w K mg base 3 "is_problem" (SpP R_is_problem) := ⟨f9, _, _, ok_is_problem T F9 C7 C8, PySem.W.mg_of X G a9, k9, b9⟩
  have C10 : Cal l.prog w K mg base 2 "is_ranking" (SpP R_is_ranking) := ⟨f10, _, _, ok_is_ranking T F10 C7, PySem.W.mg_of X G a10, k10, b10⟩
  have C11 : Cal l.prog w K mg base 1 "holds" (SpP R_holds) := ⟨f11, _, _, ok_holds T F11, PySem.W.mg_of X G a11, k11, b11⟩
  have C12 : Cal l.prog w K mg base 2 "violated_by" (SpP R_violated_by) := ⟨f12, _, _, ok_violated_by T F12 C11, PySem.W.mg_of X G a12, k12, b12⟩
  have C13 : Cal l.prog w K mg base 3 "is_good" (SpP R_is_good) := ⟨f13, _, _, ok_is_good T F13 C12, PySem.W.mg_of X G a13, k13, b13⟩
  have C14 : Cal l.prog w K mg base 4 "check_problem_problems" (SpP R_check_problem_p) := ⟨f14, _, _, ok_check_problem_p T F14 C9, PySem.W.mg_of X G a14, k14, b14⟩
  have C17 : Cal l.prog w K mg base 4 "check_problem_windows" (SpP R_check_problem_w) := ⟨f17, _, _, ok_check_problem_w T F17 C9, PySem.W.mg_of X G a17, k17, b17⟩
  have C19 : Cal l.prog w K mg base 1 "is_between" (SpP R_is_between) := ⟨f19, _, _, ok_is_between T F19, PySem.W.mg_of X G a19, k19, b19⟩
  have C20 : Cal l.prog w K mg base 2 "is_item_windows" (SpP R_is_item_w) := ⟨f20, _, _, ok_is_item_w T F20 C19, PySem.W.mg_of X G a20, k20, b20⟩
  have C22 : Cal l.prog w K mg base 1 "given_low" (SpP R_given_low) := ⟨f22, _, _, ok_given_low T F22, PySem.W.mg_of X G a22, k22, b22⟩
  have C23 : Cal l.prog w K mg base 1 "given_high" (SpP R_given_high) := ⟨f23, _, _, ok_given_high T F23, PySem.W.mg_of X G a23, k23, b23⟩
  have C24 : Cal l.prog w K mg base 1 "before" (SpP R_before) := ⟨f24, _, _, ok_before T F24, PySem.W.mg_of X G a24, k24, b24⟩
  have C25 : Cal l.prog w K mg base 1 "behind" (SpP R_behind) := ⟨f25, _, _, ok_behind T F25, PySem.W.mg_of X G a25, k25, b25⟩
  have C26 : Cal l.prog w K mg base 2 "ordered" (SpP R_ordered) := ⟨f26, _, _, ok_ordered T F26 C24, PySem.W.mg_of X G a26, k26, b26⟩
  have C27 : Cal l.prog w K mg base 3 "is_cyclic" (SpP R_is_cyclic) := ⟨f27, _, _, ok_is_cyclic T F27 C26, PySem.W.mg_of X G a27, k27, b27⟩
  have C28 : Cal l.prog w K mg base 3 "earliest_of" (SpP R_earliest_of) := ⟨f28, _, _, ok_earliest_of T F28 C26 C22 C24, PySem.W.mg_of X G a28, k28, b28⟩
  have C29 : Cal l.prog w K mg base 3 "latest_of" (SpP R_latest_of) := ⟨f29, _, _, ok_latest_of T F29 C23 C26 C25, PySem.W.mg_of X G a29, k29, b29⟩
  have C30 : Cal l.prog w K mg base 4 "lower_chain" (SpP R_lower_chain) := ⟨f30, _, _, ok_lower_chain T F30 C28 C22 C24, PySem.W.mg_of X G a30, k30, b30⟩
  have C31 : Cal l.prog w K mg base 4 "upper_chain" (SpP R_upper_chain) := ⟨f31, _, _, ok_upper_chain T F31 C29 C23 C25, PySem.W.mg_of X G a31, k31, b31⟩
  have C32 : Cal l.prog w K mg base 3 "is_chain" (SpP R_is_chain) := ⟨f32, _, _, ok_is_chain T F32 C20, PySem.W.mg_of X G a32, k32, b32⟩
  have C34 : Cal l.prog w K mg base 2 "cycles_from" (SpP R_cycles_from) := ⟨f34, _, _, ok_cycles_from T F34 C25, PySem.W.mg_of X G a34, k34, b34⟩
  have C35 : Cal l.prog w K mg base 3 "cycle_of" (SpP R_cycle_of) := ⟨f35, _, _, ok_cycle_of T F35 C34, PySem.W.mg_of X G a35, k35, b35⟩
  have C38 : Cal l.prog w K mg base 1 "places_of" (SpP R_places_of) := ⟨f38, _, _, ok_places_of T F38, PySem.W.mg_of X G a38, k38, b38⟩
  have C39 : Cal l.prog w K mg base 4 "intervals_of" (SpP R_intervals_of) := ⟨f39, _, _, ok_intervals_of T F39 C28 C29, PySem.W.mg_of X G a39, k39, b39⟩
  have C40 : Cal l.prog w K mg base 5 "told_contradiction" (SpP R_told_contradiction) := ⟨f40, _, _, ok_told_contradiction T F40 C27 C39 C35 C38 C30 C31, PySem.W.mg_of X G a40, k40, b40⟩
  have C41 : Cal l.prog w K mg base 4 "shows_low" (SpP R_shows_low) := ⟨f41, _, _, ok_shows_low T F41 C32 C22, PySem.W.mg_of X G a41, k41, b41⟩
  have C42 : Cal l.prog w K mg base 4 "shows_high" (SpP R_shows_high) := ⟨f42, _, _, ok_shows_high T F42 C32 C23, PySem.W.mg_of X G a42, k42, b42⟩
  have C43 : Cal l.prog w K mg base 5 "is_row" (SpP R_is_row) := ⟨f43, _, _, ok_is_row T F43 C41 C42 C20, PySem.W.mg_of X G a43, k43, b43⟩
  have C44 : Cal l.prog w K mg base 6 "is_overfull" (SpP R_is_overfull) := ⟨f44, _, _, ok_is_overfull T F44 C38 C43 C19, PySem.W.mg_of X G a44, k44, b44⟩
  have C45 : Cal l.prog w K mg base 7 "is_contradiction" (SpP R_is_contradiction) := ⟨f45, _, _, ok_is_contradiction T F45 C44 C32, PySem.W.mg_of X G a45, k45, b45⟩
  have C46 : Cal l.prog w K mg base 8 "accepts_contradiction" (SpP R_accepts_contradiction) := ⟨f46, _, _, ok_accepts_contradiction T F46 C17 C45, PySem.W.mg_of X G a46, k46, b46⟩
  have C48 : Cal l.prog w K mg base 2 "is_item_exchanges" (SpP R_is_item_e) := ⟨f48, _, _, ok_is_item_e T F48 C7, PySem.W.mg_of X G a48, k48, b48⟩
  have C50 : Cal l.prog w K mg base 1 "exchanged_in" (SpP R_exchanged_in) := ⟨f50, _, _, ok_exchanged_in T F50, PySem.W.mg_of X G a50, k50, b50⟩
  have C52 : Cal l.prog w K mg base 4 "found_by_deadlines" (SpP R_found_by_deadlines) := ⟨f52, _, _, ok_found_by_deadlines T F52 C27 C28 C29 C13, PySem.W.mg_of X G a52, k52, b52⟩
  have C54 : Cal l.prog w K mg base 1 "ahead_between" (SpP R_ahead_between) := ⟨f54, _, _, ok_ahead_between T F54, PySem.W.mg_of X G a54, k54, b54⟩
  have C55 : Cal l.prog w K mg base 1 "replaced" (SpP R_replaced) := ⟨f55, _, _, ok_replaced T F55, PySem.W.mg_of X G a55, k55, b55⟩
  have C56 : Cal l.prog w K mg base 1 "items_of" (SpP R_items_of) := ⟨f56, _, _, ok_items_of T F56, PySem.W.mg_of X G a56, k56, b56⟩
  have C57 : Cal l.prog w K mg base 2 "merged_problem" (SpP R_merged_problem) := ⟨f57, _, _, ok_merged_problem T F57 C56 C55, PySem.W.mg_of X G a57, k57, b57⟩
  have C58 : Cal l.prog w K mg base 5 "check_pair" (SpP R_check_pair) := ⟨f58, _, _, ok_check_pair T F58 C14 C48, PySem.W.mg_of X G a58, k58, b58⟩
  have C59 : Cal l.prog w K mg base 6 "merged" (SpP R_merged) := ⟨f59, _, _, ok_merged T F59 C58 C54 C57, PySem.W.mg_of X G a59, k59, b59⟩
  have C60 : Cal l.prog w K mg base 5 "ranking_for" (SpP R_ranking_for) := ⟨f60, _, _, ok_ranking_for T F60 C54 C52 C57, PySem.W.mg_of X G a60, k60, b60⟩
  have C61 : Cal l.prog w K mg base 6 "evidence_for" (SpP R_evidence_for) := ⟨f61, _, _, ok_evidence_for T F61 C54 C60 C40 C57, PySem.W.mg_of X G a61, k61, b61⟩
  have C62 : Cal l.prog w K mg base 7 "pair_evidence" (SpP R_pair_evidence) := ⟨f62, _, _, ok_pair_evidence T F62 C58 C61, PySem.W.mg_of X G a62, k62, b62⟩
  have C63 : Cal l.prog w K mg base 8 "is_evidence" (SpP R_is_evidence) := ⟨f63, _, _, ok_is_evidence T F63 C54 C13 C50 C7 C45 C10 C57, PySem.W.mg_of X G a63, k63, b63⟩
  have C64 : Cal l.prog w K mg base 9 "accepts_pair" (SpP R_accepts_pair) := ⟨f64, _, _, ok_accepts_pair T F64 C58 C63, PySem.W.mg_of X G a64, k64, b64⟩
  have C66 : Cal l.prog w K mg base 1 "_law_stream" (SpS K) := ⟨f66, _, _, ok_law_streamS T F66, PySem.W.mg_of X G a66, k66, b66⟩
  have C67 : Cal l.prog w K mg base 1 "_law_next" (SpM R__law_next) := ⟨f67, _, _, ok__law_next T F67, PySem.W.mg_of X G a67, k67, b67⟩
  have C68 : Cal l.prog w K mg base 1 "_law_is_integer" (SpP R__law_is_integer) := ⟨f68, _, _, ok__law_is_integer T F68, PySem.W.mg_of X G a68, k68, b68⟩
  have C69 : Cal l.prog w K mg base 2 "_law_equal" (SpP R__law_equal) := ⟨f69, _, _, ok__law_equal T F69 C68, PySem.W.mg_of X G a69, k69, b69⟩
  have C70 : Cal l.prog w K mg base 1 "_law_rankings" (SpP R__law_rankings) := ⟨f70, _, _, ok__law_rankings T F70, PySem.W.mg_of X G a70, k70, b70⟩
  have C71 : Cal l.prog w K mg base 1 "_law_holds" (SpP R__law_holds) := ⟨f71, _, _, ok__law_holds T F71, PySem.W.mg_of X G a71, k71, b71⟩
  have C72 : Cal l.prog w K mg base 2 "_law_good" (SpP R__law_good) := ⟨f72, _, _, ok__law_good T F72 C70 C71, PySem.W.mg_of X G a72, k72, b72⟩
  have C73 : Cal l.prog w K mg base 2 "_law_constraint" (SpM R__law_constraint) := ⟨f73, _, _, ok__law_constraint T F73 C67, PySem.W.mg_of X G a73, k73, b73⟩
  have C74 : Cal l.prog w K mg base 3 "_law_problem" (SpM R__law_problem) := ⟨f74, _, _, ok__law_problem T F74 C70 C67 C73 C71, PySem.W.mg_of X G a74, k74, b74⟩
  have C75 : Cal l.prog w K mg base 1 "_law_exchanged" (SpP R__law_exchanged) := ⟨f75, _, _, ok__law_exchanged T F75, PySem.W.mg_of X G a75, k75, b75⟩
  have C76 : Cal l.prog w K mg base 2 "_law_can_be" (SpP R__law_can_be) := ⟨f76, _, _, ok__law_can_be T F76 C75, PySem.W.mg_of X G a76, k76, b76⟩
  have C77 : Cal l.prog w K mg base 9 "_law_is_evidence" (SpP R__law_is_evidence) := ⟨f77, _, _, ok__law_is_evidence T F77 C46 C68 C59 C75, PySem.W.mg_of X G a77, k77, b77⟩
  exact ok_law T F78 C66 C74 C72 C67 C76 C62 C70 C77 C64 C69
theorem walk {l : PySem.W.OpenLaw} {q : Program} {loose : List Str} {XP : (Str → Option Value) → Heap → Prop} {YP : World → Heap → Prop} {d : DefRec} {K : Params → PySem.W.Frag} (hn : l.most = some 63) (hdf : d.params.defaults = [])
    (hY : ∀ (w : World) (h : Heap), YP w h → (K w.params).In h)
    (F : ∀ (w : World) (mg : Str → Option Value) (fa : Addr) (h : Heap), (K w.params).In h → h.Ns mainGlobals mg → mg d.name = some (.ref fa) →
      ∃ fd : FuncData, (∀ (s : Shared) (u : Value), BindsTo s fd ⟨[u], []⟩ [("_law_script", u)]) ∧ ∀ base : Heap, (K w.params).In base → base.Ns mainGlobals mg → FnOk l.prog w (K w.params) mg base CX0 10 fa fd ["_law_script"] (SpLaw (K w.params))) :
    PySem.W.WalkO q loose XP YP l.row.toRowW d [] (fun f vs => PySem.call f vs) :=
  L2.walk_of (n := 63) (k := 10) (x := "_law_script") (CX := fun _ => CX0) (sp := fun w => SpLaw (K w.params)) hn (by decide) hdf ⟨rfl, by decide, by decide⟩ hY F (fun _ _ a ns _ _ hS => ⟨a, ns, rfl, hS, fun _ => rfl⟩) fun _ _ _ _ _ z => z
end RK

open PySem PySem.W PyProof.Rows
set_option maxRecDepth 100000 in
set_option maxHeartbeats 0 in
theorem PySem.Challenge.cw_rankswithin_k47_whole_evidence_about_two_holds : PySem.Challenge.rw_rankswithin_k47_whole_evidence_about_two.Holds := by
  w_on; o_law; k_head; (case hw => w_witness2)
  k_fill
  refine RK.walk (l := PySem.Challenge.rw_rankswithin_k47_whole_evidence_about_two) rfl rfl (fun w h Y => PySem.W.kIn_of Y) ?F
  case F =>
    intro w mg fa h KX G hmg
    refine' RK.all_mk KX G hmg ?a7 ?l7 ?c7 ?k7 ?a8 ?l8 ?c8 ?k8 ?a9 ?l9 ?c9 ?k9 ?a10 ?l10 ?c10 ?k10 ?a11 ?l11 ?c11 ?k11 ?a12 ?l12 ?c12 ?k12 ?a13 ?l13 ?c13 ?k13 ?a14 ?l14 ?c14 ?k14 ?a17 ?l17 ?c17 ?k17 ?a19 ?l19 ?c19 ?k19 ?a20 ?l20 ?c20 ?k20 ?a22 ?l22 ?c22 ?k22 ?a23 ?l23 ?c23 ?k23 ?a24 ?l24 ?c24 ?k24 ?a25 ?l25 ?c25 ?k25 ?a26 ?l26 ?c26 ?k26 ?a27 ?l27 ?c27 ?k27 ?a28 ?l28 ?c28 ?k28 ?a29 ?l29 ?c29 ?k29 ?a30 ?l30 ?c30 ?k30 ?a31 ?l31 ?c31 ?k31 ?a32 ?l32 ?c32 ?k32 ?a34 ?l34 ?c34 ?k34 ?a35 ?l35 ?c35 ?k35 ?a38 ?l38 ?c38 ?k38 ?a39 ?l39 ?c39 ?k39 ?a40 ?l40 ?c40 ?k40 ?a41 ?l41 ?c41 ?k41 ?a42 ?l42 ?c42 ?k42 ?a43 ?l43 ?c43 ?k43 ?a44 ?l44 ?c44 ?k44 ?a45 ?l45 ?c45 ?k45 ?a46 ?l46 ?c46 ?k46 ?a48 ?l48 ?c48 ?k48 ?a50 ?l50 ?c50 ?k50 ?a52 ?l52 ?c52 ?k52 ?a54 ?l54 ?c54 ?k54 ?a55 ?l55 ?c55 ?k55 ?a56 ?l56 ?c56 ?k56 ?a57 ?l57 ?c57 ?k57 ?a58 ?l58 ?c58 ?k58 ?a59 ?l59 ?c59 ?k59 ?a60 ?l60 ?c60 ?k60 ?a61 ?l61 ?c61 ?k61 ?a62 ?l62 ?c62 ?k62 ?a63 ?l63 ?c63 ?k63 ?a64 ?l64 ?c64 ?k64 ?a66 ?l66 ?c66 ?k66 ?a67 ?l67 ?c67 ?k67 ?a68 ?l68 ?c68 ?k68 ?a69 ?l69 ?c69 ?k69 ?a70 ?l70 ?c70 ?k70 ?a71 ?l71 ?c71 ?k71 ?a72 ?l72 ?c72 ?k72 ?a73 ?l73 ?c73 ?k73 ?a74 ?l74 ?c74 ?k74 ?a75 ?l75 ?c75 ?k75 ?a76 ?l76 ?c76 ?k76 ?a77 ?l77 ?c77 ?k77 ?a78 ?l78 ?c78 ?k78 ?z_len ?z_isinstance ?z_tuple ?z_int ?z_bool ?z_str ?z_list ?z_all ?z_any ?z_range ?z_enumerate ?z_max ?z_min ?z_sorted ?z_reversed ?z_zip ?z_abs ?m1 ?m2 ?m3
    (case a7 => k_is); (case l7 => k_is); (case c7 => k_is); (case k7 => k_is); (case a8 => k_is); (case l8 => k_is); (case c8 => k_is); (case k8 => k_is)
    (case a9 => k_is); (case l9 => k_is); (case c9 => k_is); (case k9 => k_is); (case a10 => k_is); (case l10 => k_is); (case c10 => k_is); (case k10 => k_is)
    (case a11 => k_is); (case l11 => k_is); (case c11 => k_is); (case k11 => k_is); (case a12 => k_is); (case l12 => k_is); (case c12 => k_is); (case k12 => k_is)
    (case a13 => k_is); (case l13 => k_is); (case c13 => k_is); (case k13 => k_is); (case a14 => k_is); (case l14 => k_is); (case c14 => k_is); (case k14 => k_is)
    (case a17 => k_is); (case l17 => k_is); (case c17 => k_is); (case k17 => k_is); (case a19 => k_is); (case l19 => k_is); (case c19 => k_is); (case k19 => k_is)
    (case a20 => k_is); (case l20 => k_is); (case c20 => k_is); (case k20 => k_is); (case a22 => k_is); (case l22 => k_is); (case c22 => k_is); (case k22 => k_is)
    (case a23 => k_is); (case l23 => k_is); (case c23 => k_is); (case k23 => k_is); (case a24 => k_is); (case l24 => k_is); (case c24 => k_is); (case k24 => k_is)
    (case a25 => k_is); (case l25 => k_is); (case c25 => k_is); (case k25 => k_is); (case a26 => k_is); (case l26 => k_is); (case c26 => k_is); (case k26 => k_is)
    (case a27 => k_is); (case l27 => k_is); (case c27 => k_is); (case k27 => k_is); (case a28 => k_is); (case l28 => k_is); (case c28 => k_is); (case k28 => k_is)
    (case a29 => k_is); (case l29 => k_is); (case c29 => k_is); (case k29 => k_is); (case a30 => k_is); (case l30 => k_is); (case c30 => k_is); (case k30 => k_is)
    (case a31 => k_is); (case l31 => k_is); (case c31 => k_is); (case k31 => k_is); (case a32 => k_is); (case l32 => k_is); (case c32 => k_is); (case k32 => k_is)
    (case a34 => k_is); (case l34 => k_is); (case c34 => k_is); (case k34 => k_is); (case a35 => k_is); (case l35 => k_is); (case c35 => k_is); (case k35 => k_is)
    (case a38 => k_is); (case l38 => k_is); (case c38 => k_is); (case k38 => k_is); (case a39 => k_is); (case l39 => k_is); (case c39 => k_is); (case k39 => k_is)
    (case a40 => k_is); (case l40 => k_is); (case c40 => k_is); (case k40 => k_is); (case a41 => k_is); (case l41 => k_is); (case c41 => k_is); (case k41 => k_is)
    (case a42 => k_is); (case l42 => k_is); (case c42 => k_is); (case k42 => k_is); (case a43 => k_is); (case l43 => k_is); (case c43 => k_is); (case k43 => k_is)
    (case a44 => k_is); (case l44 => k_is); (case c44 => k_is); (case k44 => k_is); (case a45 => k_is); (case l45 => k_is); (case c45 => k_is); (case k45 => k_is)
    (case a46 => k_is); (case l46 => k_is); (case c46 => k_is); (case k46 => k_is); (case a48 => k_is); (case l48 => k_is); (case c48 => k_is); (case k48 => k_is)
    (case a50 => k_is); (case l50 => k_is); (case c50 => k_is); (case k50 => k_is); (case a52 => k_is); (case l52 => k_is); (case c52 => k_is); (case k52 => k_is)
    (case a54 => k_is); (case l54 => k_is); (case c54 => k_is); (case k54 => k_is); (case a55 => k_is); (case l55 => k_is); (case c55 => k_is); (case k55 => k_is)
    (case a56 => k_is); (case l56 => k_is); (case c56 => k_is); (case k56 => k_is); (case a57 => k_is); (case l57 => k_is); (case c57 => k_is); (case k57 => k_is)
    (case a58 => k_is); (case l58 => k_is); (case c58 => k_is); (case k58 => k_is); (case a59 => k_is); (case l59 => k_is); (case c59 => k_is); (case k59 => k_is)
    (case a60 => k_is); (case l60 => k_is); (case c60 => k_is); (case k60 => k_is); (case a61 => k_is); (case l61 => k_is); (case c61 => k_is); (case k61 => k_is)
    (case a62 => k_is); (case l62 => k_is); (case c62 => k_is); (case k62 => k_is); (case a63 => k_is); (case l63 => k_is); (case c63 => k_is); (case k63 => k_is)
    (case a64 => k_is); (case l64 => k_is); (case c64 => k_is); (case k64 => k_is); (case a66 => k_is); (case l66 => k_is); (case c66 => k_is); (case k66 => k_is)
    (case a67 => k_is); (case l67 => k_is); (case c67 => k_is); (case k67 => k_is); (case a68 => k_is); (case l68 => k_is); (case c68 => k_is); (case k68 => k_is)
    (case a69 => k_is); (case l69 => k_is); (case c69 => k_is); (case k69 => k_is); (case a70 => k_is); (case l70 => k_is); (case c70 => k_is); (case k70 => k_is)
    (case a71 => k_is); (case l71 => k_is); (case c71 => k_is); (case k71 => k_is); (case a72 => k_is); (case l72 => k_is); (case c72 => k_is); (case k72 => k_is)
    (case a73 => k_is); (case l73 => k_is); (case c73 => k_is); (case k73 => k_is); (case a74 => k_is); (case l74 => k_is); (case c74 => k_is); (case k74 => k_is)
    (case a75 => k_is); (case l75 => k_is); (case c75 => k_is); (case k75 => k_is); (case a76 => k_is); (case l76 => k_is); (case c76 => k_is); (case k76 => k_is)
    (case a77 => k_is); (case l77 => k_is); (case c77 => k_is); (case k77 => k_is); (case a78 => k_is); (case l78 => k_is); (case c78 => k_is); (case k78 => k_is)
    (case z_len => k_is); (case z_isinstance => k_is); (case z_tuple => k_is); (case z_int => k_is); (case z_bool => k_is); (case z_str => k_is); (case z_list => k_is); (case z_all => k_is)
    (case z_any => k_is); (case z_range => k_is); (case z_enumerate => k_is); (case z_max => k_is); (case z_min => k_is); (case z_sorted => k_is); (case z_reversed => k_is); (case z_zip => k_is)
    (case z_abs => k_is); (case m1 => k_is); (case m2 => k_is); (case m3 => k_is)
