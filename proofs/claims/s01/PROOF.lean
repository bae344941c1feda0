import PyProof.Rows.All
import PyVaskyb
import Wide.All
import OpenK.AllK
import Wide.FinOn
import PyProof.EqAt
import PyProof.EqKinds
import PyProof.TupleCall
import Open.SpecLaws
import KE.OsGo
import PySem.Challenge.RW_fewmeasures_s01_answers
import HandS.ForSpec
import HandS.Comp
import HandS.Iter
import HandS.Walk
import HandS.Deep
import HandS.Conv
import HandS.Evl
import HandS.ExcInit
import HandS.ExcField
import HandS.CallSlots
import KE.GoesMore
import KE.GoesEnum
/-! pure laws 1: beats, unbeaten, measures told -/
namespace Fm
open Vaskya (Sheet)
/-- item i's value by measure m, turned so that more is better -/
def G (l : List (List Int)) (i m : Nat) : Int := (l.getD i []).getD m 0
/-- beats by some measures -/
def btL (f g : Nat → Int) (u : List Nat) : Bool := u.all (fun m => decide (g m ≤ f m)) && u.any (fun m => decide (g m < f m))
theorem zip_map_all (f g : Nat → Int) : ∀ u : List Nat, Vaskya.atLeast (u.map f) (u.map g) = u.all fun m => decide (g m ≤ f m)
  | [] => rfl
  | m :: u => by
    have ih := zip_map_all f g u
    unfold Vaskya.atLeast at ih ⊢
    simp only [List.map_cons, List.zip_cons_cons, List.all_cons, ih]
theorem map_ne (f g : Nat → Int) : ∀ u : List Nat, (u.all fun m => decide (g m ≤ f m)) = true → (u.map f != u.map g) = u.any fun m => decide (g m < f m)
  | [], _ => rfl
  | m :: u, h => by
    rw [List.all_cons, Bool.and_eq_true] at h
    have ih := map_ne f g u h.2
    have h1 : g m ≤ f m := of_decide_eq_true h.1
    simp only [List.map_cons, List.any_cons]
    by_cases e : f m = g m
    · rw [e]
      have : decide (g m < g m) = false := decide_eq_false (by omega)
      rw [this, Bool.false_or, ← ih]
      simp [bne]
    · have : decide (g m < f m) = true := decide_eq_true (by omega)
      rw [this, Bool.true_or]
      simp [bne, e]
theorem beats_map (f g : Nat → Int) (u : List Nat) : Vaskya.beats (u.map f) (u.map g) = btL f g u := by
  unfold Vaskya.beats btL
  rw [zip_map_all]
  cases h : u.all fun m => decide (g m ≤ f m) with
  | false => rfl
  | true => rw [map_ne f g u h]
theorem btL_congr {f g : Nat → Int} {u v : List Nat} (h : ∀ m, m ∈ u ↔ m ∈ v) : btL f g u = btL f g v := by
  have e1 : (u.all fun m => decide (g m ≤ f m)) = v.all fun m => decide (g m ≤ f m) := by
    rw [Bool.eq_iff_iff, List.all_eq_true, List.all_eq_true]
    exact ⟨fun a m hm => a m ((h m).mpr hm), fun a m hm => a m ((h m).mp hm)⟩
  have e2 : (u.any fun m => decide (g m < f m)) = v.any fun m => decide (g m < f m) := by
    rw [Bool.eq_iff_iff, List.any_eq_true, List.any_eq_true]
    exact ⟨fun ⟨m, hm, a⟩ => ⟨m, (h m).mp hm, a⟩, fun ⟨m, hm, a⟩ => ⟨m, (h m).mpr hm, a⟩⟩
  unfold btL
  rw [e1, e2]
/-- those among is that none of them beats by u -/
def unb (l : List (List Int)) (u : List Nat) (is : List Nat) : List Nat := is.filter fun i => !is.any fun j => btL (G l j) (G l i) u
theorem unb_congr {l : List (List Int)} {u v : List Nat} (h : ∀ m, m ∈ u ↔ m ∈ v) (is : List Nat) : unb l u is = unb l v is := by
  unfold unb
  congr 1
  funext i
  congr 1
  congr 1
  funext j
  exact btL_congr h
theorem cut_get {l : List (List Int)} (u : List Nat) {i : Nat} (hi : i < l.length) : (Vaskyb.cut l u).getD i [] = u.map (G l i) := by
  unfold Vaskyb.cut G
  simp [List.getD_eq_getElem?_getD, hi]
theorem filter_congr' {α : Type} {p q : α → Bool} {l : List α} (h : ∀ x ∈ l, p x = q x) : l.filter p = l.filter q := List.filter_congr h
theorem any_congr' {α : Type} {p q : α → Bool} {l : List α} (h : ∀ x ∈ l, p x = q x) : l.any p = l.any q := by
  rw [Bool.eq_iff_iff, List.any_eq_true, List.any_eq_true]
  exact ⟨fun ⟨m, hm, a⟩ => ⟨m, hm, by rw [← h m hm]; exact a⟩, fun ⟨m, hm, a⟩ => ⟨m, hm, by rw [h m hm]; exact a⟩⟩
theorem unb_cut {l : List (List Int)} {u is : List Nat} (h : ∀ i ∈ is, i < l.length) : Vaskya.unbeatenIn (Vaskyb.cut l u) is = unb l u is := by
  unfold Vaskya.unbeatenIn unb
  refine filter_congr' fun i hi => ?_
  congr 1
  refine any_congr' fun j hj => ?_
  rw [cut_get u (h i hi), cut_get u (h j hj), beats_map]
/-- every row has n values -/
def Wide (l : List (List Int)) (n : Nat) : Prop := ∀ r ∈ l, r.length = n
theorem row_range {l : List (List Int)} {n : Nat} (hw : Wide l n) {i : Nat} (hi : i < l.length) : l.getD i [] = (List.range n).map (G l i) := by
  have e : (l.getD i []).length = n := by
    rw [List.getD_eq_getElem?_getD, List.getElem?_eq_getElem hi, Option.getD_some]
    exact hw _ (List.getElem_mem hi)
  apply List.ext_getElem
  · rw [List.length_map, List.length_range, e]
  · intro k h1 h2
    rw [List.getElem_map, List.getElem_range]
    unfold G
    rw [List.getD_eq_getElem?_getD (l := l.getD i []), List.getElem?_eq_getElem h1, Option.getD_some]
theorem beats_rows {l : List (List Int)} {n i j : Nat} (hw : Wide l n) (hi : i < l.length) (hj : j < l.length) : Vaskya.beats (l.getD i []) (l.getD j []) = btL (G l i) (G l j) (List.range n) := by
  rw [row_range hw hi, row_range hw hj, beats_map]
theorem unb_rows {l : List (List Int)} {n : Nat} {is : List Nat} (hw : Wide l n) (h : ∀ i ∈ is, i < l.length) : Vaskya.unbeatenIn l is = unb l (List.range n) is := by
  unfold Vaskya.unbeatenIn unb
  refine filter_congr' fun i hi => ?_
  congr 1
  refine any_congr' fun j hj => ?_
  rw [beats_rows hw (h j hj) (h i hi)]
theorem bestBy_is (l : List (List Int)) (u : List Nat) : Vaskyb.bestBy l u = unb l u (List.range l.length) := by
  unfold Vaskyb.bestBy Vaskya.unbeaten
  have e : (Vaskyb.cut l u).length = l.length := by unfold Vaskyb.cut; rw [List.length_map]
  rw [e]
  exact unb_cut fun i hi => List.mem_range.mp hi
theorem unb_sub {l : List (List Int)} {u is : List Nat} : ∀ i ∈ unb l u is, i ∈ is := fun i h => (List.mem_filter.mp h).1
theorem unb_len {l : List (List Int)} {u is : List Nat} : (unb l u is).length ≤ is.length := List.length_filter_le ..

/-! ### the measures told -/
theorem eraseDups_nodup : ∀ (n : Nat) (l : List Int), l.length ≤ n → (l.eraseDups.length ≤ l.length ∧ (l.eraseDups.length = l.length ↔ l.Nodup))
  | 0, [], _ => by simp
  | 0, _ :: _, h => by simp at h
  | n + 1, [], _ => by simp
  | n + 1, a :: l, h => by
    rw [List.eraseDups_cons]
    have hf : (l.filter fun b => !b == a).length ≤ l.length := List.length_filter_le ..
    have h' : l.length ≤ n := by simpa using h
    obtain ⟨i1, i2⟩ := eraseDups_nodup n (l.filter fun b => !b == a) (Nat.le_trans hf h')
    refine ⟨by simp only [List.length_cons]; omega, ?_⟩
    simp only [List.length_cons, List.nodup_cons]
    constructor
    · intro e
      have e1 : (l.filter fun b => !b == a).length = l.length := by omega
      have e2 : l.filter (fun b => !b == a) = l := List.filter_eq_self.mpr (fun b hb => by
        have := List.length_filter_eq_length_iff.mp e1 b hb
        exact this)
      rw [e2] at i2
      have e3 : l.eraseDups.length = l.length := by rw [e2] at e; omega
      refine ⟨fun hm => ?_, i2.mp e3⟩
      have := List.length_filter_eq_length_iff.mp e1 a hm
      simp at this
    · rintro ⟨hn, hd⟩
      have e2 : l.filter (fun b => !b == a) = l := List.filter_eq_self.mpr (fun b hb => by
        have : b ≠ a := fun e => hn (e ▸ hb)
        simp [this])
      rw [e2] at i2 ⊢
      rw [i2.mpr hd]
/-- right_measures -/
def rightM (n : Nat) (l : List Int) : Bool := decide (l ≠ [] ∧ (∀ z ∈ l, 0 ≤ z ∧ z < (n : Int)) ∧ l.Nodup)
theorem measuresOf_none {s : Sheet} {l : List Int} (h : rightM s.ms.length l = false) : Vaskyb.measuresOf s l = none := by
  unfold Vaskyb.measuresOf
  rw [if_pos]
  have h' := of_decide_eq_false h
  by_cases h1 : l = []
  · exact .inl (by rw [h1]; rfl)
  · by_cases h2 : ∀ z ∈ l, 0 ≤ z ∧ z < (s.ms.length : Int)
    · refine .inr (.inr fun e => h' ⟨h1, h2, ((eraseDups_nodup _ l (Nat.le_refl _)).2).mp e⟩)
    · refine .inr (.inl ?_)
      rw [List.any_eq_true]
      have : ∃ z ∈ l, ¬ (0 ≤ z ∧ z < (s.ms.length : Int)) := by
        apply Classical.byContradiction
        intro hn
        exact h2 fun z hz => Classical.byContradiction fun hc => hn ⟨z, hz, hc⟩
      obtain ⟨z, hz, hc⟩ := this
      refine ⟨z, hz, ?_⟩
      unfold VaskyBase.index
      rw [if_neg hc]
      rfl
def toN (l : List Int) : List Nat := l.map Int.toNat
theorem measuresOf_some {s : Sheet} {l : List Int} (h : rightM s.ms.length l = true) : ∃ u, Vaskyb.measuresOf s l = some u ∧ (∀ m, m ∈ u ↔ m ∈ toN l) := by
  have h' := of_decide_eq_true h
  obtain ⟨h1, h2, h3⟩ := h'
  refine ⟨_, by
    unfold Vaskyb.measuresOf
    rw [if_neg]
    rintro (c | c | c)
    · exact h1 (List.isEmpty_iff.mp c)
    · rw [List.any_eq_true] at c
      obtain ⟨z, hz, c⟩ := c
      unfold VaskyBase.index at c
      rw [if_pos (h2 z hz)] at c
      simp at c
    · exact c (((eraseDups_nodup _ l (Nat.le_refl _)).2).mpr h3), fun m => ?_⟩
  rw [List.mem_filter, List.mem_range, List.contains_iff_mem]
  unfold toN
  rw [List.mem_map]
  constructor
  · rintro ⟨_, hm⟩
    exact ⟨(m : Int), hm, by simp⟩
  · rintro ⟨z, hz, e⟩
    obtain ⟨a, b⟩ := h2 z hz
    have : z = (m : Int) := by omega
    subst this
    exact ⟨by omega, hz⟩
theorem right_nat {n : Nat} {l : List Int} (h : rightM n l = true) : l = (toN l).map (fun m : Nat => (m : Int)) ∧ ∀ m ∈ toN l, m < n := by
  obtain ⟨h1, h2, h3⟩ := of_decide_eq_true h
  constructor
  · unfold toN
    rw [List.map_map]
    have : l.map id = l.map ((fun m : Nat => (m : Int)) ∘ Int.toNat) := List.map_congr_left fun z hz => by
      obtain ⟨a, b⟩ := h2 z hz
      show z = ((z.toNat : Nat) : Int)
      omega
    simpa using this
  · intro m hm
    unfold toN at hm
    rw [List.mem_map] at hm
    obtain ⟨z, hz, e⟩ := hm
    obtain ⟨a, b⟩ := h2 z hz
    omega
end Fm
/-! pure laws 2: sets, tables -/
namespace Fm
open Vaskyb (choose subsets)
/-! ### sets_of, as the program makes them -/
def longer (many : Nat) (first : Bool) (found : List (List Nat)) : List (List Nat) :=
  found.flatMap fun c => ((List.range many).drop (if first then 0 else c.getLastD 0 + 1)).map fun x => c ++ [x]
def setsOf (many : Nat) : Nat → List (List Nat)
  | 0 => [[]]
  | k + 1 => longer many (k == 0) (setsOf many k)
theorem setsOf_choose : ∀ n ∈ List.range 17, ∀ k ∈ List.range 5, setsOf n k = choose k (List.range n) := by decide +kernel
theorem setsOf_is {n k : Nat} (hn : n ≤ 16) (hk : k ≤ 4) : setsOf n k = choose k (List.range n) :=
  setsOf_choose n (List.mem_range.mpr (by omega)) k (List.mem_range.mpr (by omega))
theorem len_small : ∀ n ∈ List.range 17, ∀ k ∈ List.range 5, (setsOf n k).length ≤ 1820 := by decide +kernel
theorem setsOf_len {n k : Nat} (hn : n ≤ 16) (hk : k ≤ 4) : (setsOf n k).length ≤ 1820 := len_small n (List.mem_range.mpr (by omega)) k (List.mem_range.mpr (by omega))
theorem set_small : ∀ n ∈ List.range 17, ∀ k ∈ List.range 5, ∀ c ∈ setsOf n k, c.length = k ∧ (∀ x ∈ c, x < n) ∧ c.Nodup := by decide +kernel
theorem setsOf_mem {n k : Nat} (hn : n ≤ 16) (hk : k ≤ 4) {c : List Nat} (h : c ∈ setsOf n k) : c.length = k ∧ (∀ x ∈ c, x < n) ∧ c.Nodup :=
  set_small n (List.mem_range.mpr (by omega)) k (List.mem_range.mpr (by omega)) c h
theorem choose_ne {n k : Nat} (hn : n ≤ 16) (hk : k ≤ 4) (hkn : k ≤ n) : setsOf n k ≠ [] := by
  have h : ∀ n ∈ List.range 17, ∀ k ∈ List.range 5, k ≤ n → setsOf n k ≠ [] := by decide +kernel
  exact h n (List.mem_range.mpr (by omega)) k (List.mem_range.mpr (by omega)) hkn
/-- all_sets -/
def allSets (n : Nat) : List (List Nat) := (List.range n).flatMap fun k => setsOf n (k + 1)
theorem allSets_is : ∀ {n : Nat}, n ≤ 4 → allSets n = subsets n := by
  have h : ∀ n ∈ List.range 5, allSets n = subsets n := by decide +kernel
  exact fun {n} hn => h n (List.mem_range.mpr (by omega))
theorem subsets_facts {n : Nat} (hn : n ≤ 4) : (subsets n).length ≤ 15 ∧ ∀ u ∈ subsets n, u.length ≤ 4 ∧ u ≠ [] ∧ ∀ m ∈ u, m < n := by
  have h : ∀ n ∈ List.range 5, (subsets n).length ≤ 15 ∧ ∀ u ∈ subsets n, u.length ≤ 4 ∧ u ≠ [] ∧ ∀ m ∈ u, m < n := by decide +kernel
  exact h n (List.mem_range.mpr (by omega))
theorem within_ne {n : Nat} (hn : n ≤ 4) : ∀ u ∈ subsets n, ∀ v ∈ subsets n, Vaskyb.within v u = true → (v != u) = decide (v.length < u.length) := by
  have h : ∀ n ∈ List.range 5, ∀ u ∈ subsets n, ∀ v ∈ subsets n, Vaskyb.within v u = true → (v != u) = decide (v.length < u.length) := by decide +kernel
  exact h n (List.mem_range.mpr (by omega))
theorem subsets_nodup {n : Nat} (hn : n ≤ 4) : (subsets n).Nodup := by
  have h : ∀ n ∈ List.range 5, (subsets n).Nodup := by decide +kernel
  exact h n (List.mem_range.mpr (by omega))
/-! ### the table -/
abbrev Tab := List (List Nat × List Nat)
/-- unbeaten_by_smaller -/
def smaller (t : Tab) (c : List Nat) (i : Nat) : Bool := t.any fun x => decide (x.1.length < c.length) && (Vaskyb.within x.1 c && x.2.contains i)
def leastM (t : Tab) (i : Nat) : List (List Nat) := (t.filter fun x => x.2.contains i && !smaller t x.1 i).map fun x => x.1
def storedM (t : Tab) : Tab := t.map fun x => (x.1, x.2.filter fun i => !smaller t x.1 i)
/-- a table over the subsets, each with one list -/
structure IsTab (n : Nat) (t : Tab) : Prop where
  hn : n ≤ 4
  keys : t.map (·.1) = subsets n
theorem IsTab.uniq {n : Nat} {t : Tab} (h : IsTab n t) {x y : List Nat × List Nat} (hx : x ∈ t) (hy : y ∈ t) (e : x.1 = y.1) : x = y := by
  have hnd : (t.map (·.1)).Nodup := by rw [h.keys]; exact subsets_nodup h.hn
  obtain ⟨i, hi, ei⟩ := List.getElem_of_mem hx
  obtain ⟨j, hj, ej⟩ := List.getElem_of_mem hy
  have e2 : (t.map (·.1))[i]'(by simpa using hi) = (t.map (·.1))[j]'(by simpa using hj) := by
    rw [List.getElem_map, List.getElem_map, ei, ej, e]
  have := (List.getElem_inj hnd).mp e2
  subst this
  rw [← ei, ← ej]
theorem IsTab.key {n : Nat} {t : Tab} (h : IsTab n t) {x : List Nat × List Nat} (hx : x ∈ t) : x.1 ∈ subsets n := by
  rw [← h.keys]
  exact List.mem_map_of_mem hx
theorem us_any {n : Nat} {t : Tab} (h : IsTab n t) {u : List Nat} (hu : u ∈ subsets n) (i : Nat) :
    (((t.filter fun x => x.2.contains i).map fun x => x.1).any fun v => v != u && Vaskyb.within v u) = smaller t u i := by
  unfold smaller
  rw [List.any_map, List.any_filter]
  refine any_congr' fun x hx => ?_
  show (x.2.contains i && (x.1 != u && Vaskyb.within x.1 u)) = _
  cases hw : Vaskyb.within x.1 u with
  | false => simp
  | true =>
    rw [within_ne h.hn u hu x.1 (h.key hx) hw]
    cases x.2.contains i <;> cases decide (x.1.length < u.length) <;> rfl
theorem least_is {n : Nat} {t : Tab} (h : IsTab n t) (i : Nat) : Vaskyb.leastSets t i = leastM t i := by
  unfold Vaskyb.leastSets leastM
  show (((t.filter fun x => x.2.contains i).map fun x => x.1).filter fun u => !((t.filter fun x => x.2.contains i).map fun x => x.1).any fun v => v != u && Vaskyb.within v u) = _
  have e : (((t.filter fun x => x.2.contains i).map fun x => x.1).filter fun u => !((t.filter fun x => x.2.contains i).map fun x => x.1).any fun v => v != u && Vaskyb.within v u)
      = (((t.filter fun x => x.2.contains i).map fun x => x.1).filter fun u => !smaller t u i) := by
    refine filter_congr' fun u hu => ?_
    rw [List.mem_map] at hu
    obtain ⟨x, hx, rfl⟩ := hu
    rw [us_any h (h.key (List.mem_filter.mp hx).1)]
  rw [e, List.filter_map, List.filter_filter]
  congr 1
  refine filter_congr' fun x _ => ?_
  show (!smaller t x.1 i && x.2.contains i) = _
  rw [Bool.and_comm]
theorem store_is {n items : Nat} {t : Tab} (h : IsTab n t) (hi : ∀ x ∈ t, ∀ i ∈ x.2, i < items) : Vaskyb.store t items = storedM t := by
  unfold Vaskyb.store storedM
  show (t.map fun x => (x.1, x.2.filter fun i => (((List.range items).map (Vaskyb.leastSets t)).getD i []).contains x.1)) = _
  refine List.map_congr_left fun x hx => ?_
  congr 1
  refine filter_congr' fun i hix => ?_
  have hlt := hi x hx i hix
  have e : (((List.range items).map (Vaskyb.leastSets t)).getD i []) = leastM t i := by
    rw [List.getD_eq_getElem?_getD, List.getElem?_map, List.getElem?_range hlt, Option.map_some, Option.getD_some, least_is h]
  rw [e, Bool.eq_iff_iff, List.contains_iff_mem]
  unfold leastM
  rw [List.mem_map]
  constructor
  · rintro ⟨y, hy, e2⟩
    obtain ⟨hy1, hy2⟩ := List.mem_filter.mp hy
    have := h.uniq hy1 hx e2
    subst this
    rw [Bool.and_eq_true] at hy2
    exact hy2.2
  · intro hs
    refine ⟨x, List.mem_filter.mpr ⟨hx, ?_⟩, rfl⟩
    rw [Bool.and_eq_true]
    exact ⟨List.contains_iff_mem.mpr hix, hs⟩
/-- the table of a list -/
def tabOf (l : List (List Int)) (n : Nat) : Tab := (allSets n).map fun u => (u, unb l u (List.range l.length))
theorem tab_cube {l : List (List Int)} {n : Nat} (hn : n ≤ 4) : tabOf l n = Vaskyb.cube l n := by
  unfold tabOf Vaskyb.cube
  rw [allSets_is hn]
  exact List.map_congr_left fun u _ => by rw [bestBy_is]
theorem tab_is {l : List (List Int)} {n : Nat} (hn : n ≤ 4) : IsTab n (tabOf l n) :=
  ⟨hn, by unfold tabOf; rw [List.map_map, allSets_is hn]; show (subsets n).map id = _; simp⟩
theorem tab_items {l : List (List Int)} {n : Nat} : ∀ x ∈ tabOf l n, ∀ i ∈ x.2, i < l.length := by
  intro x hx i hi
  unfold tabOf at hx
  rw [List.mem_map] at hx
  obtain ⟨u, _, rfl⟩ := hx
  exact List.mem_range.mp (unb_sub i hi)
theorem stored_eq {l : List (List Int)} {n : Nat} (hn : n ≤ 4) : Vaskyb.store (Vaskyb.cube l n) l.length = storedM (tabOf l n) := by
  rw [← tab_cube hn]
  exact store_is (tab_is hn) tab_items
/-- how_many -/
def manyM (t : Tab) : Nat := (t.map fun x => x.2.length).sum
/-- candidates -/
def candM (l : List (List Int)) (n : Nat) (u : List Nat) : List Nat := (List.range l.length).filter fun i => (storedM (tabOf l n)).any fun x => Vaskyb.within x.1 u && x.2.contains i
theorem within_congr {u v : List Nat} (h : ∀ m, m ∈ u ↔ m ∈ v) (c : List Nat) : Vaskyb.within c u = Vaskyb.within c v := by
  unfold Vaskyb.within
  congr 1
  funext x
  rw [Bool.eq_iff_iff, List.contains_iff_mem, List.contains_iff_mem, h x]
theorem candM_congr {l : List (List Int)} {n : Nat} {u v : List Nat} (h : ∀ m, m ∈ u ↔ m ∈ v) : candM l n u = candM l n v := by
  unfold candM
  refine filter_congr' fun i _ => any_congr' fun x _ => ?_
  rw [within_congr h]
end Fm
/-! pure laws 3: covering -/
namespace Fm
/-- how many items some items beat together -/
def beatenBy (l : List (List Int)) (n : Nat) (taken : List Nat) (j : Nat) : Bool := taken.any fun i => btL (G l i) (G l j) (List.range n)
def covM (l : List (List Int)) (n : Nat) (taken : List Nat) : Nat := ((List.range l.length).filter fun j => beatenBy l n taken j).length
theorem covM_is {l : List (List Int)} {n : Nat} {is : List Nat} (hw : Wide l n) (h : ∀ i ∈ is, i < l.length) : Vaskyb.covers l is = covM l n is := by
  unfold Vaskyb.covers covM beatenBy
  congr 1
  refine filter_congr' fun j hj => any_congr' fun i hi => ?_
  rw [beats_rows hw (h i hi) (List.mem_range.mp hj)]
/-- one turn of best_together's loop -/
def bestTurn (cov : List Nat → Nat) (b : Int × List Nat) (s : List Nat) : Int × List Nat := if (cov s : Int) > b.1 then ((cov s : Int), s) else b
def bestM (cov : List Nat → Nat) (ss : List (List Nat)) : Int × List Nat := ss.foldl (bestTurn cov) (-1, [])
theorem best_go (cov : List Nat → Nat) : ∀ (ss : List (List Nat)) (n : Nat) (c : List Nat), c ≠ [] → (∀ s ∈ ss, s ≠ []) →
    ss.foldl (bestTurn cov) ((n : Int), c) = (((ss.foldl (fun b s => let n := cov s; if b.2.isEmpty = true ∨ b.1 < n then (n, s) else b) (n, c)).1 : Int), (ss.foldl (fun b s => let n := cov s; if b.2.isEmpty = true ∨ b.1 < n then (n, s) else b) (n, c)).2)
  | [], _, _, _, _ => rfl
  | s :: ss, n, c, hc, hs => by
    simp only [List.foldl_cons]
    have hs' : s ≠ [] := hs s (List.mem_cons_self ..)
    have hr : ∀ s ∈ ss, s ≠ [] := fun x hx => hs x (List.mem_cons_of_mem _ hx)
    have e1 : c.isEmpty = false := by cases c <;> simp_all
    by_cases h : n < cov s
    · have : bestTurn cov ((n : Int), c) s = ((cov s : Int), s) := if_pos (by show (cov s : Int) > (n : Int); omega)
      rw [this, if_pos (.inr h)]
      exact best_go cov ss (cov s) s hs' hr
    · have : bestTurn cov ((n : Int), c) s = ((n : Int), c) := if_neg (by show ¬ (cov s : Int) > (n : Int); omega)
      rw [this, if_neg (by rintro (z | z); · rw [e1] at z; cases z
                           · exact h z)]
      exact best_go cov ss n c hc hr
theorem best_is (cov : List Nat → Nat) (ss : List (List Nat)) (hn : ss ≠ []) (hs : ∀ s ∈ ss, s ≠ []) :
    bestM cov ss = (((ss.foldl (fun b s => let n := cov s; if b.2.isEmpty = true ∨ b.1 < n then (n, s) else b) (0, [])).1 : Int), (ss.foldl (fun b s => let n := cov s; if b.2.isEmpty = true ∨ b.1 < n then (n, s) else b) (0, [])).2) := by
  cases ss with
  | nil => exact absurd rfl hn
  | cons s ss =>
    unfold bestM
    simp only [List.foldl_cons]
    have : bestTurn cov (-1, []) s = ((cov s : Int), s) := if_pos (by show (cov s : Int) > -1; omega)
    rw [this, if_pos (.inl rfl)]
    exact best_go cov ss (cov s) s (hs s (List.mem_cons_self ..)) fun x hx => hs x (List.mem_cons_of_mem _ hx)
/-- a fold over the same list with steps that agree on it -/
theorem foldl_congr' {α β : Type} {f g : β → α → β} : ∀ {l : List α} {b : β}, (∀ b, ∀ x ∈ l, f b x = g b x) → l.foldl f b = l.foldl g b
  | [], _, _ => rfl
  | x :: l, b, h => by
    rw [List.foldl_cons, List.foldl_cons, h b x (List.mem_cons_self ..)]
    exact foldl_congr' fun b y hy => h b y (List.mem_cons_of_mem _ hy)
theorem bestCover_is {l : List (List Int)} {n k : Nat} (hw : Wide l n) (hl : l.length ≤ 16) (hk : 1 ≤ k ∧ k ≤ 4 ∧ k ≤ l.length) :
    bestM (covM l n) (setsOf l.length k) = (((Vaskyb.bestCover l k).1 : Int), (Vaskyb.bestCover l k).2) := by
  rw [best_is _ _ (choose_ne hl hk.2.1 hk.2.2) (fun s hs e => by
    have := (setsOf_mem hl hk.2.1 hs).1
    rw [e] at this
    simp at this
    omega)]
  unfold Vaskyb.bestCover
  rw [← setsOf_is hl hk.2.1]
  have e : (setsOf l.length k).foldl (fun (b : Nat × List Nat) s => let n_1 := covM l n s; if b.2.isEmpty = true ∨ b.1 < n_1 then (n_1, s) else b) (0, [])
      = (setsOf l.length k).foldl (fun (b : Nat × List Nat) s => let n := Vaskyb.covers l s; if b.2.isEmpty = true ∨ b.1 < n then (n, s) else b) (0, []) :=
    foldl_congr' fun b s hs => by
      have : Vaskyb.covers l s = covM l n s := covM_is hw (setsOf_mem hl hk.2.1 hs).2.1
      simp only [this]
  rw [e]
/-- one turn of next_step's loop -/
def nextTurn (cov : List Nat → Nat) (taken : List Nat) (b : Int × Int) (i : Nat) : Int × Int :=
  if taken.contains i then b else if (cov (taken ++ [i]) : Int) > b.1 then ((cov (taken ++ [i]) : Int), (i : Int)) else b
def nextM (cov : List Nat → Nat) (n : Nat) (taken : List Nat) : Int := ((List.range n).foldl (nextTurn cov taken) (-1, -1)).2
def nextSpec (cov : List Nat → Nat) (taken : List Nat) (b : Option (Nat × Nat)) (i : Nat) : Option (Nat × Nat) := let n := cov (taken ++ [i]); match b with
  | none => some (n, i)
  | some x => if x.1 < n then some (n, i) else some x
def asPair : Option (Nat × Nat) → Int × Int
  | none => (-1, -1)
  | some x => ((x.1 : Int), (x.2 : Int))
theorem next_go (cov : List Nat → Nat) (taken : List Nat) : ∀ (is : List Nat) (b : Option (Nat × Nat)),
    is.foldl (nextTurn cov taken) (asPair b) = asPair ((is.filter fun i => !taken.contains i).foldl (nextSpec cov taken) b)
  | [], _ => rfl
  | i :: is, b => by
    rw [List.foldl_cons, List.filter_cons]
    cases h : taken.contains i with
    | true =>
      have : nextTurn cov taken (asPair b) i = asPair b := if_pos h
      rw [this]
      exact next_go cov taken is b
    | false =>
      have : nextTurn cov taken (asPair b) i = asPair (nextSpec cov taken b i) := by
        unfold nextTurn
        rw [if_neg (by rw [h]; decide)]
        cases b with
        | none => exact if_pos (by show (cov (taken ++ [i]) : Int) > -1; omega)
        | some x =>
          show (if (cov (taken ++ [i]) : Int) > (x.1 : Int) then _ else _) = asPair (if x.1 < cov (taken ++ [i]) then some (cov (taken ++ [i]), i) else some x)
          by_cases c : x.1 < cov (taken ++ [i])
          · rw [if_pos c, if_pos (by omega)]
            rfl
          · rw [if_neg c, if_neg (by omega)]
      rw [this]
      exact next_go cov taken is _
theorem some_left : ∀ (n : Nat) (taken : List Nat), taken.length < n → ∃ i, i < n ∧ taken.contains i = false
  | 0, _, h => absurd h (Nat.not_lt_zero _)
  | n + 1, taken, h => by
    by_cases hc : taken.contains n = true
    · have hm : n ∈ taken := List.contains_iff_mem.mp hc
      have hl : (taken.erase n).length = taken.length - 1 := List.length_erase_of_mem hm
      obtain ⟨i, hi, hn⟩ := some_left n (taken.erase n) (by have := List.length_pos_of_mem hm; omega)
      refine ⟨i, by omega, ?_⟩
      cases hc2 : taken.contains i with
      | false => rfl
      | true =>
        have h1 : i ∈ taken := List.contains_iff_mem.mp hc2
        have h2 : i ∈ taken.erase n := (List.mem_erase_of_ne (by omega)).mpr h1
        rw [List.contains_iff_mem.mpr h2] at hn
        cases hn
    · exact ⟨n, by omega, by simpa using hc⟩
theorem nextSpec_some (cov : List Nat → Nat) (taken : List Nat) : ∀ (is : List Nat) (b : Option (Nat × Nat)), (is ≠ [] ∨ b ≠ none) → ∃ x, is.foldl (nextSpec cov taken) b = some x ∧ (x.2 ∈ is ∨ b = some x)
  | [], b, h => by
    cases b with
    | none => rcases h with h | h <;> exact absurd rfl h
    | some x => exact ⟨x, rfl, .inr rfl⟩
  | i :: is, b, _ => by
    have hne : nextSpec cov taken b i ≠ none := by
      unfold nextSpec
      cases b with
      | none => simp
      | some x => simp only; split <;> simp
    obtain ⟨x, hx, hm⟩ := nextSpec_some cov taken is (nextSpec cov taken b i) (.inr hne)
    refine ⟨x, hx, ?_⟩
    rcases hm with hm | hm
    · exact .inl (List.mem_cons_of_mem _ hm)
    · unfold nextSpec at hm
      cases b with
      | none =>
        have := Option.some.inj hm
        exact .inl (by rw [← this]; exact List.mem_cons_self ..)
      | some y =>
        simp only at hm
        split at hm
        · have := Option.some.inj hm
          exact .inl (by rw [← this]; exact List.mem_cons_self ..)
        · exact .inr hm
theorem next_is {l : List (List Int)} {n : Nat} {taken : List Nat} (hw : Wide l n) (ht : ∀ i ∈ taken, i < l.length) (hl : taken.length < l.length) :
    ∃ i, Vaskyb.nextOf l taken = some i ∧ nextM (covM l n) l.length taken = (i : Int) ∧ i < l.length := by
  have hx : ∀ i ∈ (List.range l.length).filter (fun i => !taken.contains i), Vaskyb.covers l (taken ++ [i]) = covM l n (taken ++ [i]) := fun i hi => by
    have hi' := List.mem_range.mp (List.mem_filter.mp hi).1
    refine covM_is hw fun j hj => ?_
    rcases List.mem_append.mp hj with h | h
    · exact ht j h
    · have : j = i := by simpa using h
      omega
  have e : Vaskyb.nextOf l taken = (((List.range l.length).filter fun i => !taken.contains i).foldl (nextSpec (covM l n) taken) none).map fun x => x.2 := by
    unfold Vaskyb.nextOf
    congr 1
    refine foldl_congr' fun b i hi => ?_
    unfold nextSpec
    simp only [hx i hi]
    cases b <;> rfl
  obtain ⟨j, hj, hn⟩ := some_left l.length taken hl
  obtain ⟨x, ex, hm⟩ := nextSpec_some (covM l n) taken ((List.range l.length).filter fun i => !taken.contains i) none (.inl fun z => by
    have : j ∈ (List.range l.length).filter fun i => !taken.contains i := List.mem_filter.mpr ⟨List.mem_range.mpr hj, by rw [hn]; rfl⟩
    rw [z] at this
    exact absurd this (by simp))
  refine ⟨x.2, ?_, ?_, ?_⟩
  · rw [e, ex] <;> rfl
  · unfold nextM
    have := next_go (covM l n) taken (List.range l.length) none
    rw [ex] at this
    have e0 : asPair none = ((-1 : Int), (-1 : Int)) := rfl
    rw [e0] at this
    rw [this] <;> rfl
  · rcases hm with hm | hm
    · exact List.mem_range.mp (List.mem_filter.mp hm).1
    · cases hm
/-- step_by_step: so many turns -/
def stepM (cov : List Nat → Nat) (n : Nat) : Nat → List Int
  | 0 => []
  | k + 1 => stepM cov n k ++ [nextM cov n ((stepM cov n k).map Int.toNat)]
theorem greedyBy_succ (l : List (List Int)) : ∀ (k : Nat) (is : List Nat), Vaskyb.greedyBy l (k + 1) is = match Vaskyb.nextOf l (Vaskyb.greedyBy l k is) with
    | none => Vaskyb.greedyBy l k is
    | some i => Vaskyb.greedyBy l k is ++ [i]
  | 0, is => by
    unfold Vaskyb.greedyBy
    unfold Vaskyb.greedyBy
    rfl
  | k + 1, is => by
    rw [Vaskyb.greedyBy]
    cases h : Vaskyb.nextOf l is with
    | none =>
      have e : Vaskyb.greedyBy l (k + 1) is = is := by
        rw [Vaskyb.greedyBy, h]
      rw [e, h]
    | some i =>
      have e : Vaskyb.greedyBy l (k + 1) is = Vaskyb.greedyBy l k (is ++ [i]) := by
        rw [Vaskyb.greedyBy, h]
      rw [e]
      exact greedyBy_succ l k (is ++ [i])
theorem step_is {l : List (List Int)} {n : Nat} (hw : Wide l n) : ∀ k, k ≤ l.length → stepM (covM l n) l.length k = (Vaskyb.greedy l k).map (fun i : Nat => (i : Int)) ∧ (Vaskyb.greedy l k).length = k ∧ ∀ i ∈ Vaskyb.greedy l k, i < l.length
  | 0, _ => ⟨rfl, rfl, fun i h => absurd h (by unfold Vaskyb.greedy Vaskyb.greedyBy; simp)⟩
  | k + 1, h => by
    obtain ⟨e1, e2, e3⟩ := step_is hw k (by omega)
    have e4 : (stepM (covM l n) l.length k).map Int.toNat = Vaskyb.greedy l k := by
      rw [e1, List.map_map]
      have : (Int.toNat ∘ fun i : Nat => (i : Int)) = id := by funext i; simp
      rw [this, List.map_id]
    obtain ⟨i, a, b, c⟩ := next_is hw e3 (by rw [e2]; omega)
    have e5 : Vaskyb.greedy l (k + 1) = Vaskyb.greedy l k ++ [i] := by
      unfold Vaskyb.greedy at a ⊢
      rw [greedyBy_succ, a]
    refine ⟨?_, ?_, ?_⟩
    · show stepM (covM l n) l.length k ++ [nextM (covM l n) l.length ((stepM (covM l n) l.length k).map Int.toNat)] = _
      rw [e4, b, e1, e5, List.map_append]
      rfl
    · rw [e5, List.length_append, e2]
      rfl
    · intro j hj
      rw [e5] at hj
      rcases List.mem_append.mp hj with h | h
      · exact e3 j h
      · have : j = i := by simpa using h
        omega
end Fm
/-! pure laws 4: groups, bounds -/
namespace Fm
def members (len : Nat) (gs : List Nat) (g : Nat) : List Nat := (List.range len).filter fun i => gs.getD i 0 == g
/-- the groups below k that have items, each with its best -/
def bsM (l : List (List Int)) (n : Nat) (gs : List Nat) (k : Nat) : List (Nat × List Nat) := ((List.range k).filter fun g => gs.contains g).map fun g => (g, unb l (List.range n) (members l.length gs g))
def restM (bs : List (Nat × List Nat)) : List Nat := bs.flatMap fun x => x.2
theorem members_ne {len : Nat} {gs : List Nat} {g : Nat} (h : gs.length = len) : members len gs g = [] ↔ gs.contains g = false := by
  unfold members
  rw [List.filter_eq_nil_iff]
  constructor
  · intro h1
    cases hc : gs.contains g with
    | false => rfl
    | true =>
      obtain ⟨i, hi, e⟩ := List.getElem_of_mem (List.contains_iff_mem.mp hc)
      have := h1 i (List.mem_range.mpr (by omega))
      rw [List.getD_eq_getElem?_getD, List.getElem?_eq_getElem hi, Option.getD_some, e] at this
      simp at this
  · intro h1 i hi e
    have hi' : i < gs.length := by have := List.mem_range.mp hi; omega
    rw [List.getD_eq_getElem?_getD, List.getElem?_eq_getElem hi', Option.getD_some] at e
    have e' : gs[i] = g := by simpa using e
    have : gs.contains g = true := List.contains_iff_mem.mpr (e' ▸ List.getElem_mem hi')
    rw [this] at h1
    cases h1
theorem bs_yes {l : List (List Int)} {n : Nat} {gs : List Nat} {k : Nat} (h : gs.contains k = true) : bsM l n gs (k + 1) = bsM l n gs k ++ [(k, unb l (List.range n) (members l.length gs k))] := by
  unfold bsM
  rw [List.range_succ, List.filter_append, List.map_append, List.filter_cons, if_pos h]
  rfl
theorem bs_no {l : List (List Int)} {n : Nat} {gs : List Nat} {k : Nat} (h : gs.contains k = false) : bsM l n gs (k + 1) = bsM l n gs k := by
  unfold bsM
  rw [List.range_succ, List.filter_append, List.map_append, List.filter_cons, if_neg (by rw [h]; decide)]
  simp
theorem mem_best {l : List (List Int)} {n : Nat} {gs : List Nat} {g i : Nat} (h : i ∈ unb l (List.range n) (members l.length gs g)) : i < l.length ∧ gs.getD i 0 = g := by
  have := List.mem_filter.mp (unb_sub i h)
  exact ⟨List.mem_range.mp this.1, by simpa using this.2⟩
theorem rest_facts (l : List (List Int)) (n : Nat) (gs : List Nat) : ∀ k, (restM (bsM l n gs k)).Nodup ∧ ∀ i ∈ restM (bsM l n gs k), i < l.length ∧ gs.getD i 0 < k
  | 0 => ⟨by simp [restM, bsM], fun i h => by simp [restM, bsM] at h⟩
  | k + 1 => by
    obtain ⟨h1, h2⟩ := rest_facts l n gs k
    cases h : gs.contains k with
    | false =>
      rw [bs_no h]
      exact ⟨h1, fun i hi => ⟨(h2 i hi).1, by have := (h2 i hi).2; omega⟩⟩
    | true =>
      rw [bs_yes h]
      have e : restM (bsM l n gs k ++ [(k, unb l (List.range n) (members l.length gs k))]) = restM (bsM l n gs k) ++ unb l (List.range n) (members l.length gs k) := by
        unfold restM
        simp
      rw [e]
      constructor
      · rw [List.nodup_append]
        refine ⟨h1, (List.nodup_range.filter _).filter _, fun a ha b hb z => ?_⟩
        have h3 := (h2 a ha).2
        have h4 := (mem_best hb).2
        rw [z] at h3
        omega
      · intro i hi
        rcases List.mem_append.mp hi with h | h
        · exact ⟨(h2 i h).1, by have := (h2 i h).2; omega⟩
        · obtain ⟨a, b⟩ := mem_best h
          exact ⟨a, by omega⟩
theorem rest_len (l : List (List Int)) (n : Nat) (gs : List Nat) (k : Nat) : (restM (bsM l n gs k)).length ≤ l.length := by
  obtain ⟨h1, h2⟩ := rest_facts l n gs k
  have := h1.length_le_of_subset (l₂ := List.range l.length) fun i hi => List.mem_range.mpr (h2 i hi).1
  simpa using this
/-- what sorted hands over is the spec's filter -/
theorem sorted_is {l : List (List Int)} {n : Nat} {gs : List Nat} {k : Nat} {ns : List Int} (hp : ns.Perm ((restM (bsM l n gs k)).map fun i : Nat => (i : Int))) (hs : ns.Pairwise (· ≤ ·)) :
    ns = ((List.range l.length).filter fun i => (bsM l n gs k).any fun x => x.2.contains i).map fun i : Nat => (i : Int) := by
  obtain ⟨h1, h2⟩ := rest_facts l n gs k
  have hq : (restM (bsM l n gs k)).Perm ((List.range l.length).filter fun i => (bsM l n gs k).any fun x => x.2.contains i) := by
    rw [List.perm_ext_iff_of_nodup h1 (List.nodup_range.filter _)]
    intro i
    rw [List.mem_filter, List.mem_range, List.any_eq_true]
    unfold restM
    rw [List.mem_flatMap]
    constructor
    · rintro ⟨x, hx, hi⟩
      refine ⟨(h2 i ?_).1, x, hx, List.contains_iff_mem.mpr hi⟩
      unfold restM
      exact List.mem_flatMap.mpr ⟨x, hx, hi⟩
    · rintro ⟨_, x, hx, hi⟩
      exact ⟨x, hx, List.contains_iff_mem.mp hi⟩
  refine List.Perm.eq_of_pairwise (le := (· ≤ ·)) (fun a b _ _ h1 h2 => by omega) hs ?_ (hp.trans (hq.map _))
  rw [List.pairwise_map]
  refine List.Pairwise.imp ?_ ((List.pairwise_lt_range).filter _)
  intro a b h
  show (a : Int) ≤ (b : Int)
  omega
/-- right_groups -/
def rightG (len : Nat) (gs : List Int) : Bool := decide (gs.length = len ∧ ∀ z ∈ gs, 0 ≤ z ∧ z < 10)
theorem rightG_iff {len : Nat} {gs : List Int} : rightG len gs = true ↔ ¬ (gs.length ≠ len ∨ gs.any (fun z => (VaskyBase.index z Vaskyb.GROUPS).isNone) = true) := by
  unfold rightG
  rw [decide_eq_true_iff, not_or, List.any_eq_true]
  constructor
  · rintro ⟨h1, h2⟩
    refine ⟨fun c => c h1, ?_⟩
    rintro ⟨z, hz, c⟩
    unfold VaskyBase.index at c
    rw [if_pos (show 0 ≤ z ∧ z < ((Vaskyb.GROUPS : Nat) : Int) from h2 z hz)] at c
    simp at c
  · rintro ⟨h1, h2⟩
    refine ⟨Classical.byContradiction h1, fun z hz => Classical.byContradiction fun c => h2 ⟨z, hz, ?_⟩⟩
    unfold VaskyBase.index
    rw [if_neg (show ¬ (0 ≤ z ∧ z < ((Vaskyb.GROUPS : Nat) : Int)) from c)]
    rfl
/-! ### within bounds -/
def inB (row lo hi : List Int) : Bool := (row.zip (lo.zip hi)).all fun v => decide (v.2.1 ≤ v.1 ∧ v.1 ≤ v.2.2)
def insideM (rows : List (List Int)) (lo hi : List Int) : List Nat := (List.range rows.length).filter fun i => inB (rows.getD i []) lo hi
theorem inside_is (s : Vaskya.Sheet) (lo hi : List Int) : Vaskyb.inside s lo hi = insideM (s.items.map fun i => i.vs) lo hi := by
  unfold Vaskyb.inside insideM
  rw [List.length_map]
  refine filter_congr' fun i hi => ?_
  have h := List.mem_range.mp hi
  rw [List.getElem?_eq_getElem h, List.getD_eq_getElem?_getD, List.getElem?_map, List.getElem?_eq_getElem h]
  rfl
end Fm
/-! pure laws 5: the one form -/
namespace Fm
open VaskyBase (Bytes word showInt showNat joined)
open Vaskya (Measure Item Sheet)
def bytesI (b : Bytes) : List Int := b.map fun c => (c.toNat : Int)
theorem bytesI_app (a b : Bytes) : bytesI (a ++ b) = bytesI a ++ bytesI b := List.map_append
theorem bytesI_len (a : Bytes) : (bytesI a).length = a.length := List.length_map ..
/-- the bytes of a written word -/
def codesI (s : String) : List Int := s.toList.map fun c => (c.toNat : Int)
def joinI : List (List Int) → List Int
  | [] => []
  | [x] => x
  | x :: y :: r => x ++ [44, 32] ++ joinI (y :: r)
theorem joinI_snoc (x : List Int) : ∀ l : List (List Int), joinI (l ++ [x]) = if l.isEmpty then x else joinI l ++ [44, 32] ++ x
  | [] => rfl
  | [y] => rfl
  | y :: z :: r => by
    have ih := joinI_snoc x (z :: r)
    show y ++ [44, 32] ++ joinI (z :: r ++ [x]) = y ++ [44, 32] ++ joinI (z :: r) ++ [44, 32] ++ x
    rw [ih]
    simp
theorem joinI_len (m : Nat) : ∀ l : List (List Int), (∀ x ∈ l, x.length ≤ m) → (joinI l).length ≤ l.length * (m + 2)
  | [], _ => by simp [joinI]
  | [x], h => by have := h x (by simp); simp [joinI]; omega
  | x :: y :: r, h => by
    have ih := joinI_len m (y :: r) fun z hz => h z (List.mem_cons_of_mem _ hz)
    have h1 := h x (List.mem_cons_self ..)
    show (x ++ [44, 32] ++ joinI (y :: r)).length ≤ (r.length + 1 + 1) * (m + 2)
    rw [List.length_append, List.length_append]
    have e : (y :: r).length = r.length + 1 := rfl
    rw [e] at ih
    have : (r.length + 1 + 1) * (m + 2) = (r.length + 1) * (m + 2) + (m + 2) := Nat.succ_mul ..
    simp only [List.length_cons, List.length_nil]
    omega
theorem bytesI_joined : ∀ l : List Bytes, bytesI (joined (word ", ") l) = joinI (l.map bytesI)
  | [] => rfl
  | [x] => rfl
  | x :: y :: r => by
    have ih := bytesI_joined (y :: r)
    show bytesI (x ++ word ", " ++ joined (word ", ") (y :: r)) = bytesI x ++ [44, 32] ++ joinI ((y :: r).map bytesI)
    rw [bytesI_app, bytesI_app, ih]
    rfl
def intCodes (v : Int) : List Int := bytesI (showInt v)
def measurePart (m : Measure) : List Int := bytesI m.name ++ (if m.up = true then codesI " up" else codesI " down")
def measuresLine (s : Sheet) : List Int := codesI "measures " ++ joinI (s.ms.map measurePart) ++ codesI " ;\n"
def itemLine (i : Item) : List Int := codesI "item " ++ bytesI i.name ++ codesI " : " ++ joinI (i.vs.map intCodes) ++ codesI " ;\n"
def oneForm (s : Sheet) : List Int := measuresLine s ++ s.items.flatMap itemLine
theorem word_codes : bytesI (word "measures ") = codesI "measures " ∧ bytesI (word " ;") ++ [10] = codesI " ;\n" ∧ bytesI (word "item ") = codesI "item " ∧ bytesI (word " : ") = codesI " : " ∧ bytesI (word " up") = codesI " up" ∧ bytesI (word " down") = codesI " down" := by decide +kernel
theorem measure_is (m : Measure) : bytesI (Vaskya.showMeasure m) = measurePart m := by
  unfold Vaskya.showMeasure measurePart
  rw [bytesI_app]
  cases m.up with
  | true => rw [if_pos rfl, if_pos rfl, word_codes.2.2.2.2.1]
  | false => rw [if_neg (by decide), if_neg (by decide), word_codes.2.2.2.2.2]
theorem item_is (i : Item) : bytesI (Vaskya.showItem i) = itemLine i := by
  unfold Vaskya.showItem Vaskya.line Vaskya.commas itemLine
  simp only [bytesI_app, bytesI_joined]
  rw [word_codes.2.2.1, word_codes.2.2.2.1, ← word_codes.2.1, List.map_map]
  simp only [List.append_assoc]
  rfl
theorem measures_is (s : Sheet) : bytesI (Vaskya.line (word "measures " ++ (Vaskya.commas (s.ms.map Vaskya.showMeasure) ++ word " ;"))) = measuresLine s := by
  unfold Vaskya.line Vaskya.commas measuresLine
  simp only [bytesI_app, bytesI_joined]
  rw [word_codes.1, ← word_codes.2.1, List.map_map]
  have e : bytesI ∘ Vaskya.showMeasure = measurePart := by funext m; exact measure_is m
  rw [e]
  simp only [List.append_assoc]
  rfl
theorem flatMap_bytes {α : Type} (f : α → Bytes) : ∀ l : List α, bytesI (l.flatMap f) = l.flatMap fun x => bytesI (f x)
  | [] => rfl
  | x :: l => by rw [List.flatMap_cons, List.flatMap_cons, bytesI_app, flatMap_bytes f l]
theorem shown_is (s : Sheet) : bytesI (Vaskya.shown s) = oneForm s := by
  unfold Vaskya.shown oneForm
  rw [bytesI_app, measures_is, flatMap_bytes]
  congr 1
  congr 1
  funext i
  exact item_is i
/-! ### a list that may be held -/
structure WF (s : Sheet) : Prop where
  ms : 1 ≤ s.ms.length ∧ s.ms.length ≤ 4
  items : s.items.length ≤ 16
  rows : ∀ i ∈ s.items, i.vs.length = s.ms.length
  vals : ∀ i ∈ s.items, ∀ v ∈ i.vs, -1000 ≤ v ∧ v ≤ 1000
  mnames : ∀ m ∈ s.ms, m.name.length ≤ 4096
  inames : ∀ i ∈ s.items, i.name.length ≤ 4096
theorem intCodes_len : ∀ v : Int, -1000 ≤ v → v ≤ 1000 → (intCodes v).length ≤ 5 := by
  have h : ∀ n ∈ List.range 2001, (intCodes ((n : Int) - 1000)).length ≤ 5 := by decide +kernel
  intro v h1 h2
  have := h (v + 1000).toNat (List.mem_range.mpr (by omega))
  have e : (((v + 1000).toNat : Nat) : Int) - 1000 = v := by omega
  rw [e] at this
  exact this
theorem measurePart_len {s : Sheet} (w : WF s) {m : Measure} (h : m ∈ s.ms) : (measurePart m).length ≤ 4101 := by
  unfold measurePart
  rw [List.length_append, bytesI_len]
  have := w.mnames m h
  have e1 : (codesI " up").length = 3 := by decide
  have e2 : (codesI " down").length = 5 := by decide
  split <;> omega
theorem measuresLine_len {s : Sheet} (w : WF s) : (measuresLine s).length ≤ 16500 := by
  unfold measuresLine
  rw [List.length_append, List.length_append]
  have h := joinI_len 4101 (s.ms.map measurePart) fun x hx => by
    rw [List.mem_map] at hx
    obtain ⟨m, hm, rfl⟩ := hx
    exact measurePart_len w hm
  rw [List.length_map] at h
  have e1 : (codesI "measures ").length = 9 := by decide
  have e2 : (codesI " ;\n").length = 3 := by decide
  have := w.ms.2
  have : s.ms.length * (4101 + 2) ≤ 4 * 4103 := Nat.mul_le_mul_right _ this
  omega
theorem itemLine_len {s : Sheet} (w : WF s) {i : Item} (h : i ∈ s.items) : (itemLine i).length ≤ 4200 := by
  unfold itemLine
  simp only [List.length_append, bytesI_len]
  have h2 := joinI_len 5 (i.vs.map intCodes) fun x hx => by
    rw [List.mem_map] at hx
    obtain ⟨v, hv, rfl⟩ := hx
    obtain ⟨a, b⟩ := w.vals i h v hv
    exact intCodes_len v a b
  rw [List.length_map, w.rows i h] at h2
  have e1 : (codesI "item ").length = 5 := by decide
  have e2 : (codesI " ;\n").length = 3 := by decide
  have e3 : (codesI " : ").length = 3 := by decide
  have := w.inames i h
  have := w.ms.2
  have : s.ms.length * (5 + 2) ≤ 4 * 7 := Nat.mul_le_mul_right _ this
  omega
end Fm
/-! pure laws 6: tokens -/
namespace Fm
open VaskyBase (Bytes Fault Tok PTok Toks lex token isBlank isLetter isDigit)
def byteOk (z : Int) : Prop := 0 ≤ z ∧ z ≤ 255
def byteOf (z : Int) : UInt8 := UInt8.ofNat z.toNat
def bytesOf (l : List Int) : Bytes := l.map byteOf
theorem byteOf_nat {z : Int} (h : byteOk z) : ((byteOf z).toNat : Int) = z := by
  unfold byteOf
  obtain ⟨a, b⟩ := h
  rw [UInt8.toNat_ofNat']
  have : z.toNat % 2 ^ 8 = z.toNat := Nat.mod_eq_of_lt (by omega)
  omega
theorem bytesI_of {l : List Int} (h : ∀ z ∈ l, byteOk z) : bytesI (bytesOf l) = l := by
  unfold bytesI bytesOf
  rw [List.map_map]
  have : l.map id = l.map ((fun c : UInt8 => (c.toNat : Int)) ∘ byteOf) := List.map_congr_left fun z hz => (byteOf_nat (h z hz)).symm
  rw [← this, List.map_id]
def blankI (z : Int) : Bool := z == 32 || (z == 9 || z == 10)
def letterI (z : Int) : Bool := decide (65 ≤ z ∧ z ≤ 90) || decide (97 ≤ z ∧ z ≤ 122)
def digitI (z : Int) : Bool := decide (48 ≤ z ∧ z ≤ 57)
def signI (z : Int) : Bool := z == 44 || (z == 58 || (z == 59 || z == 45))
theorem byteOf_eq {z : Int} (h : byteOk z) (n : Nat) (hn : n ≤ 255) : (byteOf z == UInt8.ofNat n) = (z == (n : Int)) := by
  have e := byteOf_nat h
  rw [Bool.eq_iff_iff, beq_iff_eq, beq_iff_eq]
  constructor
  · intro q
    rw [q, UInt8.toNat_ofNat'] at e
    have : n % 2 ^ 8 = n := Nat.mod_eq_of_lt (by omega)
    omega
  · intro q
    unfold byteOf
    rw [q]
    simp
theorem blank_is {z : Int} (h : byteOk z) : isBlank (byteOf z) = blankI z := by
  unfold isBlank blankI
  have a := byteOf_eq h 32 (by decide)
  have b := byteOf_eq h 9 (by decide)
  have c := byteOf_eq h 10 (by decide)
  show (byteOf z == UInt8.ofNat 32 || (byteOf z == UInt8.ofNat 9 || byteOf z == UInt8.ofNat 10)) = _
  rw [a, b, c]
  rfl
theorem letter_is {z : Int} (h : byteOk z) : isLetter (byteOf z) = letterI z := by
  unfold isLetter letterI
  have e := byteOf_nat h
  rw [Bool.eq_iff_iff]
  simp only [Bool.or_eq_true, decide_eq_true_eq]
  omega
theorem digit_is {z : Int} (h : byteOk z) : isDigit (byteOf z) = digitI z := by
  unfold isDigit digitI
  have e := byteOf_nat h
  rw [Bool.eq_iff_iff]
  simp only [decide_eq_true_eq]
  omega
theorem sign_is {z : Int} (h : byteOk z) : VaskyBase.SIGNS.contains (byteOf z) = signI z := by
  unfold VaskyBase.SIGNS signI
  have a := byteOf_eq h 44 (by decide)
  have b := byteOf_eq h 58 (by decide)
  have c := byteOf_eq h 59 (by decide)
  have d := byteOf_eq h 45 (by decide)
  show (List.elem (byteOf z) [UInt8.ofNat 44, UInt8.ofNat 58, UInt8.ofNat 59, UInt8.ofNat 45]) = _
  simp only [List.elem_cons, List.elem_nil, Bool.or_false, a, b, c, d]
  show _ = (z == ((44 : Nat) : Int) || (z == ((58 : Nat) : Int) || (z == ((59 : Nat) : Int) || z == ((45 : Nat) : Int))))
  cases z == ((44 : Nat) : Int) <;> cases z == ((58 : Nat) : Int) <;> cases z == ((59 : Nat) : Int) <;> cases z == ((45 : Nat) : Int) <;> rfl
theorem hash_is {z : Int} (h : byteOk z) : (byteOf z == 35) = (z == 35) := byteOf_eq h 35 (by decide)
/-! ### fuel -/
theorem token_len {l : Bytes} {x : Tok × Nat} (h : token l = some x) : 1 ≤ x.2 ∧ x.2 ≤ l.length := by
  unfold token at h
  cases l with
  | nil => cases h
  | cons b r =>
    simp only at h
    split at h
    · rename_i hl
      split at h
      · cases h
      · have := Option.some.inj h
        subst this
        constructor
        · rw [List.takeWhile_cons, if_pos (by rw [hl]; rfl)]
          simp
        · exact (List.takeWhile_sublist _).length_le
    · split at h
      · rename_i hd
        cases hn : VaskyBase.numberOf ((b :: r).takeWhile isDigit) with
        | none => rw [hn] at h; cases h
        | some n =>
          rw [hn] at h
          have := Option.some.inj h
          subst this
          constructor
          · show 1 ≤ ((b :: r).takeWhile isDigit).length
            rw [List.takeWhile_cons, if_pos hd]
            simp
          · exact (List.takeWhile_sublist _).length_le
      · split at h
        · have := Option.some.inj h
          subst this
          simp
        · cases h
theorem lex_fuel : ∀ (n m p : Nat) (l : Bytes), l.length < n → l.length < m → lex n p l = lex m p l
  | 0, _, _, _, h, _ => absurd h (Nat.not_lt_zero _)
  | _ + 1, 0, _, _, _, h => absurd h (Nat.not_lt_zero _)
  | n + 1, m + 1, p, [], _, _ => rfl
  | n + 1, m + 1, p, b :: r, h1, h2 => by
    have a1 : r.length < n := by simpa using h1
    have a2 : r.length < m := by simpa using h2
    unfold lex
    split
    · exact lex_fuel n m _ r a1 a2
    · split
      · have : (r.dropWhile (· != 10)).length ≤ r.length := (List.dropWhile_sublist _).length_le
        exact lex_fuel n m _ _ (by omega) (by omega)
      · cases ht : token (b :: r) with
        | none => rfl
        | some x =>
          have hx := token_len ht
          have : ((b :: r).drop x.2).length ≤ r.length := by
            rw [List.length_drop]
            simp only [List.length_cons] at hx ⊢
            omega
          simp only
          rw [lex_fuel n m _ ((b :: r).drop x.2) (by omega) (by omega)]
/-- the tokens from a place on -/
def L (p : Nat) (l : Bytes) : Except Fault Toks := lex (l.length + 1) p l
theorem L_nil (p : Nat) : L p [] = .ok [⟨p, .last⟩] := rfl
theorem lex_L {n p : Nat} {l : Bytes} (h : l.length < n) : lex n p l = L p l := lex_fuel _ _ _ _ h (Nat.lt_succ_self _)
theorem L_cons (p : Nat) (b : UInt8) (r : Bytes) : L p (b :: r) = if isBlank b = true then L (p + 1) r
    else if b == 35 then L (p + 1 + (r.takeWhile (· != 10)).length) (r.dropWhile (· != 10))
    else match token (b :: r) with
      | none => .error ⟨2, p⟩
      | some x => (L (p + x.2) ((b :: r).drop x.2)).map fun l => ⟨p, x.1⟩ :: l := by
  show lex (r.length + 1 + 1) p (b :: r) = _
  rw [lex]
  split
  · exact lex_L (by omega)
  · split
    · have : (r.dropWhile (· != 10)).length ≤ r.length := (List.dropWhile_sublist _).length_le
      exact lex_L (by omega)
    · cases ht : token (b :: r) with
      | none => rfl
      | some x =>
        have hx := token_len ht
        have : ((b :: r).drop x.2).length ≤ r.length := by
          rw [List.length_drop]
          simp only [List.length_cons] at hx ⊢
          omega
        simp only
        rw [lex_L (by omega)]
/-! ### after_blanks -/
/-- the turn's state: whether a remark is open -/
def skip : Bool → Nat → List Int → Nat
  | _, p, [] => p
  | true, p, z :: r => skip (z != 10) (p + 1) r
  | false, p, z :: r => if z == 35 then skip true (p + 1) r else if blankI z then skip false (p + 1) r else p
theorem skip_hash {p : Nat} {z : Int} {r : List Int} (h : (z == 35) = true) : skip false p (z :: r) = skip true (p + 1) r := by rw [skip, if_pos h]
theorem skip_blank {p : Nat} {z : Int} {r : List Int} (h : ¬ (z == 35) = true) (h2 : blankI z = true) : skip false p (z :: r) = skip false (p + 1) r := by rw [skip, if_neg h, if_pos h2]
theorem skip_stay {p : Nat} {z : Int} {r : List Int} (h : ¬ (z == 35) = true) (h2 : ¬ blankI z = true) : skip false p (z :: r) = p := by rw [skip, if_neg h, if_neg h2]
theorem skip_true {p : Nat} {z : Int} {r : List Int} : skip true p (z :: r) = skip (z != 10) (p + 1) r := by rw [skip]
theorem skip_le : ∀ (l : List Int) (c : Bool) (p : Nat), p ≤ skip c p l ∧ skip c p l ≤ p + l.length
  | [], c, p => by unfold skip; simp
  | z :: r, true, p => by
    unfold skip
    have := skip_le r (z != 10) (p + 1)
    simp only [List.length_cons]
    omega
  | z :: r, false, p => by
    unfold skip
    have h1 := skip_le r true (p + 1)
    have h2 := skip_le r false (p + 1)
    simp only [List.length_cons]
    split
    · omega
    · split <;> omega
theorem dropW (z : Int) (h : byteOk z) (r : List Int) : (bytesOf (z :: r)).dropWhile (· != 10) = if z == 10 then bytesOf (z :: r) else (bytesOf r).dropWhile (· != 10) := by
  have e : (byteOf z != 10) = !(z == 10) := by
    have := byteOf_eq h 10 (by decide)
    show (!(byteOf z == UInt8.ofNat 10)) = _
    rw [this]
    rfl
  show (byteOf z :: bytesOf r).dropWhile (· != 10) = _
  rw [List.dropWhile_cons, e]
  cases z == 10 <;> rfl
theorem takeW (z : Int) (h : byteOk z) (r : List Int) : ((bytesOf (z :: r)).takeWhile (· != 10)).length = if z == 10 then 0 else ((bytesOf r).takeWhile (· != 10)).length + 1 := by
  have e : (byteOf z != 10) = !(z == 10) := by
    have := byteOf_eq h 10 (by decide)
    show (!(byteOf z == UInt8.ofNat 10)) = _
    rw [this]
    rfl
  show ((byteOf z :: bytesOf r).takeWhile (· != 10)).length = _
  rw [List.takeWhile_cons, e]
  cases z == 10 <;> rfl
theorem drop_skip {l : List Int} {p q : Nat} {z : Int} (hq : p + 1 ≤ q) : l.drop (q - (p + 1)) = (z :: l).drop (q - p) := by
  have e : q - p = (q - (p + 1)) + 1 := by omega
  rw [e, List.drop_succ_cons]
/-- the blanks and remarks ahead of a token are skipped -/
theorem skip_L : ∀ (l : List Int), (∀ z ∈ l, byteOk z) → ∀ p,
    L p (bytesOf l) = L (skip false p l) (bytesOf (l.drop (skip false p l - p))) ∧
    L (p + ((bytesOf l).takeWhile (· != 10)).length) ((bytesOf l).dropWhile (· != 10)) = L (skip true p l) (bytesOf (l.drop (skip true p l - p)))
  | [], _, p => by
    unfold skip
    simp [bytesOf]
  | z :: r, h, p => by
    have hz := h z (List.mem_cons_self ..)
    have hr : ∀ z ∈ r, byteOk z := fun y hy => h y (List.mem_cons_of_mem _ hy)
    obtain ⟨i1, i2⟩ := skip_L r hr (p + 1)
    have h1 := (skip_le r true (p + 1)).1
    have h2 := (skip_le r false (p + 1)).1
    constructor
    · show L p (byteOf z :: bytesOf r) = _
      rw [L_cons, blank_is hz, hash_is hz]
      by_cases c35 : (z == 35) = true
      · have hb : blankI z = false := by
          have : z = 35 := by simpa using c35
          subst this
          rfl
        rw [if_neg (by rw [hb]; decide), if_pos c35, skip_hash c35, i2, drop_skip h1]
      · by_cases cb : blankI z = true
        · rw [if_pos cb, skip_blank c35 cb, i1, drop_skip h2]
        · rw [if_neg cb, if_neg c35, skip_stay c35 cb, Nat.sub_self, List.drop_zero]
          show _ = L p (byteOf z :: bytesOf r)
          rw [L_cons, blank_is hz, hash_is hz, if_neg cb, if_neg c35]
    · rw [dropW z hz r, takeW z hz r, skip_true]
      by_cases c : (z == 10) = true
      · rw [if_pos c, if_pos c]
        have e : (z != 10) = false := by simp only [bne, c, Bool.not_true]
        rw [e]
        show L p (byteOf z :: bytesOf r) = _
        have hb : blankI z = true := by
          have : z = 10 := by simpa using c
          subst this
          rfl
        rw [L_cons, blank_is hz, if_pos hb, i1, drop_skip h2]
      · rw [if_neg c, if_neg c]
        have e : (z != 10) = true := by
          simp only [bne]
          have : (z == 10) = false := by simpa using c
          rw [this]
          rfl
        rw [e]
        have e2 : p + (((bytesOf r).takeWhile (· != 10)).length + 1) = p + 1 + ((bytesOf r).takeWhile (· != 10)).length := by omega
        rw [e2, i2, drop_skip h1]
/-- behind them stands the end, or what is no blank and no remark -/
def TokHead (l : List Int) : Prop := match l with
  | [] => True
  | z :: _ => blankI z = false ∧ (z == 35) = false
theorem skip_at : ∀ (l : List Int) (c : Bool) (p : Nat), TokHead (l.drop (skip c p l - p))
  | [], c, p => by unfold skip; simp [TokHead]
  | z :: r, true, p => by
    rw [skip_true, ← drop_skip (skip_le r (z != 10) (p + 1)).1]
    exact skip_at r (z != 10) (p + 1)
  | z :: r, false, p => by
    by_cases c35 : (z == 35) = true
    · rw [skip_hash c35, ← drop_skip (skip_le r true (p + 1)).1]
      exact skip_at r true (p + 1)
    · by_cases cb : blankI z = true
      · rw [skip_blank c35 cb, ← drop_skip (skip_le r false (p + 1)).1]
        exact skip_at r false (p + 1)
      · rw [skip_stay c35 cb, Nat.sub_self, List.drop_zero]
        exact ⟨by simpa using cb, by simpa using c35⟩
end Fm
/-! pure laws 7: one token, all tokens -/
namespace Fm
open VaskyBase (Bytes Fault Tok PTok Toks lex token isBlank isLetter isDigit word)
def nameI (z : Int) : Bool := letterI z || digitI z
def Oks (l : List Int) : Prop := ∀ z ∈ l, byteOk z
theorem Oks.drop {l : List Int} (h : Oks l) (n : Nat) : Oks (l.drop n) := fun z hz => h z (List.mem_of_mem_drop hz)
theorem Oks.take {l : List Int} (h : Oks l) (n : Nat) : Oks (l.take n) := fun z hz => h z (List.mem_of_mem_take hz)
theorem Oks.tail {z : Int} {l : List Int} (h : Oks (z :: l)) : Oks l := fun y hy => h y (List.mem_cons_of_mem _ hy)
theorem Oks.takeW {l : List Int} (h : Oks l) (p : Int → Bool) : Oks (l.takeWhile p) := fun z hz => h z ((List.takeWhile_sublist p).mem hz)
theorem takeWhile_of {p : UInt8 → Bool} {q : Int → Bool} (e : ∀ z, byteOk z → p (byteOf z) = q z) : ∀ {l : List Int}, Oks l → (bytesOf l).takeWhile p = bytesOf (l.takeWhile q)
  | [], _ => rfl
  | z :: r, h => by
    have hz := h z (List.mem_cons_self ..)
    show (byteOf z :: bytesOf r).takeWhile p = _
    rw [List.takeWhile_cons, List.takeWhile_cons, e z hz, takeWhile_of e h.tail]
    cases q z <;> rfl
theorem takeWhile_take {α : Type} (q : α → Bool) : ∀ l : List α, l.take (l.takeWhile q).length = l.takeWhile q
  | [] => rfl
  | z :: r => by
    rw [List.takeWhile_cons]
    cases q z with
    | true => simp [takeWhile_take q r]
    | false => rfl
theorem bytesOf_len (l : List Int) : (bytesOf l).length = l.length := List.length_map ..
theorem bytesI_inj {a b : Bytes} (h : bytesI a = bytesI b) : a = b := by
  unfold bytesI at h
  exact List.map_inj_right (f := fun c : UInt8 => (c.toNat : Int)) (fun x y e => UInt8.toNat_inj.mp (by omega)) |>.mp h
/-- the kind of a name -/
def nameK (w : List Int) : Int := if w = codesI "measures" then 3 else if w = codesI "up" then 4 else if w = codesI "down" then 5 else if w = codesI "item" then 6 else if w.length > 16 then 7 else 1
def numVal (w : List Int) : Int := w.foldl (fun t z => t * 10 + z - 48) 0
def numK (w : List Int) : Int := if w.length > 1 ∧ w.head? = some 48 then 7 else if w.length > 10 then 7 else if numVal w > 1000000000 then 7 else 2
/-- token_at: kind and end, of the rest from the place on -/
def tokK (l : List Int) : Int × Nat := match l with
  | [] => (7, 1)
  | z :: _ => if letterI z then (nameK (l.takeWhile nameI), (l.takeWhile nameI).length)
    else if digitI z then (numK (l.takeWhile digitI), (l.takeWhile digitI).length)
    else if signI z then (z, 1) else (7, 1)
theorem decimal_go : ∀ (w : List Int) (n : Nat), (∀ z ∈ w, byteOk z ∧ digitI z = true) → (bytesOf w).foldl (fun n b => 10 * n + (b.toNat - 48)) n = (w.foldl (fun t z => t * 10 + z - 48) (n : Int)).toNat ∧ 0 ≤ w.foldl (fun t z => t * 10 + z - 48) (n : Int)
  | [], n, _ => ⟨by simp [bytesOf], by simp⟩
  | z :: w, n, h => by
    obtain ⟨h1, h2⟩ := h z (List.mem_cons_self ..)
    have e := byteOf_nat h1
    have hd : 48 ≤ z ∧ z ≤ 57 := by unfold digitI at h2; exact of_decide_eq_true h2
    show (bytesOf w).foldl (fun n b => 10 * n + (b.toNat - 48)) (10 * n + ((byteOf z).toNat - 48)) = _ ∧ _
    have e2 : ((10 * n + ((byteOf z).toNat - 48) : Nat) : Int) = (n : Int) * 10 + z - 48 := by omega
    have ih := decimal_go w (10 * n + ((byteOf z).toNat - 48)) fun y hy => h y (List.mem_cons_of_mem _ hy)
    rw [e2] at ih
    exact ih
theorem numVal_is {w : List Int} (h : ∀ z ∈ w, byteOk z ∧ digitI z = true) : (VaskyBase.decimal (bytesOf w) : Int) = numVal w := by
  have := decimal_go w 0 h
  unfold VaskyBase.decimal numVal
  have h2 := this.2
  rw [this.1]
  simp only [Int.natCast_zero] at h2 ⊢
  omega
/-- what a token's three numbers say of the spec's token -/
def TokR (t : List Int) (k p e : Int) (x : PTok) : Prop := p = (x.place : Int) ∧ match x.tok with
  | .name b => (∃ d : Nat, e = ((x.place + d : Nat) : Int) ∧ (t.drop x.place).take d = bytesI b) ∧ k = nameK (bytesI b) ∧ nameK (bytesI b) ≠ 7 ∧ b.length ≤ 16
  | .num n => (∃ d : Nat, e = ((x.place + d : Nat) : Int) ∧ numVal ((t.drop x.place).take d) = (n : Int) ∧ ∀ z ∈ (t.drop x.place).take d, 48 ≤ z ∧ z ≤ 57) ∧ k = 2
  | .sign c => k = (c : Int) ∧ (c = 44 ∨ c = 58 ∨ c = 59 ∨ c = 45)
  | .last => k = 0
theorem nameK_long {w : List Int} (h : w.length > 16) : nameK w = 7 := by
  have e1 : (codesI "measures").length = 8 := by decide
  have e2 : (codesI "up").length = 2 := by decide
  have e3 : (codesI "down").length = 4 := by decide
  have e4 : (codesI "item").length = 4 := by decide
  unfold nameK
  rw [if_neg (by intro z; rw [z] at h; omega), if_neg (by intro z; rw [z] at h; omega), if_neg (by intro z; rw [z] at h; omega), if_neg (by intro z; rw [z] at h; omega), if_pos h]
theorem nameK_short {w : List Int} (h : ¬ w.length > 16) : nameK w ≠ 7 := by
  unfold nameK
  split
  · decide
  · split
    · decide
    · split
      · decide
      · split
        · decide
        · first
            | decide
            | (rw [if_neg h]; decide)
theorem tok_law {t : List Int} {p : Nat} {z : Int} {r : List Int} (hl : t.drop p = z :: r) (ho : Oks t) :
    ((tokK (z :: r)).1 = 7 ∧ token (bytesOf (z :: r)) = none) ∨
    ((tokK (z :: r)).1 ≠ 7 ∧ (tokK (z :: r)).1 ≠ 0 ∧ ∃ tok, token (bytesOf (z :: r)) = some (tok, (tokK (z :: r)).2) ∧ TokR t (tokK (z :: r)).1 (p : Int) ((p + (tokK (z :: r)).2 : Nat) : Int) ⟨p, tok⟩) := by
  have hO : Oks (z :: r) := by rw [← hl]; exact ho.drop p
  have hz := hO z (List.mem_cons_self ..)
  have eL := letter_is hz
  have eD := digit_is hz
  have eS := sign_is hz
  have eN : (bytesOf (z :: r)).takeWhile (fun c => isLetter c || isDigit c) = bytesOf ((z :: r).takeWhile nameI) := takeWhile_of (fun y hy => by unfold nameI; rw [letter_is hy, digit_is hy]) hO
  have eG : (bytesOf (z :: r)).takeWhile isDigit = bytesOf ((z :: r).takeWhile digitI) := takeWhile_of (fun y hy => digit_is hy) hO
  have tk : token (bytesOf (z :: r)) = if letterI z = true then
      (if VaskyBase.NAME < (bytesOf ((z :: r).takeWhile nameI)).length then none else some (.name (bytesOf ((z :: r).takeWhile nameI)), (bytesOf ((z :: r).takeWhile nameI)).length))
      else if digitI z = true then (VaskyBase.numberOf (bytesOf ((z :: r).takeWhile digitI))).map fun n => (.num n, (bytesOf ((z :: r).takeWhile digitI)).length)
      else if signI z = true then some (.sign (byteOf z).toNat, 1) else none := by
    rw [← eN, ← eG, ← eL, ← eD, ← eS]
    rfl
  rw [tk]
  by_cases cl : letterI z = true
  · have e : tokK (z :: r) = (nameK ((z :: r).takeWhile nameI), ((z :: r).takeWhile nameI).length) := by unfold tokK; simp only [if_pos cl]
    rw [e, if_pos cl, bytesOf_len]
    by_cases c : VaskyBase.NAME < ((z :: r).takeWhile nameI).length
    · rw [if_pos c]
      exact .inl ⟨nameK_long c, rfl⟩
    · rw [if_neg c]
      refine .inr ⟨nameK_short c, ?_, _, rfl, rfl, ⟨_, rfl, ?_⟩, ?_, ?_, ?_⟩
      · show nameK _ ≠ 0
        unfold nameK
        repeat' (first | decide | split)
      · show (t.drop p).take _ = _
        rw [hl, bytesI_of (hO.takeW _), takeWhile_take]
      · show nameK _ = nameK (bytesI (bytesOf _))
        rw [bytesI_of (hO.takeW _)]
      · show nameK (bytesI (bytesOf _)) ≠ 7
        rw [bytesI_of (hO.takeW _)]
        exact nameK_short c
      · rw [bytesOf_len]
        exact Nat.le_of_not_lt c
  · rw [if_neg cl]
    by_cases cd : digitI z = true
    · have e : tokK (z :: r) = (numK ((z :: r).takeWhile digitI), ((z :: r).takeWhile digitI).length) := by unfold tokK; simp only [if_neg cl, if_pos cd]
      rw [e, if_pos cd, bytesOf_len]
      have hw : (z :: r).takeWhile digitI = z :: r.takeWhile digitI := by rw [List.takeWhile_cons, if_pos cd]
      have hall : ∀ y ∈ (z :: r).takeWhile digitI, byteOk y ∧ digitI y = true := fun y hy => ⟨hO y ((List.takeWhile_sublist _).mem hy), by
        have := List.all_takeWhile (p := digitI) (l := z :: r)
        exact List.all_eq_true.mp this y hy⟩
      have hd48 : (byteOf z = 48) ↔ z = 48 := by
        have := byteOf_eq hz 48 (by decide)
        rw [Bool.eq_iff_iff, beq_iff_eq, beq_iff_eq] at this
        exact this
      have hv := numVal_is hall
      have en : VaskyBase.numberOf (bytesOf ((z :: r).takeWhile digitI)) = if numK ((z :: r).takeWhile digitI) = 7 then none else some (VaskyBase.decimal (bytesOf ((z :: r).takeWhile digitI))) := by
        unfold VaskyBase.numberOf
        rw [bytesOf_len]
        have hne : bytesOf ((z :: r).takeWhile digitI) ≠ [] := by rw [hw]; simp [bytesOf]
        have hh : (bytesOf ((z :: r).takeWhile digitI)).head? = some 48 ↔ ((z :: r).takeWhile digitI).head? = some 48 := by
          rw [hw]
          show some (byteOf z) = some 48 ↔ some z = some 48
          simp [hd48]
        unfold numK
        by_cases c1 : ((z :: r).takeWhile digitI).length > 1 ∧ ((z :: r).takeWhile digitI).head? = some 48
        · rw [if_pos (.inr (.inr (.inl ⟨c1.1, hh.mpr c1.2⟩))), if_pos c1, if_pos rfl]
        · rw [if_neg c1]
          by_cases c2 : ((z :: r).takeWhile digitI).length > 10
          · rw [if_pos (.inr (.inl c2)), if_pos c2, if_pos rfl]
          · rw [if_neg c2]
            by_cases c3 : numVal ((z :: r).takeWhile digitI) > 1000000000
            · rw [if_pos (.inr (.inr (.inr (by show 1000000000 < _; omega)))), if_pos c3, if_pos rfl]
            · rw [if_neg c3, if_neg, if_neg (by decide)]
              rintro (q | q | q | q)
              · exact hne q
              · exact c2 q
              · exact c1 ⟨q.1, hh.mp q.2⟩
              · have : 1000000000 < VaskyBase.decimal (bytesOf ((z :: r).takeWhile digitI)) := q
                omega
      have e7 : numK ((z :: r).takeWhile digitI) = 7 ∨ numK ((z :: r).takeWhile digitI) = 2 := by
        unfold numK
        repeat' (first | exact .inl rfl | exact .inr rfl | split)
      rw [en]
      by_cases c7 : numK ((z :: r).takeWhile digitI) = 7
      · rw [if_pos c7]
        exact .inl ⟨c7, rfl⟩
      · rw [if_neg c7]
        have c2 := e7.resolve_left c7
        refine .inr ⟨c7, by show numK _ ≠ 0; rw [c2]; decide, _, rfl, rfl, ⟨_, rfl, ?_, ?_⟩, c2⟩
        · show numVal ((t.drop p).take _) = _
          rw [hl, takeWhile_take, hv]
        · show ∀ y ∈ (t.drop p).take _, _
          rw [hl, takeWhile_take]
          intro y hy
          have := (hall y hy).2
          unfold digitI at this
          exact of_decide_eq_true this
    · rw [if_neg cd]
      by_cases cs : signI z = true
      · have e : tokK (z :: r) = (z, 1) := by unfold tokK; simp only [if_neg cl, if_neg cd, if_pos cs]
        rw [e, if_pos cs]
        have h4 : z = 44 ∨ z = 58 ∨ z = 59 ∨ z = 45 := by
          unfold signI at cs
          simpa using cs
        have en := byteOf_nat hz
        refine .inr ⟨by show z ≠ 7; omega, by show z ≠ 0; omega, _, rfl, rfl, en.symm, ?_⟩
        show (byteOf z).toNat = 44 ∨ (byteOf z).toNat = 58 ∨ (byteOf z).toNat = 59 ∨ (byteOf z).toNat = 45
        omega
      · have e : tokK (z :: r) = (7, 1) := by unfold tokK; simp only [if_neg cl, if_neg cd, if_neg cs]
        rw [e, if_neg cs]
        exact .inl ⟨rfl, rfl⟩
/-! ### all tokens -/
abbrev Tk := Int × Int × Int
def TokRs (t : List Int) : List Tk → Toks → Prop
  | [], [] => True
  | a :: l, x :: r => TokR t a.1 a.2.1 a.2.2 x ∧ TokRs t l r
  | _, _ => False
theorem TokRs.snoc {t : List Int} {a : Tk} {x : PTok} (h : TokR t a.1 a.2.1 a.2.2 x) : ∀ {l : List Tk} {r : Toks}, TokRs t l r → TokRs t (l ++ [a]) (r ++ [x])
  | [], [], _ => ⟨h, trivial⟩
  | [], _ :: _, q => q.elim
  | _ :: _, [], q => q.elim
  | _ :: _, _ :: _, q => ⟨q.1, TokRs.snoc h q.2⟩
/-- read_tokens' state -/
structure LexInv (t : List Int) (found : List Tk) (p : Nat) (pre : Toks) : Prop where
  le : p ≤ t.length
  few : found.length ≤ p
  rel : TokRs t found pre
  no0 : ∀ a ∈ found, a.1 ≠ 0
  head : TokHead (t.drop p)
  eq : L 0 (bytesOf t) = (L p (bytesOf (t.drop p))).map fun l => pre ++ l
theorem map_map_ex {A : Type} (x : Except Fault (List A)) (f g : List A → List A) : (x.map f).map g = x.map fun l => g (f l) := by cases x <;> rfl
theorem lex_start {t : List Int} (ho : Oks t) : LexInv t [] (skip false 0 t) [] := by
  have h := (skip_L t ho 0).1
  have h2 := skip_at t false 0
  have h3 := skip_le t false 0
  rw [Nat.sub_zero] at h h2
  refine ⟨by omega, by simp, trivial, by simp, h2, ?_⟩
  rw [h]
  cases L (skip false 0 t) (bytesOf (t.drop (skip false 0 t))) <;> rfl
theorem tokK_pos {z : Int} {r : List Int} : 1 ≤ (tokK (z :: r)).2 ∧ (tokK (z :: r)).2 ≤ (z :: r).length := by
  unfold tokK
  simp only
  split
  · rename_i h
    rw [List.takeWhile_cons, if_pos (by unfold nameI; rw [h]; rfl)]
    have := (List.takeWhile_sublist (l := r) nameI).length_le
    simp only [List.length_cons]
    omega
  · split
    · rename_i h
      rw [List.takeWhile_cons, if_pos h]
      have := (List.takeWhile_sublist (l := r) digitI).length_le
      simp only [List.length_cons]
      omega
    · split <;> simp
theorem lex_turn {t : List Int} {found : List Tk} {p : Nat} {pre : Toks} {z : Int} {r : List Int} (ho : Oks t) (I : LexInv t found p pre) (hl : t.drop p = z :: r) :
    ((tokK (z :: r)).1 = 7 ∧ L 0 (bytesOf t) = .error ⟨2, p⟩) ∨
    ((tokK (z :: r)).1 ≠ 7 ∧ p < skip false (p + (tokK (z :: r)).2) (t.drop (p + (tokK (z :: r)).2)) ∧ ∃ tok, LexInv t (found ++ [((tokK (z :: r)).1, (p : Int), ((p + (tokK (z :: r)).2 : Nat) : Int))]) (skip false (p + (tokK (z :: r)).2) (t.drop (p + (tokK (z :: r)).2))) (pre ++ [⟨p, tok⟩])) := by
  have hO : Oks (z :: r) := by rw [← hl]; exact ho.drop p
  have hz := hO z (List.mem_cons_self ..)
  have hh := I.head
  rw [hl] at hh
  obtain ⟨hb, h35⟩ := hh
  have hlen : t.length - p = (z :: r).length := by rw [← hl, List.length_drop]
  obtain ⟨t1, t2⟩ := tokK_pos (z := z) (r := r)
  have hle := I.le
  have eL : L p (bytesOf (z :: r)) = match token (bytesOf (z :: r)) with
      | none => .error ⟨2, p⟩
      | some x => (L (p + x.2) ((bytesOf (z :: r)).drop x.2)).map fun l => ⟨p, x.1⟩ :: l := by
    show L p (byteOf z :: bytesOf r) = _
    rw [L_cons, blank_is hz, hash_is hz, if_neg (by rw [hb]; decide), if_neg (by rw [h35]; decide)]
    rfl
  have e0 := I.eq
  rw [hl, eL] at e0
  rcases tok_law hl ho with ⟨a, b⟩ | ⟨a, a0, tok, b, c⟩
  · refine .inl ⟨a, ?_⟩
    rw [b] at e0
    exact e0
  · refine .inr ⟨a, ?_, tok, ?_⟩
    · have := (skip_le (t.drop (p + (tokK (z :: r)).2)) false (p + (tokK (z :: r)).2)).1
      omega
    rw [b] at e0
    have hs := skip_le (t.drop (p + (tokK (z :: r)).2)) false (p + (tokK (z :: r)).2)
    have hat := skip_at (t.drop (p + (tokK (z :: r)).2)) false (p + (tokK (z :: r)).2)
    have hsl := (skip_L (t.drop (p + (tokK (z :: r)).2)) (ho.drop _) (p + (tokK (z :: r)).2)).1
    have ed : (bytesOf (z :: r)).drop (tokK (z :: r)).2 = bytesOf (t.drop (p + (tokK (z :: r)).2)) := by
      have : (bytesOf (z :: r)).drop (tokK (z :: r)).2 = bytesOf ((z :: r).drop (tokK (z :: r)).2) := by
        unfold bytesOf
        rw [List.map_drop]
      rw [this, ← hl, List.drop_drop]
    rw [List.length_drop] at hs
    have dd : (t.drop (p + (tokK (z :: r)).2)).drop (skip false (p + (tokK (z :: r)).2) (t.drop (p + (tokK (z :: r)).2)) - (p + (tokK (z :: r)).2)) = t.drop (skip false (p + (tokK (z :: r)).2) (t.drop (p + (tokK (z :: r)).2))) := by
      rw [List.drop_drop]
      congr 1
      omega
    rw [dd] at hat hsl
    refine ⟨by omega, ?_, TokRs.snoc c I.rel, ?_, hat, ?_⟩
    · have := I.few
      rw [List.length_append]
      show found.length + 1 ≤ _
      omega
    · intro y hy
      rcases List.mem_append.mp hy with h | h
      · exact I.no0 y h
      · have : y = ((tokK (z :: r)).1, (p : Int), ((p + (tokK (z :: r)).2 : Nat) : Int)) := by simpa using h
        rw [this]
        exact a0
    · rw [e0]
      simp only
      rw [ed, hsl, map_map_ex]
      congr 1
      funext l
      simp
theorem lex_end {t : List Int} {found : List Tk} {p : Nat} {pre : Toks} (I : LexInv t found p pre) (hp : t.length ≤ p) :
    ∃ toks, L 0 (bytesOf t) = .ok toks ∧ TokRs t (found ++ [((0 : Int), (t.length : Int), (t.length : Int))]) toks := by
  have e : t.drop p = [] := List.drop_eq_nil_of_le hp
  have h := I.eq
  have hle := I.le
  have hpt : p = t.length := by omega
  rw [e] at h
  refine ⟨pre ++ [⟨p, .last⟩], h.trans rfl, TokRs.snoc ⟨?_, ?_⟩ I.rel⟩
  · show (t.length : Int) = (p : Int)
    omega
  · rfl
end Fm
/-! pure laws 8: the parser's steps -/
namespace Fm
open VaskyBase (Bytes Fault Tok PTok Toks PName word RESERVED takeName takeWord takeSign nextWord next here wrong taken tokEq)
open Vaskya (Measure Item Sheet takeMeasures takeInt takeValues takeItems)
/-- the cursor's place: what is left, as the spec has it -/
structure At (t : List Int) (tk : List Tk) (i : Nat) (r : Toks) : Prop where
  rel : TokRs t (tk.drop i) r
  lt : i < tk.length
  shape : ∃ front : List Tk, tk = front ++ [((0 : Int), (t.length : Int), (t.length : Int))] ∧ ∀ x ∈ front, x.1 ≠ 0
theorem At.head {t : List Int} {tk : List Tk} {i : Nat} {r : Toks} (h : At t tk i r) : ∃ k p e x r', tk[i]? = some (k, p, e) ∧ r = x :: r' ∧ TokR t k p e x ∧ TokRs t (tk.drop (i + 1)) r' := by
  have hi : tk[i]? = some (tk[i]'h.lt) := List.getElem?_eq_getElem h.lt
  have hr := h.rel
  rw [List.drop_eq_getElem_cons h.lt] at hr
  cases r with
  | nil => exact hr.elim
  | cons x r' => exact ⟨_, _, _, x, r', hi, rfl, hr.1, hr.2⟩
theorem At.next {t : List Int} {tk : List Tk} {i : Nat} {r : Toks} (h : At t tk i r) {k p e : Int} (hk : tk[i]? = some (k, p, e)) (h0 : k ≠ 0) : At t tk (i + 1) (r.drop 1) := by
  obtain ⟨k', p', e', x, r', h1, h2, h3, h4⟩ := h.head
  subst h2
  refine ⟨h4, ?_, h.shape⟩
  obtain ⟨front, hf, hn⟩ := h.shape
  have hlt := h.lt
  rw [hf] at hlt hk ⊢
  rw [List.length_append] at hlt ⊢
  simp only [List.length_cons, List.length_nil] at hlt ⊢
  apply Classical.byContradiction
  intro hc
  have hi : i = front.length := by omega
  subst hi
  rw [List.getElem?_append_right (Nat.le_refl _), Nat.sub_self] at hk
  have := Option.some.inj hk
  have : (0 : Int) = k := congrArg Prod.fst this
  omega
/-! kinds -/
theorem nameK_words : nameK (codesI "measures") = 3 ∧ nameK (codesI "up") = 4 ∧ nameK (codesI "down") = 5 ∧ nameK (codesI "item") = 6 := by decide +kernel
theorem word_bytes : bytesI (word "measures") = codesI "measures" ∧ bytesI (word "up") = codesI "up" ∧ bytesI (word "down") = codesI "down" ∧ bytesI (word "item") = codesI "item" := by decide +kernel
theorem nameK_eq {w : List Int} (h : nameK w ≠ 7) : (nameK w = 3 ↔ w = codesI "measures") ∧ (nameK w = 4 ↔ w = codesI "up") ∧ (nameK w = 5 ↔ w = codesI "down") ∧ (nameK w = 6 ↔ w = codesI "item") ∧
    (nameK w = 1 ↔ ¬ w = codesI "measures" ∧ ¬ w = codesI "up" ∧ ¬ w = codesI "down" ∧ ¬ w = codesI "item") := by
  by_cases c1 : w = codesI "measures"
  · subst c1
    decide +kernel
  by_cases c2 : w = codesI "up"
  · subst c2
    decide +kernel
  by_cases c3 : w = codesI "down"
  · subst c3
    decide +kernel
  by_cases c4 : w = codesI "item"
  · subst c4
    decide +kernel
  have e : nameK w = 1 := by
    unfold nameK at h ⊢
    rw [if_neg c1, if_neg c2, if_neg c3, if_neg c4] at h ⊢
    split at h
    · exact absurd rfl h
    · rename_i hl
      rw [if_neg hl]
  rw [e]
  simp [c1, c2, c3, c4]
theorem nameK_range {w : List Int} (h : nameK w ≠ 7) : nameK w = 1 ∨ nameK w = 3 ∨ nameK w = 4 ∨ nameK w = 5 ∨ nameK w = 6 := by
  unfold nameK at h ⊢
  repeat' (first | exact .inl rfl | exact .inr (.inl rfl) | exact .inr (.inr (.inl rfl)) | exact .inr (.inr (.inr (.inl rfl))) | exact .inr (.inr (.inr (.inr rfl))) | (exfalso; exact h rfl) | split at h)
  all_goals simp_all
theorem beq_word {b : Bytes} (s : String) : (b == word s) = decide (bytesI b = bytesI (word s)) := by
  rw [Bool.eq_iff_iff, beq_iff_eq, decide_eq_true_iff]
  exact ⟨fun h => by rw [h], bytesI_inj⟩
variable {t : List Int} {k p e : Int} {x : PTok}
/-- a word stands here -/
theorem kind_word (h : TokR t k p e x) (r : Toks) : (decide (k = 3) = nextWord "measures" (x :: r)) ∧ (decide (k = 4) = nextWord "up" (x :: r)) ∧ (decide (k = 5) = nextWord "down" (x :: r)) ∧ (decide (k = 6) = nextWord "item" (x :: r)) := by
  obtain ⟨pl, tok⟩ := x
  obtain ⟨hp, h⟩ := h
  cases tok with
  | name b =>
    obtain ⟨_, hk, h7, _⟩ := h
    have q := nameK_eq h7
    obtain ⟨w1, w2, w3, w4⟩ := word_bytes
    have e1 : nextWord "measures" (⟨pl, .name b⟩ :: r) = (b == word "measures") := rfl
    have e2 : nextWord "up" (⟨pl, .name b⟩ :: r) = (b == word "up") := rfl
    have e3 : nextWord "down" (⟨pl, .name b⟩ :: r) = (b == word "down") := rfl
    have e4 : nextWord "item" (⟨pl, .name b⟩ :: r) = (b == word "item") := rfl
    rw [e1, e2, e3, e4, beq_word, beq_word, beq_word, beq_word, w1, w2, w3, w4, hk]
    refine ⟨?_, ?_, ?_, ?_⟩ <;> rw [Bool.eq_iff_iff, decide_eq_true_iff, decide_eq_true_iff]
    · exact q.1
    · exact q.2.1
    · exact q.2.2.1
    · exact q.2.2.2.1
  | num n =>
    obtain ⟨_, hk⟩ := h
    subst hk
    exact ⟨rfl, rfl, rfl, rfl⟩
  | sign c =>
    obtain ⟨hk, hc⟩ := h
    have z : ¬ k = 3 ∧ ¬ k = 4 ∧ ¬ k = 5 ∧ ¬ k = 6 := by omega
    rw [decide_eq_false z.1, decide_eq_false z.2.1, decide_eq_false z.2.2.1, decide_eq_false z.2.2.2]
    exact ⟨rfl, rfl, rfl, rfl⟩
  | last =>
    have hk : k = 0 := h
    subst hk
    exact ⟨rfl, rfl, rfl, rfl⟩
theorem kind_sign (h : TokR t k p e x) (r : Toks) (c : Nat) (hc : c = 44 ∨ c = 58 ∨ c = 59 ∨ c = 45) : decide (k = (c : Int)) = next (.sign c) (x :: r) := by
  obtain ⟨pl, tok⟩ := x
  obtain ⟨hp, h⟩ := h
  cases tok with
  | name b =>
    obtain ⟨_, hk, h7, _⟩ := h
    have := nameK_range h7
    rw [decide_eq_false (by omega)]
    rfl
  | num n =>
    obtain ⟨_, hk⟩ := h
    rw [decide_eq_false (by omega)]
    rfl
  | sign d =>
    obtain ⟨hk, hd⟩ := h
    show _ = (d == c)
    rw [Bool.eq_iff_iff, decide_eq_true_iff, beq_iff_eq]
    omega
  | last =>
    have hk : k = 0 := h
    rw [decide_eq_false (by omega)]
    rfl
theorem kind_last (h : TokR t k p e x) (r : Toks) : decide (k = 0) = next .last (x :: r) := by
  obtain ⟨pl, tok⟩ := x
  obtain ⟨hp, h⟩ := h
  cases tok with
  | name b =>
    obtain ⟨_, hk, h7, _⟩ := h
    have := nameK_range h7
    rw [decide_eq_false (by omega)]
    rfl
  | num n =>
    obtain ⟨_, hk⟩ := h
    rw [decide_eq_false (by omega)]
    rfl
  | sign d =>
    obtain ⟨hk, hd⟩ := h
    rw [decide_eq_false (by omega)]
    rfl
  | last =>
    have hk : k = 0 := h
    subst hk
    rfl
/-- a name stands here, no word -/
theorem kind_name (h : TokR t k p e x) (r : Toks) : (k = 1 ∧ ∃ b, x.tok = .name b ∧ takeName (x :: r) = .ok (⟨x.place, b⟩, r) ∧ b.length ≤ 16 ∧ ∃ d : Nat, e = ((x.place + d : Nat) : Int) ∧ (t.drop x.place).take d = bytesI b) ∨
    (k ≠ 1 ∧ takeName (x :: r) = .error ⟨3, x.place⟩) := by
  obtain ⟨pl, tok⟩ := x
  obtain ⟨hp, h⟩ := h
  cases tok with
  | name b =>
    obtain ⟨hd, hk, h7, h16⟩ := h
    have q := (nameK_eq h7).2.2.2.2
    obtain ⟨w1, w2, w3, w4⟩ := word_bytes
    have er : RESERVED.contains b = (decide (bytesI b = codesI "measures") || (decide (bytesI b = codesI "up") || (decide (bytesI b = codesI "down") || decide (bytesI b = codesI "item")))) := by
      have e0 : RESERVED.contains b = (b == word "measures" || (b == word "up" || (b == word "down" || b == word "item"))) := by
        show List.elem b [word "measures", word "up", word "down", word "item"] = _
        simp only [List.elem_cons, List.elem_nil, Bool.or_false]
        cases (b == word "measures") <;> cases (b == word "up") <;> cases (b == word "down") <;> cases (b == word "item") <;> rfl
      rw [e0, beq_word, beq_word, beq_word, beq_word, w1, w2, w3, w4]
    have et : takeName (⟨pl, .name b⟩ :: r) = if RESERVED.contains b = true then .error ⟨3, pl⟩ else .ok (⟨pl, b⟩, r) := rfl
    by_cases c : nameK (bytesI b) = 1
    · left
      obtain ⟨c1, c2, c3, c4⟩ := q.mp c
      refine ⟨hk.trans c, b, rfl, ?_, h16, hd⟩
      rw [et, er, decide_eq_false c1, decide_eq_false c2, decide_eq_false c3, decide_eq_false c4]
      rfl
    · right
      refine ⟨by rw [hk]; exact c, ?_⟩
      rw [et, if_pos]
      rw [er]
      apply Classical.byContradiction
      intro hn
      apply c
      apply q.mpr
      simp only [Bool.or_eq_true, decide_eq_true_eq, not_or] at hn
      exact hn
  | num n =>
    obtain ⟨_, hk⟩ := h
    exact .inr ⟨by omega, rfl⟩
  | sign d =>
    obtain ⟨hk, hd⟩ := h
    exact .inr ⟨by omega, rfl⟩
  | last =>
    have hk : k = 0 := h
    exact .inr ⟨by omega, rfl⟩
theorem kind_num (h : TokR t k p e x) : (k = 2 ∧ ∃ n, x.tok = .num n ∧ ∃ d : Nat, e = ((x.place + d : Nat) : Int) ∧ numVal ((t.drop x.place).take d) = (n : Int)) ∨ (k ≠ 2 ∧ ∀ n, x.tok ≠ .num n) := by
  obtain ⟨pl, tok⟩ := x
  obtain ⟨hp, h⟩ := h
  cases tok with
  | name b =>
    obtain ⟨_, hk, h7, _⟩ := h
    have := nameK_range h7
    exact .inr ⟨by omega, fun n z => by cases z⟩
  | num n =>
    obtain ⟨⟨d, h1, h2, _⟩, hk⟩ := h
    exact .inl ⟨hk, n, rfl, d, h1, h2⟩
  | sign d =>
    obtain ⟨hk, hd⟩ := h
    exact .inr ⟨by omega, fun n z => by cases z⟩
  | last =>
    have hk : k = 0 := h
    exact .inr ⟨by omega, fun n z => by cases z⟩
/-! the spec's steps -/
def dirStep (r : Toks) : Except Fault (Bool × Toks) := if nextWord "up" r = true then .ok (true, r.drop 1) else (takeWord "down" r).map fun r => (false, r)
def nameStep (names : List Bytes) (r : Toks) : Except Fault (Bytes × Toks) := (takeName r).bind fun x => if names.contains x.1.name = true then .error ⟨5, x.1.place⟩ else .ok (x.1.name, x.2)
def measureStep (ms : List Measure) (r : Toks) : Except Fault (Measure × Toks) := (takeName r).bind fun x => if 4 ≤ ms.length then .error ⟨4, x.1.place⟩ else
  (nameStep (ms.map (·.name)) r).bind fun y => (dirStep y.2).map fun u => (⟨y.1, u.1⟩, u.2)
theorem any_name {α : Type} (f : α → Bytes) (b : Bytes) (l : List α) : l.any (fun m => f m == b) = (l.map f).contains b := by
  rw [Bool.eq_iff_iff, List.any_eq_true, List.contains_iff_mem, List.mem_map]
  constructor
  · rintro ⟨m, hm, h⟩
    exact ⟨m, hm, by simpa using h⟩
  · rintro ⟨m, hm, h⟩
    exact ⟨m, hm, by simpa using h⟩
theorem measures_turn (n : Nat) (ms : List Measure) (r : Toks) : takeMeasures (n + 1) ms r = (measureStep ms r).bind fun y =>
    if next (.sign 44) y.2 = true then takeMeasures n (ms ++ [y.1]) (y.2.drop 1) else (takeSign 59 y.2).map fun m => (ms ++ [y.1], m) := by
  rw [takeMeasures]
  unfold measureStep nameStep
  cases h : takeName r with
  | error f => rfl
  | ok x =>
    simp only [Except.bind]
    by_cases c : 4 ≤ ms.length
    · rw [if_pos (show Vaskya.MEASURES ≤ ms.length from c), if_pos c]
    · rw [if_neg (show ¬ Vaskya.MEASURES ≤ ms.length from c), if_neg c, any_name]
      by_cases d : (ms.map fun m => m.name).contains x.1.name = true
      · rw [if_pos d, if_pos d]
      · rw [if_neg d, if_neg d]
        simp only
        show (dirStep x.2).bind _ = _
        cases dirStep x.2 <;> rfl
/-- behind some measures -/
def restMeasures (n : Nat) (ms : List Measure) (r : Toks) : Except Fault (List Measure × Toks) := if next (.sign 44) r = true then takeMeasures n ms (r.drop 1) else (takeSign 59 r).map fun m => (ms, m)
theorem measures_rest (n : Nat) (ms : List Measure) (r : Toks) : takeMeasures (n + 1) ms r = (measureStep ms r).bind fun y => restMeasures n (ms ++ [y.1]) y.2 := measures_turn n ms r
def itemStep (k : Nat) (is : List Item) (r : Toks) : Except Fault (Item × Toks) := (takeWord "item" r).bind fun r1 => if 16 ≤ is.length then .error ⟨4, here r⟩ else
  (nameStep (is.map (·.name)) r1).bind fun x => (takeSign 58 x.2).bind fun r2 => (takeValues k [] r2).bind fun v => (takeSign 59 v.2).map fun m => (⟨x.1, v.1⟩, m)
theorem items_turn (k n : Nat) (is : List Item) (r : Toks) : takeItems k (n + 1) is r = if next .last r = true then .ok is else (itemStep k is r).bind fun y => takeItems k n (is ++ [y.1]) y.2 := by
  rw [takeItems]
  by_cases hl : next .last r = true
  · rw [if_pos hl, if_pos hl]
  · rw [if_neg hl, if_neg hl]
    unfold itemStep nameStep
    cases h : takeWord "item" r with
    | error f => rfl
    | ok r1 =>
      simp only [Except.bind]
      by_cases c : 16 ≤ is.length
      · rw [if_pos (show Vaskya.ITEMS ≤ is.length from c), if_pos c]
      · rw [if_neg (show ¬ Vaskya.ITEMS ≤ is.length from c), if_neg c]
        cases h1 : takeName r1 with
        | error f => rfl
        | ok x =>
          simp only
          rw [any_name]
          by_cases d : (is.map fun m => m.name).contains x.1.name = true
          · rw [if_pos d, if_pos d]
          · rw [if_neg d, if_neg d]
            simp only
            cases h2 : takeSign 58 x.2 with
            | error f => rfl
            | ok r2 =>
              simp only
              cases h3 : takeValues k [] r2 with
              | error f => rfl
              | ok v =>
                simp only
                cases h4 : takeSign 59 v.2 <;> rfl
theorem values_turn (n : Nat) (vs : List Int) (r : Toks) : takeValues (n + 1) vs r = (if vs.isEmpty = true then .ok r else takeSign 44 r).bind fun r => (takeInt r).bind fun x => takeValues n (vs ++ [x.1]) x.2 := by rw [takeValues]
theorem values_snoc : ∀ (n : Nat) (vs : List Int) (r : Toks), takeValues (n + 1) vs r = (takeValues n vs r).bind fun y => (if y.1.isEmpty = true then .ok y.2 else takeSign 44 y.2).bind fun r => (takeInt r).map fun x => (y.1 ++ [x.1], x.2)
  | 0, vs, r => by
    rw [values_turn]
    unfold takeValues
    simp only [Except.bind]
    cases (if vs.isEmpty = true then (Except.ok r : Except Fault Toks) else takeSign 44 r) with
    | error f => rfl
    | ok r1 =>
      simp only
      cases takeInt r1 <;> rfl
  | n + 1, vs, r => by
    rw [values_turn, values_turn n]
    cases (if vs.isEmpty = true then (Except.ok r : Except Fault Toks) else takeSign 44 r) with
    | error f => rfl
    | ok r1 =>
      simp only [Except.bind]
      cases takeInt r1 with
      | error f => rfl
      | ok x => 
        simp only
        exact values_snoc n _ _
theorem taken_is (tok : Tok) (x : PTok) (r : Toks) : taken tok (x :: r) = if next tok (x :: r) = true then .ok r else .error ⟨3, x.place⟩ := rfl
/-! what is read is in form -/
def NamesOk (r : Toks) : Prop := ∀ x ∈ r, ∀ b, x.tok = .name b → b.length ≤ 16
theorem namesOk_of : ∀ {l : List Tk} {r : Toks}, TokRs t l r → NamesOk r
  | [], [], _ => fun x hx => absurd hx (by simp)
  | [], _ :: _, h => h.elim
  | _ :: _, [], h => h.elim
  | a :: l, x :: r, h => by
    intro y hy b hb
    rcases List.mem_cons.mp hy with e | m
    · subst e
      obtain ⟨⟨_, q⟩, _⟩ := h
      rw [hb] at q
      exact q.2.2.2
    · exact namesOk_of h.2 y m b hb
theorem NamesOk.drop {r : Toks} (h : NamesOk r) (n : Nat) : NamesOk (r.drop n) := fun x hx => h x (List.mem_of_mem_drop hx)
theorem taken_ok {tok : Tok} {r r' : Toks} (h : taken tok r = .ok r') : r' = r.drop 1 := by
  unfold taken at h
  split at h
  · exact (Except.ok.inj h).symm
  · cases h
theorem takeName_ok {r : Toks} {y : PName × Toks} (h : takeName r = .ok y) (hn : NamesOk r) : y.1.name.length ≤ 16 ∧ y.2 = r.drop 1 := by
  unfold takeName at h
  split at h
  · rename_i pl b r' 
    split at h
    · cases h
    · have := Except.ok.inj h
      subst this
      exact ⟨hn ⟨pl, .name b⟩ (List.mem_cons_self ..) b rfl, rfl⟩
  · cases h
theorem nameStep_ok {ns : List Bytes} {r : Toks} {y : Bytes × Toks} (h : nameStep ns r = .ok y) (hn : NamesOk r) : y.1.length ≤ 16 ∧ y.2 = r.drop 1 := by
  unfold nameStep at h
  cases h1 : takeName r with
  | error f => rw [h1] at h; cases h
  | ok x =>
    rw [h1] at h
    simp only [Except.bind] at h
    split at h
    · cases h
    · have := Except.ok.inj h
      subst this
      exact takeName_ok h1 hn
theorem dirStep_ok {r : Toks} {y : Bool × Toks} (h : dirStep r = .ok y) : y.2 = r.drop 1 := by
  unfold dirStep at h
  split at h
  · have := Except.ok.inj h
    subst this
    rfl
  · cases h1 : takeWord "down" r with
    | error f => rw [h1] at h; cases h
    | ok x =>
      rw [h1] at h
      have := Except.ok.inj h
      subst this
      exact taken_ok h1
theorem measureStep_ok {ms : List Measure} {r : Toks} {y : Measure × Toks} (h : measureStep ms r = .ok y) (hn : NamesOk r) : ms.length < 4 ∧ y.1.name.length ≤ 16 ∧ NamesOk y.2 ∧ y.2.length + 2 = r.length ∨ (ms.length < 4 ∧ y.1.name.length ≤ 16 ∧ NamesOk y.2 ∧ y.2 = r.drop 2) := by
  right
  unfold measureStep at h
  cases h1 : takeName r with
  | error f => rw [h1] at h; cases h
  | ok x =>
    rw [h1] at h
    simp only [Except.bind] at h
    split at h
    · cases h
    · rename_i hc
      cases h2 : nameStep (ms.map fun m => m.name) r with
      | error f => rw [h2] at h; cases h
      | ok z =>
        rw [h2] at h
        simp only at h
        cases h3 : dirStep z.2 with
        | error f => rw [h3] at h; cases h
        | ok u =>
          rw [h3] at h
          have := Except.ok.inj h
          subst this
          obtain ⟨a, b⟩ := nameStep_ok h2 hn
          have c := dirStep_ok h3
          refine ⟨by omega, a, ?_, ?_⟩
          · show NamesOk u.2
            rw [c, b]
            exact (hn.drop 1).drop 1
          · show u.2 = _
            rw [c, b, List.drop_drop]
theorem measures_ok : ∀ (n : Nat) (ms : List Measure) (r : Toks) {y : List Measure × Toks}, takeMeasures n ms r = .ok y → NamesOk r → ms.length ≤ 4 → (∀ m ∈ ms, m.name.length ≤ 16) →
    (1 ≤ y.1.length ∧ y.1.length ≤ 4) ∧ (∀ m ∈ y.1, m.name.length ≤ 16) ∧ NamesOk y.2
  | 0, ms, r, y, h, _, _, _ => by
    unfold takeMeasures at h
    cases h
  | n + 1, ms, r, y, h, hn, h4, hm => by
    rw [measures_turn] at h
    cases h1 : measureStep ms r with
    | error f => rw [h1] at h; cases h
    | ok z =>
      rw [h1] at h
      simp only [Except.bind] at h
      have q : ms.length < 4 ∧ z.1.name.length ≤ 16 ∧ NamesOk z.2 := by
        rcases measureStep_ok h1 hn with ⟨a, b, c, _⟩ | ⟨a, b, c, _⟩ <;> exact ⟨a, b, c⟩
      have hm' : ∀ m ∈ ms ++ [z.1], m.name.length ≤ 16 := fun m hx => by
        rcases List.mem_append.mp hx with h | h
        · exact hm m h
        · have : m = z.1 := by simpa using h
          rw [this]
          exact q.2.1
      have hl : (ms ++ [z.1]).length ≤ 4 := by
        rw [List.length_append]
        show ms.length + 1 ≤ 4
        omega
      split at h
      · exact measures_ok n _ _ h (q.2.2.drop 1) hl hm'
      · cases h2 : takeSign 59 z.2 with
        | error f => rw [h2] at h; cases h
        | ok m =>
          rw [h2] at h
          have := Except.ok.inj h
          subst this
          refine ⟨⟨?_, hl⟩, hm', ?_⟩
          · show 1 ≤ (ms ++ [z.1]).length
            rw [List.length_append]
            exact Nat.le_add_left ..
          · show NamesOk m
            rw [taken_ok h2]
            exact q.2.2.drop 1
theorem takeInt_eq (l : Toks) : takeInt l = (match (if next (.sign 45) l = true then l.drop 1 else l) with
    | ⟨q, .num n⟩ :: r => if 1000 < n then .error ⟨7, q⟩ else .ok (if next (.sign 45) l = true then -(n : Int) else (n : Int), r)
    | m => wrong m) := rfl
theorem takeInt_ok {r : Toks} {y : Int × Toks} (h : takeInt r = .ok y) (hn : NamesOk r) : (-1000 ≤ y.1 ∧ y.1 ≤ 1000) ∧ NamesOk y.2 := by
  rw [takeInt_eq] at h
  have hd : NamesOk (if next (.sign 45) r = true then r.drop 1 else r) := by
    split
    · exact hn.drop 1
    · exact hn
  generalize (if next (.sign 45) r = true then r.drop 1 else r) = l at h hd
  split at h
  · rename_i q n r'
    split at h
    · cases h
    · rename_i hc
      have := Except.ok.inj h
      subst this
      refine ⟨?_, fun x hx => hd x (List.mem_cons_of_mem _ hx)⟩
      show -1000 ≤ (if next (.sign 45) r = true then -(n : Int) else (n : Int)) ∧ (if next (.sign 45) r = true then -(n : Int) else (n : Int)) ≤ 1000
      split <;> omega
  · unfold wrong at h
    cases h
theorem values_ok : ∀ (n : Nat) (vs : List Int) (r : Toks) {y : List Int × Toks}, takeValues n vs r = .ok y → NamesOk r → (∀ v ∈ vs, -1000 ≤ v ∧ v ≤ 1000) →
    y.1.length = vs.length + n ∧ (∀ v ∈ y.1, -1000 ≤ v ∧ v ≤ 1000) ∧ NamesOk y.2
  | 0, vs, r, y, h, hn, hv => by
    unfold takeValues at h
    have := Except.ok.inj h
    subst this
    exact ⟨rfl, hv, hn⟩
  | n + 1, vs, r, y, h, hn, hv => by
    rw [values_turn] at h
    cases h1 : (if vs.isEmpty = true then (Except.ok r : Except Fault Toks) else takeSign 44 r) with
    | error f => rw [h1] at h; cases h
    | ok r1 =>
      rw [h1] at h
      simp only [Except.bind] at h
      have hn1 : NamesOk r1 := by
        split at h1
        · have := Except.ok.inj h1
          rw [← this]
          exact hn
        · rw [taken_ok h1]
          exact hn.drop 1
      cases h2 : takeInt r1 with
      | error f => rw [h2] at h; cases h
      | ok x =>
        rw [h2] at h
        simp only at h
        obtain ⟨a, b⟩ := takeInt_ok h2 hn1
        obtain ⟨c, d, e⟩ := values_ok n _ _ h b fun v hx => by
          rcases List.mem_append.mp hx with h | h
          · exact hv v h
          · have : v = x.1 := by simpa using h
            rw [this]
            exact a
        refine ⟨?_, d, e⟩
        rw [c, List.length_append]
        show vs.length + 1 + n = vs.length + (n + 1)
        omega
theorem itemStep_ok {k : Nat} {is : List Item} {r : Toks} {y : Item × Toks} (h : itemStep k is r = .ok y) (hn : NamesOk r) : is.length < 16 ∧ y.1.name.length ≤ 16 ∧ y.1.vs.length = k ∧ (∀ v ∈ y.1.vs, -1000 ≤ v ∧ v ≤ 1000) ∧ NamesOk y.2 := by
  unfold itemStep at h
  cases h1 : takeWord "item" r with
  | error f => rw [h1] at h; cases h
  | ok r1 =>
    rw [h1] at h
    simp only [Except.bind] at h
    split at h
    · cases h
    · rename_i hc
      have n1 : NamesOk r1 := by rw [taken_ok h1]; exact hn.drop 1
      cases h2 : nameStep (is.map fun m => m.name) r1 with
      | error f => rw [h2] at h; cases h
      | ok x =>
        rw [h2] at h
        simp only at h
        obtain ⟨a1, a2⟩ := nameStep_ok h2 n1
        cases h3 : takeSign 58 x.2 with
        | error f => rw [h3] at h; cases h
        | ok r2 =>
          rw [h3] at h
          simp only at h
          have n2 : NamesOk r2 := by rw [taken_ok h3, a2]; exact (n1.drop 1).drop 1
          cases h4 : takeValues k [] r2 with
          | error f => rw [h4] at h; cases h
          | ok v =>
            rw [h4] at h
            simp only at h
            obtain ⟨b1, b2, b3⟩ := values_ok k [] r2 h4 n2 (by simp)
            cases h5 : takeSign 59 v.2 with
            | error f => rw [h5] at h; cases h
            | ok m =>
              rw [h5] at h
              have := Except.ok.inj h
              subst this
              refine ⟨by omega, a1, ?_, b2, ?_⟩
              · show v.1.length = k
                rw [b1]
                simp
              · show NamesOk m
                rw [taken_ok h5]
                exact b3.drop 1
theorem items_ok (k : Nat) : ∀ (n : Nat) (is : List Item) (r : Toks) {y : List Item}, takeItems k n is r = .ok y → NamesOk r → is.length ≤ 16 → (∀ i ∈ is, i.name.length ≤ 16 ∧ i.vs.length = k ∧ ∀ v ∈ i.vs, -1000 ≤ v ∧ v ≤ 1000) →
    y.length ≤ 16 ∧ (∀ i ∈ y, i.name.length ≤ 16 ∧ i.vs.length = k ∧ ∀ v ∈ i.vs, -1000 ≤ v ∧ v ≤ 1000)
  | 0, is, r, y, h, _, _, _ => by
    unfold takeItems at h
    cases h
  | n + 1, is, r, y, h, hn, hl, hi => by
    rw [items_turn] at h
    split at h
    · have := Except.ok.inj h
      subst this
      exact ⟨hl, hi⟩
    · cases h1 : itemStep k is r with
      | error f => rw [h1] at h; cases h
      | ok z =>
        rw [h1] at h
        simp only [Except.bind] at h
        obtain ⟨a, b, c, d, e⟩ := itemStep_ok h1 hn
        refine items_ok k n _ _ h e ?_ fun i hx => ?_
        · rw [List.length_append]
          show is.length + 1 ≤ 16
          omega
        · rcases List.mem_append.mp hx with h | h
          · exact hi i h
          · have : i = z.1 := by simpa using h
            rw [this]
            exact ⟨b, c, d⟩
/-- the whole, behind the tokens -/
def wholeStep (r : Toks) : Except Fault Sheet := (takeWord "measures" r).bind fun r => (takeMeasures (r.length + 1) [] r).bind fun x => (takeItems x.1.length (x.2.length + 1) [] x.2).map fun is => ⟨x.1, is⟩
theorem whole_wf {r : Toks} {s : Sheet} (h : wholeStep r = .ok s) (hn : NamesOk r) : WF s := by
  unfold wholeStep at h
  cases h1 : takeWord "measures" r with
  | error f => rw [h1] at h; cases h
  | ok r1 =>
    rw [h1] at h
    simp only [Except.bind] at h
    have n1 : NamesOk r1 := by rw [taken_ok h1]; exact hn.drop 1
    cases h2 : takeMeasures (r1.length + 1) [] r1 with
    | error f => rw [h2] at h; cases h
    | ok x =>
      rw [h2] at h
      simp only at h
      obtain ⟨a, b, c⟩ := measures_ok _ _ _ h2 n1 (by simp) (by simp)
      cases h3 : takeItems x.1.length (x.2.length + 1) [] x.2 with
      | error f => rw [h3] at h; cases h
      | ok is =>
        rw [h3] at h
        have := Except.ok.inj h
        subst this
        obtain ⟨d, e⟩ := items_ok _ _ _ _ h3 c (by simp) (by simp)
        exact ⟨a, d, fun i hi => (e i hi).2.1, fun i hi => (e i hi).2.2, fun m hm => Nat.le_trans (b m hm) (by decide), fun i hi => Nat.le_trans (e i hi).1 (by decide)⟩
theorem read_eq (b : Bytes) : Vaskya.read b = (VaskyBase.tokens b).bind wholeStep := rfl
theorem tokens_eq (l : List Int) : VaskyBase.tokens (bytesOf l) = if 4096 < l.length then .error ⟨1, 4096⟩ else L 0 (bytesOf l) := by
  unfold VaskyBase.tokens L
  rw [bytesOf_len]
  rfl
end Fm
set_option Elab.async false
set_option maxRecDepth 100000
set_option maxHeartbeats 4000000
/-! # the walk's own words -/
namespace Fw
open PySem PySem.Spec PyProof.Rows L2
open Evl (Ex Ev EvL EvU EvT EvA RV)
/-! ### defs under their names -/
section
variable {P : Program} {w : World} {K : PySem.W.Frag} {mg : Str → Option Value} {base : Heap}
/-- a def of the module as the top leaves it -/
structure Def (K : PySem.W.Frag) (mg : Str → Option Value) (x : Str) (st : Stmt) (ps : List Str) : Prop where
  ex : ∃ (f : Addr) (fd : FuncData), Fun K x x st f fd ∧ mg x = some (.ref f) ∧ Binds K fd ps []
/-- a method -/
structure DefM (K : PySem.W.Frag) (C : Addr) (m qual : Str) (st : Stmt) (ps : List Str) : Prop where
  ex : ∃ (f : Addr) (fd : FuncData), Fun K m qual st f fd ∧ Meth K C m f ∧ Binds K fd ps []
/-- a class's maker -/
structure DefI (K : PySem.W.Frag) (mg : Str → Option Value) (C : Addr) (x qual : Str) (st : Stmt) (ps : List Str) : Prop where
  ex : ∃ (f : Addr) (fd : FuncData), Fun K "__init__" qual st f fd ∧ Mk K C f ∧ mg x = some (.ref C) ∧ Binds K fd ps []
structure Cal (P : Program) (w : World) (K : PySem.W.Frag) (mg : Str → Option Value) (base : Heap) (CX : CXT) (k : Nat) (x : Str) (sp : Sp) : Prop where
  ex : ∃ (f : Addr) (fd : FuncData) (ps : List Str), FnOk P w K mg base CX k f fd ps sp ∧ mg x = some (.ref f) ∧ PySem.W.keepIn K (.ref f) = true ∧ Binds K fd ps []
structure Met (P : Program) (w : World) (K : PySem.W.Frag) (mg : Str → Option Value) (base : Heap) (CX : CXT) (k : Nat) (C : Addr) (m : Str) (sp : Sp) : Prop where
  ex : ∃ (f : Addr) (fd : FuncData) (ps : List Str), Meth K C m f ∧ FnOk P w K mg base CX k f fd ps sp ∧ Binds K fd ps []
structure Mak (P : Program) (w : World) (K : PySem.W.Frag) (mg : Str → Option Value) (base : Heap) (k : Nat) (x : Str) (C : Addr) (sp : Sp) : Prop where
  ex : ∃ (f : Addr) (fd : FuncData) (ps : List Str), Mk K C f ∧ FnOk P w K mg base CX0 k f fd ps sp ∧ mg x = some (.ref C) ∧ Binds K fd ps []
theorem cal_of {x : Str} {st : Stmt} {N ps : List Str} {k : Nat} {sp : Sp} (D : Def K mg x st ps) (S : FnScope N ps (defScope st)) (len : ∀ vs H Q E, sp vs H Q E → vs.length = ps.length)
    (hbody : ∀ (f : Addr) (cdv : Value) (A : Around) (outer : List Env) (s : Shared) (H : Hp) (vs : List V) (Q : VK) (E : XK), Room k (A.deeper (envOfC x (defScope st) s.heap.objs.size f cdv)) → sp vs H Q E →
      ∃ t, PSs (cxOf CX0 P w K mg base N x (defScope st) f cdv A outer s H E).nox (defBody st) t ∧ t { nx := fun _ H' => Q .non H', rt := Q } (start N vs) H) : Cal P w K mg base CX0 (k + 1) x sp := by
  obtain ⟨f, fd, F, hm, hb⟩ := D.ex
  exact ⟨f, fd, ps, F.ok S len (hbody f), hm, F.kp, hb⟩
theorem calX_of {x : Str} {st : Stmt} {N ps : List Str} {k : Nat} {sp : Sp} (D : Def K mg x st ps) (S : FnScope N ps (defScope st)) (len : ∀ vs H Q E, sp vs H Q E → vs.length = ps.length)
    (hbody : ∀ (f : Addr) (cdv : Value) (A : Around) (outer : List Env) (s : Shared) (H : Hp) (vs : List V) (Q : VK) (E : XK), Room k (A.deeper (envOfC x (defScope st) s.heap.objs.size f cdv)) → sp vs H Q E →
      ∃ t, PSs (cxOf (L2.CX P w) P w K mg base N x (defScope st) f cdv A outer s H E) (defBody st) t ∧ t { nx := fun _ H' => Q .non H', rt := Q } (start N vs) H) : Cal P w K mg base (L2.CX P w) (k + 1) x sp := by
  obtain ⟨f, fd, F, hm, hb⟩ := D.ex
  exact ⟨f, fd, ps, F.okX S len (hbody f), hm, F.kp, hb⟩
theorem met_of {C : Addr} {m qual : Str} {st : Stmt} {N ps : List Str} {k : Nat} {sp : Sp} (D : DefM K C m qual st ps) (S : FnScope N ps (defScope st)) (len : ∀ vs H Q E, sp vs H Q E → vs.length = ps.length)
    (hbody : ∀ (f : Addr) (cdv : Value) (A : Around) (outer : List Env) (s : Shared) (H : Hp) (vs : List V) (Q : VK) (E : XK), Room k (A.deeper (envOfC qual (defScope st) s.heap.objs.size f cdv)) → sp vs H Q E →
      ∃ t, PSs (cxOf CX0 P w K mg base N qual (defScope st) f cdv A outer s H E).nox (defBody st) t ∧ t { nx := fun _ H' => Q .non H', rt := Q } (start N vs) H) : Met P w K mg base CX0 (k + 1) C m sp := by
  obtain ⟨f, fd, F, hm, hb⟩ := D.ex
  exact ⟨f, fd, ps, hm, F.ok S len (hbody f), hb⟩
theorem metX_of {C : Addr} {m qual : Str} {st : Stmt} {N ps : List Str} {k : Nat} {sp : Sp} (D : DefM K C m qual st ps) (S : FnScope N ps (defScope st)) (len : ∀ vs H Q E, sp vs H Q E → vs.length = ps.length)
    (hbody : ∀ (f : Addr) (cdv : Value) (A : Around) (outer : List Env) (s : Shared) (H : Hp) (vs : List V) (Q : VK) (E : XK), Room k (A.deeper (envOfC qual (defScope st) s.heap.objs.size f cdv)) → sp vs H Q E →
      ∃ t, PSs (cxOf (L2.CX P w) P w K mg base N qual (defScope st) f cdv A outer s H E) (defBody st) t ∧ t { nx := fun _ H' => Q .non H', rt := Q } (start N vs) H) : Met P w K mg base (L2.CX P w) (k + 1) C m sp := by
  obtain ⟨f, fd, F, hm, hb⟩ := D.ex
  exact ⟨f, fd, ps, hm, F.okX S len (hbody f), hb⟩
theorem mak_of {C : Addr} {x qual : Str} {st : Stmt} {N ps : List Str} {k : Nat} {sp : Sp} (D : DefI K mg C x qual st ps) (S : FnScope N ps (defScope st)) (len : ∀ vs H Q E, sp vs H Q E → vs.length = ps.length)
    (hbody : ∀ (f : Addr) (cdv : Value) (A : Around) (outer : List Env) (s : Shared) (H : Hp) (vs : List V) (Q : VK) (E : XK), Room k (A.deeper (envOfC qual (defScope st) s.heap.objs.size f cdv)) → sp vs H Q E →
      ∃ t, PSs (cxOf CX0 P w K mg base N qual (defScope st) f cdv A outer s H E).nox (defBody st) t ∧ t { nx := fun _ H' => Q .non H', rt := Q } (start N vs) H) : Mak P w K mg base (k + 1) x C sp := by
  obtain ⟨f, fd, F, hmk, hm, hb⟩ := D.ex
  exact ⟨f, fd, ps, hmk, F.ok S len (hbody f), hm, hb⟩
end
section
variable {X : Cx} {CX : CXT} {k j : Nat} {C : Addr} {x m : Str} {sp : Sp} {E : XK} {p pos apos : Pos} {e o : Expr} {es : List Expr} {ta : TE} {t : TA}
theorem pe_c (c : Cal X.prog X.w X.K X.mg X.base CX k x sp) (hr : Room j X.A) (hx : Passes CX X E) (ha : PA X (e :: es) t) (hk : k ≤ j := by decide) (hg : Gl X x := by rfl)
    (hdb : (x == ("__debug__" : Str)) = false := by decide) (he : starEach (e :: es) X.env = (false, eval e X.env) :: starEach es X.env := by rfl) (hpl : (backTo pos (starEach es X.env)).any (·.1) = false := by rfl) :
    PE X (.Call (.Name x p) (e :: es) [] pos) (tCall sp [] E t) := by
  obtain ⟨f, fd, ps, F, hm, kp, b⟩ := c.ex
  exact pe_call F (hr.mono hk) hg hm kp b .nil hx ha hdb he hpl
theorem pe_cS {E : L2.St → XK} (c : Cal X.prog X.w X.K X.mg X.base CX k x sp) (hr : Room j X.A) (hx : ∀ σ, PassesAt CX X σ (E σ)) (ha : PA X (e :: es) t) (hk : k ≤ j := by decide) (hg : Gl X x := by rfl)
    (hdb : (x == ("__debug__" : Str)) = false := by decide) (he : starEach (e :: es) X.env = (false, eval e X.env) :: starEach es X.env := by rfl) (hpl : (backTo pos (starEach es X.env)).any (·.1) = false := by rfl) :
    PE X (.Call (.Name x p) (e :: es) [] pos) (tCallSD sp [] E t) := by
  obtain ⟨f, fd, ps, F, hm, kp, b⟩ := c.ex
  exact pe_callSD F (hr.mono hk) hg hm kp b .nil hx ha hdb he hpl
theorem pe_mk (c : Mak X.prog X.w X.K X.mg X.base k x C sp) (hr : Room j X.A) (ha : PA X (e :: es) t) (hk : k + 1 ≤ j := by decide) (hg : Gl X x := by rfl)
    (hdb : (x == ("__debug__" : Str)) = false := by decide) (he : starEach (e :: es) X.env = (false, eval e X.env) :: starEach es X.env := by rfl) (hpl : (backTo pos (starEach es X.env)).any (·.1) = false := by rfl) :
    PE X (.Call (.Name x p) (e :: es) [] pos) (tMake C sp [] E0 t) := by
  obtain ⟨f, fd, ps, M, F, hm, b⟩ := c.ex
  exact pe_make M F (hr.mono hk) hg hm b .nil pass0 ha hdb he hpl
theorem pe_mk0 (c : Mak X.prog X.w X.K X.mg X.base k x C sp) (hr : Room j X.A) (hk : k + 1 ≤ j := by decide) (hg : Gl X x := by rfl)
    (hdb : (x == ("__debug__" : Str)) = false := by decide) :
    PE X (.Call (.Name x p) [] [] pos) (tMake C sp [] E0 tNil) := by
  obtain ⟨f, fd, ps, M, F, hm, b⟩ := c.ex
  exact pe_make0 M F (hr.mono hk) hg hm b .nil pass0 hdb
theorem pe_mt {pl : Sem Bool} (hc : Cls X.K C) (c : Met X.prog X.w X.K X.mg X.base CX k C m sp) (hr : Room j X.A) (hx : Passes CX X E) (he : PE X o ta) (ha : PA X (e :: es) t) (hk : k ≤ j := by decide)
    (hst : starEach (e :: es) X.env = (false, eval e X.env) :: starEach es X.env := by rfl) (hpl : (backTo pos (starEach es X.env)).any (·.1) = false := by rfl)
    (ht : eval (.Call (.Attribute o m apos) (e :: es) [] pos) X.env = (do
      let ov ← eval o X.env
      standAt apos.atName
      let (f, first) ← holding [ov] (getMethod ov m pl)
      callWith pos f first (backTo pos (starEach (e :: es) X.env)) (backToKw pos (keywordEach [] X.env))) := by rfl) :
    PE X (.Call (.Attribute o m apos) (e :: es) [] pos) (tMeth C m sp [] E ta t) := by
  obtain ⟨f, fd, ps, hm, F, b⟩ := c.ex
  exact pe_meth (pl := pl) he hc hm F (hr.mono hk) b .nil hx ha hst hpl ht
theorem pe_mt0 {pl : Sem Bool} (hc : Cls X.K C) (c : Met X.prog X.w X.K X.mg X.base CX k C m sp) (hr : Room j X.A) (hx : Passes CX X E) (he : PE X o ta) (hk : k ≤ j := by decide)
    (ht : eval (.Call (.Attribute o m apos) [] [] pos) X.env = (do
      let ov ← eval o X.env
      standAt apos.atName
      let (f, first) ← holding [ov] (getMethod ov m pl)
      callWith pos f first (backTo pos (starEach [] X.env)) (backToKw pos (keywordEach [] X.env))) := by rfl) :
    PE X (.Call (.Attribute o m apos) [] [] pos) (tMeth C m sp [] E ta tNil) := by
  obtain ⟨f, fd, ps, hm, F, b⟩ := c.ex
  exact pe_meth0 (pl := pl) he hc hm F (hr.mono hk) b .nil hx ht
/-- a name of the module, by its value -/
theorem pe_gc {v : V} (h : ∃ u, X.mg x = some u ∧ RelV v u) (hg : Gl X x := by rfl) (hd : (x == ("__debug__" : Str)) = false := by decide) : PE X (.Name x pos) (tC v) := by
  obtain ⟨u, hm, r⟩ := h
  exact pe_glob hg hm r hd
/-- what leaves this def by its own way out -/
theorem pass_own (hs : X.stack = X.env :: X.outer := by rfl) (hf : X.env.frame = some X.env.locals := by rfl) (hex : X.ex = [] := by rfl) {E₁ : Value → Shared → Prop}
    (tk : Takes X fun cls d _ H => E cls d H) : Passes (L2.CX X.prog X.w) X E := passes_call tk fun _ _ _ _ h => h
end
end Fw
set_option Elab.async false
set_option maxRecDepth 100000
set_option maxHeartbeats 4000000
namespace Fw
open PySem PySem.Spec PyProof.Rows L2
open Evl (Ex Ev EvL EvU EvT EvA RV RetL RetV)
/-! ### data in the heap -/
inductive D where
  | i (z : Int) | b (c : Bool) | n | l (ds : List D) | t (ds : List D)
mutual
inductive Da (H : Hp) : V → D → Prop
  | i (z : Int) : Da H (.int z) (.i z)
  | b (c : Bool) : Da H (.bl c) (.b c)
  | n : Da H .non .n
  | l {p : Addr} {xs : List V} {ds : List D} : H p = some (.lst xs) → DaL H xs ds → Da H (.ref p) (.l ds)
  | t {p : Addr} {xs : List V} {ds : List D} : H p = some (.tup xs) → DaL H xs ds → Da H (.ref p) (.t ds)
inductive DaL (H : Hp) : List V → List D → Prop
  | nil : DaL H [] []
  | cons {v : V} {vs : List V} {d : D} {ds : List D} : Da H v d → DaL H vs ds → DaL H (v :: vs) (d :: ds)
end
mutual
theorem Da.ex {H H' : Hp} (e : Ex H H') : ∀ {v : V} {d : D}, Da H v d → Da H' v d
  | _, _, .i z => .i z
  | _, _, .b c => .b c
  | _, _, .n => .n
  | _, _, .l h q => .l (e _ _ h) (DaL.ex e q)
  | _, _, .t h q => .t (e _ _ h) (DaL.ex e q)
theorem DaL.ex {H H' : Hp} (e : Ex H H') : ∀ {vs : List V} {ds : List D}, DaL H vs ds → DaL H' vs ds
  | _, _, .nil => .nil
  | _, _, .cons a b => .cons (a.ex e) (DaL.ex e b)
end
theorem DaL.len {H : Hp} : ∀ {vs : List V} {ds : List D}, DaL H vs ds → vs.length = ds.length
  | _, _, .nil => rfl
  | _, _, .cons _ b => by rw [List.length_cons, List.length_cons, DaL.len b]
theorem DaL.get {H : Hp} : ∀ {vs : List V} {ds : List D} {i : Nat} {d : D}, DaL H vs ds → ds[i]? = some d → ∃ v, vs[i]? = some v ∧ Da H v d
  | _, _, _, _, .nil, e => by simp at e
  | _, _, 0, _, .cons a _, e => by
    have e' := Option.some.inj e
    subst e'
    exact ⟨_, rfl, a⟩
  | _, _, i + 1, d, .cons _ b, e => by
    obtain ⟨v, h1, h2⟩ := DaL.get (i := i) (d := d) b e
    exact ⟨v, h1, h2⟩
theorem DaL.getV {H : Hp} {vs : List V} {ds : List D} {i : Nat} {v : V} (h : DaL H vs ds) (e : vs[i]? = some v) : ∃ d, ds[i]? = some d ∧ Da H v d := by
  have hl := h.len
  have hi := (List.getElem?_eq_some_iff.mp e).1
  have hd : ds[i]? = some ds[i] := List.getElem?_eq_getElem (by omega)
  obtain ⟨u, h1, h2⟩ := h.get hd
  rw [e] at h1
  cases h1
  exact ⟨_, hd, h2⟩
theorem DaL.app {H : Hp} : ∀ {vs us : List V} {ds es : List D}, DaL H vs ds → DaL H us es → DaL H (vs ++ us) (ds ++ es)
  | _, _, _, _, .nil, q => q
  | _, _, _, _, .cons a b, q => .cons a (DaL.app b q)
theorem DaL.snoc {H : Hp} {vs : List V} {ds : List D} {v : V} {d : D} (h : DaL H vs ds) (a : Da H v d) : DaL H (vs ++ [v]) (ds ++ [d]) := h.app (.cons a .nil)
theorem DaL.take {H : Hp} : ∀ {vs : List V} {ds : List D} (n : Nat), DaL H vs ds → DaL H (vs.take n) (ds.take n)
  | _, _, 0, _ => .nil
  | _, _, _ + 1, .nil => .nil
  | _, _, n + 1, .cons a b => .cons a (DaL.take n b)
/-! plain lists of numbers -/
abbrev iL (ns : List Int) : List V := ns.map V.int
abbrev nz (us : List Nat) : List Int := us.map fun n : Nat => (n : Int)
abbrev nats (us : List Nat) : List V := iL (nz us)
def dI (ns : List Int) : D := .l (ns.map D.i)
abbrev dN (us : List Nat) : D := dI (nz us)
def dLL (ls : List (List Int)) : D := .l (ls.map dI)
abbrev dSets (ss : List (List Nat)) : D := dLL (ss.map nz)
def dB (bs : List Bool) : D := .l (bs.map D.b)
def dTk (t : Int × Int × Int) : D := .t [.i t.1, .i t.2.1, .i t.2.2]
def dTks (l : List (Int × Int × Int)) : D := .l (l.map dTk)
def dRow (x : List Nat × List Nat) : D := .t [dN x.1, dN x.2]
def dTab (t : List (List Nat × List Nat)) : D := .l (t.map dRow)
theorem daL_iL {H : Hp} : ∀ ns : List Int, DaL H (iL ns) (ns.map D.i)
  | [] => .nil
  | n :: r => .cons (.i n) (daL_iL r)
theorem iL_daL {H : Hp} : ∀ (ns : List Int) (xs : List V), DaL H xs (ns.map D.i) → xs = iL ns
  | [], xs, h => by cases h; rfl
  | n :: r, xs, h => by
    cases h with
    | cons a b =>
      cases a
      rw [iL_daL r _ b]
      rfl
theorem bls_daL {H : Hp} : ∀ (bs : List Bool) (xs : List V), DaL H xs (bs.map D.b) → xs = bs.map V.bl
  | [], xs, h => by cases h; rfl
  | n :: r, xs, h => by
    cases h with
    | cons a b =>
      cases a
      rw [bls_daL r _ b]
      rfl
theorem daL_bls {H : Hp} : ∀ bs : List Bool, DaL H (bs.map V.bl) (bs.map D.b)
  | [] => .nil
  | n :: r => .cons (.b n) (daL_bls r)
theorem da_dI {H : Hp} {p : Addr} {ns : List Int} (h : H p = some (.lst (iL ns))) : Da H (.ref p) (dI ns) := .l h (daL_iL ns)
theorem dI_da {H : Hp} {v : V} {ns : List Int} (h : Da H v (dI ns)) : ∃ p, v = .ref p ∧ H p = some (.lst (iL ns)) := by
  unfold dI at h
  cases h with
  | l h1 h2 =>
    have := iL_daL ns _ h2
    subst this
    exact ⟨_, rfl, h1⟩
theorem dB_da {H : Hp} {v : V} {bs : List Bool} (h : Da H v (dB bs)) : ∃ p, v = .ref p ∧ H p = some (.lst (bs.map V.bl)) := by
  unfold dB at h
  cases h with
  | l h1 h2 =>
    have := bls_daL bs _ h2
    subst this
    exact ⟨_, rfl, h1⟩
theorem dl_da {H : Hp} {v : V} {ds : List D} (h : Da H v (.l ds)) : ∃ p xs, v = .ref p ∧ H p = some (.lst xs) ∧ DaL H xs ds := by
  cases h with
  | l h1 h2 => exact ⟨_, _, rfl, h1, h2⟩
theorem dt_da {H : Hp} {v : V} {ds : List D} (h : Da H v (.t ds)) : ∃ p xs, v = .ref p ∧ H p = some (.tup xs) ∧ DaL H xs ds := by
  cases h with
  | t h1 h2 => exact ⟨_, _, rfl, h1, h2⟩
theorem di_da {H : Hp} {v : V} {z : Int} (h : Da H v (.i z)) : v = .int z := by cases h; rfl
theorem db_da {H : Hp} {v : V} {z : Bool} (h : Da H v (.b z)) : v = .bl z := by cases h; rfl
theorem da2 {H : Hp} {vs : List V} {d e : D} (h : DaL H vs [d, e]) : ∃ v u, vs = [v, u] ∧ Da H v d ∧ Da H u e := by
  cases h with
  | cons a h =>
    cases h with
    | cons b h =>
      cases h
      exact ⟨_, _, rfl, a, b⟩
theorem da3 {H : Hp} {vs : List V} {d e f : D} (h : DaL H vs [d, e, f]) : ∃ v u w, vs = [v, u, w] ∧ Da H v d ∧ Da H u e ∧ Da H w f := by
  cases h with
  | cons a h =>
    obtain ⟨u, w, rfl, b, c⟩ := da2 h
    exact ⟨_, _, _, rfl, a, b, c⟩
/-! ### heaps without an object; the new part of a heap -/
def rm (H : Hp) (q : Addr) : Hp := fun b => if b = q then none else H b
theorem rm_same {H : Hp} {q : Addr} : rm H q q = none := if_pos rfl
theorem rm_ne {H : Hp} {q b : Addr} (h : b ≠ q) : rm H q b = H b := if_neg h
theorem rm_sub {H : Hp} {q : Addr} : Ex (rm H q) H := fun b o e => by
  by_cases h : b = q
  · rw [h, rm_same] at e
    cases e
  · rw [rm_ne h] at e
    exact e
theorem rm_ex {H H' : Hp} {q : Addr} (e : Ex H H') : Ex (rm H q) (rm H' q) := fun b o h => by
  by_cases c : b = q
  · rw [c, rm_same] at h
    cases h
  · rw [rm_ne c] at h ⊢
    exact e b o h
theorem rm_upd {H : Hp} {q : Addr} {o : HO} : rm (upd H q o) q = rm H q := by
  funext b
  by_cases c : b = q
  · rw [c, rm_same, rm_same]
  · rw [rm_ne c, rm_ne c, upd_ne c]
/-- what never knew q lies in the part without q -/
theorem ex_rm {H H' : Hp} {q : Addr} (e : Ex H H') (h : H q = none) : Ex H (rm H' q) := fun b o hb => by
  rw [rm_ne (ne_of_none hb h)]
  exact e b o hb
theorem ex_upd_rm {H H' : Hp} {q : Addr} {o : HO} (e : Ex (rm H q) (rm H' q)) : Ex (rm H q) (upd H' q o) := fun b u hb => by
  by_cases c : b = q
  · rw [c, rm_same] at hb
    cases hb
  · rw [upd_ne c]
    have := e b u hb
    rw [rm_ne c] at this
    exact this
/-- the new part of H' over H -/
def nw (H H' : Hp) : Hp := fun b => if (H b).isSome then none else H' b
theorem nw_new {H H' : Hp} {b : Addr} (h : H b = none) : nw H H' b = H' b := by
  unfold nw
  rw [h]
  rfl
theorem nw_sub {H H' : Hp} : Ex (nw H H') H' := fun b o e => by
  unfold nw at e
  cases h : H b with
  | none => rw [h] at e; exact e
  | some u => rw [h] at e; cases e
theorem nw_ex {H H' H2 : Hp} (e : Ex H' H2) : Ex (nw H H') (nw H H2) := fun b o h => by
  unfold nw at h ⊢
  cases c : H b with
  | none =>
    rw [c] at h
    exact e b o h
  | some u => rw [c] at h; cases h
/-- new behind more is new behind less -/
theorem nw_back {H H1 H' : Hp} (e : Ex H H1) : Ex (nw H1 H') (nw H H') := fun b o h => by
  unfold nw at h ⊢
  cases c : H b with
  | none =>
    cases c1 : H1 b with
    | none => rw [c1] at h; exact h
    | some u => rw [c1] at h; cases h
  | some u =>
    rw [e b u c] at h
    cases h
theorem nw_rm {H H' : Hp} {q : Addr} {o : HO} (h : H q = some o) : Ex (nw H H') (rm H' q) := fun b u hb => by
  have hne : b ≠ q := fun c => by
    unfold nw at hb
    rw [c, h] at hb
    cases hb
  rw [rm_ne hne]
  exact nw_sub b u hb
theorem ex_new {H : Hp} {p : Addr} {o : HO} (h : H p = none) : Ex H (upd H p o) := Evl.Ex.new h
/-- all but S stands -/
def Kp (S : List Addr) (H H' : Hp) : Prop := ∀ b o, H b = some o → b ∉ S → H' b = some o
theorem Kp.refl (S : List Addr) (H : Hp) : Kp S H H := fun _ _ h _ => h
theorem Kp.trans {S : List Addr} {H H1 H2 : Hp} (a : Kp S H H1) (b : Kp S H1 H2) : Kp S H H2 := fun c o h n => b c o (a c o h n) n
theorem Kp.of {S : List Addr} {H H1 : Hp} (a : Ex H H1) : Kp S H H1 := fun c o h _ => a c o h
theorem Kp.mono {S S' : List Addr} {H H1 : Hp} (a : Kp S H H1) (h : ∀ b ∈ S, b ∈ S') : Kp S' H H1 := fun c o e n => a c o e fun m => n (h c m)
theorem Kp.up {S : List Addr} {H H1 : Hp} {q : Addr} {o : HO} (a : Kp S H H1) (h : q ∈ S) : Kp S H (upd H1 q o) := fun c u e n => by
  have hc : c ≠ q := fun z => n (by rw [z]; exact h)
  rw [upd_ne hc]
  exact a c u e n
/-- H without S -/
def hide (S : List Addr) (H : Hp) : Hp := fun b => if b ∈ S then none else H b
theorem hide_in {S : List Addr} {H : Hp} {b : Addr} (h : b ∈ S) : hide S H b = none := if_pos h
theorem hide_out {S : List Addr} {H : Hp} {b : Addr} (h : b ∉ S) : hide S H b = H b := if_neg h
theorem hide_sub {S : List Addr} {H : Hp} : Ex (hide S H) H := fun b o e => by
  by_cases c : b ∈ S
  · rw [hide_in c] at e; cases e
  · rw [hide_out c] at e; exact e
theorem Kp.hid {S : List Addr} {H H' : Hp} (k : Kp S H H') : Ex (Fw.hide S H) (Fw.hide S H') := fun b o e => by
  by_cases c : b ∈ S
  · rw [hide_in c] at e; cases e
  · rw [hide_out c] at e ⊢
    exact k b o e c
theorem hide_mono {S S' : List Addr} {H : Hp} (h : ∀ b ∈ S, b ∈ S') : Ex (Fw.hide S' H) (Fw.hide S H) := fun b o e => by
  by_cases c : b ∈ S'
  · rw [hide_in c] at e; cases e
  · rw [hide_out c] at e
    rw [hide_out fun m => c (h b m)]
    exact e
theorem hide_nil {H : Hp} : Fw.hide [] H = H := by
  funext b
  exact hide_out (by simp)
/-- a callee's new data lies outside S, where S was known -/
theorem nw_hide {S : List Addr} {H H' : Hp} (h : ∀ b ∈ S, H b ≠ none) : Ex (nw H H') (Fw.hide S H') := fun b o e => by
  have hn : b ∉ S := fun m => by
    unfold nw at e
    cases c : H b with
    | none => exact h b m c
    | some u => rw [c] at e; cases e
  rw [hide_out hn]
  exact nw_sub b o e
/-! ### what a def hands back -/
def RetD (d : D) (H : Hp) (Q : VK) : Prop := ∀ v H2, Ex H H2 → Da (nw H H2) v d → Q v H2
def RetW (d : D) (H : Hp) (Q : VK) : Prop := ∀ v H2, Ex H H2 → Da H2 v d → Q v H2
theorem sq {K : PySem.W.Frag} {H : Hp} {a : Addr} {xs : List V} (h : H a = some (.lst xs)) : SqL K H a xs := Or.inl (Or.inl h)
theorem st {K : PySem.W.Frag} {H : Hp} {a : Addr} {xs : List V} (h : H a = some (.tup xs)) : SqT K H a xs := Or.inl (Or.inl h)
theorem ite_b {c : Bool} {A B : Prop} (h1 : c = true → A) (h2 : c = false → B) : if c = true then A else B := by
  cases c with
  | true => exact h1 rfl
  | false => exact h2 rfl
theorem sz {n : Nat} (h : n ≤ 16000000) : n ≤ sizeLine := Nat.le_trans h (by decide)
theorem szl {n : Nat} (h : n ≤ 16000000) : n < sizeLine := Nat.lt_of_le_of_lt h (by decide)
/-! ### the exception -/
structure DefF (K : PySem.W.Frag) (C : Addr) (st : Stmt) (ps : List Str) : Prop where
  ex : ∃ (f : Addr) (fd : FuncData), Fun K "__init__" "ListFault.__init__" st f fd ∧ PySem.W.findIn K (.ref C) "__init__" = some (some (.ref f)) ∧ PySem.W.typeIn K (.ref f) = some (.type "function") ∧ Binds K fd ps []
structure Flt (P : Program) (w : World) (K : PySem.W.Frag) (mg : Str → Option Value) (base : Heap) (k : Nat) (C : Addr) (sp : Sp) : Prop where
  ex : ∃ (f : Addr) (fd : FuncData) (ps : List Str), PySem.W.findIn K (.ref C) "__init__" = some (some (.ref f)) ∧ PySem.W.typeIn K (.ref f) = some (.type "function") ∧ FnOk P w K mg base CX0 k f fd ps sp ∧ Binds K fd ps []
theorem flt_of {P : Program} {w : World} {K : PySem.W.Frag} {mg : Str → Option Value} {base : Heap} {C : Addr} {st : Stmt} {N ps : List Str} {k : Nat} {sp : Sp} (D : DefF K C st ps) (S : FnScope N ps (defScope st)) (len : ∀ vs H Q E, sp vs H Q E → vs.length = ps.length)
    (hbody : ∀ (f : Addr) (cdv : Value) (A : Around) (outer : List Env) (s : Shared) (H : Hp) (vs : List V) (Q : VK) (E : XK), Room k (A.deeper (envOfC "ListFault.__init__" (defScope st) s.heap.objs.size f cdv)) → sp vs H Q E →
      ∃ t, PSs (cxOf CX0 P w K mg base N "ListFault.__init__" (defScope st) f cdv A outer s H E).nox (defBody st) t ∧ t { nx := fun _ H' => Q .non H', rt := Q } (start N vs) H) : Flt P w K mg base (k + 1) C sp := by
  obtain ⟨f, fd, F, h1, h2, hb⟩ := D.ex
  exact ⟨f, fd, ps, h1, h2, F.ok S len (hbody f), hb⟩
/-! ### the text, by places (printed by gen.py) -/
def top (i : Nat) : Stmt := PySem.Challenge.pw_fewmeasures_s01_answers.main.body.getD i (.Pass ⟨0, 0, 0, 0⟩)
def lcScope : Expr → Scope
  | .ListComp _ _ s _ => s
  | _ => ⟨.function, [], false, false, []⟩
def retE (s : Stmt) (k : Nat) : Expr := match (defBody s).getD k (.Pass ⟨0, 0, 0, 0⟩) with
  | .Return (some e) _ => e
  | _ => .Constant .none 0 ⟨0, 0, 0, 0⟩
abbrev s_Held_init : Stmt := (inClass (top 1) 0)
abbrev N_Held_init : List Str := ["self", "measure_names", "ups", "item_names", "rows"]
theorem sc_Held_init : FnScope N_Held_init ["self", "measure_names", "ups", "item_names", "rows"] (defScope s_Held_init) := ⟨rfl, rfl, rfl, by decide +kernel, rfl, by decide +kernel, by decide +kernel⟩
abbrev s_Held_every_measure : Stmt := (inClass (top 1) 1)
abbrev N_Held_every_measure : List Str := ["self"]
theorem sc_Held_every_measure : FnScope N_Held_every_measure ["self"] (defScope s_Held_every_measure) := ⟨rfl, rfl, rfl, by decide +kernel, rfl, by decide +kernel, by decide +kernel⟩
abbrev s_Held_every_item : Stmt := (inClass (top 1) 2)
abbrev N_Held_every_item : List Str := ["self"]
theorem sc_Held_every_item : FnScope N_Held_every_item ["self"] (defScope s_Held_every_item) := ⟨rfl, rfl, rfl, by decide +kernel, rfl, by decide +kernel, by decide +kernel⟩
abbrev s_Held_lead : Stmt := (inClass (top 1) 3)
abbrev N_Held_lead : List Str := ["self", "first", "second", "measure", "gap"]
theorem sc_Held_lead : FnScope N_Held_lead ["self", "first", "second", "measure"] (defScope s_Held_lead) := ⟨rfl, rfl, rfl, by decide +kernel, rfl, by decide +kernel, by decide +kernel⟩
abbrev s_Held_beats : Stmt := (inClass (top 1) 4)
abbrev N_Held_beats : List Str := ["self", "first", "second", "measures", "better", "measure", "ahead"]
theorem sc_Held_beats : FnScope N_Held_beats ["self", "first", "second", "measures"] (defScope s_Held_beats) := ⟨rfl, rfl, rfl, by decide +kernel, rfl, by decide +kernel, by decide +kernel⟩
abbrev s_Held_beaten : Stmt := (inClass (top 1) 5)
abbrev N_Held_beaten : List Str := ["self", "item", "among", "measures", "other"]
theorem sc_Held_beaten : FnScope N_Held_beaten ["self", "item", "among", "measures"] (defScope s_Held_beaten) := ⟨rfl, rfl, rfl, by decide +kernel, rfl, by decide +kernel, by decide +kernel⟩
abbrev s_Held_unbeaten : Stmt := (inClass (top 1) 6)
abbrev N_Held_unbeaten : List Str := ["self", "among", "measures", "item"]
theorem sc_Held_unbeaten : FnScope N_Held_unbeaten ["self", "among", "measures"] (defScope s_Held_unbeaten) := ⟨rfl, rfl, rfl, by decide +kernel, rfl, by decide +kernel, by decide +kernel⟩
abbrev s_is_letter : Stmt := (top 12)
abbrev N_is_letter : List Str := ["byte"]
theorem sc_is_letter : FnScope N_is_letter ["byte"] (defScope s_is_letter) := ⟨rfl, rfl, rfl, by decide +kernel, rfl, by decide +kernel, by decide +kernel⟩
abbrev s_is_digit : Stmt := (top 13)
abbrev N_is_digit : List Str := ["byte"]
theorem sc_is_digit : FnScope N_is_digit ["byte"] (defScope s_is_digit) := ⟨rfl, rfl, rfl, by decide +kernel, rfl, by decide +kernel, by decide +kernel⟩
abbrev s_codes : Stmt := (top 14)
abbrev N_codes : List Str := ["word", "sign"]
theorem sc_codes : FnScope N_codes ["word"] (defScope s_codes) := ⟨rfl, rfl, rfl, by decide +kernel, rfl, by decide +kernel, by decide +kernel⟩
abbrev s_after_blanks : Stmt := (top 27)
abbrev N_after_blanks : List Str := ["text", "start", "in_remark", "place", "byte"]
theorem sc_after_blanks : FnScope N_after_blanks ["text", "start"] (defScope s_after_blanks) := ⟨rfl, rfl, rfl, by decide +kernel, rfl, by decide +kernel, by decide +kernel⟩
abbrev s_name_end : Stmt := (top 28)
abbrev N_name_end : List Str := ["text", "start", "place"]
theorem sc_name_end : FnScope N_name_end ["text", "start"] (defScope s_name_end) := ⟨rfl, rfl, rfl, by decide +kernel, rfl, by decide +kernel, by decide +kernel⟩
abbrev s_digits_end : Stmt := (top 29)
abbrev N_digits_end : List Str := ["text", "start", "place"]
theorem sc_digits_end : FnScope N_digits_end ["text", "start"] (defScope s_digits_end) := ⟨rfl, rfl, rfl, by decide +kernel, rfl, by decide +kernel, by decide +kernel⟩
abbrev s_name_kind : Stmt := (top 30)
abbrev N_name_kind : List Str := ["name"]
theorem sc_name_kind : FnScope N_name_kind ["name"] (defScope s_name_kind) := ⟨rfl, rfl, rfl, by decide +kernel, rfl, by decide +kernel, by decide +kernel⟩
abbrev s_number_of : Stmt := (top 31)
abbrev N_number_of : List Str := ["digits", "total", "byte"]
theorem sc_number_of : FnScope N_number_of ["digits"] (defScope s_number_of) := ⟨rfl, rfl, rfl, by decide +kernel, rfl, by decide +kernel, by decide +kernel⟩
abbrev s_number_kind : Stmt := (top 32)
abbrev N_number_kind : List Str := ["digits"]
theorem sc_number_kind : FnScope N_number_kind ["digits"] (defScope s_number_kind) := ⟨rfl, rfl, rfl, by decide +kernel, rfl, by decide +kernel, by decide +kernel⟩
abbrev s_token_at : Stmt := (top 33)
abbrev N_token_at : List Str := ["text", "place", "byte", "end"]
theorem sc_token_at : FnScope N_token_at ["text", "place"] (defScope s_token_at) := ⟨rfl, rfl, rfl, by decide +kernel, rfl, by decide +kernel, by decide +kernel⟩
abbrev s_read_tokens : Stmt := (top 34)
abbrev N_read_tokens : List Str := ["text", "found", "place", "token"]
theorem sc_read_tokens : FnScope N_read_tokens ["text"] (defScope s_read_tokens) := ⟨rfl, rfl, rfl, by decide +kernel, rfl, by decide +kernel, by decide +kernel⟩
abbrev s_ListFault_init : Stmt := (inClass (top 46) 0)
abbrev N_ListFault_init : List Str := ["self", "code", "place"]
theorem sc_ListFault_init : FnScope N_ListFault_init ["self", "code", "place"] (defScope s_ListFault_init) := ⟨rfl, rfl, rfl, by decide +kernel, rfl, by decide +kernel, by decide +kernel⟩
abbrev s_Cursor_init : Stmt := (inClass (top 47) 0)
abbrev N_Cursor_init : List Str := ["self", "text", "tokens"]
theorem sc_Cursor_init : FnScope N_Cursor_init ["self", "text", "tokens"] (defScope s_Cursor_init) := ⟨rfl, rfl, rfl, by decide +kernel, rfl, by decide +kernel, by decide +kernel⟩
abbrev s_Cursor_kind : Stmt := (inClass (top 47) 1)
abbrev N_Cursor_kind : List Str := ["self"]
theorem sc_Cursor_kind : FnScope N_Cursor_kind ["self"] (defScope s_Cursor_kind) := ⟨rfl, rfl, rfl, by decide +kernel, rfl, by decide +kernel, by decide +kernel⟩
abbrev s_Cursor_here : Stmt := (inClass (top 47) 2)
abbrev N_Cursor_here : List Str := ["self"]
theorem sc_Cursor_here : FnScope N_Cursor_here ["self"] (defScope s_Cursor_here) := ⟨rfl, rfl, rfl, by decide +kernel, rfl, by decide +kernel, by decide +kernel⟩
abbrev s_Cursor_spelled : Stmt := (inClass (top 47) 3)
abbrev N_Cursor_spelled : List Str := ["self", "token"]
theorem sc_Cursor_spelled : FnScope N_Cursor_spelled ["self"] (defScope s_Cursor_spelled) := ⟨rfl, rfl, rfl, by decide +kernel, rfl, by decide +kernel, by decide +kernel⟩
abbrev s_Cursor_need : Stmt := (inClass (top 47) 4)
abbrev N_Cursor_need : List Str := ["self", "kind"]
theorem sc_Cursor_need : FnScope N_Cursor_need ["self", "kind"] (defScope s_Cursor_need) := ⟨rfl, rfl, rfl, by decide +kernel, rfl, by decide +kernel, by decide +kernel⟩
abbrev s_Cursor_step : Stmt := (inClass (top 47) 5)
abbrev N_Cursor_step : List Str := ["self"]
theorem sc_Cursor_step : FnScope N_Cursor_step ["self"] (defScope s_Cursor_step) := ⟨rfl, rfl, rfl, by decide +kernel, rfl, by decide +kernel, by decide +kernel⟩
abbrev s_Cursor_take : Stmt := (inClass (top 47) 6)
abbrev N_Cursor_take : List Str := ["self", "kind"]
theorem sc_Cursor_take : FnScope N_Cursor_take ["self", "kind"] (defScope s_Cursor_take) := ⟨rfl, rfl, rfl, by decide +kernel, rfl, by decide +kernel, by decide +kernel⟩
abbrev s_read_name : Stmt := (top 48)
abbrev N_read_name : List Str := ["cursor", "earlier", "name"]
theorem sc_read_name : FnScope N_read_name ["cursor", "earlier"] (defScope s_read_name) := ⟨rfl, rfl, rfl, by decide +kernel, rfl, by decide +kernel, by decide +kernel⟩
abbrev s_read_direction : Stmt := (top 49)
abbrev N_read_direction : List Str := ["cursor"]
theorem sc_read_direction : FnScope N_read_direction ["cursor"] (defScope s_read_direction) := ⟨rfl, rfl, rfl, by decide +kernel, rfl, by decide +kernel, by decide +kernel⟩
abbrev s_read_measure : Stmt := (top 50)
abbrev N_read_measure : List Str := ["cursor", "names", "ups", "name"]
theorem sc_read_measure : FnScope N_read_measure ["cursor", "names", "ups"] (defScope s_read_measure) := ⟨rfl, rfl, rfl, by decide +kernel, rfl, by decide +kernel, by decide +kernel⟩
abbrev s_read_measures : Stmt := (top 51)
abbrev N_read_measures : List Str := ["cursor", "names", "ups"]
theorem sc_read_measures : FnScope N_read_measures ["cursor"] (defScope s_read_measures) := ⟨rfl, rfl, rfl, by decide +kernel, rfl, by decide +kernel, by decide +kernel⟩
abbrev s_read_value : Stmt := (top 52)
abbrev N_read_value : List Str := ["cursor", "negative", "number"]
theorem sc_read_value : FnScope N_read_value ["cursor"] (defScope s_read_value) := ⟨rfl, rfl, rfl, by decide +kernel, rfl, by decide +kernel, by decide +kernel⟩
abbrev s_read_row : Stmt := (top 53)
abbrev N_read_row : List Str := ["cursor", "many", "row", "turn"]
theorem sc_read_row : FnScope N_read_row ["cursor", "many"] (defScope s_read_row) := ⟨rfl, rfl, rfl, by decide +kernel, rfl, by decide +kernel, by decide +kernel⟩
abbrev s_read_item : Stmt := (top 54)
abbrev N_read_item : List Str := ["cursor", "many", "names", "rows", "name"]
theorem sc_read_item : FnScope N_read_item ["cursor", "many", "names", "rows"] (defScope s_read_item) := ⟨rfl, rfl, rfl, by decide +kernel, rfl, by decide +kernel, by decide +kernel⟩
abbrev s_read_whole : Stmt := (top 55)
abbrev N_read_whole : List Str := ["cursor", "measure_names", "ups", "item_names", "rows"]
theorem sc_read_whole : FnScope N_read_whole ["cursor"] (defScope s_read_whole) := ⟨rfl, rfl, rfl, by decide +kernel, rfl, by decide +kernel, by decide +kernel⟩
abbrev s_read_list : Stmt := (top 56)
abbrev N_read_list : List Str := ["text", "tokens", "wrong", "held", "fault"]
theorem sc_read_list : FnScope N_read_list ["text"] (defScope s_read_list) := ⟨rfl, rfl, rfl, by decide +kernel, rfl, by decide +kernel, by decide +kernel⟩
abbrev s_sets_of : Stmt := (top 58)
abbrev N_sets_of : List Str := ["many", "size", "found", "turn", "longer", "chosen", "start", "number"]
theorem sc_sets_of : FnScope N_sets_of ["many", "size"] (defScope s_sets_of) := ⟨rfl, rfl, rfl, by decide +kernel, rfl, by decide +kernel, by decide +kernel⟩
abbrev s_all_sets : Stmt := (top 59)
abbrev N_all_sets : List Str := ["many", "found", "size"]
theorem sc_all_sets : FnScope N_all_sets ["many"] (defScope s_all_sets) := ⟨rfl, rfl, rfl, by decide +kernel, rfl, by decide +kernel, by decide +kernel⟩
abbrev s_within : Stmt := (top 60)
abbrev N_within : List Str := ["inner", "outer", "number"]
theorem sc_within : FnScope N_within ["inner", "outer"] (defScope s_within) := ⟨rfl, rfl, rfl, by decide +kernel, rfl, by decide +kernel, by decide +kernel⟩
abbrev s_prey_of : Stmt := (top 62)
abbrev N_prey_of : List Str := ["held", "measures", "every", "item", "other"]
theorem sc_prey_of : FnScope N_prey_of ["held"] (defScope s_prey_of) := ⟨rfl, rfl, rfl, by decide +kernel, rfl, by decide +kernel, by decide +kernel⟩
abbrev s_beaten_together : Stmt := (top 63)
abbrev N_beaten_together : List Str := ["prey", "taken", "marks", "item", "other"]
theorem sc_beaten_together : FnScope N_beaten_together ["prey", "taken"] (defScope s_beaten_together) := ⟨rfl, rfl, rfl, by decide +kernel, rfl, by decide +kernel, by decide +kernel⟩
abbrev s_best_together : Stmt := (top 64)
abbrev N_best_together : List Str := ["prey", "many", "most", "best", "chosen", "count"]
theorem sc_best_together : FnScope N_best_together ["prey", "many"] (defScope s_best_together) := ⟨rfl, rfl, rfl, by decide +kernel, rfl, by decide +kernel, by decide +kernel⟩
abbrev s_next_step : Stmt := (top 65)
abbrev N_next_step : List Str := ["prey", "taken", "most", "best", "item", "count"]
theorem sc_next_step : FnScope N_next_step ["prey", "taken"] (defScope s_next_step) := ⟨rfl, rfl, rfl, by decide +kernel, rfl, by decide +kernel, by decide +kernel⟩
abbrev s_step_by_step : Stmt := (top 66)
abbrev N_step_by_step : List Str := ["prey", "many", "taken", "turn"]
theorem sc_step_by_step : FnScope N_step_by_step ["prey", "many"] (defScope s_step_by_step) := ⟨rfl, rfl, rfl, by decide +kernel, rfl, by decide +kernel, by decide +kernel⟩
abbrev s_joined : Stmt := (top 68)
abbrev N_joined : List Str := ["parts", "line", "at", "part"]
theorem sc_joined : FnScope N_joined ["parts"] (defScope s_joined) := ⟨rfl, rfl, rfl, by decide +kernel, rfl, by decide +kernel, by decide +kernel⟩
abbrev s_measure_part : Stmt := (top 69)
abbrev N_measure_part : List Str := ["name", "up"]
theorem sc_measure_part : FnScope N_measure_part ["name", "up"] (defScope s_measure_part) := ⟨rfl, rfl, rfl, by decide +kernel, rfl, by decide +kernel, by decide +kernel⟩
abbrev s_measures_line : Stmt := (top 70)
abbrev N_measures_line : List Str := ["held", "parts", "name", "up"]
theorem sc_measures_line : FnScope N_measures_line ["held"] (defScope s_measures_line) := ⟨rfl, rfl, rfl, by decide +kernel, rfl, by decide +kernel, by decide +kernel⟩
abbrev s_item_line : Stmt := (top 71)
abbrev N_item_line : List Str := ["name", "row", "parts", "value"]
theorem sc_item_line : FnScope N_item_line ["name", "row"] (defScope s_item_line) := ⟨rfl, rfl, rfl, by decide +kernel, rfl, by decide +kernel, by decide +kernel⟩
abbrev s_one_form : Stmt := (top 72)
abbrev N_one_form : List Str := ["held", "found", "name", "row"]
theorem sc_one_form : FnScope N_one_form ["held"] (defScope s_one_form) := ⟨rfl, rfl, rfl, by decide +kernel, rfl, by decide +kernel, by decide +kernel⟩
abbrev s_unbeaten_table : Stmt := (top 74)
abbrev N_unbeaten_table : List Str := ["held", "every", "chosen"]
theorem sc_unbeaten_table : FnScope N_unbeaten_table ["held"] (defScope s_unbeaten_table) := ⟨rfl, rfl, rfl, by decide +kernel, rfl, by decide +kernel, by decide +kernel⟩
abbrev s_unbeaten_by_smaller : Stmt := (top 75)
abbrev N_unbeaten_by_smaller : List Str := ["table", "chosen", "item", "other", "unbeaten"]
theorem sc_unbeaten_by_smaller : FnScope N_unbeaten_by_smaller ["table", "chosen", "item"] (defScope s_unbeaten_by_smaller) := ⟨rfl, rfl, rfl, by decide +kernel, rfl, by decide +kernel, by decide +kernel⟩
abbrev s_least_sets : Stmt := (top 76)
abbrev N_least_sets : List Str := ["table", "item", "chosen", "unbeaten"]
theorem sc_least_sets : FnScope N_least_sets ["table", "item"] (defScope s_least_sets) := ⟨rfl, rfl, rfl, by decide +kernel, rfl, by decide +kernel, by decide +kernel⟩
abbrev s_stored_items : Stmt := (top 77)
abbrev N_stored_items : List Str := ["table", "chosen", "unbeaten", "item"]
theorem sc_stored_items : FnScope N_stored_items ["table", "chosen", "unbeaten"] (defScope s_stored_items) := ⟨rfl, rfl, rfl, by decide +kernel, rfl, by decide +kernel, by decide +kernel⟩
abbrev s_stored_table : Stmt := (top 78)
abbrev N_stored_table : List Str := ["table", "chosen", "unbeaten"]
theorem sc_stored_table : FnScope N_stored_table ["table"] (defScope s_stored_table) := ⟨rfl, rfl, rfl, by decide +kernel, rfl, by decide +kernel, by decide +kernel⟩
abbrev s_how_many : Stmt := (top 79)
abbrev N_how_many : List Str := ["table", "chosen", "found"]
theorem sc_how_many : FnScope N_how_many ["table"] (defScope s_how_many) := ⟨rfl, rfl, rfl, by decide +kernel, rfl, by decide +kernel, by decide +kernel⟩
abbrev s_stored_within : Stmt := (top 80)
abbrev N_stored_within : List Str := ["stored", "measures", "item", "chosen", "found"]
theorem sc_stored_within : FnScope N_stored_within ["stored", "measures", "item"] (defScope s_stored_within) := ⟨rfl, rfl, rfl, by decide +kernel, rfl, by decide +kernel, by decide +kernel⟩
abbrev s_candidates : Stmt := (top 81)
abbrev N_candidates : List Str := ["held", "measures", "stored", "item"]
theorem sc_candidates : FnScope N_candidates ["held", "measures"] (defScope s_candidates) := ⟨rfl, rfl, rfl, by decide +kernel, rfl, by decide +kernel, by decide +kernel⟩
abbrev s_told : Stmt := (top 89)
abbrev N_told : List Str := ["numbers"]
theorem sc_told : FnScope N_told ["numbers"] (defScope s_told) := ⟨rfl, rfl, rfl, by decide +kernel, rfl, by decide +kernel, by decide +kernel⟩
abbrev s_right_measures : Stmt := (top 90)
abbrev N_right_measures : List Str := ["held", "measures", "seen", "measure"]
theorem sc_right_measures : FnScope N_right_measures ["held", "measures"] (defScope s_right_measures) := ⟨rfl, rfl, rfl, by decide +kernel, rfl, by decide +kernel, by decide +kernel⟩
abbrev s_tell_shown : Stmt := (top 91)
abbrev N_tell_shown : List Str := ["held"]
theorem sc_tell_shown : FnScope N_tell_shown ["held"] (defScope s_tell_shown) := ⟨rfl, rfl, rfl, by decide +kernel, rfl, by decide +kernel, by decide +kernel⟩
abbrev s_tell_sub : Stmt := (top 92)
abbrev N_tell_sub : List Str := ["held", "measures"]
theorem sc_tell_sub : FnScope N_tell_sub ["held", "measures"] (defScope s_tell_sub) := ⟨rfl, rfl, rfl, by decide +kernel, rfl, by decide +kernel, by decide +kernel⟩
abbrev s_tell_cube : Stmt := (top 93)
abbrev N_tell_cube : List Str := ["held", "table", "stored", "answer", "chosen", "found"]
theorem sc_tell_cube : FnScope N_tell_cube ["held"] (defScope s_tell_cube) := ⟨rfl, rfl, rfl, by decide +kernel, rfl, by decide +kernel, by decide +kernel⟩
abbrev s_tell_least : Stmt := (top 94)
abbrev N_tell_least : List Str := ["held", "item", "table", "least", "answer", "chosen", "unbeaten"]
theorem sc_tell_least : FnScope N_tell_least ["held", "item"] (defScope s_tell_least) := ⟨rfl, rfl, rfl, by decide +kernel, rfl, by decide +kernel, by decide +kernel⟩
abbrev s_in_bounds : Stmt := (top 95)
abbrev N_in_bounds : List Str := ["row", "low", "high", "value", "least", "greatest"]
theorem sc_in_bounds : FnScope N_in_bounds ["row", "low", "high"] (defScope s_in_bounds) := ⟨rfl, rfl, rfl, by decide +kernel, rfl, by decide +kernel, by decide +kernel⟩
abbrev s_tell_bounds : Stmt := (top 96)
abbrev N_tell_bounds : List Str := ["held", "low", "high", "inside", "item"]
theorem sc_tell_bounds : FnScope N_tell_bounds ["held", "low", "high"] (defScope s_tell_bounds) := ⟨rfl, rfl, rfl, by decide +kernel, rfl, by decide +kernel, by decide +kernel⟩
abbrev s_right_groups : Stmt := (top 97)
abbrev N_right_groups : List Str := ["held", "groups", "group"]
theorem sc_right_groups : FnScope N_right_groups ["held", "groups"] (defScope s_right_groups) := ⟨rfl, rfl, rfl, by decide +kernel, rfl, by decide +kernel, by decide +kernel⟩
abbrev s_tell_groups : Stmt := (top 98)
abbrev N_tell_groups : List Str := ["held", "groups", "measures", "count", "answer", "bests", "group", "members", "best", "item"]
theorem sc_tell_groups : FnScope N_tell_groups ["held", "groups"] (defScope s_tell_groups) := ⟨rfl, rfl, rfl, by decide +kernel, rfl, by decide +kernel, by decide +kernel⟩
abbrev s_tell_cover : Stmt := (top 99)
abbrev N_tell_cover : List Str := ["held", "many", "prey", "most", "best", "stepped", "taken"]
theorem sc_tell_cover : FnScope N_tell_cover ["held", "many"] (defScope s_tell_cover) := ⟨rfl, rfl, rfl, by decide +kernel, rfl, by decide +kernel, by decide +kernel⟩
abbrev s_tell_ask : Stmt := (top 100)
abbrev N_tell_ask : List Str := ["held", "measures", "found"]
theorem sc_tell_ask : FnScope N_tell_ask ["held", "measures"] (defScope s_tell_ask) := ⟨rfl, rfl, rfl, by decide +kernel, rfl, by decide +kernel, by decide +kernel⟩
abbrev s_Desk_init : Stmt := (inClass (top 111) 0)
abbrev N_Desk_init : List Str := ["self"]
theorem sc_Desk_init : FnScope N_Desk_init ["self"] (defScope s_Desk_init) := ⟨rfl, rfl, rfl, by decide +kernel, rfl, by decide +kernel, by decide +kernel⟩
abbrev s_Desk_load : Stmt := (inClass (top 111) 1)
abbrev N_Desk_load : List Str := ["self", "text", "code", "place", "held"]
theorem sc_Desk_load : FnScope N_Desk_load ["self", "text"] (defScope s_Desk_load) := ⟨rfl, rfl, rfl, by decide +kernel, rfl, by decide +kernel, by decide +kernel⟩
abbrev s_Desk_answer : Stmt := (inClass (top 111) 2)
abbrev N_Desk_answer : List Str := ["self", "call", "numbers", "rows"]
theorem sc_Desk_answer : FnScope N_Desk_answer ["self", "call", "numbers", "rows"] (defScope s_Desk_answer) := ⟨rfl, rfl, rfl, by decide +kernel, rfl, by decide +kernel, by decide +kernel⟩
abbrev s_tell : Stmt := (top 112)
abbrev N_tell : List Str := ["held", "call", "numbers", "rows"]
theorem sc_tell : FnScope N_tell ["held", "call", "numbers", "rows"] (defScope s_tell) := ⟨rfl, rfl, rfl, by decide +kernel, rfl, by decide +kernel, by decide +kernel⟩
abbrev s_read_rows : Stmt := (top 116)
abbrev N_read_rows : List Str := ["calls", "start", "many", "rows", "at", "turn", "end"]
theorem sc_read_rows : FnScope N_read_rows ["calls", "start", "many"] (defScope s_read_rows) := ⟨rfl, rfl, rfl, by decide +kernel, rfl, by decide +kernel, by decide +kernel⟩
abbrev s_answers : Stmt := (top 117)
abbrev N_answers : List Str := ["calls", "desk", "given", "at", "call", "behind", "numbers", "rows", "answer"]
theorem sc_answers : FnScope N_answers ["calls"] (defScope s_answers) := ⟨rfl, rfl, rfl, by decide +kernel, rfl, by decide +kernel, by decide +kernel⟩
/-- the addresses of the classes and of the written tuples -/
structure Ads where
  held : Addr
  cursor : Addr
  desk : Addr
  fault : Addr
  blanks : Addr
  signs : Addr
  manyN : Addr
  manyR : Addr
/-- what the top leaves -/
structure Txt (K : PySem.W.Frag) (mg : Str → Option Value) (a : Ads) : Prop where
  cl_held : Cls K a.held
  cl_cursor : Cls K a.cursor
  cl_desk : Cls K a.desk
  na_held_measure_names : NoAttr K a.held "measure_names"
  na_held_ups : NoAttr K a.held "ups"
  na_held_item_names : NoAttr K a.held "item_names"
  na_held_rows : NoAttr K a.held "rows"
  na_cursor_text : NoAttr K a.cursor "text"
  na_cursor_tokens : NoAttr K a.cursor "tokens"
  na_cursor_at : NoAttr K a.cursor "at"
  na_desk_held : NoAttr K a.desk "held"
  oex : OexC K a.fault
  xf : XfC K a.fault
  nf_code : PySem.W.findIn K (.ref a.fault) "code" = some none
  nf_place : PySem.W.findIn K (.ref a.fault) "place" = some none
  gf : mg "ListFault" = some (.ref a.fault)
  ef : PySem.W.exmOne K (.ref a.fault) (.ref a.fault) = some true
  d_Held_init : DefI K mg a.held "Held" "Held.__init__" s_Held_init ["self", "measure_names", "ups", "item_names", "rows"]
  d_Held_every_measure : DefM K a.held "every_measure" "Held.every_measure" s_Held_every_measure ["self"]
  d_Held_every_item : DefM K a.held "every_item" "Held.every_item" s_Held_every_item ["self"]
  d_Held_lead : DefM K a.held "lead" "Held.lead" s_Held_lead ["self", "first", "second", "measure"]
  d_Held_beats : DefM K a.held "beats" "Held.beats" s_Held_beats ["self", "first", "second", "measures"]
  d_Held_beaten : DefM K a.held "beaten" "Held.beaten" s_Held_beaten ["self", "item", "among", "measures"]
  d_Held_unbeaten : DefM K a.held "unbeaten" "Held.unbeaten" s_Held_unbeaten ["self", "among", "measures"]
  d_is_letter : Def K mg "is_letter" s_is_letter ["byte"]
  d_is_digit : Def K mg "is_digit" s_is_digit ["byte"]
  d_codes : Def K mg "codes" s_codes ["word"]
  d_after_blanks : Def K mg "after_blanks" s_after_blanks ["text", "start"]
  d_name_end : Def K mg "name_end" s_name_end ["text", "start"]
  d_digits_end : Def K mg "digits_end" s_digits_end ["text", "start"]
  d_name_kind : Def K mg "name_kind" s_name_kind ["name"]
  d_number_of : Def K mg "number_of" s_number_of ["digits"]
  d_number_kind : Def K mg "number_kind" s_number_kind ["digits"]
  d_token_at : Def K mg "token_at" s_token_at ["text", "place"]
  d_read_tokens : Def K mg "read_tokens" s_read_tokens ["text"]
  d_ListFault_init : DefF K a.fault s_ListFault_init ["self", "code", "place"]
  d_Cursor_init : DefI K mg a.cursor "Cursor" "Cursor.__init__" s_Cursor_init ["self", "text", "tokens"]
  d_Cursor_kind : DefM K a.cursor "kind" "Cursor.kind" s_Cursor_kind ["self"]
  d_Cursor_here : DefM K a.cursor "here" "Cursor.here" s_Cursor_here ["self"]
  d_Cursor_spelled : DefM K a.cursor "spelled" "Cursor.spelled" s_Cursor_spelled ["self"]
  d_Cursor_need : DefM K a.cursor "need" "Cursor.need" s_Cursor_need ["self", "kind"]
  d_Cursor_step : DefM K a.cursor "step" "Cursor.step" s_Cursor_step ["self"]
  d_Cursor_take : DefM K a.cursor "take" "Cursor.take" s_Cursor_take ["self", "kind"]
  d_read_name : Def K mg "read_name" s_read_name ["cursor", "earlier"]
  d_read_direction : Def K mg "read_direction" s_read_direction ["cursor"]
  d_read_measure : Def K mg "read_measure" s_read_measure ["cursor", "names", "ups"]
  d_read_measures : Def K mg "read_measures" s_read_measures ["cursor"]
  d_read_value : Def K mg "read_value" s_read_value ["cursor"]
  d_read_row : Def K mg "read_row" s_read_row ["cursor", "many"]
  d_read_item : Def K mg "read_item" s_read_item ["cursor", "many", "names", "rows"]
  d_read_whole : Def K mg "read_whole" s_read_whole ["cursor"]
  d_read_list : Def K mg "read_list" s_read_list ["text"]
  d_sets_of : Def K mg "sets_of" s_sets_of ["many", "size"]
  d_all_sets : Def K mg "all_sets" s_all_sets ["many"]
  d_within : Def K mg "within" s_within ["inner", "outer"]
  d_prey_of : Def K mg "prey_of" s_prey_of ["held"]
  d_beaten_together : Def K mg "beaten_together" s_beaten_together ["prey", "taken"]
  d_best_together : Def K mg "best_together" s_best_together ["prey", "many"]
  d_next_step : Def K mg "next_step" s_next_step ["prey", "taken"]
  d_step_by_step : Def K mg "step_by_step" s_step_by_step ["prey", "many"]
  d_joined : Def K mg "joined" s_joined ["parts"]
  d_measure_part : Def K mg "measure_part" s_measure_part ["name", "up"]
  d_measures_line : Def K mg "measures_line" s_measures_line ["held"]
  d_item_line : Def K mg "item_line" s_item_line ["name", "row"]
  d_one_form : Def K mg "one_form" s_one_form ["held"]
  d_unbeaten_table : Def K mg "unbeaten_table" s_unbeaten_table ["held"]
  d_unbeaten_by_smaller : Def K mg "unbeaten_by_smaller" s_unbeaten_by_smaller ["table", "chosen", "item"]
  d_least_sets : Def K mg "least_sets" s_least_sets ["table", "item"]
  d_stored_items : Def K mg "stored_items" s_stored_items ["table", "chosen", "unbeaten"]
  d_stored_table : Def K mg "stored_table" s_stored_table ["table"]
  d_how_many : Def K mg "how_many" s_how_many ["table"]
  d_stored_within : Def K mg "stored_within" s_stored_within ["stored", "measures", "item"]
  d_candidates : Def K mg "candidates" s_candidates ["held", "measures"]
  d_told : Def K mg "told" s_told ["numbers"]
  d_right_measures : Def K mg "right_measures" s_right_measures ["held", "measures"]
  d_tell_shown : Def K mg "tell_shown" s_tell_shown ["held"]
  d_tell_sub : Def K mg "tell_sub" s_tell_sub ["held", "measures"]
  d_tell_cube : Def K mg "tell_cube" s_tell_cube ["held"]
  d_tell_least : Def K mg "tell_least" s_tell_least ["held", "item"]
  d_in_bounds : Def K mg "in_bounds" s_in_bounds ["row", "low", "high"]
  d_tell_bounds : Def K mg "tell_bounds" s_tell_bounds ["held", "low", "high"]
  d_right_groups : Def K mg "right_groups" s_right_groups ["held", "groups"]
  d_tell_groups : Def K mg "tell_groups" s_tell_groups ["held", "groups"]
  d_tell_cover : Def K mg "tell_cover" s_tell_cover ["held", "many"]
  d_tell_ask : Def K mg "tell_ask" s_tell_ask ["held", "measures"]
  d_Desk_init : DefI K mg a.desk "Desk" "Desk.__init__" s_Desk_init ["self"]
  d_Desk_load : DefM K a.desk "load" "Desk.load" s_Desk_load ["self", "text"]
  d_Desk_answer : DefM K a.desk "answer" "Desk.answer" s_Desk_answer ["self", "call", "numbers", "rows"]
  d_tell : Def K mg "tell" s_tell ["held", "call", "numbers", "rows"]
  d_read_rows : Def K mg "read_rows" s_read_rows ["calls", "start", "many"]
  d_answers : Def K mg "answers" s_answers ["calls"]
  g_BLANKS : ∃ u, mg "BLANKS" = some u ∧ RelV (.ref a.blanks) u
  t_BLANKS : ∀ H : Hp, SqT K H a.blanks [.int 32, .int 9, .int 10]
  g_SIGNS : ∃ u, mg "SIGNS" = some u ∧ RelV (.ref a.signs) u
  t_SIGNS : ∀ H : Hp, SqT K H a.signs [.int 44, .int 58, .int 59, .int 45]
  g_COMMA : ∃ u, mg "COMMA" = some u ∧ RelV (.int (44)) u
  g_COLON : ∃ u, mg "COLON" = some u ∧ RelV (.int (58)) u
  g_SEMICOLON : ∃ u, mg "SEMICOLON" = some u ∧ RelV (.int (59)) u
  g_DASH : ∃ u, mg "DASH" = some u ∧ RelV (.int (45)) u
  g_REMARK : ∃ u, mg "REMARK" = some u ∧ RelV (.int (35)) u
  g_LINE_END : ∃ u, mg "LINE_END" = some u ∧ RelV (.int (10)) u
  g_ZERO : ∃ u, mg "ZERO" = some u ∧ RelV (.int (48)) u
  g_END : ∃ u, mg "END" = some u ∧ RelV (.int (0)) u
  g_NAME : ∃ u, mg "NAME" = some u ∧ RelV (.int (1)) u
  g_NUMBER : ∃ u, mg "NUMBER" = some u ∧ RelV (.int (2)) u
  g_MEASURES : ∃ u, mg "MEASURES" = some u ∧ RelV (.int (3)) u
  g_UP : ∃ u, mg "UP" = some u ∧ RelV (.int (4)) u
  g_DOWN : ∃ u, mg "DOWN" = some u ∧ RelV (.int (5)) u
  g_ITEM : ∃ u, mg "ITEM" = some u ∧ RelV (.int (6)) u
  g_WRONG : ∃ u, mg "WRONG" = some u ∧ RelV (.int (7)) u
  g_LONGEST_NAME : ∃ u, mg "LONGEST_NAME" = some u ∧ RelV (.int (16)) u
  g_MOST_DIGITS : ∃ u, mg "MOST_DIGITS" = some u ∧ RelV (.int (10)) u
  g_GREATEST_NUMBER : ∃ u, mg "GREATEST_NUMBER" = some u ∧ RelV (.int (1000000000)) u
  g_MOST_BYTES : ∃ u, mg "MOST_BYTES" = some u ∧ RelV (.int (4096)) u
  g_MOST_MEASURES : ∃ u, mg "MOST_MEASURES" = some u ∧ RelV (.int (4)) u
  g_MOST_ITEMS : ∃ u, mg "MOST_ITEMS" = some u ∧ RelV (.int (16)) u
  g_GREATEST_VALUE : ∃ u, mg "GREATEST_VALUE" = some u ∧ RelV (.int (1000)) u
  g_TOO_LONG : ∃ u, mg "TOO_LONG" = some u ∧ RelV (.int (1)) u
  g_NO_TOKEN : ∃ u, mg "NO_TOKEN" = some u ∧ RelV (.int (2)) u
  g_NOT_ALLOWED : ∃ u, mg "NOT_ALLOWED" = some u ∧ RelV (.int (3)) u
  g_TOO_MANY : ∃ u, mg "TOO_MANY" = some u ∧ RelV (.int (4)) u
  g_NAME_TWICE : ∃ u, mg "NAME_TWICE" = some u ∧ RelV (.int (5)) u
  g_TOO_GREAT : ∃ u, mg "TOO_GREAT" = some u ∧ RelV (.int (7)) u
  g_NO_ITEM : ∃ u, mg "NO_ITEM" = some u ∧ RelV (.int (-2)) u
  g_WRONG_MEASURES : ∃ u, mg "WRONG_MEASURES" = some u ∧ RelV (.int (-3)) u
  g_WRONG_ROWS : ∃ u, mg "WRONG_ROWS" = some u ∧ RelV (.int (-4)) u
  g_WRONG_MANY : ∃ u, mg "WRONG_MANY" = some u ∧ RelV (.int (-5)) u
  g_GROUPS_telling : ∃ u, mg "GROUPS_telling" = some u ∧ RelV (.int (10)) u
  g_MOST_TAKEN : ∃ u, mg "MOST_TAKEN" = some u ∧ RelV (.int (4)) u
  g_NO_LIST : ∃ u, mg "NO_LIST" = some u ∧ RelV (.int (-1)) u
  g_LOAD : ∃ u, mg "LOAD" = some u ∧ RelV (.int (0)) u
  g_SHOWN : ∃ u, mg "SHOWN" = some u ∧ RelV (.int (1)) u
  g_SUB : ∃ u, mg "SUB" = some u ∧ RelV (.int (2)) u
  g_CUBE : ∃ u, mg "CUBE" = some u ∧ RelV (.int (3)) u
  g_LEAST : ∃ u, mg "LEAST" = some u ∧ RelV (.int (4)) u
  g_BOUNDS : ∃ u, mg "BOUNDS" = some u ∧ RelV (.int (5)) u
  g_GROUPS_desk : ∃ u, mg "GROUPS_desk" = some u ∧ RelV (.int (6)) u
  g_COVER : ∃ u, mg "COVER" = some u ∧ RelV (.int (7)) u
  g_MANY_NUMBERS : ∃ u, mg "MANY_NUMBERS" = some u ∧ RelV (.ref a.manyN) u
  t_MANY_NUMBERS : ∀ H : Hp, SqT K H a.manyN [.int 0, .int 0, .int 0, .int 0, .int 1, .int 0, .int 0, .int 1, .int 0]
  g_MANY_ROWS : ∃ u, mg "MANY_ROWS" = some u ∧ RelV (.ref a.manyR) u
  t_MANY_ROWS : ∀ H : Hp, SqT K H a.manyR [.int 1, .int 0, .int 1, .int 0, .int 0, .int 2, .int 1, .int 0, .int 1]
  b_len : mg "len" = none
  b_range : mg "range" = none
  b_list : mg "list" = none
  b_ord : mg "ord" = none
  b_str : mg "str" = none
  b_sum : mg "sum" = none
  b_sorted : mg "sorted" = none
  b_zip : mg "zip" = none
  b_enumerate : mg "enumerate" = none
section
variable {X : Cx} {k j : Nat} {a : Ads} {sp : Sp} {p pos : Pos} {e : Expr} {es : List Expr} {ta : TA}
theorem pmk_fault (T : Txt X.K X.mg a) (c : Flt X.prog X.w X.K X.mg X.base k a.fault sp) (hr : Room j X.A) (ha : PA X (e :: es) ta) (hk : k + 1 ≤ j := by decide) (hg : Gl X "ListFault" := by rfl)
    (he : starEach (e :: es) X.env = (false, eval e X.env) :: starEach es X.env := by rfl) (hpl : (backTo pos (starEach es X.env)).any (·.1) = false := by rfl) :
    PMk X (.Call (.Name "ListFault" p) (e :: es) [] pos) (tMkO a.fault sp [] ta) := by
  obtain ⟨f, fd, ps, h1, h2, F, b⟩ := c.ex
  exact pmk_oex T.oex h1 h2 F (hr.mono hk) b .nil pass0 hg T.gf ha (by decide) he hpl
end
end Fw
set_option Elab.async false
set_option maxRecDepth 100000
set_option maxHeartbeats 4000000
namespace Fm
open Vaskya (Sheet Measure Item)
theorem G_rows {s : Sheet} {i m : Nat} {it : Item} {v : Int} {me : Measure} (hi : s.items[i]? = some it) (hv : it.vs[m]? = some v) (hm : s.ms[m]? = some me) : G (Vaskya.rows s) i m = if me.up = true then v else -v := by
  have e1 : (Vaskya.rows s).getD i [] = Vaskya.goodOf s.ms it.vs := by
    unfold Vaskya.rows
    rw [List.getD_eq_getElem?_getD, List.getElem?_map, hi]
    rfl
  unfold G
  rw [e1]
  unfold Vaskya.goodOf
  rw [List.getD_eq_getElem?_getD, List.getElem?_map]
  have e : (s.ms.zip it.vs)[m]? = some (me, v) := by
    rw [List.getElem?_zip_eq_some]
    exact ⟨hm, hv⟩
  rw [e] <;> rfl
theorem rows_len (s : Sheet) : (Vaskya.rows s).length = s.items.length := List.length_map ..
theorem rows_wide {s : Sheet} (w : WF s) : Wide (Vaskya.rows s) s.ms.length := by
  intro r hr
  unfold Vaskya.rows at hr
  rw [List.mem_map] at hr
  obtain ⟨i, hi, rfl⟩ := hr
  unfold Vaskya.goodOf
  rw [List.length_map, List.length_zip, w.rows i hi, Nat.min_self]
/-- lead -/
def leadM (s : Sheet) (i j m : Nat) : Int := G (Vaskya.rows s) i m - G (Vaskya.rows s) j m
/-- beats' loop: what stands after the measures gone through -/
def worse (s : Sheet) (i j : Nat) (us : List Nat) : Bool := us.any fun m => decide (leadM s i j m < 0)
def more (s : Sheet) (i j : Nat) (us : List Nat) : Bool := us.any fun m => decide (0 < leadM s i j m)
theorem btL_is (s : Sheet) (i j : Nat) (us : List Nat) : btL (G (Vaskya.rows s) i) (G (Vaskya.rows s) j) us = (!worse s i j us && more s i j us) := by
  unfold btL worse more leadM
  congr 1
  · rw [Bool.eq_iff_iff]
    simp only [List.all_eq_true, Bool.not_eq_true', List.any_eq_false, decide_eq_true_eq]
    exact ⟨fun h m hm => by have := h m hm; omega, fun h m hm => by have := h m hm; omega⟩
  · rw [Bool.eq_iff_iff]
    simp only [List.any_eq_true, decide_eq_true_eq]
    exact ⟨fun ⟨m, hm, h⟩ => ⟨m, hm, by omega⟩, fun ⟨m, hm, h⟩ => ⟨m, hm, by omega⟩⟩
/-- beaten -/
def beatenM (l : List (List Int)) (u : List Nat) (among : List Nat) (i : Nat) : Bool := among.any fun j => btL (G l j) (G l i) u
theorem take_more {α : Type} : ∀ {l : List α} {i : Nat} {x : α}, l[i]? = some x → l.take (i + 1) = l.take i ++ [x]
  | [], i, x, h => by simp at h
  | a :: l, 0, x, h => by
    have e : a = x := Option.some.inj h
    subst e
    rfl
  | a :: l, i + 1, x, h => by
    have ih := take_more (l := l) (i := i) (x := x) h
    show a :: l.take (i + 1) = a :: l.take i ++ [x]
    rw [ih]
    rfl
theorem any_snoc {α : Type} (f : α → Bool) (l : List α) (x : α) : (l ++ [x]).any f = (l.any f || f x) := by simp
theorem any_false_take {α : Type} {f : α → Bool} {l : List α} {i : Nat} {x : α} (h : l[i]? = some x) (hf : f x = true) : l.any f = true := List.any_eq_true.mpr ⟨x, List.mem_of_getElem? h, hf⟩
end Fm
namespace Fw
open PySem PySem.Spec PyProof.Rows L2 Fm
open Vaskya (Sheet Measure Item)
open Evl (Ex Ev EvL EvU EvT EvA RV RetL RetV)
theorem lk_here {k : Str} {v : V} {r : List (Str × V)} : List.lookup k ((k, v) :: r) = some v := by
  have e : (k == k) = true := beq_self_eq_true k
  simp only [List.lookup, e]
theorem lk_past {k g : Str} {v : V} {r : List (Str × V)} (h : (k == g) = false) : List.lookup k ((g, v) :: r) = List.lookup k r := by
  simp only [List.lookup, h]
theorem put_here {f : Str} {v x : V} {r : List (Str × V)} : putF f v ((f, x) :: r) = (f, v) :: r := if_pos rfl
theorem put_past {f g : Str} {v x : V} {r : List (Str × V)} (h : ¬ g = f) : putF f v ((g, x) :: r) = (g, x) :: putF f v r := if_neg h
/-! ### a list held -/
def heldF (r1 r2 r3 r4 : Addr) : List (Str × V) := [("measure_names", .ref r1), ("ups", .ref r2), ("item_names", .ref r3), ("rows", .ref r4)]
section
variable {r1 r2 r3 r4 : Addr}
theorem hf_mn : (heldF r1 r2 r3 r4).lookup ("measure_names" : Str) = some (.ref r1) := lk_here
theorem hf_up : (heldF r1 r2 r3 r4).lookup ("ups" : Str) = some (.ref r2) := (lk_past (by decide +kernel)).trans lk_here
theorem hf_in : (heldF r1 r2 r3 r4).lookup ("item_names" : Str) = some (.ref r3) := (lk_past (by decide +kernel)).trans ((lk_past (by decide +kernel)).trans lk_here)
theorem hf_ro : (heldF r1 r2 r3 r4).lookup ("rows" : Str) = some (.ref r4) := (lk_past (by decide +kernel)).trans ((lk_past (by decide +kernel)).trans ((lk_past (by decide +kernel)).trans lk_here))
theorem hf_no {k : Str} (h1 : (k == ("measure_names" : Str)) = false) (h2 : (k == ("ups" : Str)) = false) (h3 : (k == ("item_names" : Str)) = false) (h4 : (k == ("rows" : Str)) = false) : (heldF r1 r2 r3 r4).lookup k = none :=
  (lk_past h1).trans ((lk_past h2).trans ((lk_past h3).trans ((lk_past h4).trans rfl)))
end
/-- the parts of a held list -/
structure HeldAt (a : Ads) (H : Hp) (p : Addr) (s : Sheet) : Prop where
  ex : ∃ dx r1 r2 r3 r4, H p = some (.ins a.held dx (heldF r1 r2 r3 r4)) ∧ Da H (.ref r1) (dLL (s.ms.map fun m => bytesI m.name)) ∧ Da H (.ref r2) (dB (s.ms.map fun m => m.up)) ∧
    Da H (.ref r3) (dLL (s.items.map fun i => bytesI i.name)) ∧ Da H (.ref r4) (dLL (s.items.map fun i => i.vs))
  wf : WF s
theorem HeldAt.mono {a : Ads} {H H' : Hp} {p : Addr} {s : Sheet} (e : Ex H H') (h : HeldAt a H p s) : HeldAt a H' p s := by
  obtain ⟨⟨dx, r1, r2, r3, r4, h0, h1, h2, h3, h4⟩, w⟩ := h
  exact ⟨⟨dx, r1, r2, r3, r4, e _ _ h0, h1.ex e, h2.ex e, h3.ex e, h4.ex e⟩, w⟩
theorem dLL_da {H : Hp} {p : Addr} {ls : List (List Int)} (h : Da H (.ref p) (dLL ls)) : ∃ xs, H p = some (.lst xs) ∧ xs.length = ls.length ∧ ∀ (i : Nat) (ns : List Int), ls[i]? = some ns → ∃ q, xs[i]? = some (.ref q) ∧ H q = some (.lst (iL ns)) := by
  obtain ⟨p', xs, e, h1, h2⟩ := dl_da h
  cases e
  refine ⟨xs, h1, by rw [h2.len, List.length_map], fun i ns hi => ?_⟩
  obtain ⟨v, a, b⟩ := h2.get (i := i) (d := dI ns) (by rw [List.getElem?_map, hi]; rfl)
  obtain ⟨q, rfl, hq⟩ := dI_da b
  exact ⟨q, a, hq⟩
/-- the item of a list by its number -/
theorem at_nat {α : Type} {xs : List α} {i : Nat} {v : α} (h : xs[i]? = some v) : atI xs (i : Int) = some v := atI_nat h
theorem iL_get {ns : List Int} {i : Nat} {z : Int} (h : ns[i]? = some z) : (iL ns)[i]? = some (.int z) := by rw [List.getElem?_map, h]; rfl
/-! ### Held -/
section
variable {P : Program} {w : World} {K : PySem.W.Frag} {mg : Str → Option Value} {base : Heap} {a : Ads}
def sp_Held_init (K : PySem.W.Frag) (a : Ads) : Sp := fun vs H Q _ => ∃ (p dx r1 r2 r3 r4 : Addr), vs = [.ref p, .ref r1, .ref r2, .ref r3, .ref r4] ∧ H p = some (.ins a.held dx []) ∧
  ∀ H' : Hp, H' p = some (.ins a.held dx (heldF r1 r2 r3 r4)) → Kp [p] H H' → Q .non H'
theorem ok_Held_init (T : Txt K mg a) : Mak P w K mg base 1 "Held" a.held (sp_Held_init K a) := by
  refine mak_of T.d_Held_init sc_Held_init (fun vs H Q E h => ?_) (fun f cdv A outer s H vs Q E hr h => ⟨_, (pss_cons (ps_fld (pv 0) (pv 1) rfl) (pss_cons (ps_fld (pv 0) (pv 2) rfl) (pss_cons (ps_fld (pv 0) (pv 3) rfl) (pss_one (ps_fld (pv 0) (pv 4) rfl))))), ?_⟩)
  · obtain ⟨_, _, _, _, _, _, rfl, _⟩ := h
    rfl
  · obtain ⟨p, dx, r1, r2, r3, r4, rfl, hp, k⟩ := h
    refine ⟨_, rfl, _, rfl, p, _, dx, [], rfl, hp, T.cl_held, T.na_held_measure_names, (by show 0 < 1000; decide), ?_⟩
    refine ⟨_, rfl, _, rfl, p, _, dx, _, rfl, upd_same, T.cl_held, T.na_held_ups, (by show 1 < 1000; decide), ?_⟩
    refine ⟨_, rfl, _, rfl, p, _, dx, _, rfl, upd_same, T.cl_held, T.na_held_item_names, (by show 2 < 1000; decide), ?_⟩
    refine ⟨_, rfl, _, rfl, p, _, dx, _, rfl, upd_same, T.cl_held, T.na_held_rows, (by show 3 < 1000; decide), ?_⟩
    have e : putF ("rows" : Str) (.ref r4) (putF ("item_names" : Str) (.ref r3) (putF ("ups" : Str) (.ref r2) (putF ("measure_names" : Str) (.ref r1) []))) = heldF r1 r2 r3 r4 := by
      show putF ("rows" : Str) (.ref r4) (putF ("item_names" : Str) (.ref r3) (putF ("ups" : Str) (.ref r2) [("measure_names", .ref r1)])) = heldF r1 r2 r3 r4
      rw [put_past (by decide +kernel)]
      show putF ("rows" : Str) (.ref r4) (putF ("item_names" : Str) (.ref r3) [("measure_names", .ref r1), ("ups", .ref r2)]) = heldF r1 r2 r3 r4
      rw [put_past (by decide +kernel), put_past (by decide +kernel)]
      show putF ("rows" : Str) (.ref r4) [("measure_names", .ref r1), ("ups", .ref r2), ("item_names", .ref r3)] = heldF r1 r2 r3 r4
      rw [put_past (by decide +kernel), put_past (by decide +kernel), put_past (by decide +kernel)]
      rfl
    refine k _ (by rw [upd_same]; exact congrArg (fun q => some (HO.ins a.held dx q)) e) ?_
    intro b o hb hn
    have hne : b ≠ p := fun z => hn (by rw [z]; exact List.mem_singleton.mpr rfl)
    rw [upd_ne hne, upd_ne hne, upd_ne hne, upd_ne hne]
    exact hb
theorem rgV_nats (n : Nat) : rgV 0 (n : Int) = nats (List.range n) := by
  unfold rgV nats iL nz
  rw [List.map_map]
  have e : ((n : Int) - 0).toNat = n := by omega
  rw [e]
  refine List.map_congr_left fun i _ => ?_
  show V.int (0 + (i : Int)) = V.int (i : Int)
  rw [Int.zero_add]
/-- every_measure, every_item -/
def sp_Held_every_measure (K : PySem.W.Frag) (a : Ads) : Sp := fun vs H Q _ => ∃ (p : Addr) (s : Sheet), vs = [.ref p] ∧ HeldAt a H p s ∧ RetL (nats (List.range s.ms.length)) H Q
def sp_Held_every_item (K : PySem.W.Frag) (a : Ads) : Sp := fun vs H Q _ => ∃ (p : Addr) (s : Sheet), vs = [.ref p] ∧ HeldAt a H p s ∧ RetL (nats (List.range s.items.length)) H Q
theorem ok_Held_every_measure (T : Txt K mg a) : Met P w K mg base CX0 1 a.held "every_measure" (sp_Held_every_measure K a) := by
  refine met_of T.d_Held_every_measure sc_Held_every_measure (fun vs H Q E h => ?_) (fun f cdv A outer s H vs Q E hr h => ⟨_, (pss_one (ps_ret (pe_listRg rfl rfl T.b_list (prg_1 rfl T.b_range (pe_callB call_len_seq rfl T.b_len PySem.boot_len (pa_cons (pe_fld (pv 0) rfl) pa_nil)))))), ?_⟩)
  · obtain ⟨_, _, rfl, _⟩ := h
    rfl
  · obtain ⟨p, sh, rfl, ⟨⟨dx, r1, r2, r3, r4, h0, h1, h2, h3, h4⟩, wf⟩, k⟩ := h
    obtain ⟨q, e, hq⟩ := dB_da h2
    cases e
    refine ⟨_, rfl, p, _, dx, _, _, rfl, h0, T.cl_held, T.na_held_ups, hf_up, r2, _, rfl, .inl (sq hq), _, rfl, ?_, fun l hl => ?_⟩
    · rw [List.length_map, List.length_map]
      exact RgOk.of_le (by omega) (by have := wf.ms; omega) (by omega) (by omega)
    · rw [List.length_map, List.length_map, rgV_nats]
      exact k l _ hl (ex_new hl) upd_same
theorem ok_Held_every_item (T : Txt K mg a) : Met P w K mg base CX0 1 a.held "every_item" (sp_Held_every_item K a) := by
  refine met_of T.d_Held_every_item sc_Held_every_item (fun vs H Q E h => ?_) (fun f cdv A outer s H vs Q E hr h => ⟨_, (pss_one (ps_ret (pe_listRg rfl rfl T.b_list (prg_1 rfl T.b_range (pe_callB call_len_seq rfl T.b_len PySem.boot_len (pa_cons (pe_fld (pv 0) rfl) pa_nil)))))), ?_⟩)
  · obtain ⟨_, _, rfl, _⟩ := h
    rfl
  · obtain ⟨p, sh, rfl, ⟨⟨dx, r1, r2, r3, r4, h0, h1, h2, h3, h4⟩, wf⟩, k⟩ := h
    obtain ⟨xs, hx, hlen, _⟩ := dLL_da h4
    refine ⟨_, rfl, p, _, dx, _, _, rfl, h0, T.cl_held, T.na_held_rows, hf_ro, r4, _, rfl, .inl (sq hx), _, rfl, ?_, fun l hl => ?_⟩
    · rw [hlen, List.length_map]
      exact RgOk.of_le (by omega) (by have := wf.items; omega) (by omega) (by omega)
    · rw [hlen, List.length_map, rgV_nats]
      exact k l _ hl (ex_new hl) upd_same
def sp_Held_lead (K : PySem.W.Frag) (a : Ads) : Sp := fun vs H Q _ => ∃ (p : Addr) (s : Sheet) (i j m : Nat), vs = [.ref p, .int i, .int j, .int m] ∧ HeldAt a H p s ∧ i < s.items.length ∧ j < s.items.length ∧ m < s.ms.length ∧ RetV (.int (leadM s i j m)) H Q
theorem ok_Held_lead (T : Txt K mg a) : Met P w K mg base CX0 1 a.held "lead" (sp_Held_lead K a) := by
  refine met_of T.d_Held_lead sc_Held_lead (fun vs H Q E h => ?_) (fun f cdv A outer s H vs Q E hr h => ⟨_, (pss_cons (ps_set (i := 4) sc_Held_lead.nd rfl (Or.inl rfl) (pe_op op_sub (pe_ix ix_list (pe_ix ix_list (pe_fld (pv 0) rfl) (pv 1) (fun _ _ => rfl)) (pv 3) (fun _ _ => rfl)) (pe_ix ix_list (pe_ix ix_list (pe_fld (pv 0) rfl) (pv 2) (fun _ _ => rfl)) (pv 3) (fun _ _ => rfl)))) (pss_cons (ps_if (pt_val (pe_ix ix_list (pe_fld (pv 0) rfl) (pv 3) (fun _ _ => rfl))) (pss_one (ps_ret (pv 4))) pss_nil) (pss_one (ps_ret (pe_un un_neg (pv 4)))))), ?_⟩)
  · obtain ⟨_, _, _, _, _, rfl, _⟩ := h
    rfl
  · obtain ⟨p, sh, i, j, m, rfl, ⟨⟨dx, r1, r2, r3, r4, h0, h1, h2, h3, h4⟩, wf⟩, hi, hj, hm, k⟩ := h
    obtain ⟨xs, hx, hlen, hget⟩ := dLL_da h4
    have ei := List.getElem?_eq_getElem hi
    have ej := List.getElem?_eq_getElem hj
    have em := List.getElem?_eq_getElem hm
    obtain ⟨qi, xi, hqi⟩ := hget i sh.items[i].vs (by rw [List.getElem?_map, ei]; rfl)
    obtain ⟨qj, xj, hqj⟩ := hget j sh.items[j].vs (by rw [List.getElem?_map, ej]; rfl)
    have wi := wf.rows _ (List.getElem_mem hi)
    have wj := wf.rows _ (List.getElem_mem hj)
    have vi : sh.items[i].vs[m]? = some (sh.items[i].vs[m]'(by omega)) := List.getElem?_eq_getElem _
    have vj : sh.items[j].vs[m]? = some (sh.items[j].vs[m]'(by omega)) := List.getElem?_eq_getElem _
    obtain ⟨qu, e, hqu⟩ := dB_da h2
    cases e
    have hlead : leadM sh i j m = if sh.ms[m].up = true then sh.items[i].vs[m]'(by omega) - sh.items[j].vs[m]'(by omega) else -(sh.items[i].vs[m]'(by omega) - sh.items[j].vs[m]'(by omega)) := by
      unfold leadM
      rw [G_rows ei vi em, G_rows ej vj em]
      split <;> omega
    refine ⟨_, rfl, p, _, dx, _, _, rfl, h0, T.cl_held, T.na_held_rows, hf_ro, _, rfl, r4, xs, _, _, rfl, rfl, sq hx, at_nat xi, _, rfl, qi, _, _, _, rfl, rfl, sq hqi, at_nat (iL_get vi), ?_⟩
    refine ⟨_, rfl, p, _, dx, _, _, rfl, h0, T.cl_held, T.na_held_rows, hf_ro, _, rfl, r4, xs, _, _, rfl, rfl, sq hx, at_nat xj, _, rfl, qj, _, _, _, rfl, rfl, sq hqj, at_nat (iL_get vj), _, _, rfl, rfl, ?_⟩
    refine ⟨_, rfl, p, _, dx, _, _, rfl, h0, T.cl_held, T.na_held_ups, hf_up, _, rfl, r2, _, _, .bl sh.ms[m].up, rfl, rfl, sq hqu, at_nat (by rw [List.getElem?_map, List.getElem?_map, em]; rfl), sh.ms[m].up, rfl, ?_⟩
    refine ite_b (fun hu => ?_) (fun hu => ?_)
    · rw [hu, if_pos rfl] at hlead
      exact ⟨_, rfl, k.go (Ex.refl H) |> fun z => by rw [hlead] at z; exact z⟩
    · rw [hu, if_neg Bool.false_ne_true] at hlead
      exact ⟨_, rfl, _, rfl, k.go (Ex.refl H) |> fun z => by rw [hlead] at z; exact z⟩
end
end Fw
set_option Elab.async false
set_option maxRecDepth 100000
set_option maxHeartbeats 4000000
namespace Fw
open PySem PySem.Spec PyProof.Rows L2 Fm
open Vaskya (Sheet Measure Item)
open Evl (Ex Ev EvL EvU EvT EvA RV RetL RetV)
theorem nats_get {us : List Nat} {t : Nat} {x : V} (h : (nats us)[t]? = some x) : ∃ m, us[t]? = some m ∧ x = .int m := by
  rw [List.getElem?_map, List.getElem?_map] at h
  cases e : us[t]? with
  | none => rw [e] at h; cases h
  | some m => rw [e] at h; exact ⟨m, rfl, (Option.some.inj h).symm⟩
theorem iL_at {ns : List Int} {t : Nat} {x : V} (h : (iL ns)[t]? = some x) : ∃ m, ns[t]? = some m ∧ x = .int m := by
  rw [List.getElem?_map] at h
  cases e : ns[t]? with
  | none => rw [e] at h; cases h
  | some m => rw [e] at h; exact ⟨m, rfl, (Option.some.inj h).symm⟩
theorem ex_sq {K : PySem.W.Frag} {H H' : Hp} {a : Addr} {xs : List V} (e : Ex H H') (h : SqL K H a xs) : SqL K H' a xs := Evl.ex_l e h
theorem len_nats (us : List Nat) : (nats us).length = us.length := by rw [List.length_map, List.length_map]
section
variable {P : Program} {w : World} {K : PySem.W.Frag} {mg : Str → Option Value} {base : Heap} {a : Ads}
def sp_Held_beats (K : PySem.W.Frag) (a : Ads) : Sp := fun vs H Q _ => ∃ (p q : Addr) (s : Sheet) (i j : Nat) (us : List Nat), vs = [.ref p, .int i, .int j, .ref q] ∧ HeldAt a H p s ∧ i < s.items.length ∧ j < s.items.length ∧
  SqL K H q (nats us) ∧ (∀ m ∈ us, m < s.ms.length) ∧ RetV (.bl (btL (G (Vaskya.rows s) i) (G (Vaskya.rows s) j) us)) H Q
theorem ok_Held_beats (T : Txt K mg a) (c_Held_lead : Met P w K mg base CX0 1 a.held "lead" (sp_Held_lead K a)) : Met P w K mg base CX0 2 a.held "beats" (sp_Held_beats K a) := by
  refine met_of T.d_Held_beats sc_Held_beats (fun vs H Q E h => ?_) (fun f cdv A outer s H vs Q E hr h => ⟨_, (pss_cons (ps_set (i := 4) sc_Held_beats.nd rfl (Or.inl rfl) pe_bl) (pss_cons (ps_for PassesOwn.never rfl (pi_list (pv 3)) (pg_name (i := 5) sc_Held_beats.nd rfl (Or.inl rfl)) (pss_cons (ps_set (i := 6) sc_Held_beats.nd rfl (Or.inl rfl) (pe_mt T.cl_held c_Held_lead hr pass0 (pv 0) (pa_cons (pv 1) (pa_cons (pv 2) (pa_cons (pv 5) pa_nil))))) (pss_cons (ps_if (pt_cmpR op_lt (pv 6) pe_int (nomark _)) (pss_one (ps_ret pe_bl)) pss_nil) (pss_one (ps_if (pt_cmpR op_gt (pv 6) pe_int (nomark _)) (pss_one (ps_set (i := 4) sc_Held_beats.nd rfl (Or.inl rfl) pe_bl)) pss_nil))))) (pss_one (ps_ret (pv 4))))), ?_⟩)
  · obtain ⟨_, _, _, _, _, _, rfl, _⟩ := h
    rfl
  · obtain ⟨p, q, sh, i, j, us, rfl, hh, hi, hj, hq, hu, k⟩ := h
    rw [btL_is] at k
    refine ⟨_, rfl, q, rfl, ⟨_, hq⟩, for_list (K := K) (a := q) (xs := nats us) (fun t σ' H' => ∃ x y, σ' = [some (.ref p), some (.int i), some (.int j), some (.ref q), some (.bl (more sh i j (us.take t))), x, y] ∧ Ex H H' ∧ worse sh i j (us.take t) = false)
      ⟨none, none, rfl, Ex.refl H, rfl⟩ (fun t σ' H' _ ⟨_, _, _, e, _⟩ => ex_sq e hq) ?_ ?_⟩
    · rintro t z σ' H' ht ⟨x, y, rfl, e, hw⟩
      obtain ⟨m, hm, rfl⟩ := nats_get ht
      have hh' := hh.mono e
      obtain ⟨⟨dx, r1, r2, r3, r4, h0, _⟩, _⟩ := id hh'
      have stepW : worse sh i j (us.take (t + 1)) = (worse sh i j (us.take t) || decide (leadM sh i j m < 0)) := by rw [take_more hm]; exact any_snoc _ _ _
      have stepM : more sh i j (us.take (t + 1)) = (more sh i j (us.take t) || decide (0 < leadM sh i j m)) := by rw [take_more hm]; exact any_snoc _ _ _
      refine ⟨_, rfl, p, dx, _, rfl, h0, hf_no (by decide +kernel) (by decide +kernel) (by decide +kernel) (by decide +kernel), _, rfl, _, rfl, _, rfl, p, sh, i, j, m, rfl, hh', hi, hj, hu m (List.mem_of_getElem? hm), fun H2 e2 => ?_⟩
      refine ⟨_, rfl, _, _, rfl, rfl, _, rfl, ite_b (fun c => ?_) (fun c => ?_)⟩
      · have hwu : worse sh i j us = true := any_false_take hm c
        rw [hwu] at k
        exact k.go (e.trans e2)
      · rw [c, hw] at stepW
        refine ⟨_, rfl, _, _, rfl, rfl, _, rfl, ite_b (fun c2 => ?_) (fun c2 => ?_)⟩
        · refine ⟨some (.int m), some (.int (leadM sh i j m)), ?_, e.trans e2, stepW⟩
          rw [stepM, c2, Bool.or_true]
          rfl
        · refine ⟨some (.int m), some (.int (leadM sh i j m)), ?_, e.trans e2, stepW⟩
          rw [stepM, c2, Bool.or_false]
          rfl
    · rintro σ' H' ⟨x, y, rfl, e, hw⟩
      rw [len_nats, List.take_length] at hw ⊢
      rw [hw] at k
      exact ⟨_, rfl, k.go e⟩
def sp_Held_beaten (K : PySem.W.Frag) (a : Ads) : Sp := fun vs H Q _ => ∃ (p q r : Addr) (s : Sheet) (i : Nat) (us is : List Nat), vs = [.ref p, .int i, .ref r, .ref q] ∧ HeldAt a H p s ∧ i < s.items.length ∧
  SqL K H q (nats us) ∧ (∀ m ∈ us, m < s.ms.length) ∧ SqL K H r (nats is) ∧ (∀ j ∈ is, j < s.items.length) ∧ RetV (.bl (beatenM (Vaskya.rows s) us is i)) H Q
theorem ok_Held_beaten (T : Txt K mg a) (c_Held_beats : Met P w K mg base CX0 2 a.held "beats" (sp_Held_beats K a)) : Met P w K mg base CX0 3 a.held "beaten" (sp_Held_beaten K a) := by
  refine met_of T.d_Held_beaten sc_Held_beaten (fun vs H Q E h => ?_) (fun f cdv A outer s H vs Q E hr h => ⟨_, (pss_cons (ps_for PassesOwn.never rfl (pi_list (pv 2)) (pg_name (i := 4) sc_Held_beaten.nd rfl (Or.inl rfl)) (pss_one (ps_if (pt_val (pe_mt T.cl_held c_Held_beats hr pass0 (pv 0) (pa_cons (pv 4) (pa_cons (pv 1) (pa_cons (pv 3) pa_nil))))) (pss_one (ps_ret pe_bl)) pss_nil))) (pss_one (ps_ret pe_bl))), ?_⟩)
  · obtain ⟨_, _, _, _, _, _, _, rfl, _⟩ := h
    rfl
  · obtain ⟨p, q, r, sh, i, us, is, rfl, hh, hi, hq, hu, hr', hj, k⟩ := h
    refine ⟨_, rfl, r, rfl, ⟨_, hr'⟩, for_list (K := K) (a := r) (xs := nats is) (fun t σ' H' => ∃ x, σ' = [some (.ref p), some (.int i), some (.ref r), some (.ref q), x] ∧ Ex H H' ∧ beatenM (Vaskya.rows sh) us (is.take t) i = false)
      ⟨none, rfl, Ex.refl H, rfl⟩ (fun t σ' H' _ ⟨_, _, e, _⟩ => ex_sq e hr') ?_ ?_⟩
    · rintro t z σ' H' ht ⟨x, rfl, e, hw⟩
      obtain ⟨m, hm, rfl⟩ := nats_get ht
      have hh' := hh.mono e
      obtain ⟨⟨dx, r1, r2, r3, r4, h0, _⟩, _⟩ := id hh'
      have step : beatenM (Vaskya.rows sh) us (is.take (t + 1)) i = (beatenM (Vaskya.rows sh) us (is.take t) i || btL (G (Vaskya.rows sh) m) (G (Vaskya.rows sh) i) us) := by rw [take_more hm]; exact any_snoc _ _ _
      refine ⟨_, rfl, p, dx, _, rfl, h0, hf_no (by decide +kernel) (by decide +kernel) (by decide +kernel) (by decide +kernel), _, rfl, _, rfl, _, rfl, p, q, sh, m, i, us, rfl, hh', hj m (List.mem_of_getElem? hm), hi, ex_sq e hq, hu, fun H2 e2 => ?_⟩
      refine ⟨_, rfl, ite_b (fun c => ?_) (fun c => ?_)⟩
      · have hb : beatenM (Vaskya.rows sh) us is i = true := any_false_take hm c
        rw [hb] at k
        exact k.go (e.trans e2)
      · rw [c, hw] at step
        exact ⟨_, rfl, e.trans e2, step⟩
    · rintro σ' H' ⟨x, rfl, e, hw⟩
      rw [len_nats, List.take_length] at hw
      rw [hw] at k
      exact k.go e
/-! comprehensions over a list of numbers that keep some of them -/
theorem filter_more {p : Nat → Bool} {l : List Nat} {t m : Nat} (h : l[t]? = some m) : (l.take (t + 1)).filter p = (l.take t).filter p ++ (if p m = true then [m] else []) := by
  rw [take_more h, List.filter_append]
  congr 1
  rw [List.filter_cons, List.filter_nil]
theorem nats_app (a b : List Nat) : nats (a ++ b) = nats a ++ nats b := by rw [nats, iL, nz, List.map_append, List.map_append]
/-- the word of such a comprehension: what is kept so far -/
def Kept (H : Hp) (p : Nat → Bool) (l : List Nat) (Dl : Addr) (t : Nat) (H' : Hp) : Prop := H Dl = none ∧ Ex H H' ∧ H' Dl = some (.lst (nats ((l.take t).filter p)))
theorem Kept.start {H : Hp} {p : Nat → Bool} {l : List Nat} {Dl : Addr} (h : H Dl = none) : Kept H p l Dl 0 (upd H Dl (.lst [])) := ⟨h, ex_new h, upd_same⟩
theorem Kept.turn {H H' : Hp} {p : Nat → Bool} {l : List Nat} {Dl : Addr} {t m : Nat} {σ2 : L2.St} {tt : TT} {te : TE} (k : Kept H p l Dl t H') (hm : l[t]? = some m) (hz : l.length ≤ 100000)
    (ht : ∀ Q : Bool → Hp → Prop, (∀ H2, Ex H' H2 → Q (p m) H2) → tt σ2 H' Q) (he : ∀ H2 (Q : VK), Q (.int m) H2 → te σ2 H2 Q) :
    tt σ2 H' fun b H3 => if b = true then te σ2 H3 fun y H4 => ∃ acc, H4 Dl = some (.lst acc) ∧ acc.length < sizeLine ∧ Kept H p l Dl (t + 1) (upd H4 Dl (.lst (acc ++ [y]))) else Kept H p l Dl (t + 1) H3 := by
  obtain ⟨k1, k2, k3⟩ := k
  have e := filter_more (p := p) hm
  refine ht _ fun H2 e2 => ?_
  cases hp : p m with
  | true =>
    rw [hp, if_pos rfl] at e
    show te σ2 H2 _
    refine he H2 _ ⟨_, e2 _ _ k3, ?_, k1, Evl.Ex.mut (k2.trans e2) k1, ?_⟩
    · rw [len_nats]
      have h1 : ((l.take t).filter p).length ≤ l.length := Nat.le_trans (List.length_filter_le ..) (by rw [List.length_take]; omega)
      exact szl (by omega)
    · rw [upd_same, e, nats_app]
      rfl
  | false =>
    rw [hp, if_neg Bool.false_ne_true, List.append_nil] at e
    exact ⟨k1, k2.trans e2, by rw [e]; exact e2 _ _ k3⟩
def sp_Held_unbeaten (K : PySem.W.Frag) (a : Ads) : Sp := fun vs H Q _ => ∃ (p q r : Addr) (s : Sheet) (us is : List Nat), vs = [.ref p, .ref r, .ref q] ∧ HeldAt a H p s ∧
  SqL K H q (nats us) ∧ (∀ m ∈ us, m < s.ms.length) ∧ SqL K H r (nats is) ∧ (∀ j ∈ is, j < s.items.length) ∧ is.length ≤ 100000 ∧ RetL (nats (unb (Vaskya.rows s) us is)) H Q
theorem ok_Held_unbeaten (T : Txt K mg a) (c_Held_beaten : Met P w K mg base CX0 3 a.held "beaten" (sp_Held_beaten K a)) : Met P w K mg base CX0 4 a.held "unbeaten" (sp_Held_unbeaten K a) := by
  refine met_of T.d_Held_unbeaten sc_Held_unbeaten (fun vs H Q E h => ?_) (fun f cdv A outer s H vs Q E hr h => ⟨_, (pss_one (ps_ret (pe_lc (own := [("item", 3)]) (g := gName 3) (tt := (tNot (tB (tMeth a.held "beaten" (sp_Held_beaten K a) [] E0 (tVar 0) (tCons (tVar 3) (tCons (tVar 1) (tCons (tVar 2) tNil))))))) (te := (tVar 3)) rfl sc_Held_unbeaten.nd (pi_list (pv 1)) (blkOk_by (N := N_Held_unbeaten) (sc := (defScope s_Held_unbeaten)) (by decide +kernel)) (fun _ _ _ _ _ => (pg_name (i := 3) sc_Held_unbeaten.nd rfl (Or.inl rfl))) (fun _ _ _ _ _ => (pts_one (pt_not (pt_val (pe_mt T.cl_held c_Held_beaten hr pass0 (pv 0) (pa_cons (pv 3) (pa_cons (pv 1) (pa_cons (pv 2) pa_nil)))))))) (fun _ _ _ _ _ => (pv 3))))), ?_⟩)
  · obtain ⟨_, _, _, _, _, _, rfl, _⟩ := h
    rfl
  · obtain ⟨p, q, r, sh, us, is, rfl, hh, hq, hu, hr', hj, hz, k⟩ := h
    refine ⟨_, rfl, r, rfl, ⟨_, hr'⟩, fun Dl hD => ?_⟩
    refine lc_list (K := K) (a := r) (xs := nats is) (Kept H (fun i => !beatenM (Vaskya.rows sh) us is i) is Dl) (Kept.start hD) (fun t H' _ k' => ex_sq k'.2.1 hr') ?_ ?_
    · intro t z H' ht k'
      obtain ⟨m, hm, rfl⟩ := nats_get ht
      have e := k'.2.1
      have hh' := hh.mono e
      obtain ⟨⟨dx, r1, r2, r3, r4, h0, _⟩, _⟩ := id hh'
      refine ⟨rfl, k'.turn hm hz (fun Q' q' => ?_) (fun H2 Q' q' => ⟨_, rfl, q'⟩)⟩
      refine ⟨_, rfl, p, dx, _, rfl, h0, hf_no (by decide +kernel) (by decide +kernel) (by decide +kernel) (by decide +kernel), _, rfl, _, rfl, _, rfl, p, q, r, sh, m, us, is, rfl, hh', hj m (List.mem_of_getElem? hm), ex_sq e hq, hu, ex_sq e hr', hj, fun H2 e2 => ?_⟩
      exact ⟨_, rfl, q' H2 e2⟩
    · intro H' k'
      rw [len_nats] at k'
      obtain ⟨k1, k2, k3⟩ := k'
      rw [List.take_length] at k3
      exact k Dl H' hD k2 k3
end
end Fw
set_option Elab.async false
set_option maxRecDepth 100000
set_option maxHeartbeats 4000000
namespace Fw
open PySem PySem.Spec PyProof.Rows L2 Fm
open Evl (Ex Ev EvL EvU EvT EvA RV RetL RetV)
/-! ### lists of numbers, compared -/
def pyI (ns : List Int) : PyData := .list (ns.map .int)
theorem dpAll_I {K : PySem.W.Frag} {H : Hp} : ∀ ns : List Int, DpAll K H (iL ns) (ns.map .int)
  | [] => .nil
  | n :: r => .cons (.int n) (dpAll_I r)
theorem dp_I {K : PySem.W.Frag} {H : Hp} {p : Addr} {ns : List Int} (h : SqL K H p (iL ns)) : Dp K H (.ref p) (pyI ns) := .lst h (dpAll_I ns)
theorem lay_I : ∀ ns : List Int, PyData.canLayAll0 (ns.map .int) = true
  | [] => by simp [PyData.canLayAll0]
  | n :: r => by simp [PyData.canLayAll0, PyData.canLay0, lay_I r]
theorem depth_I : ∀ ns : List Int, PyData.depthAll (ns.map .int) ≤ 1
  | [] => by simp [PyData.depthAll]
  | n :: r => by
    have h := depth_I r
    simp only [List.map_cons, PyData.depthAll, PyData.depth]
    omega
theorem shaped_I (ns : List Int) : SeqAt.shaped (pyI ns) = true := by
  have h := depth_I ns
  have h2 : PyData.depth (pyI ns) ≤ 64 := by
    unfold pyI
    simp only [PyData.depth]
    omega
  show (PyData.canLay0 (pyI ns) && decide (PyData.depth (pyI ns) ≤ 64)) = true
  rw [Bool.and_eq_true]
  exact ⟨by unfold pyI; simp only [PyData.canLay0]; exact lay_I ns, decide_eq_true h2⟩
theorem eqvAll_I : ∀ ns ms : List Int, PyData.eqvAll (ns.map .int) (ms.map .int) = decide (ns = ms)
  | [], [] => by simp [PyData.eqvAll]
  | [], _ :: _ => by simp [PyData.eqvAll]
  | _ :: _, [] => by simp [PyData.eqvAll]
  | n :: r, m :: s => by
    have h := eqvAll_I r s
    simp only [List.map_cons, PyData.eqvAll, PyData.eqv, h]
    by_cases c : n = m
    · subst c
      by_cases d : r = s
      · subst d
        simp
      · simp [d]
    · simp [c]
theorem eqv_I (ns ms : List Int) : PyData.eqv (pyI ns) (pyI ms) = decide (ns = ms) := by
  unfold pyI
  simp only [PyData.eqv]
  exact eqvAll_I ns ms
/-- lists of lists of numbers -/
def pyLL (ls : List (List Int)) : PyData := .list (ls.map pyI)
theorem layLL : ∀ ls : List (List Int), PyData.canLayAll0 (ls.map pyI) = true
  | [] => by simp [PyData.canLayAll0]
  | n :: r => by
    have h1 : PyData.canLay0 (pyI n) = true := by unfold pyI; simp only [PyData.canLay0]; exact lay_I n
    simp [PyData.canLayAll0, h1, layLL r]
theorem depthLL : ∀ ls : List (List Int), PyData.depthAll (ls.map pyI) ≤ 2
  | [] => by simp [PyData.depthAll]
  | n :: r => by
    have h := depthLL r
    have h2 := depth_I n
    have h3 : PyData.depth (pyI n) ≤ 2 := by unfold pyI; simp only [PyData.depth]; omega
    simp only [List.map_cons, PyData.depthAll]
    omega
theorem shapedLL (ls : List (List Int)) : SeqAt.shaped (pyLL ls) = true := by
  have h := depthLL ls
  have h2 : PyData.depth (pyLL ls) ≤ 64 := by
    unfold pyLL
    simp only [PyData.depth]
    omega
  show (PyData.canLay0 (pyLL ls) && decide (PyData.depth (pyLL ls) ≤ 64)) = true
  rw [Bool.and_eq_true]
  exact ⟨by unfold pyLL; simp only [PyData.canLay0]; exact layLL ls, decide_eq_true h2⟩
theorem dpAll_LL {K : PySem.W.Frag} {H : Hp} : ∀ (ls : List (List Int)) (xs : List V), DaL H xs (ls.map dI) → DpAll K H xs (ls.map pyI)
  | [], xs, h => by cases h; exact .nil
  | n :: r, xs, h => by
    cases h with
    | cons a b =>
      obtain ⟨q, rfl, hq⟩ := dI_da a
      exact .cons (dp_I (sq hq)) (dpAll_LL r _ b)
theorem any_LL (x : List Int) (ls : List (List Int)) : ((ls.map pyI).any fun z => PyData.eqv z (pyI x)) = ls.contains x := by
  rw [List.any_map, Bool.eq_iff_iff, List.any_eq_true, List.contains_iff_mem]
  constructor
  · rintro ⟨y, hy, h⟩
    have h' : PyData.eqv (pyI y) (pyI x) = true := h
    rw [eqv_I] at h'
    rw [← of_decide_eq_true h']
    exact hy
  · intro h
    refine ⟨x, h, ?_⟩
    show PyData.eqv (pyI x) (pyI x) = true
    rw [eqv_I]
    exact decide_eq_true rfl
/-- numbers in lists of numbers -/
theorem flat_iL (ns : List Int) : (iL ns).all flatV = true := by
  rw [List.all_map, List.all_eq_true]
  intro x _
  rfl
theorem inV_iL (z : Int) (ns : List Int) : inV (.int z) (iL ns) = ns.contains z := by
  unfold inV
  rw [List.any_map, Bool.eq_iff_iff, List.any_eq_true, List.contains_iff_mem]
  constructor
  · rintro ⟨y, hy, h⟩
    have h' : (y == z) = true := h
    have e : y = z := by simpa using h'
    rw [← e]
    exact hy
  · intro h
    exact ⟨z, h, by show (z == z) = true; simp⟩
theorem inV_nats (z : Nat) (ns : List Nat) : inV (.int z) (nats ns) = ns.contains z := by
  rw [nats, inV_iL, Bool.eq_iff_iff, List.contains_iff_mem, List.contains_iff_mem, List.mem_map]
  constructor
  · rintro ⟨y, hy, e⟩
    have : y = z := by omega
    rw [← this]
    exact hy
  · intro h
    exact ⟨z, h, rfl⟩
theorem iL_app (a b : List Int) : iL (a ++ b) = iL a ++ iL b := List.map_append
theorem dec_int (a b : Int) : decide (V.int a = V.int b) = decide (a = b) := by
  by_cases h : a = b
  · subst h; simp
  · have : ¬ V.int a = V.int b := fun e => h (V.int.inj e)
    rw [decide_eq_false h, decide_eq_false this]
def codesOf (x : Str) : List Int := x.cps.toList.map fun c : Nat => (c : Int)
section
variable {P : Program} {w : World} {K : PySem.W.Frag} {mg : Str → Option Value} {base : Heap} {a : Ads}
/-! ### signs -/
def sp_is_letter (K : PySem.W.Frag) (a : Ads) : Sp := fun vs H Q _ => ∃ (z : Int), vs = [.int z] ∧ RetV (.bl (letterI z)) H Q
def sp_is_digit (K : PySem.W.Frag) (a : Ads) : Sp := fun vs H Q _ => ∃ (z : Int), vs = [.int z] ∧ RetV (.bl (digitI z)) H Q
theorem ok_is_letter (T : Txt K mg a) : Cal P w K mg base CX0 1 "is_letter" (sp_is_letter K a) := by
  refine cal_of T.d_is_letter sc_is_letter (fun vs H Q E h => ?_) (fun f cdv A outer s H vs Q E hr h => ⟨_, (pss_one (ps_ret (pe_or (pe_chain op_le op_le pe_int (pv 0) pe_int) (pe_one (pe_chain op_le op_le pe_int (pv 0) pe_int))))), ?_⟩)
  · obtain ⟨_, rfl, _⟩ := h
    rfl
  · obtain ⟨z, rfl, k⟩ := h
    have e : letterI z = ((decide (65 ≤ z) && decide (z ≤ 90)) || (decide (97 ≤ z) && decide (z ≤ 122))) := by
      unfold letterI
      rw [Bool.eq_iff_iff]
      simp
    rw [e] at k
    have snd : ∀ (Q' : VK), Q' (.bl (decide (97 ≤ z) && decide (z ≤ 122))) H → tChain (rI0 fun i j => .bl (decide (i ≤ j))) (rI0 fun i j => .bl (decide (i ≤ j))) (tC (.int 97)) (tVar 0) (tC (.int 122)) [some (.int z)] H Q' := by
      intro Q' q'
      refine ⟨_, rfl, _, _, rfl, rfl, _, rfl, ite_b (fun c => ?_) (fun c => ?_)⟩
      · rw [c, Bool.true_and] at q'
        exact ⟨_, _, rfl, rfl, q'⟩
      · rw [c, Bool.false_and] at q'
        exact q'
    refine ⟨_, rfl, _, _, rfl, rfl, _, rfl, ite_b (fun c => ?_) (fun c => ?_)⟩
    · rw [c, Bool.true_and] at k
      refine ⟨_, _, rfl, rfl, _, rfl, ite_b (fun c2 => ?_) (fun c2 => ?_)⟩
      · rw [c2, Bool.true_or] at k
        exact k.go (Ex.refl H)
      · rw [c2, Bool.false_or] at k
        exact snd Q (k.go (Ex.refl H))
    · rw [c, Bool.false_and, Bool.false_or] at k
      exact ⟨_, rfl, snd Q (k.go (Ex.refl H))⟩
theorem ok_is_digit (T : Txt K mg a) : Cal P w K mg base CX0 1 "is_digit" (sp_is_digit K a) := by
  refine cal_of T.d_is_digit sc_is_digit (fun vs H Q E h => ?_) (fun f cdv A outer s H vs Q E hr h => ⟨_, (pss_one (ps_ret (pe_chain op_le op_le pe_int (pv 0) pe_int))), ?_⟩)
  · obtain ⟨_, rfl, _⟩ := h
    rfl
  · obtain ⟨z, rfl, k⟩ := h
    have e : digitI z = (decide (48 ≤ z) && decide (z ≤ 57)) := by
      unfold digitI
      rw [Bool.eq_iff_iff]
      simp
    rw [e] at k
    refine ⟨_, rfl, _, _, rfl, rfl, _, rfl, ite_b (fun c => ?_) (fun c => ?_)⟩
    · rw [c, Bool.true_and] at k
      exact ⟨_, _, rfl, rfl, k.go (Ex.refl H)⟩
    · rw [c, Bool.false_and] at k
      exact k.go (Ex.refl H)
def sp_codes (K : PySem.W.Frag) (a : Ads) : Sp := fun vs H Q _ => ∃ (x : Str), vs = [.str x] ∧ x.cps.size ≤ 100000 ∧ RetL (iL (codesOf x)) H Q
theorem ok_codes (T : Txt K mg a) : Cal P w K mg base CX0 1 "codes" (sp_codes K a) := by
  refine cal_of T.d_codes sc_codes (fun vs H Q E h => ?_) (fun f cdv A outer s H vs Q E hr h => ⟨_, (pss_one (ps_ret (pe_lc (own := [("sign", 1)]) (g := gName 1) (tt := tYes) (te := (tCB (fun xs H Q => ∃ x, xs = [.str x] ∧ x.length = 1 ∧ Q (.int (x.cps.getD 0 0 : Nat)) H) (tCons (tVar 1) tNil))) rfl sc_codes.nd (pi_str (pv 0)) (blkOk_by (N := N_codes) (sc := (defScope s_codes)) (by decide +kernel)) (fun _ _ _ _ _ => (pg_name (i := 1) sc_codes.nd rfl (Or.inl rfl))) (fun _ _ _ _ _ => pts_nil) (fun _ _ _ _ _ => (pe_callB call_ord rfl T.b_ord (by decide +kernel) (pa_cons (pv 1) pa_nil)))))), ?_⟩)
  · obtain ⟨_, rfl, _⟩ := h
    rfl
  · obtain ⟨x, rfl, hz, k⟩ := h
    refine ⟨_, rfl, x, rfl, fun Dl hD => ?_⟩
    refine lc_it (walk_str (z := x)) (fun t H' => Ex H H' ∧ H' Dl = some (.lst (iL ((codesOf x).take t)))) ⟨ex_new hD, upd_same⟩ (fun _ _ _ _ => trivial) ?_ ?_
    · rintro t y H1 H2 ht ⟨e, hl⟩ ⟨rfl, c, hc, rfl⟩
      have hx : (codesOf x)[t]? = some (c : Int) := by
        unfold codesOf
        rw [List.getElem?_map, Array.getElem?_toList, hc]
        rfl
      refine ⟨rfl, ⟨_, rfl, _, rfl, rfl, ?_⟩⟩
      refine ⟨_, hl, ?_, Evl.Ex.mut e hD, ?_⟩
      · have h1 : (iL ((codesOf x).take t)).length ≤ x.cps.size := by
          unfold codesOf
          rw [List.length_map, List.length_take, List.length_map, Array.length_toList]
          omega
        exact szl (by omega)
      · rw [upd_same, take_more hx, iL_app]
        rfl
    · rintro H' ⟨e, hl⟩
      have : (codesOf x).take x.cps.size = codesOf x := List.take_of_length_le (by unfold codesOf; rw [List.length_map, Array.length_toList]; exact Nat.le_refl _)
      rw [this] at hl
      exact k Dl H' hD e hl
end
end Fw
set_option Elab.async false
set_option maxRecDepth 100000
set_option maxHeartbeats 4000000
namespace Fm
theorem drop_cons {α : Type} {l : List α} {i : Nat} {z : α} (h : l[i]? = some z) : l.drop i = z :: l.drop (i + 1) := by
  obtain ⟨hi, e⟩ := List.getElem?_eq_some_iff.mp h
  rw [List.drop_eq_getElem_cons hi, e]
/-- the place behind those that stand from p on -/
def endM (q : Int → Bool) (t : List Int) (p : Nat) : Nat := p + ((t.drop p).takeWhile q).length
theorem endM_yes {q : Int → Bool} {t : List Int} {p : Nat} {z : Int} (h : t[p]? = some z) (c : q z = true) : endM q t p = endM q t (p + 1) := by
  unfold endM
  rw [drop_cons h, List.takeWhile_cons, if_pos c, List.length_cons]
  omega
theorem endM_no {q : Int → Bool} {t : List Int} {p : Nat} {z : Int} (h : t[p]? = some z) (c : q z = false) : endM q t p = p := by
  unfold endM
  rw [drop_cons h, List.takeWhile_cons, if_neg (by rw [c]; decide)]
  rfl
theorem endM_end {q : Int → Bool} {t : List Int} : endM q t t.length = t.length := by
  unfold endM
  rw [List.drop_length]
  rfl
/-- after_blanks' state -/
def skipAt (c : Bool) (t : List Int) (p : Nat) : Nat := skip c p (t.drop p)
theorem skipAt_rem {t : List Int} {p : Nat} {z : Int} (h : t[p]? = some z) : skipAt true t p = skipAt (!decide (z = 10)) t (p + 1) := by
  unfold skipAt
  rw [drop_cons h, skip_true]
  congr 1
theorem skipAt_hash {t : List Int} {p : Nat} {z : Int} (h : t[p]? = some z) (c : z = 35) : skipAt false t p = skipAt true t (p + 1) := by
  unfold skipAt
  rw [drop_cons h, skip_hash (by rw [c]; rfl)]
theorem skipAt_blank {t : List Int} {p : Nat} {z : Int} (h : t[p]? = some z) (c : ¬ z = 35) (c2 : blankI z = true) : skipAt false t p = skipAt false t (p + 1) := by
  unfold skipAt
  rw [drop_cons h, skip_blank (by simpa using c) c2]
theorem skipAt_stay {t : List Int} {p : Nat} {z : Int} (h : t[p]? = some z) (c : ¬ z = 35) (c2 : blankI z = false) : skipAt false t p = p := by
  unfold skipAt
  rw [drop_cons h, skip_stay (by simpa using c) (by rw [c2]; decide)]
theorem skipAt_end {c : Bool} {t : List Int} : skipAt c t t.length = t.length := by
  unfold skipAt
  rw [List.drop_length]
  cases c <;> rfl
theorem numVal_snoc (l : List Int) (z : Int) : numVal (l ++ [z]) = numVal l * 10 + z - 48 := by
  unfold numVal
  rw [List.foldl_append]
  rfl
theorem numK_two (w : List Int) : numK w = 7 ∨ numK w = 2 := by
  unfold numK
  repeat' (first | exact .inl rfl | exact .inr rfl | split)
end Fm
namespace Fw
open PySem PySem.Spec PyProof.Rows L2 Fm
open Evl (Ex Ev EvL EvU EvT EvA RV RetL RetV)
theorem inV_blanks (z : Int) : inV (.int z) [.int 32, .int 9, .int 10] = blankI z := by
  have e : inV (.int z) [.int 32, .int 9, .int 10] = ((32 : Int) == z || ((9 : Int) == z || ((10 : Int) == z || false))) := rfl
  rw [e]
  unfold blankI
  rw [Bool.or_false, Bool.eq_iff_iff]
  simp only [Bool.or_eq_true, beq_iff_eq]
  omega
theorem inV_signs (z : Int) : inV (.int z) [.int 44, .int 58, .int 59, .int 45] = signI z := by
  have e : inV (.int z) [.int 44, .int 58, .int 59, .int 45] = ((44 : Int) == z || ((58 : Int) == z || ((59 : Int) == z || ((45 : Int) == z || false)))) := rfl
  rw [e]
  unfold signI
  rw [Bool.or_false, Bool.eq_iff_iff]
  simp only [Bool.or_eq_true, beq_iff_eq]
  omega
theorem sIx_mid {n k : Nat} (d : Nat) (h : k ≤ n) : HT.sIx n d (some (k : Int)) = k := by rw [HT.sIx_nat, Nat.min_eq_left h]
theorem cut_iL (ns : List Int) {i j : Nat} (hi : i ≤ j) (hj : j ≤ ns.length) : cutV (iL ns) (some (i : Int)) (some (j : Int)) = iL ((ns.drop i).take (j - i)) := by
  unfold cutV
  rw [sIx_mid _ (by rw [List.length_map]; omega), sIx_mid _ (by rw [List.length_map]; omega), ← List.map_drop, ← List.map_take]
/-- a slice whose end is beyond the list's -/
theorem cut_far (ns : List Int) {i j : Nat} : cutV (iL ns) (some (i : Int)) (some (j : Int)) = iL ((ns.drop i).take (j - i)) := by
  unfold cutV
  rw [HT.sIx_nat, HT.sIx_nat, List.length_map, ← List.map_drop, ← List.map_take]
  congr 1
  by_cases h : i ≤ ns.length
  · rw [Nat.min_eq_left h]
    by_cases h2 : j ≤ ns.length
    · rw [Nat.min_eq_left h2]
    · rw [Nat.min_eq_right (by omega), List.take_of_length_le (by rw [List.length_drop]; omega), List.take_of_length_le (by rw [List.length_drop]; omega)]
  · rw [Nat.min_eq_right (by omega : ns.length ≤ i), List.drop_length, List.drop_eq_nil_of_le (by omega)]
    simp
section
variable {P : Program} {w : World} {K : PySem.W.Frag} {mg : Str → Option Value} {base : Heap} {a : Ads}
def sp_after_blanks (K : PySem.W.Frag) (a : Ads) : Sp := fun vs H Q _ => ∃ (q : Addr) (t : List Int) (p : Nat), vs = [.ref q, .int p] ∧ SqL K H q (iL t) ∧ t.length ≤ 100000 ∧ p ≤ t.length ∧ RetV (.int (skipAt false t p)) H Q
theorem ok_after_blanks (T : Txt K mg a) : Cal P w K mg base CX0 1 "after_blanks" (sp_after_blanks K a) := by
  refine cal_of T.d_after_blanks sc_after_blanks (fun vs H Q E h => ?_) (fun f cdv A outer s H vs Q E hr h => ⟨_, (pss_cons (ps_set (i := 2) sc_after_blanks.nd rfl (Or.inl rfl) pe_bl) (pss_cons (ps_for PassesOwn.never rfl (pi_range2 rfl T.b_range (pa_cons (pv 1) (pa_cons (pe_callB call_len_seq rfl T.b_len PySem.boot_len (pa_cons (pv 0) pa_nil)) pa_nil))) (pg_name (i := 3) sc_after_blanks.nd rfl (Or.inl rfl)) (pss_cons (ps_set (i := 4) sc_after_blanks.nd rfl (Or.inl rfl) (pe_ix ix_list (pv 0) (pv 3) (fun _ _ => rfl))) (pss_one (ps_if (pt_val (pv 2)) (pss_one (ps_set (i := 2) sc_after_blanks.nd rfl (Or.inl rfl) (pe_cmpR op_ne (pv 4) (pe_gc T.g_LINE_END) (nomark _)))) (pss_one (ps_if (pt_cmpR op_eq (pv 4) (pe_gc T.g_REMARK) (nomark _)) (pss_one (ps_set (i := 2) sc_after_blanks.nd rfl (Or.inl rfl) pe_bl)) (pss_one (ps_if (pt_cmpR op_notIn_seq (pv 4) (pe_gc T.g_BLANKS) (by rfl)) (pss_one (ps_ret (pv 3))) pss_nil)))))))) (pss_one (ps_ret (pe_callB call_len_seq rfl T.b_len PySem.boot_len (pa_cons (pv 0) pa_nil)))))), ?_⟩)
  · obtain ⟨_, _, _, rfl, _⟩ := h
    rfl
  · obtain ⟨q, t, p, rfl, hq, hz, hp, k⟩ := h
    have hlen : (iL t).length = t.length := List.length_map ..
    refine ⟨_, rfl, _, rfl, q, _, rfl, .inl hq, (p : Int), ((iL t).length : Int), rfl, ⟨by omega, by omega, by omega, by omega⟩, ?_⟩
    have en : (((iL t).length : Int) - (p : Int)).toNat = t.length - p := by omega
    rw [en]
    refine for_range (lo := (p : Int)) (n := t.length - p) (fun i σ' H' => ∃ c x y, σ' = [some (.ref q), some (.int p), some (.bl c), x, y] ∧ Ex H H' ∧ skipAt false t p = skipAt c t (p + i)) ⟨false, none, none, rfl, Ex.refl H, rfl⟩ ?_ ?_
    · rintro i σ' H' hi ⟨c, x, y, rfl, e, hs⟩
      have hpi : t[p + i]? = some (t[p + i]'(by omega)) := List.getElem?_eq_getElem _
      generalize t[p + i]'(by omega) = z at hpi
      have ei : (p : Int) + (i : Int) = ((p + i : Nat) : Int) := by omega
      rw [ei]
      have es : p + (i + 1) = p + i + 1 := by omega
      refine ⟨_, rfl, _, rfl, q, _, _, _, rfl, rfl, ex_sq e hq, at_nat (iL_get hpi), ?_⟩
      refine ⟨_, rfl, c, rfl, ite_b (fun hc => ?_) (fun hc => ?_)⟩
      · subst hc
        refine ⟨_, rfl, rfl, ?_⟩
        rw [dec_int]
        exact ⟨_, _, _, rfl, e, by rw [hs, skipAt_rem hpi, es]⟩
      · subst hc
        refine ⟨_, rfl, rfl, _, rfl, ?_⟩
        rw [dec_int]
        refine ite_b (fun h35 => ?_) (fun h35 => ?_)
        · exact ⟨_, _, _, rfl, e, by rw [hs, skipAt_hash hpi (of_decide_eq_true h35), es]⟩
        · refine ⟨_, rfl, a.blanks, _, rfl, .inr (T.t_BLANKS _), rfl, rfl, _, rfl, ?_⟩
          rw [inV_blanks]
          cases hb : blankI z with
          | true =>
            show if (if (true = true) then !true else true) = true then _ else _
            rw [if_pos rfl]
            refine iteF ?_
            exact ⟨_, _, _, rfl, e, by rw [hs, skipAt_blank hpi (of_decide_eq_false h35) hb, es]⟩
          | false =>
            show if (if (true = true) then !false else false) = true then _ else _
            rw [if_pos rfl]
            refine iteT ?_
            refine ⟨_, rfl, ?_⟩
            have := k.go e
            rw [hs, skipAt_stay hpi (of_decide_eq_false h35) hb] at this
            exact this
    · rintro σ' H' ⟨c, x, y, rfl, e, hs⟩
      refine ⟨_, rfl, q, _, rfl, .inl (ex_sq e hq), ?_⟩
      have hl : p + (t.length - p) = t.length := by omega
      rw [hl, skipAt_end] at hs
      have := k.go e
      rw [hs] at this
      rw [hlen]
      exact this
def sp_name_end (K : PySem.W.Frag) (a : Ads) : Sp := fun vs H Q _ => ∃ (q : Addr) (t : List Int) (p : Nat), vs = [.ref q, .int p] ∧ SqL K H q (iL t) ∧ t.length ≤ 100000 ∧ p ≤ t.length ∧ RetV (.int (endM nameI t p)) H Q
theorem ok_name_end (T : Txt K mg a) (c_is_letter : Cal P w K mg base CX0 1 "is_letter" (sp_is_letter K a)) (c_is_digit : Cal P w K mg base CX0 1 "is_digit" (sp_is_digit K a)) : Cal P w K mg base CX0 2 "name_end" (sp_name_end K a) := by
  refine cal_of T.d_name_end sc_name_end (fun vs H Q E h => ?_) (fun f cdv A outer s H vs Q E hr h => ⟨_, (pss_cons (ps_for PassesOwn.never rfl (pi_range2 rfl T.b_range (pa_cons (pv 1) (pa_cons (pe_callB call_len_seq rfl T.b_len PySem.boot_len (pa_cons (pv 0) pa_nil)) pa_nil))) (pg_name (i := 2) sc_name_end.nd rfl (Or.inl rfl)) (pss_one (ps_if (PW.pt (pw_and (pt_not (pt_val (pe_c c_is_letter hr pass0 (pa_cons (pe_ix ix_list (pv 0) (pv 2) (fun _ _ => rfl)) pa_nil)))) (pw_and1 (pt_not (pt_val (pe_c c_is_digit hr pass0 (pa_cons (pe_ix ix_list (pv 0) (pv 2) (fun _ _ => rfl)) pa_nil))))))) (pss_one (ps_ret (pv 2))) pss_nil))) (pss_one (ps_ret (pe_callB call_len_seq rfl T.b_len PySem.boot_len (pa_cons (pv 0) pa_nil))))), ?_⟩)
  · obtain ⟨_, _, _, rfl, _⟩ := h
    rfl
  · obtain ⟨q, t, p, rfl, hq, hz, hp, k⟩ := h
    have hlen : (iL t).length = t.length := List.length_map ..
    refine ⟨_, rfl, _, rfl, q, _, rfl, .inl hq, (p : Int), ((iL t).length : Int), rfl, ⟨by omega, by omega, by omega, by omega⟩, ?_⟩
    have en : (((iL t).length : Int) - (p : Int)).toNat = t.length - p := by omega
    rw [en]
    refine for_range (lo := (p : Int)) (n := t.length - p) (fun i σ' H' => ∃ x, σ' = [some (.ref q), some (.int p), x] ∧ Ex H H' ∧ endM nameI t p = endM nameI t (p + i)) ⟨none, rfl, Ex.refl H, rfl⟩ ?_ ?_
    · rintro i σ' H' hi ⟨x, rfl, e, hs⟩
      have hpi : t[p + i]? = some (t[p + i]'(by omega)) := List.getElem?_eq_getElem _
      generalize t[p + i]'(by omega) = z at hpi
      have ei : (p : Int) + (i : Int) = ((p + i : Nat) : Int) := by omega
      rw [ei]
      have es : p + (i + 1) = p + i + 1 := by omega
      refine ⟨_, rfl, _, rfl, q, _, _, _, rfl, rfl, ex_sq e hq, at_nat (iL_get hpi), z, rfl, fun H2 e2 => ?_⟩
      refine ⟨_, rfl, ?_⟩
      cases hl : letterI z with
      | true =>
        refine iteF ?_
        exact iteF ⟨_, rfl, e.trans e2, by rw [hs, endM_yes hpi (by unfold nameI; rw [hl]; rfl), es]⟩
      | false =>
        refine iteT ?_
        refine ⟨_, rfl, _, rfl, q, _, _, _, rfl, rfl, ex_sq (e.trans e2) hq, at_nat (iL_get hpi), z, rfl, fun H3 e3 => ?_⟩
        refine ⟨_, rfl, ?_⟩
        cases hd : digitI z with
        | true => exact iteF ⟨_, rfl, (e.trans e2).trans e3, by rw [hs, endM_yes hpi (by unfold nameI; rw [hl, hd]; rfl), es]⟩
        | false =>
          refine iteT ⟨_, rfl, ?_⟩
          have := k.go ((e.trans e2).trans e3)
          rw [hs, endM_no hpi (by unfold nameI; rw [hl, hd]; rfl)] at this
          exact this
    · rintro σ' H' ⟨x, rfl, e, hs⟩
      refine ⟨_, rfl, q, _, rfl, .inl (ex_sq e hq), ?_⟩
      have hl : p + (t.length - p) = t.length := by omega
      rw [hl, endM_end] at hs
      have := k.go e
      rw [hs] at this
      rw [hlen]
      exact this
def sp_digits_end (K : PySem.W.Frag) (a : Ads) : Sp := fun vs H Q _ => ∃ (q : Addr) (t : List Int) (p : Nat), vs = [.ref q, .int p] ∧ SqL K H q (iL t) ∧ t.length ≤ 100000 ∧ p ≤ t.length ∧ RetV (.int (endM digitI t p)) H Q
theorem ok_digits_end (T : Txt K mg a) (c_is_digit : Cal P w K mg base CX0 1 "is_digit" (sp_is_digit K a)) : Cal P w K mg base CX0 2 "digits_end" (sp_digits_end K a) := by
  refine cal_of T.d_digits_end sc_digits_end (fun vs H Q E h => ?_) (fun f cdv A outer s H vs Q E hr h => ⟨_, (pss_cons (ps_for PassesOwn.never rfl (pi_range2 rfl T.b_range (pa_cons (pv 1) (pa_cons (pe_callB call_len_seq rfl T.b_len PySem.boot_len (pa_cons (pv 0) pa_nil)) pa_nil))) (pg_name (i := 2) sc_digits_end.nd rfl (Or.inl rfl)) (pss_one (ps_if (pt_not (pt_val (pe_c c_is_digit hr pass0 (pa_cons (pe_ix ix_list (pv 0) (pv 2) (fun _ _ => rfl)) pa_nil)))) (pss_one (ps_ret (pv 2))) pss_nil))) (pss_one (ps_ret (pe_callB call_len_seq rfl T.b_len PySem.boot_len (pa_cons (pv 0) pa_nil))))), ?_⟩)
  · obtain ⟨_, _, _, rfl, _⟩ := h
    rfl
  · obtain ⟨q, t, p, rfl, hq, hz, hp, k⟩ := h
    have hlen : (iL t).length = t.length := List.length_map ..
    refine ⟨_, rfl, _, rfl, q, _, rfl, .inl hq, (p : Int), ((iL t).length : Int), rfl, ⟨by omega, by omega, by omega, by omega⟩, ?_⟩
    have en : (((iL t).length : Int) - (p : Int)).toNat = t.length - p := by omega
    rw [en]
    refine for_range (lo := (p : Int)) (n := t.length - p) (fun i σ' H' => ∃ x, σ' = [some (.ref q), some (.int p), x] ∧ Ex H H' ∧ endM digitI t p = endM digitI t (p + i)) ⟨none, rfl, Ex.refl H, rfl⟩ ?_ ?_
    · rintro i σ' H' hi ⟨x, rfl, e, hs⟩
      have hpi : t[p + i]? = some (t[p + i]'(by omega)) := List.getElem?_eq_getElem _
      generalize t[p + i]'(by omega) = z at hpi
      have ei : (p : Int) + (i : Int) = ((p + i : Nat) : Int) := by omega
      rw [ei]
      have es : p + (i + 1) = p + i + 1 := by omega
      refine ⟨_, rfl, _, rfl, q, _, _, _, rfl, rfl, ex_sq e hq, at_nat (iL_get hpi), z, rfl, fun H3 e3 => ?_⟩
      refine ⟨_, rfl, ?_⟩
      cases hd : digitI z with
      | true => exact iteF ⟨_, rfl, e.trans e3, by rw [hs, endM_yes hpi hd, es]⟩
      | false =>
        refine iteT ⟨_, rfl, ?_⟩
        have := k.go (e.trans e3)
        rw [hs, endM_no hpi hd] at this
        exact this
    · rintro σ' H' ⟨x, rfl, e, hs⟩
      refine ⟨_, rfl, q, _, rfl, .inl (ex_sq e hq), ?_⟩
      have hl : p + (t.length - p) = t.length := by omega
      rw [hl, endM_end] at hs
      have := k.go e
      rw [hs] at this
      rw [hlen]
      exact this
theorem word_cps : codesOf ("measures" : Str) = codesI "measures" ∧ codesOf ("up" : Str) = codesI "up" ∧ codesOf ("down" : Str) = codesI "down" ∧ codesOf ("item" : Str) = codesI "item" := by decide +kernel
def sp_name_kind (K : PySem.W.Frag) (a : Ads) : Sp := fun vs H Q _ => ∃ (q : Addr) (t : List Int), vs = [.ref q] ∧ SqL K H q (iL t) ∧ RetV (.int (nameK t)) H Q
theorem ok_name_kind (T : Txt K mg a) (c_codes : Cal P w K mg base CX0 1 "codes" (sp_codes K a)) : Cal P w K mg base CX0 2 "name_kind" (sp_name_kind K a) := by
  refine cal_of T.d_name_kind sc_name_kind (fun vs H Q E h => ?_) (fun f cdv A outer s H vs Q E hr h => ⟨_, (pss_cons (ps_if (pt_cmpR (op_eqD hr.units) (pv 0) (pe_c c_codes hr pass0 (pa_cons pe_str pa_nil)) (nomark _)) (pss_one (ps_ret (pe_gc T.g_MEASURES))) pss_nil) (pss_cons (ps_if (pt_cmpR (op_eqD hr.units) (pv 0) (pe_c c_codes hr pass0 (pa_cons pe_str pa_nil)) (nomark _)) (pss_one (ps_ret (pe_gc T.g_UP))) pss_nil) (pss_cons (ps_if (pt_cmpR (op_eqD hr.units) (pv 0) (pe_c c_codes hr pass0 (pa_cons pe_str pa_nil)) (nomark _)) (pss_one (ps_ret (pe_gc T.g_DOWN))) pss_nil) (pss_cons (ps_if (pt_cmpR (op_eqD hr.units) (pv 0) (pe_c c_codes hr pass0 (pa_cons pe_str pa_nil)) (nomark _)) (pss_one (ps_ret (pe_gc T.g_ITEM))) pss_nil) (pss_cons (ps_if (pt_cmpR op_gt (pe_callB call_len_seq rfl T.b_len PySem.boot_len (pa_cons (pv 0) pa_nil)) (pe_gc T.g_LONGEST_NAME) (nomark _)) (pss_one (ps_ret (pe_gc T.g_WRONG))) pss_nil) (pss_one (ps_ret (pe_gc T.g_NAME)))))))), ?_⟩)
  · obtain ⟨_, _, rfl, _⟩ := h
    rfl
  · obtain ⟨q, t, rfl, hq, k⟩ := h
    obtain ⟨w1, w2, w3, w4⟩ := word_cps
    unfold nameK at k
    refine ⟨_, rfl, _, rfl, (by decide +kernel), fun p1 H1 n1 e1 h1 => ?_⟩
    rw [w1] at h1
    refine ⟨_, _, dp_I (ex_sq e1 hq), dp_I (sq h1), shaped_I _, shaped_I _, _, rfl, ?_⟩
    rw [eqv_I]
    refine ite_b (fun c => ?_) (fun c => ?_)
    · rw [if_pos (of_decide_eq_true c)] at k
      exact k.go e1
    rw [if_neg (of_decide_eq_false c)] at k
    refine ⟨_, rfl, _, rfl, (by decide +kernel), fun p2 H2 n2 e2 h2 => ?_⟩
    rw [w2] at h2
    refine ⟨_, _, dp_I (ex_sq (e1.trans e2) hq), dp_I (sq h2), shaped_I _, shaped_I _, _, rfl, ?_⟩
    rw [eqv_I]
    refine ite_b (fun c => ?_) (fun c => ?_)
    · rw [if_pos (of_decide_eq_true c)] at k
      exact k.go (e1.trans e2)
    rw [if_neg (of_decide_eq_false c)] at k
    refine ⟨_, rfl, _, rfl, (by decide +kernel), fun p3 H3 n3 e3 h3 => ?_⟩
    rw [w3] at h3
    have e13 := (e1.trans e2).trans e3
    refine ⟨_, _, dp_I (ex_sq e13 hq), dp_I (sq h3), shaped_I _, shaped_I _, _, rfl, ?_⟩
    rw [eqv_I]
    refine ite_b (fun c => ?_) (fun c => ?_)
    · rw [if_pos (of_decide_eq_true c)] at k
      exact k.go e13
    rw [if_neg (of_decide_eq_false c)] at k
    refine ⟨_, rfl, _, rfl, (by decide +kernel), fun p4 H4 n4 e4 h4 => ?_⟩
    rw [w4] at h4
    have e14 := e13.trans e4
    refine ⟨_, _, dp_I (ex_sq e14 hq), dp_I (sq h4), shaped_I _, shaped_I _, _, rfl, ?_⟩
    rw [eqv_I]
    refine ite_b (fun c => ?_) (fun c => ?_)
    · rw [if_pos (of_decide_eq_true c)] at k
      exact k.go e14
    rw [if_neg (of_decide_eq_false c)] at k
    refine ⟨_, rfl, q, _, rfl, .inl (ex_sq e14 hq), _, _, rfl, rfl, _, rfl, ?_⟩
    have hlen : (iL t).length = t.length := List.length_map ..
    refine ite_b (fun c => ?_) (fun c => ?_)
    · have c' := of_decide_eq_true c
      rw [if_pos (by omega)] at k
      exact k.go e14
    · have c' := of_decide_eq_false c
      rw [if_neg (by omega)] at k
      exact k.go e14
def sp_number_of (K : PySem.W.Frag) (a : Ads) : Sp := fun vs H Q _ => ∃ (q : Addr) (t : List Int), vs = [.ref q] ∧ SqL K H q (iL t) ∧ RetV (.int (numVal t)) H Q
theorem ok_number_of (T : Txt K mg a) : Cal P w K mg base CX0 1 "number_of" (sp_number_of K a) := by
  refine cal_of T.d_number_of sc_number_of (fun vs H Q E h => ?_) (fun f cdv A outer s H vs Q E hr h => ⟨_, (pss_cons (ps_set (i := 1) sc_number_of.nd rfl (Or.inl rfl) pe_int) (pss_cons (ps_for PassesOwn.never rfl (pi_list (pv 0)) (pg_name (i := 2) sc_number_of.nd rfl (Or.inl rfl)) (pss_one (ps_set (i := 1) sc_number_of.nd rfl (Or.inl rfl) (pe_op op_sub (pe_op op_add (pe_op op_mul (pv 1) pe_int) (pv 2)) (pe_gc T.g_ZERO))))) (pss_one (ps_ret (pv 1))))), ?_⟩)
  · obtain ⟨_, _, rfl, _⟩ := h
    rfl
  · obtain ⟨q, t, rfl, hq, k⟩ := h
    refine ⟨_, rfl, q, rfl, ⟨_, hq⟩, for_list (K := K) (a := q) (xs := iL t) (fun i σ' H' => ∃ x, σ' = [some (.ref q), some (.int (numVal (t.take i))), x] ∧ H' = H) ⟨none, rfl, rfl⟩ (fun i σ' H' _ ⟨_, _, e⟩ => by rw [e]; exact hq) ?_ ?_⟩
    · rintro i y σ' H' hi ⟨x, rfl, rfl⟩
      obtain ⟨z, hz, rfl⟩ := iL_at hi
      refine ⟨_, rfl, _, _, rfl, rfl, .inr ⟨by decide, by decide⟩, _, rfl, _, _, rfl, rfl, _, _, rfl, rfl, ?_⟩
      refine ⟨some (.int z), ?_, rfl⟩
      rw [take_more hz, numVal_snoc]
      rfl
    · rintro σ' H' ⟨x, rfl, rfl⟩
      refine ⟨_, rfl, ?_⟩
      have hlen : (iL t).length = t.length := List.length_map ..
      rw [hlen, List.take_length]
      exact k.go (Ex.refl _)
def sp_number_kind (K : PySem.W.Frag) (a : Ads) : Sp := fun vs H Q _ => ∃ (q : Addr) (t : List Int), vs = [.ref q] ∧ SqL K H q (iL t) ∧ RetV (.int (numK t)) H Q
theorem ok_number_kind (T : Txt K mg a) (c_number_of : Cal P w K mg base CX0 1 "number_of" (sp_number_of K a)) : Cal P w K mg base CX0 2 "number_kind" (sp_number_kind K a) := by
  refine cal_of T.d_number_kind sc_number_kind (fun vs H Q E h => ?_) (fun f cdv A outer s H vs Q E hr h => ⟨_, (pss_cons (ps_if (PW.pt (pw_and (pt_cmpR op_gt (pe_callB call_len_seq rfl T.b_len PySem.boot_len (pa_cons (pv 0) pa_nil)) pe_int (nomark _)) (pw_and1 (pt_cmpR op_eq (pe_ix ix_list (pv 0) pe_int (fun _ _ => rfl)) (pe_gc T.g_ZERO) (nomark _))))) (pss_one (ps_ret (pe_gc T.g_WRONG))) pss_nil) (pss_cons (ps_if (pt_cmpR op_gt (pe_callB call_len_seq rfl T.b_len PySem.boot_len (pa_cons (pv 0) pa_nil)) (pe_gc T.g_MOST_DIGITS) (nomark _)) (pss_one (ps_ret (pe_gc T.g_WRONG))) pss_nil) (pss_cons (ps_if (pt_cmpR op_gt (pe_c c_number_of hr pass0 (pa_cons (pv 0) pa_nil)) (pe_gc T.g_GREATEST_NUMBER) (nomark _)) (pss_one (ps_ret (pe_gc T.g_WRONG))) pss_nil) (pss_one (ps_ret (pe_gc T.g_NUMBER)))))), ?_⟩)
  · obtain ⟨_, _, rfl, _⟩ := h
    rfl
  · obtain ⟨q, t, rfl, hq, k⟩ := h
    have hlen : (iL t).length = t.length := List.length_map ..
    have tail : numK t = (if t.length > 10 then 7 else if numVal t > 1000000000 then 7 else 2) →
        (tSeq (tIfS (tTest (tOp (rI0 fun i j => .bl (decide (j < i))) (tCB (fun xs H Q => ∃ p ys, xs = [V.ref p] ∧ (SqL K H p ys ∨ SqT K H p ys) ∧ Q (.int ys.length) H) (tCons (tVar 0) tNil)) (tC (.int 10)))) (tRet (tC (.int 7))) tNext)
          (tSeq (tIfS (tTest (tOp (rI0 fun i j => .bl (decide (j < i))) (tCall (sp_number_of K a) [] E0 (tCons (tVar 0) tNil)) (tC (.int 1000000000)))) (tRet (tC (.int 7))) tNext) (tRet (tC (.int 2))))) { nx := fun _ H' => Q .non H', rt := Q } [some (.ref q)] H := by
      intro e
      rw [e] at k
      refine ⟨_, rfl, q, _, rfl, .inl hq, _, _, rfl, rfl, _, rfl, ite_b (fun c => ?_) (fun c => ?_)⟩
      · have c' := of_decide_eq_true c
        rw [if_pos (by omega)] at k
        exact k.go (Ex.refl H)
      · have c' := of_decide_eq_false c
        rw [if_neg (by omega)] at k
        refine ⟨_, rfl, q, t, rfl, hq, fun H2 e2 => ⟨_, _, rfl, rfl, _, rfl, ite_b (fun c2 => ?_) (fun c2 => ?_)⟩⟩
        · rw [if_pos (of_decide_eq_true c2)] at k
          exact k.go e2
        · rw [if_neg (of_decide_eq_false c2)] at k
          exact k.go e2
    refine ⟨_, rfl, q, _, rfl, .inl hq, _, _, rfl, rfl, _, rfl, ite_b (fun c => ?_) (fun c => ?_)⟩
    · have c' := of_decide_eq_true c
      have h0 : t[0]? = some (t[0]'(by omega)) := List.getElem?_eq_getElem _
      generalize t[0]'(by omega) = z at h0
      refine ⟨_, rfl, q, _, _, _, rfl, rfl, hq, at_nat (i := 0) (iL_get h0), rfl, _, rfl, ?_⟩
      rw [dec_int]
      refine ite_b (fun c2 => ?_) (fun c2 => ?_)
      · have e : numK t = 7 := by
          unfold numK
          rw [if_pos ⟨by omega, by rw [List.head?_eq_getElem?, h0, of_decide_eq_true c2]⟩]
        rw [e] at k
        exact k.go (Ex.refl H)
      · refine tail ?_
        unfold numK
        rw [if_neg]
        rintro ⟨_, h⟩
        rw [List.head?_eq_getElem?, h0] at h
        exact of_decide_eq_false c2 (Option.some.inj h)
    · have c' := of_decide_eq_false c
      refine iteF (tail ?_)
      unfold numK
      rw [if_neg]
      rintro ⟨h, _⟩
      omega
end
end Fw
set_option Elab.async false
set_option maxRecDepth 100000
set_option maxHeartbeats 4000000
namespace Fw
open PySem PySem.Spec PyProof.Rows L2 Fm
open Evl (Ex Ev EvL EvU EvT EvA RV RetL RetV)
def RetU (xs : List V) (H : Hp) (Q : VK) : Prop := ∀ p H2, H p = none → Ex H H2 → H2 p = some (.tup xs) → Q (.ref p) H2
theorem fresh_of {H H' : Hp} {p : Addr} (e : Ex H H') (h : H' p = none) : H p = none := Evl.fresh_back e h
section
variable {P : Program} {w : World} {K : PySem.W.Frag} {mg : Str → Option Value} {base : Heap} {a : Ads}
def sp_token_at (K : PySem.W.Frag) (a : Ads) : Sp := fun vs H Q _ => ∃ (q : Addr) (t : List Int) (p : Nat), vs = [.ref q, .int p] ∧ SqL K H q (iL t) ∧ t.length ≤ 100000 ∧ p < t.length ∧
  RetU [.int (tokK (t.drop p)).1, .int p, .int ((p + (tokK (t.drop p)).2 : Nat) : Int)] H Q
theorem ok_token_at (T : Txt K mg a) (c_is_letter : Cal P w K mg base CX0 1 "is_letter" (sp_is_letter K a)) (c_name_end : Cal P w K mg base CX0 2 "name_end" (sp_name_end K a)) (c_name_kind : Cal P w K mg base CX0 2 "name_kind" (sp_name_kind K a)) (c_is_digit : Cal P w K mg base CX0 1 "is_digit" (sp_is_digit K a)) (c_digits_end : Cal P w K mg base CX0 2 "digits_end" (sp_digits_end K a)) (c_number_kind : Cal P w K mg base CX0 2 "number_kind" (sp_number_kind K a)) : Cal P w K mg base CX0 3 "token_at" (sp_token_at K a) := by
  refine cal_of T.d_token_at sc_token_at (fun vs H Q E h => ?_) (fun f cdv A outer s H vs Q E hr h => ⟨_, (pss_cons (ps_set (i := 2) sc_token_at.nd rfl (Or.inl rfl) (pe_ix ix_list (pv 0) (pv 1) (fun _ _ => rfl))) (pss_cons (ps_if (pt_val (pe_c c_is_letter hr pass0 (pa_cons (pv 2) pa_nil))) (pss_cons (ps_set (i := 3) sc_token_at.nd rfl (Or.inl rfl) (pe_c c_name_end hr pass0 (pa_cons (pv 0) (pa_cons (pv 1) pa_nil)))) (pss_one (ps_ret (pe_tup (pa_cons (pe_c c_name_kind hr pass0 (pa_cons (pe_slice sl_list (pv 0) (po_some (pv 1)) (po_some (pv 3))) pa_nil)) (pa_cons (pv 1) (pa_cons (pv 3) pa_nil))))))) pss_nil) (pss_cons (ps_if (pt_val (pe_c c_is_digit hr pass0 (pa_cons (pv 2) pa_nil))) (pss_cons (ps_set (i := 3) sc_token_at.nd rfl (Or.inl rfl) (pe_c c_digits_end hr pass0 (pa_cons (pv 0) (pa_cons (pv 1) pa_nil)))) (pss_one (ps_ret (pe_tup (pa_cons (pe_c c_number_kind hr pass0 (pa_cons (pe_slice sl_list (pv 0) (po_some (pv 1)) (po_some (pv 3))) pa_nil)) (pa_cons (pv 1) (pa_cons (pv 3) pa_nil))))))) pss_nil) (pss_cons (ps_if (pt_cmpR op_in_seq (pv 2) (pe_gc T.g_SIGNS) (by rfl)) (pss_one (ps_ret (pe_tup (pa_cons (pv 2) (pa_cons (pv 1) (pa_cons (pe_op op_add (pv 1) pe_int) pa_nil)))))) pss_nil) (pss_one (ps_ret (pe_tup (pa_cons (pe_gc T.g_WRONG) (pa_cons (pv 1) (pa_cons (pe_op op_add (pv 1) pe_int) pa_nil)))))))))), ?_⟩)
  · obtain ⟨_, _, _, rfl, _⟩ := h
    rfl
  · obtain ⟨q, t, p, rfl, hq, hz, hp, k⟩ := h
    have hpi : t[p]? = some t[p] := List.getElem?_eq_getElem _
    have hle : ((t.drop p).takeWhile nameI).length ≤ (t.drop p).length := (List.takeWhile_sublist _).length_le
    have hle2 : ((t.drop p).takeWhile digitI).length ≤ (t.drop p).length := (List.takeWhile_sublist _).length_le
    rw [List.length_drop] at hle hle2
    generalize t[p] = z at hpi
    have hd := drop_cons hpi
    refine ⟨_, rfl, _, rfl, q, _, _, _, rfl, rfl, hq, at_nat (iL_get hpi), ?_⟩
    refine ⟨_, rfl, z, rfl, fun H1 e1 => ⟨_, rfl, ite_b (fun c => ?_) (fun c => ?_)⟩⟩
    · refine ⟨_, rfl, _, rfl, q, t, p, rfl, ex_sq e1 hq, hz, by omega, fun H2 e2 => ?_⟩
      have eE : endM nameI t p = p + ((t.drop p).takeWhile nameI).length := rfl
      refine ⟨_, rfl, _, rfl, _, rfl, _, rfl, _, rfl, q, _, rfl, ex_sq (e1.trans e2) hq, fun l hl => ?_⟩
      rw [eE, cut_iL t (by omega) (by omega), Nat.add_sub_cancel_left, takeWhile_take]
      refine ⟨l, _, rfl, sq upd_same, fun H3 e3 => ?_⟩
      refine ⟨_, rfl, _, rfl, by show 3 ≤ sizeLine; decide, fun u hu => ?_⟩
      have e13 := ((e1.trans e2).trans (ex_new hl)).trans e3
      have et : tokK (t.drop p) = (nameK ((t.drop p).takeWhile nameI), ((t.drop p).takeWhile nameI).length) := by
        rw [hd]
        unfold tokK
        simp only [if_pos c]
      rw [et] at k
      exact k u _ (fresh_of e13 hu) (e13.trans (ex_new hu)) upd_same
    · refine ⟨_, rfl, z, rfl, fun H2 e2 => ⟨_, rfl, ite_b (fun c2 => ?_) (fun c2 => ?_)⟩⟩
      · refine ⟨_, rfl, _, rfl, q, t, p, rfl, ex_sq (e1.trans e2) hq, hz, by omega, fun H3 e3 => ?_⟩
        have eE : endM digitI t p = p + ((t.drop p).takeWhile digitI).length := rfl
        refine ⟨_, rfl, _, rfl, _, rfl, _, rfl, _, rfl, q, _, rfl, ex_sq ((e1.trans e2).trans e3) hq, fun l hl => ?_⟩
        rw [eE, cut_iL t (by omega) (by omega), Nat.add_sub_cancel_left, takeWhile_take]
        refine ⟨l, _, rfl, sq upd_same, fun H4 e4 => ?_⟩
        refine ⟨_, rfl, _, rfl, by show 3 ≤ sizeLine; decide, fun u hu => ?_⟩
        have e13 := (((e1.trans e2).trans e3).trans (ex_new hl)).trans e4
        have et : tokK (t.drop p) = (numK ((t.drop p).takeWhile digitI), ((t.drop p).takeWhile digitI).length) := by
          rw [hd]
          unfold tokK
          simp only [if_neg (show ¬ letterI z = true by rw [c]; decide), if_pos c2]
        rw [et] at k
        exact k u _ (fresh_of e13 hu) (e13.trans (ex_new hu)) upd_same
      · refine ⟨_, rfl, a.signs, _, rfl, .inr (T.t_SIGNS _), rfl, rfl, _, rfl, ?_⟩
        rw [inV_signs]
        have e12 := e1.trans e2
        show if (if false = true then !signI z else signI z) = true then _ else _
        rw [if_neg Bool.false_ne_true]
        refine ite_b (fun c3 => ?_) (fun c3 => ?_)
        · refine ⟨_, rfl, _, rfl, _, rfl, _, _, rfl, rfl, by show 3 ≤ sizeLine; decide, fun u hu => ?_⟩
          have et : tokK (t.drop p) = (z, 1) := by
            rw [hd]
            unfold tokK
            simp only [if_neg (show ¬ letterI z = true by rw [c]; decide), if_neg (show ¬ digitI z = true by rw [c2]; decide), if_pos c3]
          rw [et] at k
          exact k u _ (fresh_of e12 hu) (e12.trans (ex_new hu)) upd_same
        · refine ⟨_, rfl, _, rfl, _, _, rfl, rfl, by show 3 ≤ sizeLine; decide, fun u hu => ?_⟩
          have et : tokK (t.drop p) = (7, 1) := by
            rw [hd]
            unfold tokK
            simp only [if_neg (show ¬ letterI z = true by rw [c]; decide), if_neg (show ¬ digitI z = true by rw [c2]; decide), if_neg (show ¬ signI z = true by rw [c3]; decide)]
          rw [et] at k
          exact k u _ (fresh_of e12 hu) (e12.trans (ex_new hu)) upd_same
/-- tokens in form: the end's alone has kind 0, and is the last -/
structure Good (t : List Int) (l : List Tk) (r : VaskyBase.Toks) : Prop where
  rel : TokRs t l r
  shape : ∃ front : List Tk, l = front ++ [((0 : Int), (t.length : Int), (t.length : Int))] ∧ ∀ x ∈ front, x.1 ≠ 0
  few : l.length ≤ t.length + 1
def sp_read_tokens (K : PySem.W.Frag) (a : Ads) : Sp := fun vs H Q _ => ∃ (q : Addr) (t : List Int), vs = [.ref q] ∧ SqL K H q (iL t) ∧ t.length ≤ 4096 ∧ Oks t ∧
  (∀ place : Nat, L 0 (bytesOf t) = .error ⟨2, place⟩ → ∀ (p : Addr) (H2 : Hp) (r : V), Ex H H2 → H2 p = some (.tup [r, .int place]) → Q (.ref p) H2) ∧
  (∀ toks found, L 0 (bytesOf t) = .ok toks → Good t found toks → ∀ (p : Addr) (H2 : Hp) (r : V), Ex H H2 → H2 p = some (.tup [r, .int (-1)]) → Da (nw H H2) r (dTks found) → Q (.ref p) H2)
theorem ok_read_tokens (T : Txt K mg a) (c_after_blanks : Cal P w K mg base CX0 1 "after_blanks" (sp_after_blanks K a)) (c_token_at : Cal P w K mg base CX0 3 "token_at" (sp_token_at K a)) : Cal P w K mg base CX0 4 "read_tokens" (sp_read_tokens K a) := by
  refine cal_of T.d_read_tokens sc_read_tokens (fun vs H Q E h => ?_) (fun f cdv A outer s H vs Q E hr h => ⟨_, (pss_cons (ps_set (i := 1) sc_read_tokens.nd rfl (Or.inl rfl) (pe_lst pa_nil)) (pss_cons (ps_set (i := 2) sc_read_tokens.nd rfl (Or.inl rfl) (pe_c c_after_blanks hr pass0 (pa_cons (pv 0) (pa_cons pe_int pa_nil)))) (pss_cons (ps_while PassesOwn.never (pt_cmpR op_lt (pv 2) (pe_callB call_len_seq rfl T.b_len PySem.boot_len (pa_cons (pv 0) pa_nil)) (nomark _)) (pss_cons (ps_set (i := 3) sc_read_tokens.nd rfl (Or.inl rfl) (pe_c c_token_at hr pass0 (pa_cons (pv 0) (pa_cons (pv 2) pa_nil)))) (pss_cons (ps_if (pt_cmpR op_eq (pe_ix ix_tup (pv 3) pe_int (fun _ _ => rfl)) (pe_gc T.g_WRONG) (nomark _)) (pss_one (ps_ret (pe_tup (pa_cons (pv 1) (pa_cons (pv 2) pa_nil))))) pss_nil) (pss_cons (ps_expr (pe_bm PySem.F.plainAttrs_list PySem.F.slot_list_append PySem.F.type_list_append mt_append (pv 1) (pa_cons (pv 3) pa_nil))) (pss_one (ps_set (i := 2) sc_read_tokens.nd rfl (Or.inl rfl) (pe_c c_after_blanks hr pass0 (pa_cons (pv 0) (pa_cons (pe_ix ix_tup (pv 3) pe_int (fun _ _ => rfl)) pa_nil))))))))) (pss_cons (ps_expr (pe_bm PySem.F.plainAttrs_list PySem.F.slot_list_append PySem.F.type_list_append mt_append (pv 1) (pa_cons (pe_tup (pa_cons (pe_gc T.g_END) (pa_cons (pe_callB call_len_seq rfl T.b_len PySem.boot_len (pa_cons (pv 0) pa_nil)) (pa_cons (pe_callB call_len_seq rfl T.b_len PySem.boot_len (pa_cons (pv 0) pa_nil)) pa_nil)))) pa_nil))) (pss_one (ps_ret (pe_tup (pa_cons (pv 1) (pa_cons (pe_un un_neg pe_int) pa_nil))))))))), ?_⟩)
  · obtain ⟨_, _, rfl, _⟩ := h
    rfl
  · obtain ⟨q, t, rfl, hq, hz, ho, kW, kR⟩ := h
    have hlen : (iL t).length = t.length := List.length_map ..
    refine ⟨by show 0 ≤ sizeLine; decide, fun F hF => ?_⟩
    refine ⟨_, rfl, q, t, 0, rfl, ex_sq (ex_new hF) hq, by omega, by omega, fun H1 e1 => ?_⟩
    have I0 := lex_start ho
    refine ⟨fun m σ' H' => ∃ found p pre xs x, m = t.length - p ∧ σ' = [some (.ref q), some (.ref F), some (.int ((p : Nat) : Int)), x] ∧ LexInv t found p pre ∧ H' F = some (.lst xs) ∧ DaL (nw H (rm H' F)) xs (found.map dTk) ∧ Ex H (rm H' F),
      ⟨_, [], skip false 0 t, [], [], none, rfl, rfl, I0, e1 _ _ upd_same, .nil, ex_rm ((ex_new hF).trans e1) hF⟩, ?_⟩
    rintro m σ' H' ⟨found, p, pre, xs, x, rfl, rfl, I, hl, hd, e⟩
    have eH : Ex H H' := e.trans rm_sub
    refine ⟨_, rfl, _, rfl, q, _, rfl, .inl (ex_sq eH hq), _, _, rfl, rfl, _, rfl, ite_b (fun c => ?_) (fun c => ?_)⟩
    · have hp : p < t.length := by have := of_decide_eq_true c; omega
      have hpi : t[p]? = some t[p] := List.getElem?_eq_getElem _
      have hdr := drop_cons hpi
      have hturn := lex_turn ho I hdr
      rw [← hdr] at hturn
      refine ⟨fun σ2 H2 => ∃ found' p' pre' xs' x', t.length - p' < t.length - p ∧ σ2 = [some (.ref q), some (.ref F), some (.int ((p' : Nat) : Int)), x'] ∧ LexInv t found' p' pre' ∧ H2 F = some (.lst xs') ∧ DaL (nw H (rm H2 F)) xs' (found'.map dTk) ∧ Ex H (rm H2 F), ?_, ?_⟩
      · rintro σ2 H2 ⟨found', p', pre', xs', x', h1, h2, h3, h4, h5, h6⟩
        exact ⟨_, h1, found', p', pre', xs', x', rfl, h2, h3, h4, h5, h6⟩
      refine ⟨_, rfl, _, rfl, q, t, p, rfl, ex_sq eH hq, by omega, hp, fun u H2 hu e2 h2 => ?_⟩
      refine ⟨_, rfl, u, _, _, _, rfl, rfl, st h2, rfl, rfl, _, rfl, ?_⟩
      rw [dec_int]
      have hF2 : H2 F = some (.lst xs) := e2 _ _ hl
      refine ite_b (fun c7 => ?_) (fun c7 => ?_)
      · rcases hturn with ⟨_, herr⟩ | ⟨h7, _⟩
        · refine ⟨_, rfl, _, rfl, by show 2 ≤ sizeLine; decide, fun v hv => ?_⟩
          exact kW p herr v _ (.ref F) ((eH.trans e2).trans (ex_new hv)) upd_same
        · exact absurd (of_decide_eq_true c7) h7
      · rcases hturn with ⟨h7, _⟩ | ⟨_, hlt, tok, I'⟩
        · exact absurd h7 (of_decide_eq_false c7)
        · have hxs : xs.length = found.length := by rw [hd.len, List.length_map]
          have hfew := I.few
          have huF : u ≠ F := fun z => by rw [z, hl] at hu; cases hu
          have hHu : H u = none := fresh_of eH hu
          refine ⟨_, rfl, .inl ⟨rfl, _, sq hF2⟩, _, rfl, F, xs, .ref u, rfl, rfl, hF2, szl (by omega), ?_⟩
          have hu3 : (upd H2 F (.lst (xs ++ [.ref u]))) u = some (.tup [.int (tokK (t.drop p)).1, .int p, .int ((p + (tokK (t.drop p)).2 : Nat) : Int)]) := by
            rw [upd_ne huF]
            exact h2
          have e23 : Ex (rm H' F) (rm (upd H2 F (.lst (xs ++ [.ref u]))) F) := by
            rw [rm_upd]
            exact rm_ex e2
          have hpd : p + (tokK (t.drop p)).2 ≤ t.length := by
            have := tokK_pos (z := t[p]) (r := t.drop (p + 1))
            rw [← hdr, List.length_drop] at this
            omega
          refine ⟨_, rfl, _, rfl, u, _, _, _, rfl, rfl, st hu3, rfl, q, t, _, rfl, ex_sq ((e.trans e23).trans rm_sub) hq, by omega, hpd, fun H4 e4 => ?_⟩
          refine ⟨_, _, _, xs ++ [.ref u], _, ?_, rfl, I', e4 _ _ upd_same, ?_, ?_⟩
          · have := I'.le
            show t.length - skip false (p + (tokK (t.drop p)).2) (t.drop (p + (tokK (t.drop p)).2)) < t.length - p
            omega
          · rw [List.map_append]
            have e34 : Ex (nw H (rm H' F)) (nw H (rm H4 F)) := nw_ex (e23.trans (rm_ex e4))
            refine (hd.ex e34).snoc (.t (xs := [.int (tokK (t.drop p)).1, .int p, .int ((p + (tokK (t.drop p)).2 : Nat) : Int)]) ?_ (.cons (.i _) (.cons (.i _) (.cons (.i _) .nil))))
            rw [nw_new hHu, rm_ne huF]
            exact e4 _ _ hu3
          · exact (e.trans e23).trans (rm_ex e4)
    · have hp : t.length ≤ p := by have := of_decide_eq_false c; omega
      obtain ⟨toks, hok, hrel⟩ := lex_end I hp
      have hxs : xs.length = found.length := by rw [hd.len, List.length_map]
      have hfew := I.few
      have hle := I.le
      refine ⟨_, rfl, .inl ⟨rfl, _, sq hl⟩, ?_⟩
      refine ⟨_, rfl, q, _, rfl, .inl (ex_sq eH hq), _, rfl, q, _, rfl, .inl (ex_sq eH hq), by show 3 ≤ sizeLine; decide, fun u hu => ?_⟩
      have huF : u ≠ F := fun z => by rw [z, hl] at hu; cases hu
      have hHu : H u = none := fresh_of eH hu
      refine ⟨F, xs, .ref u, rfl, rfl, by rw [upd_ne (Ne.symm huF)]; exact hl, szl (by omega), ?_⟩
      refine ⟨_, rfl, _, rfl, by show 2 ≤ sizeLine; decide, fun v hv => ?_⟩
      have e2 : Ex (rm H' F) (rm (upd (upd H' u (.tup [.int 0, .int ((iL t).length : Int), .int ((iL t).length : Int)])) F (.lst (xs ++ [.ref u]))) F) := by
        rw [rm_upd]
        exact rm_ex (ex_new hu)
      have eX : Ex (upd (upd H' u (.tup [.int 0, .int ((iL t).length : Int), .int ((iL t).length : Int)])) F (.lst (xs ++ [.ref u]))) _ := ex_new (o := .tup [.ref F, .int (-1)]) hv
      have hf : found.length ≤ t.length := by omega
      refine kR toks _ hok ⟨hrel, ⟨found, rfl, I.no0⟩, ?_⟩ v _ (.ref F) ((e.trans e2).trans (rm_sub.trans eX)) upd_same ?_
      · rw [List.length_append]
        show found.length + 1 ≤ _
        omega
      · have hFn : H F = none := hF
        refine .l (xs := xs ++ [.ref u]) ?_ ?_
        · rw [nw_new hFn]
          exact eX _ _ upd_same
        · rw [List.map_append]
          refine (hd.ex (nw_ex (e2.trans (rm_sub.trans eX)))).snoc (.t (xs := [.int 0, .int (t.length : Int), .int (t.length : Int)]) ?_ (.cons (.i _) (.cons (.i _) (.cons (.i _) .nil))))
          rw [nw_new hHu]
          refine eX _ _ ?_
          rw [upd_ne huF, upd_same, hlen]
end
end Fw
set_option Elab.async false
set_option maxRecDepth 100000
set_option maxHeartbeats 4000000
namespace Fw
open PySem PySem.Spec PyProof.Rows L2 Fm
open Evl (Ex Ev EvL EvU EvT EvA RV RetL RetV)
open VaskyBase (Fault Toks)
theorem u65 {k : Nat} {A : Around} (hr : Room k A) : A.units + 65 < cLine := by have := hr.un; omega
/-- an outcome -/
def Out {A : Type} (x : Except Fault A) (ok : A → Prop) (er : Nat → Nat → Prop) : Prop := match x with
  | .ok y => ok y
  | .error f => er f.code f.place
def faultF (cd pl : Int) : List (Str × V) := [("place", .int pl), ("code", .int cd)]
/-- the def's own way out: a fault; all but S stands -/
def Rs (a : Ads) (cd pl : Nat) (S : List Addr) (H : Hp) (E : XK) : Prop := ∀ d H', Kp S H H' → H' d = some (.xd (faultF cd pl)) → E (.ref a.fault) (some d) H'
theorem Rs.mono {a : Ads} {cd pl : Nat} {S S' : List Addr} {H H1 : Hp} {E : XK} (h : Rs a cd pl S' H E) (k : Kp S' H H1) (s : ∀ b ∈ S, b ∈ S') : Rs a cd pl S H1 E := fun d H' k' hd => h d H' (k.trans (k'.mono s)) hd
theorem nil_sub {S : List Addr} : ∀ b ∈ ([] : List Addr), b ∈ S := fun b h => absurd h (by simp)
theorem one_sub {c : Addr} {S : List Addr} (h : c ∈ S) : ∀ b ∈ [c], b ∈ S := fun b hb => by
  rw [List.mem_singleton.mp hb]
  exact h
def curF (rt rk : Addr) (i : Nat) : List (Str × V) := [("text", .ref rt), ("tokens", .ref rk), ("at", .int i)]
section
variable {rt rk : Addr} {i : Nat}
theorem cf_tx : (curF rt rk i).lookup ("text" : Str) = some (.ref rt) := lk_here
theorem cf_tk : (curF rt rk i).lookup ("tokens" : Str) = some (.ref rk) := (lk_past (by decide +kernel)).trans lk_here
theorem cf_at : (curF rt rk i).lookup ("at" : Str) = some (.int i) := (lk_past (by decide +kernel)).trans ((lk_past (by decide +kernel)).trans lk_here)
theorem cf_no {k : Str} (h1 : (k == ("text" : Str)) = false) (h2 : (k == ("tokens" : Str)) = false) (h3 : (k == ("at" : Str)) = false) : (curF rt rk i).lookup k = none := (lk_past h1).trans ((lk_past h2).trans ((lk_past h3).trans rfl))
theorem cf_put : putF ("at" : Str) (.int ((i : Int) + 1)) (curF rt rk i) = curF rt rk (i + 1) := by
  unfold curF
  rw [put_past (by decide +kernel), put_past (by decide +kernel), put_here]
  rfl
end
structure Cu where
  dx : Addr
  rt : Addr
  rk : Addr
/-- the cursor at c stands at its i-th token; S: what may change -/
structure CurAt (a : Ads) (K : PySem.W.Frag) (S : List Addr) (H : Hp) (c : Addr) (u : Cu) (t : List Int) (tk : List Tk) (i : Nat) : Prop where
  obj : H c = some (.ins a.cursor u.dx (curF u.rt u.rk i))
  tx : SqL K (hide S H) u.rt (iL t)
  tks : Da (hide S H) (.ref u.rk) (dTks tk)
theorem CurAt.sub {a : Ads} {K : PySem.W.Frag} {S S' : List Addr} {H : Hp} {c : Addr} {u : Cu} {t : List Int} {tk : List Tk} {i : Nat} (h : CurAt a K S' H c u t tk i) (s : ∀ b ∈ S, b ∈ S') : CurAt a K S H c u t tk i :=
  ⟨h.obj, ex_sq (hide_mono s) h.tx, h.tks.ex (hide_mono s)⟩
theorem CurAt.kp {a : Ads} {K : PySem.W.Frag} {S : List Addr} {H H' : Hp} {c : Addr} {u : Cu} {t : List Int} {tk : List Tk} {i j : Nat} (h : CurAt a K S H c u t tk i) (k : Kp S H H') (o : H' c = some (.ins a.cursor u.dx (curF u.rt u.rk j))) : CurAt a K S H' c u t tk j :=
  ⟨o, ex_sq k.hid h.tx, h.tks.ex k.hid⟩
theorem CurAt.ex {a : Ads} {K : PySem.W.Frag} {S : List Addr} {H H' : Hp} {c : Addr} {u : Cu} {t : List Int} {tk : List Tk} {i : Nat} (h : CurAt a K S H c u t tk i) (e : Ex H H') : CurAt a K S H' c u t tk i :=
  h.kp (Kp.of e) (e _ _ h.obj)
theorem CurAt.tok {a : Ads} {K : PySem.W.Frag} {S : List Addr} {H : Hp} {c : Addr} {u : Cu} {t : List Int} {tk : List Tk} {i : Nat} (h : CurAt a K S H c u t tk i) {k p e : Int} (hk : tk[i]? = some (k, p, e)) :
    ∃ xs q, H u.rk = some (.lst xs) ∧ xs[i]? = some (.ref q) ∧ H q = some (.tup [.int k, .int p, .int e]) := by
  obtain ⟨p', xs, e', h1, h2⟩ := dl_da (h.tks.ex hide_sub)
  cases e'
  obtain ⟨v, x1, x2⟩ := h2.get (i := i) (d := dTk (k, p, e)) (by rw [List.getElem?_map, hk]; rfl)
  obtain ⟨q, ys, rfl, y1, y2⟩ := dt_da x2
  obtain ⟨v1, v2, v3, rfl, z1, z2, z3⟩ := da3 y2
  rw [di_da z1, di_da z2, di_da z3] at y1
  exact ⟨xs, q, h1, x1, y1⟩
section
variable {P : Program} {w : World} {K : PySem.W.Frag} {mg : Str → Option Value} {base : Heap} {a : Ads}
def sp_ListFault_init (K : PySem.W.Frag) (a : Ads) : Sp := fun vs H Q _ => ∃ (x : Addr) (cd pl : Int), vs = [.ref x, .int cd, .int pl] ∧ H x = some (exo x a.fault none) ∧
  ∀ (dx : Addr) (H' : Hp), H dx = none → dx ≠ x → H' x = some (exo x a.fault (some dx)) → H' dx = some (exd dx (faultF cd pl)) → (∀ b o, H b = some o → b ≠ x → H' b = some o) → Q .non H'
theorem ok_ListFault_init (T : Txt K mg a) : Flt P w K mg base 1 a.fault (sp_ListFault_init K a) := by
  refine flt_of T.d_ListFault_init sc_ListFault_init (fun vs H Q E h => ?_) (fun f cdv A outer s H vs Q E hr h => ⟨_, (pss_cons (ps_ost (pv 0) (pv 1)) (pss_one (ps_ost (pv 0) (pv 2)))), ?_⟩)
  · obtain ⟨_, _, _, rfl, _⟩ := h
    rfl
  · obtain ⟨x, cd, pl, rfl, hx, k⟩ := h
    refine ⟨_, rfl, _, rfl, x, a.fault, rfl, T.oex, T.nf_code, .inl ⟨hx, fun dx hd hne => ?_⟩⟩
    refine ⟨_, rfl, _, rfl, x, a.fault, rfl, T.oex, T.nf_place, .inr ⟨dx, _, upd_same, by rw [upd_ne hne]; exact upd_same, by show 1 ≤ 900; decide, ?_⟩⟩
    refine k dx _ hd hne ?_ upd_same fun b o hb hn => ?_
    · rw [upd_ne (Ne.symm hne)]
      exact upd_same
    · have hbd : b ≠ dx := ne_of_none hb hd
      rw [upd_ne hbd, upd_ne hn, upd_ne hbd]
      exact hb
/-- what the raise of a fault asks -/
theorem go_fault {cd pl : Nat} {H1 : Hp} {E : XK} (h : Rs a cd pl [] H1 E) : ([.int cd, .int pl] : List V).length ≤ 1000 ∧ ∀ x, H1 x = none → sp_ListFault_init K a (.ref x :: ([.int cd, .int pl] ++ [])) (upd H1 x (exo x a.fault none))
    (fun v H2 => v = .non ∧ ∃ (d : Addr) (fs : List (Str × V)), H2 x = some (exo x a.fault (some d)) ∧ H2 d = some (exd d fs) ∧ H1 d = none ∧ E (.ref a.fault) (some d) (upd (del H2 x) d (.xd fs))) (fun _ _ _ => False) := by
  refine ⟨by show 2 ≤ 1000; decide, fun x hx => ⟨x, cd, pl, rfl, upd_same, fun dx H' hd hne h1 h2 hk => ⟨rfl, dx, _, h1, h2, ?_, h dx _ ?_ upd_same⟩⟩⟩
  · rw [upd_ne hne] at hd
    exact hd
  · intro b o hb _
    rw [upd_ne hne] at hd
    have hbd : b ≠ dx := ne_of_none hb hd
    have hbx : b ≠ x := ne_of_none hb hx
    rw [upd_ne hbd, del_ne hbx]
    exact hk b o (by rw [upd_ne hbx]; exact hb) hbx
def sp_Cursor_init (K : PySem.W.Frag) (a : Ads) : Sp := fun vs H Q _ => ∃ (p dx r1 r2 : Addr), vs = [.ref p, .ref r1, .ref r2] ∧ H p = some (.ins a.cursor dx []) ∧
  ∀ H' : Hp, H' p = some (.ins a.cursor dx (curF r1 r2 0)) → Kp [p] H H' → Q .non H'
theorem ok_Cursor_init (T : Txt K mg a) : Mak P w K mg base 1 "Cursor" a.cursor (sp_Cursor_init K a) := by
  refine mak_of T.d_Cursor_init sc_Cursor_init (fun vs H Q E h => ?_) (fun f cdv A outer s H vs Q E hr h => ⟨_, (pss_cons (ps_fld (pv 0) (pv 1) rfl) (pss_cons (ps_fld (pv 0) (pv 2) rfl) (pss_one (ps_fld (pv 0) pe_int rfl)))), ?_⟩)
  · obtain ⟨_, _, _, _, rfl, _⟩ := h
    rfl
  · obtain ⟨p, dx, r1, r2, rfl, hp, k⟩ := h
    refine ⟨_, rfl, _, rfl, p, _, dx, [], rfl, hp, T.cl_cursor, T.na_cursor_text, (by show 0 < 1000; decide), ?_⟩
    refine ⟨_, rfl, _, rfl, p, _, dx, _, rfl, upd_same, T.cl_cursor, T.na_cursor_tokens, (by show 1 < 1000; decide), ?_⟩
    refine ⟨_, rfl, p, _, dx, _, rfl, upd_same, T.cl_cursor, T.na_cursor_at, (by show 2 < 1000; decide), ?_⟩
    have e : putF ("at" : Str) (.int 0) (putF ("tokens" : Str) (.ref r2) (putF ("text" : Str) (.ref r1) [])) = curF r1 r2 0 := by
      show putF ("at" : Str) (.int 0) (putF ("tokens" : Str) (.ref r2) [("text", .ref r1)]) = curF r1 r2 0
      rw [put_past (by decide +kernel)]
      show putF ("at" : Str) (.int 0) [("text", .ref r1), ("tokens", .ref r2)] = curF r1 r2 0
      rw [put_past (by decide +kernel), put_past (by decide +kernel)]
      rfl
    refine k _ (by rw [upd_same]; exact congrArg (fun q => some (HO.ins a.cursor dx q)) e) ?_
    intro b o hb hn
    have hne : b ≠ p := fun z => hn (by rw [z]; exact List.mem_singleton.mpr rfl)
    rw [upd_ne hne, upd_ne hne, upd_ne hne]
    exact hb
def sp_Cursor_kind (K : PySem.W.Frag) (a : Ads) : Sp := fun vs H Q _ => ∃ (c : Addr) (u : Cu) (t : List Int) (tk : List Tk) (i : Nat) (k p e : Int), vs = [.ref c] ∧ CurAt a K [c] H c u t tk i ∧ tk[i]? = some (k, p, e) ∧ RetV (.int k) H Q
theorem ok_Cursor_kind (T : Txt K mg a) : Met P w K mg base CX0 1 a.cursor "kind" (sp_Cursor_kind K a) := by
  refine met_of T.d_Cursor_kind sc_Cursor_kind (fun vs H Q E h => ?_) (fun f cdv A outer s H vs Q E hr h => ⟨_, (pss_one (ps_ret (pe_ix ix_tup (pe_ix ix_list (pe_fld (pv 0) rfl) (pe_fld (pv 0) rfl) (fun _ _ => rfl)) pe_int (fun _ _ => rfl)))), ?_⟩)
  · obtain ⟨_, _, _, _, _, _, _, _, rfl, _⟩ := h
    rfl
  · obtain ⟨c, u, t, tk, i, k, p, e, rfl, hc, hk, q⟩ := h
    obtain ⟨xs, y, h1, h2, h3⟩ := hc.tok hk
    exact ⟨_, rfl, c, _, u.dx, _, _, rfl, hc.obj, T.cl_cursor, T.na_cursor_tokens, cf_tk, _, rfl, c, _, u.dx, _, _, rfl, hc.obj, T.cl_cursor, T.na_cursor_at, cf_at, u.rk, xs, _, _, rfl, rfl, sq h1, at_nat h2, y, _, _, _, rfl, rfl, st h3, at_nat (i := 0) rfl, q.go (Ex.refl H)⟩
def sp_Cursor_here (K : PySem.W.Frag) (a : Ads) : Sp := fun vs H Q _ => ∃ (c : Addr) (u : Cu) (t : List Int) (tk : List Tk) (i : Nat) (k p e : Int), vs = [.ref c] ∧ CurAt a K [c] H c u t tk i ∧ tk[i]? = some (k, p, e) ∧ RetV (.int p) H Q
theorem ok_Cursor_here (T : Txt K mg a) : Met P w K mg base CX0 1 a.cursor "here" (sp_Cursor_here K a) := by
  refine met_of T.d_Cursor_here sc_Cursor_here (fun vs H Q E h => ?_) (fun f cdv A outer s H vs Q E hr h => ⟨_, (pss_one (ps_ret (pe_ix ix_tup (pe_ix ix_list (pe_fld (pv 0) rfl) (pe_fld (pv 0) rfl) (fun _ _ => rfl)) pe_int (fun _ _ => rfl)))), ?_⟩)
  · obtain ⟨_, _, _, _, _, _, _, _, rfl, _⟩ := h
    rfl
  · obtain ⟨c, u, t, tk, i, k, p, e, rfl, hc, hk, q⟩ := h
    obtain ⟨xs, y, h1, h2, h3⟩ := hc.tok hk
    exact ⟨_, rfl, c, _, u.dx, _, _, rfl, hc.obj, T.cl_cursor, T.na_cursor_tokens, cf_tk, _, rfl, c, _, u.dx, _, _, rfl, hc.obj, T.cl_cursor, T.na_cursor_at, cf_at, u.rk, xs, _, _, rfl, rfl, sq h1, at_nat h2, y, _, _, _, rfl, rfl, st h3, at_nat (i := 1) rfl, q.go (Ex.refl H)⟩
def sp_Cursor_spelled (K : PySem.W.Frag) (a : Ads) : Sp := fun vs H Q _ => ∃ (c : Addr) (u : Cu) (t : List Int) (tk : List Tk) (i : Nat) (k : Int) (p d : Nat), vs = [.ref c] ∧ CurAt a K [c] H c u t tk i ∧ tk[i]? = some (k, (p : Int), ((p + d : Nat) : Int)) ∧ RetL (iL ((t.drop p).take d)) H Q
theorem ok_Cursor_spelled (T : Txt K mg a) : Met P w K mg base CX0 1 a.cursor "spelled" (sp_Cursor_spelled K a) := by
  refine met_of T.d_Cursor_spelled sc_Cursor_spelled (fun vs H Q E h => ?_) (fun f cdv A outer s H vs Q E hr h => ⟨_, (pss_cons (ps_set (i := 1) sc_Cursor_spelled.nd rfl (Or.inl rfl) (pe_ix ix_list (pe_fld (pv 0) rfl) (pe_fld (pv 0) rfl) (fun _ _ => rfl))) (pss_one (ps_ret (pe_slice sl_list (pe_fld (pv 0) rfl) (po_some (pe_ix ix_tup (pv 1) pe_int (fun _ _ => rfl))) (po_some (pe_ix ix_tup (pv 1) pe_int (fun _ _ => rfl))))))), ?_⟩)
  · obtain ⟨_, _, _, _, _, _, _, _, rfl, _⟩ := h
    rfl
  · obtain ⟨c, u, t, tk, i, k, p, d, rfl, hc, hk, q⟩ := h
    obtain ⟨xs, y, h1, h2, h3⟩ := hc.tok hk
    refine ⟨_, rfl, c, _, u.dx, _, _, rfl, hc.obj, T.cl_cursor, T.na_cursor_tokens, cf_tk, _, rfl, c, _, u.dx, _, _, rfl, hc.obj, T.cl_cursor, T.na_cursor_at, cf_at, u.rk, xs, _, _, rfl, rfl, sq h1, at_nat h2, ?_⟩
    refine ⟨_, rfl, c, _, u.dx, _, _, rfl, hc.obj, T.cl_cursor, T.na_cursor_text, cf_tx, _, rfl, y, _, _, _, rfl, rfl, st h3, at_nat (i := 1) rfl, _, rfl, _, rfl, y, _, _, _, rfl, rfl, st h3, at_nat (i := 2) rfl, _, rfl, ?_⟩
    refine ⟨u.rt, _, rfl, ex_sq hide_sub hc.tx, fun l hl => ?_⟩
    rw [cut_far, Nat.add_sub_cancel_left]
    exact q l _ hl (ex_new hl) upd_same
def sp_Cursor_step (K : PySem.W.Frag) (a : Ads) : Sp := fun vs H Q _ => ∃ (c dx rt rk : Addr) (i : Nat), vs = [.ref c] ∧ H c = some (.ins a.cursor dx (curF rt rk i)) ∧ ∀ H', H' c = some (.ins a.cursor dx (curF rt rk (i + 1))) → Kp [c] H H' → Q .non H'
theorem ok_Cursor_step (T : Txt K mg a) : Met P w K mg base CX0 1 a.cursor "step" (sp_Cursor_step K a) := by
  refine met_of T.d_Cursor_step sc_Cursor_step (fun vs H Q E h => ?_) (fun f cdv A outer s H vs Q E hr h => ⟨_, (pss_one (ps_fldaug (pv 0) pe_int in_add)), ?_⟩)
  · obtain ⟨_, _, _, _, _, rfl, _⟩ := h
    rfl
  · obtain ⟨c, dx, rt, rk, i, rfl, hc, k⟩ := h
    refine ⟨_, rfl, c, _, dx, _, _, rfl, hc, T.cl_cursor, T.na_cursor_at, cf_at, _, _, rfl, rfl, dx, _, hc, by show 3 < 1000; decide, ?_⟩
    exact k _ (by rw [upd_same, cf_put]) ((Kp.refl _ _).up (List.mem_singleton.mpr rfl))
def sp_Cursor_need (K : PySem.W.Frag) (a : Ads) : Sp := fun vs H Q E => ∃ (c : Addr) (u : Cu) (t : List Int) (tk : List Tk) (i : Nat) (kd k e : Int) (p : Nat), vs = [.ref c, .int kd] ∧ CurAt a K [c] H c u t tk i ∧ tk[i]? = some (k, (p : Int), e) ∧
  (k = kd → RetV .non H Q) ∧ (k ≠ kd → Rs a 3 p [] H E)
theorem ok_Cursor_need (T : Txt K mg a) (c_Cursor_kind : Met P w K mg base CX0 1 a.cursor "kind" (sp_Cursor_kind K a)) (c_Cursor_here : Met P w K mg base CX0 1 a.cursor "here" (sp_Cursor_here K a)) (c_ListFault_init : Flt P w K mg base 1 a.fault (sp_ListFault_init K a)) : Met P w K mg base (L2.CX P w) 3 a.cursor "need" (sp_Cursor_need K a) := by
  refine metX_of T.d_Cursor_need sc_Cursor_need (fun vs H Q E h => ?_) (fun f cdv A outer s H vs Q E hr h => ⟨_, (pss_one (ps_if (pt_cmpR op_ne (pe_mt0 T.cl_cursor c_Cursor_kind hr pass0 (pv 0)) (pv 1) (nomark _)) (pss_one (ps_raise rfl (takes_of rfl rfl rfl rfl) (pmk_fault T c_ListFault_init hr (pa_cons (pe_gc T.g_NOT_ALLOWED) (pa_cons (pe_mt0 T.cl_cursor c_Cursor_here hr pass0 (pv 0)) pa_nil))))) pss_nil)), ?_⟩)
  · obtain ⟨_, _, _, _, _, _, _, _, _, rfl, _⟩ := h
    rfl
  · obtain ⟨c, u, t, tk, i, kd, k, e, p, rfl, hc, hk, k1, k2⟩ := h
    refine ⟨_, rfl, c, u.dx, _, rfl, hc.obj, cf_no (by decide +kernel) (by decide +kernel) (by decide +kernel), c, u, t, tk, i, k, p, e, rfl, hc, hk, fun H2 e2 => ⟨_, rfl, rfl, _, rfl, ?_⟩⟩
    rw [dec_int]
    by_cases hkd : k = kd
    · rw [decide_eq_true hkd]
      exact iteF ((k1 hkd).go e2)
    · rw [decide_eq_false hkd]
      refine iteT ?_
      refine ⟨_, rfl, c, u.dx, _, rfl, e2 _ _ hc.obj, cf_no (by decide +kernel) (by decide +kernel) (by decide +kernel), c, u, t, tk, i, k, p, e, rfl, hc.ex e2, hk, fun H3 e3 => ?_⟩
      exact go_fault ((k2 hkd).mono (Kp.of (e2.trans e3)) nil_sub)
def sp_Cursor_take (K : PySem.W.Frag) (a : Ads) : Sp := fun vs H Q E => ∃ (c : Addr) (u : Cu) (t : List Int) (tk : List Tk) (i : Nat) (kd k e : Int) (p : Nat), vs = [.ref c, .int kd] ∧ CurAt a K [c] H c u t tk i ∧ tk[i]? = some (k, (p : Int), e) ∧
  (k = kd → ∀ H', H' c = some (.ins a.cursor u.dx (curF u.rt u.rk (i + 1))) → Kp [c] H H' → Q .non H') ∧ (k ≠ kd → Rs a 3 p [] H E)
theorem ok_Cursor_take (T : Txt K mg a) (c_Cursor_need : Met P w K mg base (L2.CX P w) 3 a.cursor "need" (sp_Cursor_need K a)) (c_Cursor_step : Met P w K mg base CX0 1 a.cursor "step" (sp_Cursor_step K a)) : Met P w K mg base (L2.CX P w) 4 a.cursor "take" (sp_Cursor_take K a) := by
  refine metX_of T.d_Cursor_take sc_Cursor_take (fun vs H Q E h => ?_) (fun f cdv A outer s H vs Q E hr h => ⟨_, (pss_cons (ps_expr (pe_mt T.cl_cursor c_Cursor_need hr (passes_call (takes_of rfl rfl rfl rfl) (fun _ _ _ _ h => h)) (pv 0) (pa_cons (pv 1) pa_nil))) (pss_one (ps_expr (pe_mt0 T.cl_cursor c_Cursor_step hr pass0 (pv 0))))), ?_⟩)
  · obtain ⟨_, _, _, _, _, _, _, _, _, rfl, _⟩ := h
    rfl
  · obtain ⟨c, u, t, tk, i, kd, k, e, p, rfl, hc, hk, k1, k2⟩ := h
    refine ⟨_, rfl, c, u.dx, _, rfl, hc.obj, cf_no (by decide +kernel) (by decide +kernel) (by decide +kernel), _, rfl, c, u, t, tk, i, kd, k, e, p, rfl, hc, hk, fun hkd H2 e2 => ?_, k2⟩
    refine ⟨_, rfl, c, u.dx, _, rfl, e2 _ _ hc.obj, cf_no (by decide +kernel) (by decide +kernel) (by decide +kernel), c, u.dx, u.rt, u.rk, i, rfl, e2 _ _ hc.obj, fun H3 h3 k3 => ?_⟩
    exact k1 hkd H3 h3 ((Kp.of e2).trans k3)
end
end Fw
set_option Elab.async false
set_option maxRecDepth 100000
set_option maxHeartbeats 4000000
namespace Fm
open VaskyBase (Bytes Fault Toks takeWord takeSign takeName nextWord next)
theorem TokRs.len {t : List Int} : ∀ {l : List Tk} {r : Toks}, TokRs t l r → l.length = r.length
  | [], [], _ => rfl
  | [], _ :: _, h => h.elim
  | _ :: _, [], h => h.elim
  | _ :: _, _ :: _, h => by rw [List.length_cons, List.length_cons, TokRs.len h.2]
theorem At.len {t : List Int} {tk : List Tk} {i : Nat} {r : Toks} (h : At t tk i r) : r.length = tk.length - i := by
  rw [← h.rel.len, List.length_drop]
theorem contains_bytes (names : List Bytes) (b : Bytes) : (names.map bytesI).contains (bytesI b) = names.contains b := by
  rw [Bool.eq_iff_iff, List.contains_iff_mem, List.contains_iff_mem, List.mem_map]
  exact ⟨fun ⟨x, hx, e⟩ => bytesI_inj e ▸ hx, fun h => ⟨b, h, rfl⟩⟩
end Fm
namespace Fw
open PySem PySem.Spec PyProof.Rows L2 Fm
open Evl (Ex Ev EvL EvU EvT EvA RV RetL RetV)
open VaskyBase (Bytes Fault Toks takeWord takeSign takeName nextWord next)
open Vaskya (Measure Item Sheet takeMeasures takeInt takeValues takeItems)
theorem Rs.fresh {a : Ads} {cd pl : Nat} {S S' : List Addr} {H H1 : Hp} {E : XK} (h : Rs a cd pl S' H E) (k : Kp S' H H1) (s : ∀ b ∈ S, b ∈ S' ∨ H b = none) : Rs a cd pl S H1 E := fun d H' k' hd =>
  h d H' (fun b o hb hn => k' b o (k b o hb hn) fun m => by
    rcases s b m with q | q
    · exact hn q
    · rw [hb] at q; cases q) hd
theorem Kp.fresh {S S' : List Addr} {H H1 H2 : Hp} (k : Kp S' H H1) (k' : Kp S H1 H2) (s : ∀ b ∈ S, b ∈ S' ∨ H b = none) : Kp S' H H2 := fun b o hb hn =>
  k' b o (k b o hb hn) fun m => by
    rcases s b m with q | q
    · exact hn q
    · rw [hb] at q; cases q
theorem sub_r {S S' : List Addr} {H : Hp} (s : ∀ b ∈ S, b ∈ S') : ∀ b ∈ S, b ∈ S' ∨ H b = none := fun b h => .inl (s b h)
section
variable {P : Program} {w : World} {K : PySem.W.Frag} {mg : Str → Option Value} {base : Heap} {a : Ads}
def sp_read_name (K : PySem.W.Frag) (a : Ads) : Sp := fun vs H Q E => ∃ (c q : Addr) (u : Cu) (t : List Int) (tk : List Tk) (i : Nat) (r : Toks) (names : List Bytes), vs = [.ref c, .ref q] ∧ CurAt a K [c] H c u t tk i ∧ At t tk i r ∧ Da (hide [c] H) (.ref q) (dLL (names.map bytesI)) ∧
  Out (nameStep names r) (fun y => ∀ p H', H p = none → H' p = some (.lst (iL (bytesI y.1))) → H' c = some (.ins a.cursor u.dx (curF u.rt u.rk (i + 1))) → At t tk (i + 1) y.2 → Kp [c] H H' → Q (.ref p) H') (fun cd pl => Rs a cd pl [] H E)
theorem ok_read_name (T : Txt K mg a) (c_Cursor_need : Met P w K mg base (L2.CX P w) 3 a.cursor "need" (sp_Cursor_need K a)) (c_Cursor_spelled : Met P w K mg base CX0 1 a.cursor "spelled" (sp_Cursor_spelled K a)) (c_Cursor_here : Met P w K mg base CX0 1 a.cursor "here" (sp_Cursor_here K a)) (c_ListFault_init : Flt P w K mg base 1 a.fault (sp_ListFault_init K a)) (c_Cursor_step : Met P w K mg base CX0 1 a.cursor "step" (sp_Cursor_step K a)) : Cal P w K mg base (L2.CX P w) 4 "read_name" (sp_read_name K a) := by
  refine calX_of T.d_read_name sc_read_name (fun vs H Q E h => ?_) (fun f cdv A outer s H vs Q E hr h => ⟨_, (pss_cons (ps_expr (pe_mt T.cl_cursor c_Cursor_need hr (passes_call (takes_of rfl rfl rfl rfl) (fun _ _ _ _ h => h)) (pv 0) (pa_cons (pe_gc T.g_NAME) pa_nil))) (pss_cons (ps_set (i := 2) sc_read_name.nd rfl (Or.inl rfl) (pe_mt0 T.cl_cursor c_Cursor_spelled hr pass0 (pv 0))) (pss_cons (ps_if (pt_cmpR (op_inD (u65 hr)) (pv 2) (pv 1) (by rfl)) (pss_one (ps_raise rfl (takes_of rfl rfl rfl rfl) (pmk_fault T c_ListFault_init hr (pa_cons (pe_gc T.g_NAME_TWICE) (pa_cons (pe_mt0 T.cl_cursor c_Cursor_here hr pass0 (pv 0)) pa_nil))))) pss_nil) (pss_cons (ps_expr (pe_mt0 T.cl_cursor c_Cursor_step hr pass0 (pv 0))) (pss_one (ps_ret (pv 2))))))), ?_⟩)
  · obtain ⟨_, _, _, _, _, _, _, _, rfl, _⟩ := h
    rfl
  · obtain ⟨c, q, u, t, tk, i, r, names, rfl, hc, hat, hq, o⟩ := h
    obtain ⟨k, p, e, x, r', hk, rfl, hx, hr'⟩ := hat.head
    obtain ⟨hp, _⟩ := id hx
    subst hp
    refine ⟨_, rfl, c, u.dx, _, rfl, hc.obj, cf_no (by decide +kernel) (by decide +kernel) (by decide +kernel), c, u, t, tk, i, 1, k, e, x.place, rfl, hc, hk, fun hk1 H2 e2 => ?_, fun hk1 => ?_⟩
    · rcases kind_name hx r' with ⟨_, b, hb, htn, _, d, hd, hs⟩ | ⟨z, _⟩
      · subst hd
        have hc2 := hc.ex e2
        refine ⟨_, rfl, c, u.dx, _, rfl, hc2.obj, cf_no (by decide +kernel) (by decide +kernel) (by decide +kernel), c, u, t, tk, i, k, x.place, d, rfl, hc2, hk, fun l H3 hl e3 h3 => ?_⟩
        rw [hs] at h3
        have e13 := e2.trans e3
        have hc3 := hc.ex e13
        have on : nameStep names (x :: r') = if names.contains b = true then .error ⟨5, x.place⟩ else .ok (b, r') := by
          unfold nameStep
          rw [htn]
          rfl
        rw [on] at o
        obtain ⟨q', ys, eq, h4, h5⟩ := dl_da ((hq.ex (Kp.of e13).hid).ex hide_sub)
        cases eq
        refine ⟨_, rfl, _, rfl, pyI (bytesI b), (names.map bytesI).map pyI, dp_I (sq h3), .lst (sq h4) (dpAll_LL _ _ h5), shaped_I _, shapedLL _, ?_⟩
        rw [any_LL, contains_bytes]
        refine ⟨_, rfl, ite_b (fun hn => ?_) (fun hn => ?_)⟩
        · rw [if_pos hn] at o
          refine ⟨_, rfl, c, u.dx, _, rfl, hc3.obj, cf_no (by decide +kernel) (by decide +kernel) (by decide +kernel), c, u, t, tk, i, k, (x.place : Int), _, rfl, hc3, hk, fun H4 e4 => ?_⟩
          exact go_fault (cd := 5) (pl := x.place) (Rs.mono (S := []) o (Kp.of (e13.trans e4)) nil_sub)
        · rw [if_neg (by rw [hn]; decide)] at o
          refine ⟨_, rfl, c, u.dx, _, rfl, hc3.obj, cf_no (by decide +kernel) (by decide +kernel) (by decide +kernel), c, u.dx, u.rt, u.rk, i, rfl, hc3.obj, fun H4 h4c k4 => ?_⟩
          have hlc : l ≠ c := fun z => by rw [z, hc3.obj] at h3; cases h3
          refine ⟨_, rfl, o l H4 (fresh_of e2 hl) (k4 l _ h3 fun m => hlc (List.mem_singleton.mp m)) h4c (hat.next hk (by omega)) ((Kp.of e13).trans k4)⟩
      · exact absurd hk1 z
    · rcases kind_name hx r' with ⟨z, _⟩ | ⟨_, htn⟩
      · exact absurd z hk1
      · have on : nameStep names (x :: r') = .error ⟨3, x.place⟩ := by
          unfold nameStep
          rw [htn]
          rfl
        rw [on] at o
        exact o
def sp_read_direction (K : PySem.W.Frag) (a : Ads) : Sp := fun vs H Q E => ∃ (c : Addr) (u : Cu) (t : List Int) (tk : List Tk) (i : Nat) (r : Toks), vs = [.ref c] ∧ CurAt a K [c] H c u t tk i ∧ At t tk i r ∧
  Out (dirStep r) (fun y => ∀ H', H' c = some (.ins a.cursor u.dx (curF u.rt u.rk (i + 1))) → At t tk (i + 1) y.2 → Kp [c] H H' → Q (.bl y.1) H') (fun cd pl => Rs a cd pl [] H E)
theorem ok_read_direction (T : Txt K mg a) (c_Cursor_kind : Met P w K mg base CX0 1 a.cursor "kind" (sp_Cursor_kind K a)) (c_Cursor_step : Met P w K mg base CX0 1 a.cursor "step" (sp_Cursor_step K a)) (c_Cursor_take : Met P w K mg base (L2.CX P w) 4 a.cursor "take" (sp_Cursor_take K a)) : Cal P w K mg base (L2.CX P w) 5 "read_direction" (sp_read_direction K a) := by
  refine calX_of T.d_read_direction sc_read_direction (fun vs H Q E h => ?_) (fun f cdv A outer s H vs Q E hr h => ⟨_, (pss_cons (ps_if (pt_cmpR op_eq (pe_mt0 T.cl_cursor c_Cursor_kind hr pass0 (pv 0)) (pe_gc T.g_UP) (nomark _)) (pss_cons (ps_expr (pe_mt0 T.cl_cursor c_Cursor_step hr pass0 (pv 0))) (pss_one (ps_ret pe_bl))) pss_nil) (pss_cons (ps_expr (pe_mt T.cl_cursor c_Cursor_take hr (passes_call (takes_of rfl rfl rfl rfl) (fun _ _ _ _ h => h)) (pv 0) (pa_cons (pe_gc T.g_DOWN) pa_nil))) (pss_one (ps_ret pe_bl)))), ?_⟩)
  · obtain ⟨_, _, _, _, _, _, rfl, _⟩ := h
    rfl
  · obtain ⟨c, u, t, tk, i, r, rfl, hc, hat, o⟩ := h
    obtain ⟨k, p, e, x, r', hk, rfl, hx, hr'⟩ := hat.head
    obtain ⟨hp, _⟩ := id hx
    subst hp
    obtain ⟨_, kw4, kw5, _⟩ := kind_word hx r'
    refine ⟨_, rfl, c, u.dx, _, rfl, hc.obj, cf_no (by decide +kernel) (by decide +kernel) (by decide +kernel), c, u, t, tk, i, k, _, e, rfl, hc, hk, fun H2 e2 => ⟨rfl, _, rfl, ?_⟩⟩
    rw [dec_int, kw4]
    have hc2 := hc.ex e2
    refine ite_b (fun hu => ?_) (fun hu => ?_)
    · have od : dirStep (x :: r') = .ok (true, r') := by
        unfold dirStep
        rw [if_pos hu]
        rfl
      rw [od] at o
      have hk0 : k ≠ 0 := by
        rw [hu, decide_eq_true_iff] at kw4
        omega
      refine ⟨_, rfl, c, u.dx, _, rfl, hc2.obj, cf_no (by decide +kernel) (by decide +kernel) (by decide +kernel), c, u.dx, u.rt, u.rk, i, rfl, hc2.obj, fun H3 h3 k3 => ?_⟩
      exact o H3 h3 (hat.next hk hk0) ((Kp.of e2).trans k3)
    · have od : dirStep (x :: r') = (takeWord "down" (x :: r')).map fun r => (false, r) := by
        unfold dirStep
        rw [if_neg (by rw [hu]; decide)]
      have ot : takeWord "down" (x :: r') = if nextWord "down" (x :: r') = true then .ok r' else .error ⟨3, x.place⟩ := rfl
      rw [od, ot] at o
      refine ⟨_, rfl, c, u.dx, _, rfl, hc2.obj, cf_no (by decide +kernel) (by decide +kernel) (by decide +kernel), c, u, t, tk, i, 5, k, e, x.place, rfl, hc2, hk, fun hk5 H3 h3 k3 => ?_, fun hk5 => ?_⟩
      · rw [decide_eq_true hk5] at kw5
        rw [if_pos kw5.symm] at o
        exact o H3 h3 (hat.next hk (by omega)) ((Kp.of e2).trans k3)
      · rw [decide_eq_false hk5] at kw5
        rw [if_neg (by rw [← kw5]; decide)] at o
        exact Rs.mono (S := []) o (Kp.of e2) nil_sub
def sp_read_measure (K : PySem.W.Frag) (a : Ads) : Sp := fun vs H Q E => ∃ (c qn qu : Addr) (u : Cu) (t : List Int) (tk : List Tk) (i : Nat) (r : Toks) (ms : List Measure) (xs : List V), vs = [.ref c, .ref qn, .ref qu] ∧ CurAt a K [c, qn, qu] H c u t tk i ∧ At t tk i r ∧ qn ≠ qu ∧ ms.length ≤ 4 ∧
  H qn = some (.lst xs) ∧ DaL (hide [c, qn, qu] H) xs (ms.map fun m => dI (bytesI m.name)) ∧ H qu = some (.lst (ms.map fun m => .bl m.up)) ∧
  Out (measureStep ms r) (fun y => ∀ p H', H p = none → H' p = some (.lst (iL (bytesI y.1.name))) → H' qn = some (.lst (xs ++ [.ref p])) → H' qu = some (.lst (ms.map (fun m => .bl m.up) ++ [.bl y.1.up])) →
    H' c = some (.ins a.cursor u.dx (curF u.rt u.rk (i + 2))) → At t tk (i + 2) y.2 → Kp [c, qn, qu] H H' → Q .non H') (fun cd pl => Rs a cd pl [c, qn, qu] H E)
theorem ok_read_measure (T : Txt K mg a) (c_Cursor_need : Met P w K mg base (L2.CX P w) 3 a.cursor "need" (sp_Cursor_need K a)) (c_Cursor_here : Met P w K mg base CX0 1 a.cursor "here" (sp_Cursor_here K a)) (c_ListFault_init : Flt P w K mg base 1 a.fault (sp_ListFault_init K a)) (c_read_name : Cal P w K mg base (L2.CX P w) 4 "read_name" (sp_read_name K a)) (c_read_direction : Cal P w K mg base (L2.CX P w) 5 "read_direction" (sp_read_direction K a)) : Cal P w K mg base (L2.CX P w) 6 "read_measure" (sp_read_measure K a) := by
  refine calX_of T.d_read_measure sc_read_measure (fun vs H Q E h => ?_) (fun f cdv A outer s H vs Q E hr h => ⟨_, (pss_cons (ps_expr (pe_mt T.cl_cursor c_Cursor_need hr (passes_call (takes_of rfl rfl rfl rfl) (fun _ _ _ _ h => h)) (pv 0) (pa_cons (pe_gc T.g_NAME) pa_nil))) (pss_cons (ps_if (pt_cmpR op_eq (pe_callB call_len_seq rfl T.b_len PySem.boot_len (pa_cons (pv 1) pa_nil)) (pe_gc T.g_MOST_MEASURES) (nomark _)) (pss_one (ps_raise rfl (takes_of rfl rfl rfl rfl) (pmk_fault T c_ListFault_init hr (pa_cons (pe_gc T.g_TOO_MANY) (pa_cons (pe_mt0 T.cl_cursor c_Cursor_here hr pass0 (pv 0)) pa_nil))))) pss_nil) (pss_cons (ps_set (i := 3) sc_read_measure.nd rfl (Or.inl rfl) (pe_c c_read_name hr (passes_call (takes_of rfl rfl rfl rfl) (fun _ _ _ _ h => h)) (pa_cons (pv 0) (pa_cons (pv 1) pa_nil)))) (pss_cons (ps_expr (pe_bm PySem.F.plainAttrs_list PySem.F.slot_list_append PySem.F.type_list_append mt_append (pv 1) (pa_cons (pv 3) pa_nil))) (pss_one (ps_expr (pe_bm PySem.F.plainAttrs_list PySem.F.slot_list_append PySem.F.type_list_append mt_append (pv 2) (pa_cons (pe_c c_read_direction hr (passes_call (takes_of rfl rfl rfl rfl) (fun _ _ _ _ h => h)) (pa_cons (pv 0) pa_nil)) pa_nil)))))))), ?_⟩)
  · obtain ⟨_, _, _, _, _, _, _, _, _, _, rfl, _⟩ := h
    rfl
  · obtain ⟨c, qn, qu, u, t, tk, i, r, ms, xs, rfl, hcS, hat, hne, hms, hqn, hxs, hqu, o⟩ := h
    have cS : c ∈ [c, qn, qu] := List.mem_cons_self ..
    have hc : CurAt a K [c] H c u t tk i := hcS.sub (one_sub cS)
    have hnc : qn ≠ c := fun z => by rw [z, hc.obj] at hqn; cases hqn
    have huc : qu ≠ c := fun z => by rw [z, hc.obj] at hqu; cases hqu
    have lenx : xs.length = ms.length := by rw [hxs.len, List.length_map]
    obtain ⟨k, p, e, x, r', hk, rfl, hx, hr'⟩ := hat.head
    obtain ⟨hp, _⟩ := id hx
    subst hp
    refine ⟨_, rfl, c, u.dx, _, rfl, hc.obj, cf_no (by decide +kernel) (by decide +kernel) (by decide +kernel), c, u, t, tk, i, 1, k, e, x.place, rfl, hc, hk, fun hk1 H2 e2 => ?_, fun hk1 => ?_⟩
    · rcases kind_name hx r' with ⟨_, b, hb, htn, _, d, hd, hs⟩ | ⟨z, _⟩
      · have hc2 := hc.ex e2
        have om : measureStep ms (x :: r') = if 4 ≤ ms.length then .error ⟨4, x.place⟩ else (nameStep (ms.map (·.name)) (x :: r')).bind fun y => (dirStep y.2).map fun u => (⟨y.1, u.1⟩, u.2) := by
          unfold measureStep
          rw [htn]
          rfl
        rw [om] at o
        refine ⟨_, rfl, qn, _, rfl, .inl (sq (e2 _ _ hqn)), rfl, _, rfl, ?_⟩
        rw [dec_int, lenx]
        refine ite_b (fun h4 => ?_) (fun h4 => ?_)
        · have h4' := of_decide_eq_true h4
          rw [if_pos (by omega)] at o
          refine ⟨_, rfl, c, u.dx, _, rfl, hc2.obj, cf_no (by decide +kernel) (by decide +kernel) (by decide +kernel), c, u, t, tk, i, k, (x.place : Int), _, rfl, hc2, hk, fun H4 e4 => ?_⟩
          exact go_fault (cd := 4) (pl := x.place) (Rs.mono (S := []) o (Kp.of (e2.trans e4)) nil_sub)
        · have h4' := of_decide_eq_false h4
          rw [if_neg (by omega)] at o
          have hq1 : Da (hide [c] H2) (.ref qn) (dLL ((ms.map (·.name)).map bytesI)) := by
            refine .l (xs := xs) ?_ ?_
            · rw [hide_out (by simpa using hnc)]
              exact e2 _ _ hqn
            · have hx2 := hxs.ex ((hide_mono (one_sub cS)))
              have hx3 := hx2.ex (Kp.of (S := [c]) e2).hid
              rw [List.map_map, List.map_map]
              exact hx3
          refine ⟨_, rfl, _, rfl, c, qn, u, t, tk, i, x :: r', ms.map (·.name), rfl, hc2, hat, hq1, ?_⟩
          cases hns : nameStep (ms.map fun m => m.name) (x :: r') with
          | error f =>
            rw [hns] at o
            exact Rs.mono (S := []) o (Kp.of e2) nil_sub
          | ok y =>
            rw [hns] at o
            intro p1 H3 hp1 h3p h3c hat3 k3
            have hn3 : H3 qn = some (.lst xs) := k3 _ _ (e2 _ _ hqn) (by simpa using hnc)
            have hu3 : H3 qu = some (.lst (ms.map fun m => .bl m.up)) := k3 _ _ (e2 _ _ hqu) (by simpa using huc)
            have hpn : p1 ≠ qn := fun z => by rw [z, e2 _ _ hqn] at hp1; cases hp1
            have hpu : p1 ≠ qu := fun z => by rw [z, e2 _ _ hqu] at hp1; cases hp1
            have hpc : p1 ≠ c := fun z => by rw [z, hc2.obj] at hp1; cases hp1
            refine ⟨_, rfl, .inl ⟨rfl, _, sq hn3⟩, _, rfl, qn, xs, .ref p1, rfl, rfl, hn3, szl (by omega), ?_⟩
            have kS3 : Kp [c, qn, qu] H (upd H3 qn (.lst (xs ++ [.ref p1]))) := ((Kp.of e2).trans (k3.mono (one_sub cS))).up (by simp)
            have hc4 : CurAt a K [c, qn, qu] (upd H3 qn (.lst (xs ++ [.ref p1]))) c u t tk (i + 1) := hcS.kp kS3 (by rw [upd_ne (Ne.symm hnc)]; exact h3c)
            refine ⟨_, rfl, .inl ⟨rfl, _, sq (by rw [upd_ne (Ne.symm hne)]; exact hu3)⟩, ?_⟩
            refine ⟨_, rfl, c, u, t, tk, i + 1, y.2, rfl, hc4.sub (one_sub cS), hat3, ?_⟩
            cases hds : dirStep y.2 with
            | error f =>
              rw [show (Except.ok y : Except Fault _).bind (fun y => (dirStep y.2).map fun u => ((⟨y.1, u.1⟩ : Measure), u.2)) = .error f by show (dirStep y.2).map _ = _; rw [hds]; rfl] at o
              exact Rs.mono (S := []) o kS3 nil_sub
            | ok v =>
              rw [show (Except.ok y : Except Fault _).bind (fun y => (dirStep y.2).map fun u => ((⟨y.1, u.1⟩ : Measure), u.2)) = .ok (⟨y.1, v.1⟩, v.2) by show (dirStep y.2).map _ = _; rw [hds]; rfl] at o
              intro H5 h5c hat5 k5
              have hu5 : H5 qu = some (.lst (ms.map fun m => .bl m.up)) := k5 _ _ (by rw [upd_ne (Ne.symm hne)]; exact hu3) (by simpa using huc)
              have hn5 : H5 qn = some (.lst (xs ++ [.ref p1])) := k5 _ _ upd_same (by simpa using hnc)
              have hp5 : H5 p1 = some (.lst (iL (bytesI y.1))) := k5 _ _ (by rw [upd_ne hpn]; exact h3p) (by simpa using hpc)
              refine ⟨qu, _, .bl v.1, rfl, rfl, hu5, szl (by rw [List.length_map]; omega), ?_⟩
              refine o p1 _ (fresh_of e2 hp1) (by rw [upd_ne hpu]; exact hp5) (by rw [upd_ne hne]; exact hn5) upd_same (by rw [upd_ne (Ne.symm huc)]; exact h5c) hat5 ?_
              exact (kS3.trans (k5.mono (one_sub cS))).up (by simp)
      · exact absurd hk1 z
    · rcases kind_name hx r' with ⟨z, _⟩ | ⟨_, htn⟩
      · exact absurd z hk1
      · have on : measureStep ms (x :: r') = .error ⟨3, x.place⟩ := by
          unfold measureStep
          rw [htn]
          rfl
        rw [on] at o
        exact Rs.mono (S := []) o (Kp.refl _ _) nil_sub
end
end Fw
set_option Elab.async false
set_option maxRecDepth 100000
set_option maxHeartbeats 4000000
namespace Fm
open VaskyBase (Bytes Fault Tok PTok Toks takeWord takeSign takeName nextWord next wrong)
open Vaskya (takeInt takeValues)
theorem takeInt_num {q n : Nat} {l : Toks} {rest : Toks} (h : (if next (.sign 45) l = true then l.drop 1 else l) = ⟨q, .num n⟩ :: rest) :
    takeInt l = if 1000 < n then .error ⟨7, q⟩ else .ok (if next (.sign 45) l = true then -(n : Int) else (n : Int), rest) := by
  rw [takeInt_eq, h]
theorem takeInt_not {x : PTok} {l rest : Toks} (h : (if next (.sign 45) l = true then l.drop 1 else l) = x :: rest) (hn : ∀ n, x.tok ≠ .num n) : takeInt l = .error ⟨3, x.place⟩ := by
  rw [takeInt_eq, h]
  obtain ⟨q, tok⟩ := x
  cases tok with
  | num n => exact absurd rfl (hn n)
  | name b => rfl
  | sign c => rfl
  | last => rfl
theorem values_err {n m : Nat} {vs : List Int} {r : Toks} {f : Fault} (h : takeValues n vs r = .error f) (hm : n ≤ m) : takeValues m vs r = .error f := by
  induction m with
  | zero =>
    have : n = 0 := by omega
    subst this
    exact h
  | succ m ih =>
    by_cases c : n = m + 1
    · subst c
      exact h
    · rw [values_snoc, ih (by omega)]
      rfl
theorem values_one (r : Toks) : takeValues 1 [] r = (takeInt r).map fun x => ([x.1], x.2) := by
  rw [values_turn]
  show (takeInt r).bind _ = _
  cases takeInt r <;> rfl
theorem values_next {n : Nat} {r : Toks} {y : List Int × Toks} (h : takeValues n [] r = .ok y) (hne : y.1 ≠ []) : takeValues (n + 1) [] r = (takeSign 44 y.2).bind fun r => (takeInt r).map fun x => (y.1 ++ [x.1], x.2) := by
  rw [values_snoc, h]
  have e : y.1.isEmpty = false := by
    cases h1 : y.1 with
    | nil => exact absurd h1 hne
    | cons a b => rfl
  show (if y.1.isEmpty = true then Except.ok y.2 else takeSign 44 y.2).bind _ = _
  rw [if_neg (by rw [e]; decide)]
theorem sign_is' (c : Nat) (x : PTok) (r : Toks) : takeSign c (x :: r) = if next (.sign c) (x :: r) = true then .ok r else .error ⟨3, x.place⟩ := rfl
end Fm
namespace Fw
open PySem PySem.Spec PyProof.Rows L2 Fm
open Evl (Ex Ev EvL EvU EvT EvA RV RetL RetV)
open VaskyBase (Bytes Fault Toks takeWord takeSign takeName nextWord next)
open Vaskya (Measure Item Sheet takeMeasures takeInt takeValues takeItems)
section
variable {P : Program} {w : World} {K : PySem.W.Frag} {mg : Str → Option Value} {base : Heap} {a : Ads}
def sp_read_value (K : PySem.W.Frag) (a : Ads) : Sp := fun vs H Q E => ∃ (c : Addr) (u : Cu) (t : List Int) (tk : List Tk) (i : Nat) (r : Toks), vs = [.ref c] ∧ CurAt a K [c] H c u t tk i ∧ At t tk i r ∧
  Out (takeInt r) (fun y => ∀ j H', H' c = some (.ins a.cursor u.dx (curF u.rt u.rk j)) → At t tk j y.2 → i < j → Kp [c] H H' → Q (.int y.1) H') (fun cd pl => Rs a cd pl [c] H E)
theorem ok_read_value (T : Txt K mg a) (c_Cursor_kind : Met P w K mg base CX0 1 a.cursor "kind" (sp_Cursor_kind K a)) (c_Cursor_step : Met P w K mg base CX0 1 a.cursor "step" (sp_Cursor_step K a)) (c_Cursor_need : Met P w K mg base (L2.CX P w) 3 a.cursor "need" (sp_Cursor_need K a)) (c_number_of : Cal P w K mg base CX0 1 "number_of" (sp_number_of K a)) (c_Cursor_spelled : Met P w K mg base CX0 1 a.cursor "spelled" (sp_Cursor_spelled K a)) (c_Cursor_here : Met P w K mg base CX0 1 a.cursor "here" (sp_Cursor_here K a)) (c_ListFault_init : Flt P w K mg base 1 a.fault (sp_ListFault_init K a)) : Cal P w K mg base (L2.CX P w) 4 "read_value" (sp_read_value K a) := by
  refine calX_of T.d_read_value sc_read_value (fun vs H Q E h => ?_) (fun f cdv A outer s H vs Q E hr h => ⟨_, (pss_cons (ps_set (i := 1) sc_read_value.nd rfl (Or.inl rfl) (pe_cmpR op_eq (pe_mt0 T.cl_cursor c_Cursor_kind hr pass0 (pv 0)) (pe_gc T.g_DASH) (nomark _))) (Evl.pss_cut (ps_if (pt_val (pv 1)) (pss_one (ps_expr (pe_mt0 T.cl_cursor c_Cursor_step hr pass0 (pv 0)))) pss_nil) (pss_cons (ps_expr (pe_mt T.cl_cursor c_Cursor_need hr (passes_call (takes_of rfl rfl rfl rfl) (fun _ _ _ _ h => h)) (pv 0) (pa_cons (pe_gc T.g_NUMBER) pa_nil))) (pss_cons (ps_set (i := 2) sc_read_value.nd rfl (Or.inl rfl) (pe_c c_number_of hr pass0 (pa_cons (pe_mt0 T.cl_cursor c_Cursor_spelled hr pass0 (pv 0)) pa_nil))) (pss_cons (ps_if (pt_cmpR op_gt (pv 2) (pe_gc T.g_GREATEST_VALUE) (nomark _)) (pss_one (ps_raise rfl (takes_of rfl rfl rfl rfl) (pmk_fault T c_ListFault_init hr (pa_cons (pe_gc T.g_TOO_GREAT) (pa_cons (pe_mt0 T.cl_cursor c_Cursor_here hr pass0 (pv 0)) pa_nil))))) pss_nil) (pss_cons (ps_expr (pe_mt0 T.cl_cursor c_Cursor_step hr pass0 (pv 0))) (pss_cons (ps_if (pt_val (pv 1)) (pss_one (ps_ret (pe_un un_neg (pv 2)))) pss_nil) (pss_one (ps_ret (pv 2)))))))))), ?_⟩)
  · obtain ⟨_, _, _, _, _, _, rfl, _⟩ := h
    rfl
  · obtain ⟨c, u, t, tk, i, r, rfl, hc, hat, o⟩ := h
    obtain ⟨k, p, e, x, r', hk, rfl, hx, hr'⟩ := hat.head
    obtain ⟨hp, _⟩ := id hx
    subst hp
    have k45 := kind_sign hx r' 45 (by decide)
    refine ⟨_, rfl, c, u.dx, _, rfl, hc.obj, cf_no (by decide +kernel) (by decide +kernel) (by decide +kernel), c, u, t, tk, i, k, _, e, rfl, hc, hk, fun H2 e2 => ⟨rfl, ?_⟩⟩
    rw [dec_int, show ((45 : Int)) = ((45 : Nat) : Int) from rfl, k45]
    have hc2 := hc.ex e2
    refine ⟨fun σ' H' => ∃ j, σ' = [some (.ref c), some (.bl (next (.sign 45) (x :: r'))), none] ∧ H' c = some (.ins a.cursor u.dx (curF u.rt u.rk j)) ∧ At t tk j (if next (.sign 45) (x :: r') = true then (x :: r').drop 1 else x :: r') ∧ i ≤ j ∧ Kp [c] H H', ?_, ?_⟩
    · refine ⟨_, rfl, _, rfl, ite_b (fun hn => ?_) (fun hn => ?_)⟩
      · have hk0 : k ≠ 0 := by
          rw [hn, decide_eq_true_iff] at k45
          omega
        refine ⟨_, rfl, c, u.dx, _, rfl, hc2.obj, cf_no (by decide +kernel) (by decide +kernel) (by decide +kernel), c, u.dx, u.rt, u.rk, i, rfl, hc2.obj, fun H3 h3 k3 => ?_⟩
        refine ⟨i + 1, rfl, h3, ?_, by omega, (Kp.of e2).trans k3⟩
        rw [if_pos hn]
        exact hat.next hk hk0
      · refine ⟨i, rfl, hc2.obj, ?_, Nat.le_refl _, Kp.of e2⟩
        rw [if_neg (by rw [hn]; decide)]
        exact hat
    · rintro σ' H3 ⟨j, rfl, h3, hat3, hij, k3⟩
      have hc3 : CurAt a K [c] H3 c u t tk j := hc.kp k3 h3
      obtain ⟨k', p', e', y, l, hk', hl, hy, hl'⟩ := hat3.head
      obtain ⟨hp', _⟩ := id hy
      subst hp'
      refine ⟨_, rfl, c, u.dx, _, rfl, h3, cf_no (by decide +kernel) (by decide +kernel) (by decide +kernel), c, u, t, tk, j, 2, k', e', y.place, rfl, hc3, hk', fun hk2 H4 e4 => ?_, fun hk2 => ?_⟩
      · rcases kind_num hy with ⟨_, n, hn, d, hd, hv⟩ | ⟨z, _⟩
        · have hy2 : y = ⟨y.place, .num n⟩ := by rw [← hn]
          rw [hy2] at hl
          rw [takeInt_num hl] at o
          subst hd
          have hc4 := hc3.ex e4
          refine ⟨_, rfl, c, u.dx, _, rfl, hc4.obj, cf_no (by decide +kernel) (by decide +kernel) (by decide +kernel), c, u, t, tk, j, k', y.place, d, rfl, hc4, hk', fun q H5 hq e5 h5 => ?_⟩
          refine ⟨q, _, rfl, sq h5, fun H6 e6 => ?_⟩
          rw [hv]
          have e46 := (e4.trans e5).trans e6
          have hc6 := hc3.ex e46
          refine ⟨_, rfl, _, _, rfl, rfl, _, rfl, ite_b (fun hg => ?_) (fun hg => ?_)⟩
          · have hg' := of_decide_eq_true hg
            rw [if_pos (by omega)] at o
            refine ⟨_, rfl, c, u.dx, _, rfl, hc6.obj, cf_no (by decide +kernel) (by decide +kernel) (by decide +kernel), c, u, t, tk, j, k', (y.place : Int), _, rfl, hc6, hk', fun H7 e7 => ?_⟩
            exact go_fault (cd := 7) (pl := y.place) (Rs.mono (S := []) o (k3.trans (Kp.of (e46.trans e7))) nil_sub)
          · have hg' := of_decide_eq_false hg
            rw [if_neg (by omega)] at o
            refine ⟨_, rfl, c, u.dx, _, rfl, hc6.obj, cf_no (by decide +kernel) (by decide +kernel) (by decide +kernel), c, u.dx, u.rt, u.rk, j, rfl, hc6.obj, fun H7 h7 k7 => ?_⟩
            have hat7 := hat3.next hk' (by omega)
            rw [hl] at hat7
            have kk : Kp [c] H H7 := (k3.trans (Kp.of e46)).trans k7
            have fin := o (j + 1) H7 h7 hat7 (by omega) kk
            refine ⟨_, rfl, _, rfl, ite_b (fun hn => ?_) (fun hn => ?_)⟩
            · rw [if_pos hn] at fin
              exact ⟨_, rfl, _, rfl, fin⟩
            · rw [if_neg (by rw [hn]; decide)] at fin
              exact ⟨_, rfl, fin⟩
        · exact absurd hk2 z
      · rcases kind_num hy with ⟨z, _⟩ | ⟨_, hno⟩
        · exact absurd z hk2
        · rw [takeInt_not hl hno] at o
          exact Rs.mono (S := []) o k3 nil_sub
def sp_read_row (K : PySem.W.Frag) (a : Ads) : Sp := fun vs H Q E => ∃ (c : Addr) (u : Cu) (t : List Int) (tk : List Tk) (i many : Nat) (r : Toks), vs = [.ref c, .int many] ∧ CurAt a K [c] H c u t tk i ∧ At t tk i r ∧ 1 ≤ many ∧ many ≤ 4 ∧
  Out (takeValues many [] r) (fun y => ∀ p j H', H p = none → H' p = some (.lst (iL y.1)) → H' c = some (.ins a.cursor u.dx (curF u.rt u.rk j)) → At t tk j y.2 → i < j → Kp [c] H H' → Q (.ref p) H') (fun cd pl => Rs a cd pl [c] H E)
theorem ok_read_row (T : Txt K mg a) (c_read_value : Cal P w K mg base (L2.CX P w) 4 "read_value" (sp_read_value K a)) (c_Cursor_take : Met P w K mg base (L2.CX P w) 4 a.cursor "take" (sp_Cursor_take K a)) : Cal P w K mg base (L2.CX P w) 5 "read_row" (sp_read_row K a) := by
  refine calX_of T.d_read_row sc_read_row (fun vs H Q E h => ?_) (fun f cdv A outer s H vs Q E hr h => ⟨_, (pss_cons (ps_set (i := 2) sc_read_row.nd rfl (Or.inl rfl) (pe_lst (pa_cons (pe_c c_read_value hr (passes_call (takes_of rfl rfl rfl rfl) (fun _ _ _ _ h => h)) (pa_cons (pv 0) pa_nil)) pa_nil))) (pss_cons (ps_for (passes_of rfl) rfl (pi_range2 rfl T.b_range (pa_cons pe_int (pa_cons (pv 1) pa_nil))) (pg_name (i := 3) sc_read_row.nd rfl (Or.inl rfl)) (pss_cons (ps_expr (pe_mt T.cl_cursor c_Cursor_take hr (passes_call (takes_of rfl rfl rfl rfl) (fun _ _ _ _ h => h)) (pv 0) (pa_cons (pe_gc T.g_COMMA) pa_nil))) (pss_one (ps_expr (pe_bm PySem.F.plainAttrs_list PySem.F.slot_list_append PySem.F.type_list_append mt_append (pv 2) (pa_cons (pe_c c_read_value hr (passes_call (takes_of rfl rfl rfl rfl) (fun _ _ _ _ h => h)) (pa_cons (pv 0) pa_nil)) pa_nil)))))) (pss_one (ps_ret (pv 2))))), ?_⟩)
  · obtain ⟨_, _, _, _, _, _, _, rfl, _⟩ := h
    rfl
  · obtain ⟨c, u, t, tk, i, many, r, rfl, hc, hat, h1, h4, o⟩ := h
    refine ⟨_, rfl, c, u, t, tk, i, r, rfl, hc, hat, ?_⟩
    cases hti : takeInt r with
    | error f =>
      have : takeValues 1 [] r = .error f := by rw [values_one, hti]; rfl
      rw [values_err this h1] at o
      exact o
    | ok y =>
      have hv1 : takeValues 1 [] r = .ok ([y.1], y.2) := by rw [values_one, hti]; rfl
      intro j H2 h2 hat2 hij k2
      refine ⟨by show 1 ≤ sizeLine; decide, fun p hp => ?_⟩
      have hpH : H p = none := by
        cases q : H p with
        | none => rfl
        | some ob =>
          by_cases z : p = c
          · rw [z, h2] at hp; cases hp
          · rw [k2 p ob q (by simpa using z)] at hp; cases hp
      have hpc : p ≠ c := fun z => by rw [z, h2] at hp; cases hp
      refine ⟨_, rfl, 1, (many : Int), rfl, ⟨by omega, by omega, by omega, by omega⟩, ?_⟩
      have en : ((many : Int) - 1).toNat = many - 1 := by omega
      rw [en]
      refine for_range (lo := 1) (n := many - 1) (fun n σ' H' => ∃ z ws j' x, σ' = [some (.ref c), some (.int many), some (.ref p), x] ∧ takeValues (n + 1) [] r = .ok (ws, z) ∧ ws.length = n + 1 ∧ H' p = some (.lst (iL ws)) ∧ H' c = some (.ins a.cursor u.dx (curF u.rt u.rk j')) ∧ At t tk j' z ∧ i < j' ∧ Kp [c] H H')
        ⟨y.2, [y.1], j, none, rfl, hv1, rfl, upd_same, by rw [upd_ne (Ne.symm hpc)]; exact h2, hat2, hij, k2.trans (Kp.of (ex_new hp))⟩ ?_ ?_
      · rintro n σ' H' hn ⟨z, ws, j', x, rfl, hv, hl, hp', hc', hat', hij', k'⟩
        have hcc : CurAt a K [c] H' c u t tk j' := hc.kp k' hc'
        obtain ⟨kk, pp, ee, y', l, hk', hz, hy, hl'⟩ := hat'.head
        subst hz
        obtain ⟨hpp, _⟩ := id hy
        subst hpp
        have k44 := kind_sign hy l 44 (by decide)
        have hnx := values_next hv (by intro e; have e' : ws = [] := e; rw [e'] at hl; simp at hl)
        rw [sign_is'] at hnx
        refine ⟨_, rfl, c, u.dx, _, rfl, hc', cf_no (by decide +kernel) (by decide +kernel) (by decide +kernel), c, u, t, tk, j', 44, kk, ee, y'.place, rfl, hcc, hk', fun h44 H3 h3 k3 => ?_, fun h44 => ?_⟩
        · rw [show ((44 : Nat) : Int) = 44 from rfl, decide_eq_true h44] at k44
          rw [if_pos k44.symm] at hnx
          have hp3 : H3 p = some (.lst (iL ws)) := k3 _ _ hp' (by simpa using hpc)
          refine ⟨_, rfl, .inl ⟨rfl, _, sq hp3⟩, ?_⟩
          have hat3 := hat'.next hk' (by omega)
          refine ⟨_, rfl, c, u, t, tk, j' + 1, l, rfl, hcc.kp k3 h3, hat3, ?_⟩
          cases ht2 : takeInt l with
          | error f =>
            have : takeValues (n + 1 + 1) [] r = .error f := by rw [hnx]; show (takeInt l).map _ = _; rw [ht2]; rfl
            rw [values_err this (by omega)] at o
            exact Rs.mono o (k'.trans k3) fun b h => h
          | ok y2 =>
            have hv2 : takeValues (n + 1 + 1) [] r = .ok (ws ++ [y2.1], y2.2) := by rw [hnx]; show (takeInt l).map _ = _; rw [ht2]; rfl
            intro j3 H4 h4c hat4 hj4 k4
            have hp4 : H4 p = some (.lst (iL ws)) := k4 _ _ hp3 (by simpa using hpc)
            refine ⟨p, _, .int y2.1, rfl, rfl, hp4, szl (by rw [List.length_map]; omega), ?_⟩
            refine ⟨y2.2, ws ++ [y2.1], j3, _, rfl, hv2, ?_, ?_, ?_, hat4, by omega, ?_⟩
            · rw [List.length_append, hl]
              rfl
            · rw [upd_same, iL_app]
              rfl
            · rw [upd_ne (Ne.symm hpc)]
              exact h4c
            · exact (Kp.fresh (S := [c, p]) ((k'.trans k3).trans k4) ((Kp.refl _ _).up (by simp)) (fun b hb => by
                rcases List.mem_cons.mp hb with e | m
                · exact .inl (by rw [e]; exact List.mem_singleton.mpr rfl)
                · rw [List.mem_singleton.mp m]
                  exact .inr hpH))
        · rw [show ((44 : Nat) : Int) = 44 from rfl, decide_eq_false h44] at k44
          rw [if_neg (by rw [← k44]; decide)] at hnx
          have : takeValues (n + 1 + 1) [] r = .error ⟨3, y'.place⟩ := hnx
          rw [values_err this (by omega)] at o
          exact Rs.mono (S := []) o k' nil_sub
      · rintro σ' H' ⟨z, ws, j', x, rfl, hv, hl, hp', hc', hat', hij', k'⟩
        have e1 : many - 1 + 1 = many := by omega
        rw [e1] at hv
        rw [hv] at o
        exact ⟨_, rfl, o p j' H' hpH hp' hc' hat' hij' k'⟩
def sp_read_item (K : PySem.W.Frag) (a : Ads) : Sp := fun vs H Q E => ∃ (c qn qr : Addr) (u : Cu) (t : List Int) (tk : List Tk) (i many : Nat) (r : Toks) (is : List Item) (xs zs : List V), vs = [.ref c, .int many, .ref qn, .ref qr] ∧ CurAt a K [c, qn, qr] H c u t tk i ∧ At t tk i r ∧ qn ≠ qr ∧ is.length ≤ 16 ∧ 1 ≤ many ∧ many ≤ 4 ∧
  H qn = some (.lst xs) ∧ DaL (hide [c, qn, qr] H) xs (is.map fun m => dI (bytesI m.name)) ∧ H qr = some (.lst zs) ∧ zs.length = is.length ∧
  Out (itemStep many is r) (fun y => ∀ p1 p2 j H', H p1 = none → H' p1 = some (.lst (iL (bytesI y.1.name))) → H p2 = none → H' p2 = some (.lst (iL y.1.vs)) → H' qn = some (.lst (xs ++ [.ref p1])) → H' qr = some (.lst (zs ++ [.ref p2])) →
    H' c = some (.ins a.cursor u.dx (curF u.rt u.rk j)) → At t tk j y.2 → i < j → Kp [c, qn, qr] H H' → Q .non H') (fun cd pl => Rs a cd pl [c, qn, qr] H E)
theorem ok_read_item (T : Txt K mg a) (c_Cursor_need : Met P w K mg base (L2.CX P w) 3 a.cursor "need" (sp_Cursor_need K a)) (c_Cursor_here : Met P w K mg base CX0 1 a.cursor "here" (sp_Cursor_here K a)) (c_ListFault_init : Flt P w K mg base 1 a.fault (sp_ListFault_init K a)) (c_Cursor_step : Met P w K mg base CX0 1 a.cursor "step" (sp_Cursor_step K a)) (c_read_name : Cal P w K mg base (L2.CX P w) 4 "read_name" (sp_read_name K a)) (c_Cursor_take : Met P w K mg base (L2.CX P w) 4 a.cursor "take" (sp_Cursor_take K a)) (c_read_row : Cal P w K mg base (L2.CX P w) 5 "read_row" (sp_read_row K a)) : Cal P w K mg base (L2.CX P w) 6 "read_item" (sp_read_item K a) := by
  refine calX_of T.d_read_item sc_read_item (fun vs H Q E h => ?_) (fun f cdv A outer s H vs Q E hr h => ⟨_, (pss_cons (ps_expr (pe_mt T.cl_cursor c_Cursor_need hr (passes_call (takes_of rfl rfl rfl rfl) (fun _ _ _ _ h => h)) (pv 0) (pa_cons (pe_gc T.g_ITEM) pa_nil))) (pss_cons (ps_if (pt_cmpR op_eq (pe_callB call_len_seq rfl T.b_len PySem.boot_len (pa_cons (pv 2) pa_nil)) (pe_gc T.g_MOST_ITEMS) (nomark _)) (pss_one (ps_raise rfl (takes_of rfl rfl rfl rfl) (pmk_fault T c_ListFault_init hr (pa_cons (pe_gc T.g_TOO_MANY) (pa_cons (pe_mt0 T.cl_cursor c_Cursor_here hr pass0 (pv 0)) pa_nil))))) pss_nil) (pss_cons (ps_expr (pe_mt0 T.cl_cursor c_Cursor_step hr pass0 (pv 0))) (pss_cons (ps_set (i := 4) sc_read_item.nd rfl (Or.inl rfl) (pe_c c_read_name hr (passes_call (takes_of rfl rfl rfl rfl) (fun _ _ _ _ h => h)) (pa_cons (pv 0) (pa_cons (pv 2) pa_nil)))) (pss_cons (ps_expr (pe_bm PySem.F.plainAttrs_list PySem.F.slot_list_append PySem.F.type_list_append mt_append (pv 2) (pa_cons (pv 4) pa_nil))) (pss_cons (ps_expr (pe_mt T.cl_cursor c_Cursor_take hr (passes_call (takes_of rfl rfl rfl rfl) (fun _ _ _ _ h => h)) (pv 0) (pa_cons (pe_gc T.g_COLON) pa_nil))) (pss_cons (ps_expr (pe_bm PySem.F.plainAttrs_list PySem.F.slot_list_append PySem.F.type_list_append mt_append (pv 3) (pa_cons (pe_c c_read_row hr (passes_call (takes_of rfl rfl rfl rfl) (fun _ _ _ _ h => h)) (pa_cons (pv 0) (pa_cons (pv 1) pa_nil))) pa_nil))) (pss_one (ps_expr (pe_mt T.cl_cursor c_Cursor_take hr (passes_call (takes_of rfl rfl rfl rfl) (fun _ _ _ _ h => h)) (pv 0) (pa_cons (pe_gc T.g_SEMICOLON) pa_nil))))))))))), ?_⟩)
  · obtain ⟨_, _, _, _, _, _, _, _, _, _, _, _, rfl, _⟩ := h
    rfl
  · obtain ⟨c, qn, qr, u, t, tk, i, many, r, is, xs, zs, rfl, hcS, hat, hne, his, hm1, hm4, hqn, hxs, hqr, hzs, o⟩ := h
    have cS : c ∈ [c, qn, qr] := List.mem_cons_self ..
    have hc : CurAt a K [c] H c u t tk i := hcS.sub (one_sub cS)
    have hnc : qn ≠ c := fun z => by rw [z, hc.obj] at hqn; cases hqn
    have hrc : qr ≠ c := fun z => by rw [z, hc.obj] at hqr; cases hqr
    have lenx : xs.length = is.length := by rw [hxs.len, List.length_map]
    obtain ⟨k, p, e, x, r', hk, rfl, hx, hr'⟩ := hat.head
    obtain ⟨hp, _⟩ := id hx
    subst hp
    obtain ⟨_, _, _, kw6⟩ := kind_word hx r'
    have ow : takeWord "item" (x :: r') = if nextWord "item" (x :: r') = true then .ok r' else .error ⟨3, x.place⟩ := rfl
    refine ⟨_, rfl, c, u.dx, _, rfl, hc.obj, cf_no (by decide +kernel) (by decide +kernel) (by decide +kernel), c, u, t, tk, i, 6, k, e, x.place, rfl, hc, hk, fun hk6 H2 e2 => ?_, fun hk6 => ?_⟩
    · rw [decide_eq_true hk6] at kw6
      rw [if_pos kw6.symm] at ow
      have oi : itemStep many is (x :: r') = if 16 ≤ is.length then .error ⟨4, x.place⟩ else (nameStep (is.map (·.name)) r').bind fun x => (takeSign 58 x.2).bind fun r2 => (takeValues many [] r2).bind fun v => (takeSign 59 v.2).map fun m => (⟨x.1, v.1⟩, m) := by
        unfold itemStep
        rw [ow]
        rfl
      rw [oi] at o
      have hc2 := hc.ex e2
      refine ⟨_, rfl, qn, _, rfl, .inl (sq (e2 _ _ hqn)), rfl, _, rfl, ?_⟩
      rw [dec_int, lenx]
      refine ite_b (fun h4 => ?_) (fun h4 => ?_)
      · have h4' := of_decide_eq_true h4
        rw [if_pos (by omega)] at o
        refine ⟨_, rfl, c, u.dx, _, rfl, hc2.obj, cf_no (by decide +kernel) (by decide +kernel) (by decide +kernel), c, u, t, tk, i, k, (x.place : Int), _, rfl, hc2, hk, fun H4 e4 => ?_⟩
        exact go_fault (cd := 4) (pl := x.place) (Rs.mono (S := []) o (Kp.of (e2.trans e4)) nil_sub)
      · have h4' := of_decide_eq_false h4
        rw [if_neg (by omega)] at o
        refine ⟨_, rfl, c, u.dx, _, rfl, hc2.obj, cf_no (by decide +kernel) (by decide +kernel) (by decide +kernel), c, u.dx, u.rt, u.rk, i, rfl, hc2.obj, fun H3 h3c k3 => ?_⟩
        have hat3 := hat.next hk (by omega)
        have hc3 : CurAt a K [c] H3 c u t tk (i + 1) := hc2.kp k3 h3c
        have k13 : Kp [c] H H3 := (Kp.of e2).trans k3
        have hn3 : H3 qn = some (.lst xs) := k13 _ _ hqn (by simpa using hnc)
        have hr3 : H3 qr = some (.lst zs) := k13 _ _ hqr (by simpa using hrc)
        have hq1 : Da (hide [c] H3) (.ref qn) (dLL ((is.map (·.name)).map bytesI)) := by
          refine .l (xs := xs) ?_ ?_
          · rw [hide_out (by simpa using hnc)]
            exact hn3
          · have hx2 := hxs.ex ((hide_mono (one_sub cS)))
            have hx3 := hx2.ex k13.hid
            rw [List.map_map, List.map_map]
            exact hx3
        refine ⟨_, rfl, _, rfl, c, qn, u, t, tk, i + 1, r', is.map (·.name), rfl, hc3, hat3, hq1, ?_⟩
        cases hns : nameStep (is.map fun m => m.name) r' with
        | error f =>
          rw [hns] at o
          exact Rs.mono (S := []) o (k13.mono (one_sub cS)) nil_sub
        | ok y =>
          rw [hns] at o
          have o : Out ((takeSign 58 y.2).bind fun r2 => (takeValues many [] r2).bind fun v => (takeSign 59 v.2).map fun m => ((⟨y.1, v.1⟩ : Item), m)) _ _ := o
          intro p1 H4 hp1 h4p h4c hat4 k4
          have k14 : Kp [c] H H4 := k13.trans k4
          have hn4 : H4 qn = some (.lst xs) := k14 _ _ hqn (by simpa using hnc)
          have hpn : p1 ≠ qn := fun z => by rw [z, hn3] at hp1; cases hp1
          have hpr : p1 ≠ qr := fun z => by rw [z, hr3] at hp1; cases hp1
          have hpc : p1 ≠ c := fun z => by rw [z, h3c] at hp1; cases hp1
          have hp1H : H p1 = none := by
            cases q : H p1 with
            | none => rfl
            | some ob => rw [k13 p1 ob q (by simpa using hpc)] at hp1; cases hp1
          refine ⟨_, rfl, .inl ⟨rfl, _, sq hn4⟩, _, rfl, qn, xs, .ref p1, rfl, rfl, hn4, szl (by omega), ?_⟩
          have kS4 : Kp [c, qn, qr] H (upd H4 qn (.lst (xs ++ [.ref p1]))) := (k14.mono (one_sub cS)).up (by simp)
          have h4c' : (upd H4 qn (.lst (xs ++ [.ref p1]))) c = some (.ins a.cursor u.dx (curF u.rt u.rk (i + 1 + 1))) := by rw [upd_ne (Ne.symm hnc)]; exact h4c
          have hc4 : CurAt a K [c, qn, qr] (upd H4 qn (.lst (xs ++ [.ref p1]))) c u t tk (i + 1 + 1) := hcS.kp kS4 h4c'
          obtain ⟨kk, pp, ee, y', l, hk', hz, hy, hl'⟩ := hat4.head
          obtain ⟨hpp, _⟩ := id hy
          subst hpp
          rw [hz, sign_is'] at o
          have k58 := kind_sign hy l 58 (by decide)
          refine ⟨_, rfl, c, u.dx, _, rfl, h4c', cf_no (by decide +kernel) (by decide +kernel) (by decide +kernel), c, u, t, tk, i + 1 + 1, 58, kk, ee, y'.place, rfl, hc4.sub (one_sub cS), hk', fun h58 H5 h5c k5 => ?_, fun h58 => ?_⟩
          · rw [show ((58 : Nat) : Int) = 58 from rfl, decide_eq_true h58] at k58
            rw [if_pos k58.symm] at o
            have o : Out ((takeValues many [] l).bind fun v => (takeSign 59 v.2).map fun m => ((⟨y.1, v.1⟩ : Item), m)) _ _ := o
            have kS5 : Kp [c, qn, qr] H H5 := kS4.trans (k5.mono (one_sub cS))
            have hat5 := hat4.next hk' (by omega)
            rw [hz] at hat5
            have hc5 : CurAt a K [c, qn, qr] H5 c u t tk (i + 1 + 1 + 1) := hcS.kp kS5 h5c
            have hn5 : H5 qn = some (.lst (xs ++ [.ref p1])) := k5 _ _ upd_same (by simpa using hnc)
            have hr5 : H5 qr = some (.lst zs) := k5 _ _ (by rw [upd_ne (Ne.symm hne)]; exact k14 _ _ hqr (by simpa using hrc)) (by simpa using hrc)
            have hp5 : H5 p1 = some (.lst (iL (bytesI y.1))) := k5 _ _ (by rw [upd_ne hpn]; exact h4p) (by simpa using hpc)
            refine ⟨_, rfl, .inl ⟨rfl, _, sq hr5⟩, _, rfl, _, rfl, c, u, t, tk, i + 1 + 1 + 1, many, l, rfl, hc5.sub (one_sub cS), hat5, hm1, hm4, ?_⟩
            cases htv : takeValues many [] l with
            | error f =>
              rw [htv] at o
              exact Rs.mono o kS5 (one_sub cS)
            | ok v =>
              rw [htv] at o
              have o : Out ((takeSign 59 v.2).map fun m => ((⟨y.1, v.1⟩ : Item), m)) _ _ := o
              intro p2 j H6 hp2 h6p h6c hat6 hij k6
              have kS6 : Kp [c, qn, qr] H H6 := kS5.trans (k6.mono (one_sub cS))
              have hr6 : H6 qr = some (.lst zs) := k6 _ _ hr5 (by simpa using hrc)
              have hn6 : H6 qn = some (.lst (xs ++ [.ref p1])) := k6 _ _ hn5 (by simpa using hnc)
              have hp6 : H6 p1 = some (.lst (iL (bytesI y.1))) := k6 _ _ hp5 (by simpa using hpc)
              have hp2n : p2 ≠ qn := fun z => by rw [z, hn5] at hp2; cases hp2
              have hp2r : p2 ≠ qr := fun z => by rw [z, hr5] at hp2; cases hp2
              have hp2c : p2 ≠ c := fun z => by rw [z, h5c] at hp2; cases hp2
              have hp2H : H p2 = none := by
                cases q : H p2 with
                | none => rfl
                | some ob => rw [kS5 p2 ob q (by simp [hp2c, hp2n, hp2r])] at hp2; cases hp2
              refine ⟨qr, zs, .ref p2, rfl, rfl, hr6, szl (by omega), ?_⟩
              have kS7 : Kp [c, qn, qr] H (upd H6 qr (.lst (zs ++ [.ref p2]))) := kS6.up (by simp)
              have h7c : (upd H6 qr (.lst (zs ++ [.ref p2]))) c = some (.ins a.cursor u.dx (curF u.rt u.rk j)) := by rw [upd_ne (Ne.symm hrc)]; exact h6c
              have hc7 : CurAt a K [c, qn, qr] (upd H6 qr (.lst (zs ++ [.ref p2]))) c u t tk j := hcS.kp kS7 h7c
              obtain ⟨k8, pp8, e8, y8, l8, hk8, hz8, hy8, hl8⟩ := hat6.head
              obtain ⟨hpp8, _⟩ := id hy8
              subst hpp8
              rw [hz8, sign_is'] at o
              have k59 := kind_sign hy8 l8 59 (by decide)
              refine ⟨_, rfl, c, u.dx, _, rfl, h7c, cf_no (by decide +kernel) (by decide +kernel) (by decide +kernel), c, u, t, tk, j, 59, k8, e8, y8.place, rfl, hc7.sub (one_sub cS), hk8, fun h59 H8 h8c k8' => ?_, fun h59 => ?_⟩
              · rw [show ((59 : Nat) : Int) = 59 from rfl, decide_eq_true h59] at k59
                rw [if_pos k59.symm] at o
                have hat8 := hat6.next hk8 (by omega)
                rw [hz8] at hat8
                refine o p1 p2 (j + 1) H8 hp1H (k8' _ _ (by rw [upd_ne hpr]; exact hp6) (by simpa using hpc)) hp2H (k8' _ _ (by rw [upd_ne hp2r]; exact h6p) (by simpa using hp2c)) (k8' _ _ (by rw [upd_ne hne]; exact hn6) (by simpa using hnc)) (k8' _ _ upd_same (by simpa using hrc)) h8c hat8 (by omega) (kS7.trans (k8'.mono (one_sub cS)))
              · rw [show ((59 : Nat) : Int) = 59 from rfl, decide_eq_false h59] at k59
                rw [if_neg (by rw [← k59]; decide)] at o
                exact Rs.mono (S := []) o kS7 nil_sub
          · rw [show ((58 : Nat) : Int) = 58 from rfl, decide_eq_false h58] at k58
            rw [if_neg (by rw [← k58]; decide)] at o
            exact Rs.mono (S := []) o kS4 nil_sub
    · rw [decide_eq_false hk6] at kw6
      rw [if_neg (by rw [← kw6]; decide)] at ow
      have oi : itemStep many is (x :: r') = .error ⟨3, x.place⟩ := by
        unfold itemStep
        rw [ow]
        rfl
      rw [oi] at o
      exact Rs.mono (S := []) o (Kp.refl _ _) nil_sub
end
end Fw
set_option Elab.async false
set_option maxRecDepth 100000
set_option maxHeartbeats 4000000
namespace Fm
open VaskyBase (Bytes Fault Tok PTok Toks takeWord takeSign takeName nextWord next wrong taken)
open Vaskya (Measure Item Sheet takeMeasures takeInt takeValues takeItems)
/-! faults have codes -/
def FC {A : Type} (x : Except Fault A) : Prop := ∀ f, x = .error f → f.code ≠ 0
theorem FC.bind {A B : Type} {x : Except Fault A} {g : A → Except Fault B} (h : FC x) (k : ∀ y, FC (g y)) : FC (x.bind g) := by
  cases x with
  | error f =>
    intro f' e
    have e' : (Except.error f : Except Fault B) = .error f' := e
    have : f = f' := Except.error.inj e'
    subst this
    exact h f rfl
  | ok y => exact k y
theorem FC.map {A B : Type} {x : Except Fault A} {g : A → B} (h : FC x) : FC (x.map g) := by
  cases x with
  | error f =>
    intro f' e
    have : f = f' := by
      have e' : (Except.error f : Except Fault B) = .error f' := e
      exact Except.error.inj e'
    subst this
    exact h f rfl
  | ok y => intro f e; cases e
theorem FC.ok {A : Type} {y : A} : FC (.ok y : Except Fault A) := fun f e => by cases e
theorem FC.err {A : Type} {c p : Nat} (h : c ≠ 0) : FC (.error ⟨c, p⟩ : Except Fault A) := fun f e => by
  have := Except.error.inj e
  subst this
  exact h
theorem fc_taken (tok : Tok) (r : Toks) : FC (taken tok r) := by
  unfold taken
  split
  · exact FC.ok
  · exact FC.err (by decide)
theorem fc_name (r : Toks) : FC (takeName r) := by
  unfold takeName
  split
  · split
    · exact FC.err (by decide)
    · exact FC.ok
  · exact FC.err (by decide)
theorem fc_nameStep (ns : List Bytes) (r : Toks) : FC (nameStep ns r) := (fc_name r).bind fun x => by
  split
  · exact FC.err (by decide)
  · exact FC.ok
theorem fc_dir (r : Toks) : FC (dirStep r) := by
  unfold dirStep
  split
  · exact FC.ok
  · exact (fc_taken _ _).map
theorem fc_measure (ms : List Measure) (r : Toks) : FC (measureStep ms r) := (fc_name r).bind fun x => by
  split
  · exact FC.err (by decide)
  · exact (fc_nameStep _ _).bind fun y => (fc_dir _).map
theorem fc_measures : ∀ (n : Nat) (ms : List Measure) (r : Toks), FC (takeMeasures n ms r)
  | 0, ms, r => by unfold takeMeasures; exact FC.err (by decide)
  | n + 1, ms, r => by
    rw [measures_turn]
    refine (fc_measure ms r).bind fun y => ?_
    split
    · exact fc_measures n _ _
    · exact (fc_taken _ _).map
theorem fc_int (r : Toks) : FC (takeInt r) := by
  rw [takeInt_eq]
  split
  · split
    · exact FC.err (by decide)
    · exact FC.ok
  · exact FC.err (by decide)
theorem fc_values : ∀ (n : Nat) (vs : List Int) (r : Toks), FC (takeValues n vs r)
  | 0, vs, r => by unfold takeValues; exact FC.ok
  | n + 1, vs, r => by
    rw [values_turn]
    refine FC.bind ?_ fun r1 => (fc_int r1).bind fun x => fc_values n _ _
    split
    · exact FC.ok
    · exact fc_taken _ _
theorem fc_item (k : Nat) (is : List Item) (r : Toks) : FC (itemStep k is r) := FC.bind (fc_taken _ _) fun r1 => by
  split
  · exact FC.err (by decide)
  · exact (fc_nameStep _ _).bind fun x => FC.bind (fc_taken _ _) fun r2 => (fc_values _ _ _).bind fun v => FC.map (fc_taken _ _)
theorem fc_items (k : Nat) : ∀ (n : Nat) (is : List Item) (r : Toks), FC (takeItems k n is r)
  | 0, is, r => by unfold takeItems; exact FC.err (by decide)
  | n + 1, is, r => by
    rw [items_turn]
    split
    · exact FC.ok
    · exact (fc_item k is r).bind fun y => fc_items k n _ _
theorem fc_whole (r : Toks) : FC (wholeStep r) := FC.bind (fc_taken _ _) fun r1 => (fc_measures _ _ _).bind fun x => (fc_items _ _ _ _).map
end Fm
namespace Fw
open PySem PySem.Spec PyProof.Rows L2 Fm
open Evl (Ex Ev EvL EvU EvT EvA RV RetL RetV)
open VaskyBase (Bytes Fault Toks takeWord takeSign takeName nextWord next)
open Vaskya (Measure Item Sheet takeMeasures takeInt takeValues takeItems)
theorem hide_fresh {S0 S : List Addr} {H H2 : Hp} (k : Kp S0 H H2) (s : ∀ b ∈ S, b ∈ S0 ∨ H b = none) : Ex (hide S0 H) (hide S H2) := fun b o e => by
  by_cases c : b ∈ S0
  · rw [hide_in c] at e; cases e
  · rw [hide_out c] at e
    rw [hide_out (fun m => by
      rcases s b m with q | q
      · exact c q
      · rw [e] at q; cases q)]
    exact k b o e c
theorem CurAt.fresh {a : Ads} {K : PySem.W.Frag} {S0 S : List Addr} {H H' : Hp} {c : Addr} {u : Cu} {t : List Int} {tk : List Tk} {i j : Nat} (h : CurAt a K S0 H c u t tk i) (k : Kp S0 H H') (s : ∀ b ∈ S, b ∈ S0 ∨ H b = none) (o : H' c = some (.ins a.cursor u.dx (curF u.rt u.rk j))) : CurAt a K S H' c u t tk j :=
  ⟨o, ex_sq (hide_fresh k s) h.tx, h.tks.ex (hide_fresh k s)⟩
theorem fresh_kp {S : List Addr} {H H' : Hp} {p : Addr} (k : Kp S H H') (h : H' p = none) (n : p ∉ S) : H p = none := by
  cases q : H p with
  | none => rfl
  | some o => rw [k p o q n] at h; cases h
theorem nw_hide2 {S : List Addr} {H H1 H2 : Hp} (e : Ex H1 H2) (s : ∀ b ∈ S, H b ≠ none ∨ H1 b = none) : Ex (nw H H1) (nw H (hide S H2)) := fun b o h => by
  have hb : H b = none := by
    unfold nw at h
    cases c : H b with
    | none => rfl
    | some u => rw [c] at h; cases h
  rw [nw_new hb] at h ⊢
  rw [hide_out (fun m => by
    rcases s b m with q | q
    · exact q hb
    · rw [h] at q; cases q)]
  exact e b o h
section
variable {P : Program} {w : World} {K : PySem.W.Frag} {mg : Str → Option Value} {base : Heap} {a : Ads}
def measuresStep (r : Toks) : Except Fault (List Measure × Toks) := (takeWord "measures" r).bind fun r => takeMeasures (r.length + 1) [] r
def sp_read_measures (K : PySem.W.Frag) (a : Ads) : Sp := fun vs H Q E => ∃ (c : Addr) (u : Cu) (t : List Int) (tk : List Tk) (i : Nat) (r : Toks), vs = [.ref c] ∧ CurAt a K [c] H c u t tk i ∧ At t tk i r ∧
  Out (measuresStep r) (fun y => ∀ j p v1 v2 H', H' c = some (.ins a.cursor u.dx (curF u.rt u.rk j)) → At t tk j y.2 → Kp [c] H H' → H' p = some (.tup [v1, v2]) → Da (nw H H') v1 (dLL (y.1.map fun m => bytesI m.name)) → Da (nw H H') v2 (dB (y.1.map fun m => m.up)) → Q (.ref p) H') (fun cd pl => Rs a cd pl [c] H E)
theorem ok_read_measures (T : Txt K mg a) (c_Cursor_take : Met P w K mg base (L2.CX P w) 4 a.cursor "take" (sp_Cursor_take K a)) (c_read_measure : Cal P w K mg base (L2.CX P w) 6 "read_measure" (sp_read_measure K a)) (c_Cursor_kind : Met P w K mg base CX0 1 a.cursor "kind" (sp_Cursor_kind K a)) (c_Cursor_step : Met P w K mg base CX0 1 a.cursor "step" (sp_Cursor_step K a)) : Cal P w K mg base (L2.CX P w) 7 "read_measures" (sp_read_measures K a) := by
  refine calX_of T.d_read_measures sc_read_measures (fun vs H Q E h => ?_) (fun f cdv A outer s H vs Q E hr h => ⟨_, (pss_cons (ps_set (i := 1) sc_read_measures.nd rfl (Or.inl rfl) (pe_lst pa_nil)) (pss_cons (ps_set (i := 2) sc_read_measures.nd rfl (Or.inl rfl) (pe_lst pa_nil)) (pss_cons (ps_expr (pe_mt T.cl_cursor c_Cursor_take hr (passes_call (takes_of rfl rfl rfl rfl) (fun _ _ _ _ h => h)) (pv 0) (pa_cons (pe_gc T.g_MEASURES) pa_nil))) (pss_cons (ps_expr (pe_c c_read_measure hr (passes_call (takes_of rfl rfl rfl rfl) (fun _ _ _ _ h => h)) (pa_cons (pv 0) (pa_cons (pv 1) (pa_cons (pv 2) pa_nil))))) (pss_cons (ps_while (passes_of rfl) (pt_cmpR op_eq (pe_mt0 T.cl_cursor c_Cursor_kind hr pass0 (pv 0)) (pe_gc T.g_COMMA) (nomark _)) (pss_cons (ps_expr (pe_mt0 T.cl_cursor c_Cursor_step hr pass0 (pv 0))) (pss_one (ps_expr (pe_c c_read_measure hr (passes_call (takes_of rfl rfl rfl rfl) (fun _ _ _ _ h => h)) (pa_cons (pv 0) (pa_cons (pv 1) (pa_cons (pv 2) pa_nil)))))))) (pss_cons (ps_expr (pe_mt T.cl_cursor c_Cursor_take hr (passes_call (takes_of rfl rfl rfl rfl) (fun _ _ _ _ h => h)) (pv 0) (pa_cons (pe_gc T.g_SEMICOLON) pa_nil))) (pss_one (ps_ret (pe_tup (pa_cons (pv 1) (pa_cons (pv 2) pa_nil))))))))))), ?_⟩)
  · obtain ⟨_, _, _, _, _, _, rfl, _⟩ := h
    rfl
  · obtain ⟨c, u, t, tk, i, r, rfl, hc, hat, o⟩ := h
    obtain ⟨k, p, e, x, r1, hk, rfl, hx, hr1⟩ := hat.head
    obtain ⟨hp, _⟩ := id hx
    subst hp
    obtain ⟨kw3, _, _, _⟩ := kind_word hx r1
    have ow : takeWord "measures" (x :: r1) = if nextWord "measures" (x :: r1) = true then .ok r1 else .error ⟨3, x.place⟩ := rfl
    refine ⟨by show 0 ≤ sizeLine; decide, fun F hF => ⟨by show 0 ≤ sizeLine; decide, fun U hU => ?_⟩⟩
    have hUH : H U = none := fresh_of (ex_new hF) hU
    have hFU : F ≠ U := fun z => by rw [← z, upd_same] at hU; cases hU
    have hFc : F ≠ c := fun z => by rw [z, hc.obj] at hF; cases hF
    have hUc : U ≠ c := fun z => by rw [z, hc.obj] at hUH; cases hUH
    have sS : ∀ b ∈ [c, F, U], b ∈ [c] ∨ H b = none := fun b hb => by
      rcases List.mem_cons.mp hb with e | m
      · exact .inl (by rw [e]; exact List.mem_singleton.mpr rfl)
      · rcases List.mem_cons.mp m with e | m
        · rw [e]; exact .inr hF
        · rw [List.mem_singleton.mp m]; exact .inr hUH
    have cS : c ∈ [c, F, U] := List.mem_cons_self ..
    have e2 : Ex H (upd (upd H F (.lst [])) U (.lst [])) := (ex_new hF).trans (ex_new hU)
    have hc2 : CurAt a K [c] (upd (upd H F (.lst [])) U (.lst [])) c u t tk i := hc.ex e2
    have h2F : (upd (upd H F (.lst [])) U (.lst [])) F = some (.lst []) := by rw [upd_ne hFU]; exact upd_same
    have h2U : (upd (upd H F (.lst [])) U (.lst [])) U = some (.lst []) := upd_same
    generalize (upd (upd H F (.lst [])) U (.lst [])) = H2 at e2 hc2 h2F h2U
    refine ⟨_, rfl, c, u.dx, _, rfl, hc2.obj, cf_no (by decide +kernel) (by decide +kernel) (by decide +kernel), c, u, t, tk, i, 3, k, e, x.place, rfl, hc2, hk, fun h3 H3 h3c k3 => ?_, fun h3 => ?_⟩
    · rw [decide_eq_true h3] at kw3
      rw [if_pos kw3.symm] at ow
      have os : measuresStep (x :: r1) = takeMeasures (r1.length + 1) [] r1 := by
        unfold measuresStep
        rw [ow]
        rfl
      rw [os] at o
      have hat3 : At t tk (i + 1) r1 := hat.next hk (by omega)
      have kH3 : Kp [c] H H3 := (Kp.of e2).trans k3
      have h3F : H3 F = some (.lst []) := k3 _ _ h2F (by simpa using hFc)
      have h3U : H3 U = some (.lst []) := k3 _ _ h2U (by simpa using hUc)
      have hlen1 := hat3.len
      -- one measure more: from a state to the next
      have turn : ∀ (i' n : Nat) (r' : Toks) (ms : List Measure) (xs : List V) (H' : Hp) (Q' : VK), At t tk i' r' → H' c = some (.ins a.cursor u.dx (curF u.rt u.rk i')) → H' F = some (.lst xs) → DaL (nw H (hide [c, F, U] H')) xs (ms.map fun m => dI (bytesI m.name)) →
          H' U = some (.lst (ms.map fun m => .bl m.up)) → Kp [c] H H' → ms.length ≤ 4 → takeMeasures (r1.length + 1) [] r1 = (measureStep ms r').bind (fun y => restMeasures n (ms ++ [y.1]) y.2) →
          (∀ (y : Measure × Toks) (xs' : List V) (H'' : Hp), At t tk (i' + 2) y.2 → H'' c = some (.ins a.cursor u.dx (curF u.rt u.rk (i' + 2))) → H'' F = some (.lst xs') → DaL (nw H (hide [c, F, U] H'')) xs' ((ms ++ [y.1]).map fun m => dI (bytesI m.name)) →
            H'' U = some (.lst ((ms ++ [y.1]).map fun m => .bl m.up)) → Kp [c] H H'' → (ms ++ [y.1]).length ≤ 4 → takeMeasures (r1.length + 1) [] r1 = restMeasures n (ms ++ [y.1]) y.2 → Q' .non H'') →
          sp_read_measure K a [.ref c, .ref F, .ref U] H' Q' E := by
        intro i' n r' ms xs H' Q' hat' hc' hF' hxs hU' kH' hms hsp fin
        refine ⟨c, F, U, u, t, tk, i', r', ms, xs, rfl, hc.fresh kH' sS hc', hat', hFU, hms, hF', hxs.ex nw_sub, hU', ?_⟩
        cases hst : measureStep ms r' with
        | error f =>
          rw [hst] at hsp
          rw [hsp] at o
          exact Rs.fresh o kH' sS
        | ok y =>
          intro q H'' hq hq2 hF2 hU2 hc2' hat2 kS
          rw [hst] at hsp
          have hl4 : ms.length < 4 := by
            rcases measureStep_ok hst (namesOk_of hat'.rel) with ⟨z, _⟩ | ⟨z, _⟩ <;> exact z
          have hqc : q ≠ c := fun z => by rw [z, hc'] at hq; cases hq
          have hqF : q ≠ F := fun z => by rw [z, hF'] at hq; cases hq
          have hqU : q ≠ U := fun z => by rw [z, hU'] at hq; cases hq
          have hqH : H q = none := fresh_kp kH' hq (by simpa using hqc)
          refine fin y (xs ++ [.ref q]) H'' hat2 hc2' hF2 ?_ ?_ (kH'.fresh kS sS) ?_ hsp
          · rw [List.map_append]
            refine (hxs.ex (nw_ex kS.hid)).snoc (da_dI ?_)
            rw [nw_new hqH, hide_out (by simp [hqc, hqF, hqU])]
            exact hq2
          · rw [List.map_append]
            exact hU2
          · rw [List.length_append]
            show ms.length + 1 ≤ 4
            omega
      refine ⟨_, rfl, _, rfl, _, rfl, ?_⟩
      dsimp only [tNil]
      refine turn (i + 1) r1.length r1 [] [] H3 _ hat3 h3c h3F .nil h3U kH3 (by show 0 ≤ 4; decide) (measures_rest _ _ _) fun y xs' H4 hat4 h4c h4F h4x h4U k4 h4l h4s => ?_
      refine ⟨fun m σ' H' => ∃ i' r' ms xs n, m = tk.length - i' ∧ σ' = [some (.ref c), some (.ref F), some (.ref U)] ∧ At t tk i' r' ∧ H' c = some (.ins a.cursor u.dx (curF u.rt u.rk i')) ∧ H' F = some (.lst xs) ∧ DaL (nw H (hide [c, F, U] H')) xs (ms.map fun m => dI (bytesI m.name)) ∧
          H' U = some (.lst (ms.map fun m => .bl m.up)) ∧ Kp [c] H H' ∧ ms.length ≤ 4 ∧ takeMeasures (r1.length + 1) [] r1 = restMeasures n ms r' ∧ tk.length - i' ≤ n,
        ⟨_, i + 1 + 2, y.2, [y.1], xs', r1.length, rfl, rfl, hat4, h4c, h4F, h4x, h4U, k4, h4l, h4s, by omega⟩, ?_⟩
      rintro m σ' H' ⟨i', r', ms, xs, n, rfl, rfl, hat', hc', hF', hxs, hU', kH', hms, hsp, hn⟩
      have hcc : CurAt a K [c] H' c u t tk i' := hc.kp kH' hc'
      obtain ⟨kk, pp, ee, y', l, hk', hz, hy, hl'⟩ := hat'.head
      subst hz
      obtain ⟨hpp, _⟩ := id hy
      subst hpp
      have k44 := kind_sign hy l 44 (by decide)
      refine ⟨_, rfl, c, u.dx, _, rfl, hc', cf_no (by decide +kernel) (by decide +kernel) (by decide +kernel), c, u, t, tk, i', kk, _, ee, rfl, hcc, hk', fun H5 e5 => ⟨rfl, _, rfl, ?_⟩⟩
      rw [dec_int, show (44 : Int) = ((44 : Nat) : Int) from rfl, k44]
      have h5c := e5 _ _ hc'
      refine ite_b (fun h44 => ?_) (fun h44 => ?_)
      · have hk0 : kk ≠ 0 := by
          rw [h44, decide_eq_true_iff] at k44
          omega
        have hsp2 : takeMeasures (r1.length + 1) [] r1 = takeMeasures n ms l := by
          rw [hsp]
          unfold restMeasures
          rw [if_pos h44]
          rfl
        have hlt := hat'.lt
        obtain ⟨n', rfl⟩ : ∃ n', n = n' + 1 := ⟨n - 1, by omega⟩
        replace hsp2 := hsp2.trans (measures_rest n' ms l)
        refine ⟨fun σ2 H2' => ∃ i2 r2 ms2 xs2 n2, tk.length - i2 < tk.length - i' ∧ σ2 = [some (.ref c), some (.ref F), some (.ref U)] ∧ At t tk i2 r2 ∧ H2' c = some (.ins a.cursor u.dx (curF u.rt u.rk i2)) ∧ H2' F = some (.lst xs2) ∧ DaL (nw H (hide [c, F, U] H2')) xs2 (ms2.map fun m => dI (bytesI m.name)) ∧
          H2' U = some (.lst (ms2.map fun m => .bl m.up)) ∧ Kp [c] H H2' ∧ ms2.length ≤ 4 ∧ takeMeasures (r1.length + 1) [] r1 = restMeasures n2 ms2 r2 ∧ tk.length - i2 ≤ n2, ?_, ?_⟩
        · rintro σ2 H2' ⟨i2, r2, ms2, xs2, n2, hm2, a1, a2, a3, a4, a5, a6, a7, a8, a9, a10⟩
          exact ⟨_, hm2, i2, r2, ms2, xs2, n2, rfl, a1, a2, a3, a4, a5, a6, a7, a8, a9, a10⟩
        refine ⟨_, rfl, c, u.dx, _, rfl, h5c, cf_no (by decide +kernel) (by decide +kernel) (by decide +kernel), c, u.dx, u.rt, u.rk, i', rfl, h5c, fun H6 h6c k6 => ?_⟩
        have hat6 := hat'.next hk' hk0
        have k56 : Kp [c] H' H6 := (Kp.of e5).trans k6
        refine ⟨_, rfl, _, rfl, _, rfl, ?_⟩
        dsimp only [tNil]
        refine turn (i' + 1) n' l ms xs H6 _ hat6 h6c (k56 _ _ hF' (by simpa using hFc)) (hxs.ex (nw_ex (k56.mono (one_sub cS)).hid)) (k56 _ _ hU' (by simpa using hUc)) (kH'.trans k56) hms hsp2 fun y2 xs2 H7 hat7 h7c h7F h7x h7U k7 h7l h7s => ?_
        have := hat7.lt
        exact ⟨i' + 1 + 2, y2.2, ms ++ [y2.1], xs2, n', by omega, rfl, hat7, h7c, h7F, h7x, h7U, k7, h7l, h7s, by omega⟩
      · have hsp2 : takeMeasures (r1.length + 1) [] r1 = (takeSign 59 (y' :: l)).map fun m => (ms, m) := by
          rw [hsp]
          unfold restMeasures
          rw [if_neg (by rw [h44]; decide)]
        rw [sign_is'] at hsp2
        have k59 := kind_sign hy l 59 (by decide)
        rw [hsp2] at o
        refine ⟨_, rfl, c, u.dx, _, rfl, h5c, cf_no (by decide +kernel) (by decide +kernel) (by decide +kernel), c, u, t, tk, i', 59, kk, ee, y'.place, rfl, hcc.ex e5, hk', fun h59 H6 h6c k6 => ?_, fun h59 => ?_⟩
        · rw [show ((59 : Nat) : Int) = 59 from rfl, decide_eq_true h59] at k59
          rw [if_pos k59.symm] at o
          have hat6 := hat'.next hk' (by omega)
          have k56 : Kp [c] H' H6 := (Kp.of e5).trans k6
          refine ⟨_, rfl, _, rfl, by show 2 ≤ sizeLine; decide, fun q hq => ?_⟩
          have h6F := k56 _ _ hF' (by simpa using hFc)
          have h6U := k56 _ _ hU' (by simpa using hUc)
          have eq7 : Ex H6 (upd H6 q (.tup [.ref F, .ref U])) := ex_new hq
          refine o (i' + 1) q (.ref F) (.ref U) _ (eq7 _ _ h6c) hat6 ((kH'.trans k56).trans (Kp.of eq7)) upd_same ?_ ?_
          · refine .l (xs := xs) (by rw [nw_new hF]; exact eq7 _ _ h6F) ?_
            rw [List.map_map]
            exact hxs.ex (nw_ex ((k56.mono (one_sub cS)).hid.trans (hide_sub.trans eq7)))
          · refine .l (xs := ms.map fun m => .bl m.up) (by rw [nw_new hUH]; exact eq7 _ _ h6U) ?_
            have := daL_bls (H := nw H (upd H6 q (.tup [.ref F, .ref U]))) (ms.map fun m => m.up)
            rw [List.map_map] at this
            exact this
        · rw [show ((59 : Nat) : Int) = 59 from rfl, decide_eq_false h59] at k59
          rw [if_neg (by rw [← k59]; decide)] at o
          exact Rs.mono (S := []) o (kH'.trans (Kp.of e5)) nil_sub
    · rw [decide_eq_false h3] at kw3
      rw [if_neg (by rw [← kw3]; decide)] at ow
      have os : measuresStep (x :: r1) = .error ⟨3, x.place⟩ := by
        unfold measuresStep
        rw [ow]
        rfl
      rw [os] at o
      exact Rs.mono (S := []) o (Kp.of e2) nil_sub
end
end Fw
set_option Elab.async false
set_option maxRecDepth 100000
set_option maxHeartbeats 4000000
namespace Fw
open PySem PySem.Spec PyProof.Rows L2 Fm
open Evl (Ex Ev EvL EvU EvT EvA RV RetL RetV)
open VaskyBase (Bytes Fault Toks takeWord takeSign takeName nextWord next)
open Vaskya (Measure Item Sheet takeMeasures takeInt takeValues takeItems)
section
variable {P : Program} {w : World} {K : PySem.W.Frag} {mg : Str → Option Value} {base : Heap} {a : Ads}
theorem nw_da {H H' : Hp} {v : V} {d : D} (h : Da (nw H H') v d) : Da H' v d := h.ex nw_sub
def sp_read_whole (K : PySem.W.Frag) (a : Ads) : Sp := fun vs H Q E => ∃ (c : Addr) (u : Cu) (t : List Int) (tk : List Tk) (i : Nat) (r : Toks), vs = [.ref c] ∧ CurAt a K [c] H c u t tk i ∧ At t tk i r ∧
  Out (wholeStep r) (fun s => ∀ p H', Kp [c] H H' → HeldAt a (nw H H') p s → Q (.ref p) H') (fun cd pl => Rs a cd pl [c] H E)
theorem whole_eq (r : Toks) : wholeStep r = (measuresStep r).bind fun x => (takeItems x.1.length (x.2.length + 1) [] x.2).map fun is => ⟨x.1, is⟩ := by
  unfold wholeStep measuresStep
  cases takeWord "measures" r <;> rfl
theorem ok_read_whole (T : Txt K mg a) (c_read_measures : Cal P w K mg base (L2.CX P w) 7 "read_measures" (sp_read_measures K a)) (c_Cursor_kind : Met P w K mg base CX0 1 a.cursor "kind" (sp_Cursor_kind K a)) (c_read_item : Cal P w K mg base (L2.CX P w) 6 "read_item" (sp_read_item K a)) (c_Cursor_need : Met P w K mg base (L2.CX P w) 3 a.cursor "need" (sp_Cursor_need K a)) (c_Held_init : Mak P w K mg base 1 "Held" a.held (sp_Held_init K a)) : Cal P w K mg base (L2.CX P w) 8 "read_whole" (sp_read_whole K a) := by
  refine calX_of T.d_read_whole sc_read_whole (fun vs H Q E h => ?_) (fun f cdv A outer s H vs Q E hr h => ⟨_, (pss_cons (ps_asg (pe_c c_read_measures hr (passes_call (takes_of rfl rfl rfl rfl) (fun _ _ _ _ h => h)) (pa_cons (pv 0) pa_nil)) (pg_tup rfl (pgs_cons (pg_name (i := 1) sc_read_whole.nd rfl (Or.inl rfl)) (pgs_cons (pg_name (i := 2) sc_read_whole.nd rfl (Or.inl rfl)) pgs_nil)))) (pss_cons (ps_set (i := 3) sc_read_whole.nd rfl (Or.inl rfl) (pe_lst pa_nil)) (pss_cons (ps_set (i := 4) sc_read_whole.nd rfl (Or.inl rfl) (pe_lst pa_nil)) (pss_cons (ps_while (passes_of rfl) (pt_cmpR op_eq (pe_mt0 T.cl_cursor c_Cursor_kind hr pass0 (pv 0)) (pe_gc T.g_ITEM) (nomark _)) (pss_one (ps_expr (pe_c c_read_item hr (passes_call (takes_of rfl rfl rfl rfl) (fun _ _ _ _ h => h)) (pa_cons (pv 0) (pa_cons (pe_callB call_len_seq rfl T.b_len PySem.boot_len (pa_cons (pv 2) pa_nil)) (pa_cons (pv 3) (pa_cons (pv 4) pa_nil)))))))) (pss_cons (ps_expr (pe_mt T.cl_cursor c_Cursor_need hr (passes_call (takes_of rfl rfl rfl rfl) (fun _ _ _ _ h => h)) (pv 0) (pa_cons (pe_gc T.g_END) pa_nil))) (pss_one (ps_ret (pe_mk c_Held_init hr (pa_cons (pv 1) (pa_cons (pv 2) (pa_cons (pv 3) (pa_cons (pv 4) pa_nil)))))))))))), ?_⟩)
  · obtain ⟨_, _, _, _, _, _, rfl, _⟩ := h
    rfl
  · obtain ⟨c, u, t, tk, i, r, rfl, hc, hat, o⟩ := h
    rw [whole_eq] at o
    have hNr := namesOk_of hat.rel
    refine ⟨_, rfl, c, u, t, tk, i, r, rfl, hc, hat, ?_⟩
    cases hms : measuresStep r with
    | error f =>
      rw [hms] at o
      exact o
    | ok y =>
      have hwf : ∀ is, (takeItems y.1.length (y.2.length + 1) [] y.2) = .ok is → WF ⟨y.1, is⟩ := fun is hi => by
        refine whole_wf (r := r) ?_ hNr
        rw [whole_eq, hms]
        show (takeItems y.1.length (y.2.length + 1) [] y.2).map _ = _
        rw [hi]
        rfl
      rw [hms] at o
      have o : Out ((takeItems y.1.length (y.2.length + 1) [] y.2).map fun is => (⟨y.1, is⟩ : Sheet)) _ _ := o
      have hm4 : 1 ≤ y.1.length ∧ y.1.length ≤ 4 := by
        unfold measuresStep at hms
        cases h1 : takeWord "measures" r with
        | error f => rw [h1] at hms; cases hms
        | ok r1 =>
          rw [h1] at hms
          exact (measures_ok _ _ _ hms (by rw [taken_ok h1]; exact hNr.drop 1) (by simp) (by simp)).1
      intro j p v1 v2 H1 h1c hat1 k1 h1p hv1 hv2
      refine ⟨p, _, rfl, st h1p, rfl, v1, _, rfl, v2, _, rfl, rfl, ?_⟩
      refine ⟨by show 0 ≤ sizeLine; decide, fun F hF => ⟨by show 0 ≤ sizeLine; decide, fun U hU => ?_⟩⟩
      have hU1 : H1 U = none := fresh_of (ex_new hF) hU
      have hFU : F ≠ U := fun z => by rw [← z, upd_same] at hU; cases hU
      have hFc : F ≠ c := fun z => by rw [z, h1c] at hF; cases hF
      have hUc : U ≠ c := fun z => by rw [z, h1c] at hU1; cases hU1
      have hFH : H F = none := fresh_kp k1 hF (by simpa using hFc)
      have hUH : H U = none := fresh_kp k1 hU1 (by simpa using hUc)
      have sS : ∀ b ∈ [c, F, U], b ∈ [c] ∨ H b = none := fun b hb => by
        rcases List.mem_cons.mp hb with e | m
        · exact .inl (by rw [e]; exact List.mem_singleton.mpr rfl)
        · rcases List.mem_cons.mp m with e | m
          · rw [e]; exact .inr hFH
          · rw [List.mem_singleton.mp m]; exact .inr hUH
      have cS : c ∈ [c, F, U] := List.mem_cons_self ..
      have e2 : Ex H1 (upd (upd H1 F (.lst [])) U (.lst [])) := (ex_new hF).trans (ex_new hU)
      have h2F : (upd (upd H1 F (.lst [])) U (.lst [])) F = some (.lst []) := by rw [upd_ne hFU]; exact upd_same
      have h2U : (upd (upd H1 F (.lst [])) U (.lst [])) U = some (.lst []) := upd_same
      have hnw : Ex (nw H H1) (nw H (hide [c, F, U] (upd (upd H1 F (.lst [])) U (.lst [])))) := nw_hide2 e2 fun b hb => by
        rcases List.mem_cons.mp hb with e | m
        · left; rw [e, hc.obj]; simp
        · rcases List.mem_cons.mp m with e | m
          · right; rw [e]; exact hF
          · right; rw [List.mem_singleton.mp m]; exact hU1
      have h2c := e2 _ _ h1c
      have k2 : Kp [c] H (upd (upd H1 F (.lst [])) U (.lst [])) := k1.trans (Kp.of e2)
      generalize (upd (upd H1 F (.lst [])) U (.lst [])) = H2 at e2 h2F h2U hnw h2c k2
      obtain ⟨a2, hv2e, hv2o⟩ := dB_da (nw_da hv2)
      subst hv2e
      refine ⟨fun m σ' H' => ∃ i' r' is xs zs n x, m = tk.length - i' ∧ σ' = [some (.ref c), some v1, some (.ref a2), some (.ref F), some (.ref U)] ∧ At t tk i' r' ∧ H' c = some (.ins a.cursor u.dx (curF u.rt u.rk i')) ∧ H' F = some (.lst xs) ∧ DaL (nw H (hide [c, F, U] H')) xs (is.map fun m => dI (bytesI m.name)) ∧
          H' U = some (.lst zs) ∧ DaL (nw H (hide [c, F, U] H')) zs (is.map fun m => dI m.vs) ∧ Kp [c] H H' ∧ x = (nw H (hide [c, F, U] H')) ∧ Da x v1 (dLL (y.1.map fun m => bytesI m.name)) ∧ Da x (.ref a2) (dB (y.1.map fun m => m.up)) ∧ is.length ≤ 16 ∧ takeItems y.1.length (y.2.length + 1) [] y.2 = takeItems y.1.length n is r' ∧ tk.length - i' < n,
        ⟨_, j, y.2, [], [], [], y.2.length + 1, _, rfl, rfl, hat1, h2c, h2F, .nil, h2U, .nil, k2, rfl, hv1.ex hnw, hv2.ex hnw, by show 0 ≤ 16; decide, rfl, by rw [hat1.len]; omega⟩, ?_⟩
      rintro m σ' H' ⟨i', r', is, xs, zs, n, _, rfl, rfl, hat', hc', hF', hxs, hU', hzs, kH', rfl, hw1, hw2, his, hsp, hn⟩
      have hcc : CurAt a K [c] H' c u t tk i' := hc.kp kH' hc'
      obtain ⟨kk, pp, ee, y', l, hk', hz, hy, hl'⟩ := hat'.head
      subst hz
      obtain ⟨hpp, _⟩ := id hy
      subst hpp
      obtain ⟨_, _, _, kw6⟩ := kind_word hy l
      have kl := kind_last hy l
      obtain ⟨n', rfl⟩ : ∃ n', n = n' + 1 := ⟨n - 1, by omega⟩
      have hspT := hsp.trans (items_turn _ _ _ _)
      refine ⟨_, rfl, c, u.dx, _, rfl, hc', cf_no (by decide +kernel) (by decide +kernel) (by decide +kernel), c, u, t, tk, i', kk, _, ee, rfl, hcc, hk', fun H5 e5 => ⟨rfl, _, rfl, ?_⟩⟩
      rw [dec_int, kw6]
      have h5c := e5 _ _ hc'
      refine ite_b (fun h6 => ?_) (fun h6 => ?_)
      · have hk6 : kk = 6 := by
          rw [h6, decide_eq_true_iff] at kw6
          exact kw6
        rw [if_neg (by rw [← kl, hk6]; decide)] at hspT
        refine ⟨fun σ2 H2' => ∃ i2 r2 is2 xs2 zs2 n2, tk.length - i2 < tk.length - i' ∧ σ2 = [some (.ref c), some v1, some (.ref a2), some (.ref F), some (.ref U)] ∧ At t tk i2 r2 ∧ H2' c = some (.ins a.cursor u.dx (curF u.rt u.rk i2)) ∧ H2' F = some (.lst xs2) ∧ DaL (nw H (hide [c, F, U] H2')) xs2 (is2.map fun m => dI (bytesI m.name)) ∧
            H2' U = some (.lst zs2) ∧ DaL (nw H (hide [c, F, U] H2')) zs2 (is2.map fun m => dI m.vs) ∧ Kp [c] H H2' ∧ Da (nw H (hide [c, F, U] H2')) v1 (dLL (y.1.map fun m => bytesI m.name)) ∧ Da (nw H (hide [c, F, U] H2')) (.ref a2) (dB (y.1.map fun m => m.up)) ∧ is2.length ≤ 16 ∧ takeItems y.1.length (y.2.length + 1) [] y.2 = takeItems y.1.length n2 is2 r2 ∧ tk.length - i2 < n2, ?_, ?_⟩
        · rintro σ2 H2' ⟨i2, r2, is2, xs2, zs2, n2, hm2, b1, b2, b3, b4, b5, b6, b7, b8, b9, b10, b11, b12, b13⟩
          exact ⟨_, hm2, i2, r2, is2, xs2, zs2, n2, _, rfl, b1, b2, b3, b4, b5, b6, b7, b8, rfl, b9, b10, b11, b12, b13⟩
        have k5 : Kp [c, F, U] H' H5 := Kp.of e5
        have hxs5 := hxs.ex (nw_ex k5.hid)
        have hzs5 := hzs.ex (nw_ex k5.hid)
        refine ⟨_, rfl, _, rfl, a2, _, rfl, .inl (sq (e5 _ _ (hide_sub _ _ (nw_sub _ _ (by obtain ⟨q, e, hq⟩ := dB_da hw2; cases e; exact hq))))), _, rfl, _, rfl, ?_⟩
        refine ⟨c, F, U, u, t, tk, i', y.1.length, y' :: l, is, xs, zs, ?_, hc.fresh (kH'.trans (Kp.of e5)) sS h5c, hat', hFU, his, hm4.1, hm4.2, e5 _ _ hF', hxs5.ex nw_sub, e5 _ _ hU', by rw [hzs.len, List.length_map], ?_⟩
        · show [V.ref c, .int ((((y.1.map fun m => m.up).map V.bl).length : Nat) : Int), .ref F, .ref U] = _
          rw [List.length_map, List.length_map]
        cases hst : itemStep y.1.length is (y' :: l) with
        | error f =>
          rw [hst] at hspT
          rw [show takeItems y.1.length (y.2.length + 1) [] y.2 = .error f from hspT] at o
          exact Rs.fresh o (kH'.trans (Kp.of e5)) sS
        | ok z =>
          rw [hst] at hspT
          have hspT : takeItems y.1.length (y.2.length + 1) [] y.2 = takeItems y.1.length n' (is ++ [z.1]) z.2 := hspT
          have h16 := (itemStep_ok hst (namesOk_of hat'.rel)).1
          intro q1 q2 j2 H6 hq1 hq1' hq2 hq2' h6F h6U h6c hat6 hij k6
          have kk6 : Kp [c] H H6 := (kH'.trans (Kp.of e5)).fresh k6 sS
          have q1c : q1 ≠ c := fun z => by rw [z, h5c] at hq1; cases hq1
          have q1F : q1 ≠ F := fun z => by rw [z, e5 _ _ hF'] at hq1; cases hq1
          have q1U : q1 ≠ U := fun z => by rw [z, e5 _ _ hU'] at hq1; cases hq1
          have q2c : q2 ≠ c := fun z => by rw [z, h5c] at hq2; cases hq2
          have q2F : q2 ≠ F := fun z => by rw [z, e5 _ _ hF'] at hq2; cases hq2
          have q2U : q2 ≠ U := fun z => by rw [z, e5 _ _ hU'] at hq2; cases hq2
          have q1H : H q1 = none := fresh_kp (kH'.trans (Kp.of e5)) hq1 (by simpa using q1c)
          have q2H : H q2 = none := fresh_kp (kH'.trans (Kp.of e5)) hq2 (by simpa using q2c)
          have en : Ex (nw H (hide [c, F, U] H')) (nw H (hide [c, F, U] H6)) := nw_ex (k5.trans k6).hid
          have := hat6.lt
          refine ⟨j2, z.2, is ++ [z.1], xs ++ [.ref q1], zs ++ [.ref q2], n', by omega, rfl, hat6, h6c, h6F, ?_, h6U, ?_, kk6, hw1.ex en, hw2.ex en, ?_, hspT, by omega⟩
          · rw [List.map_append]
            refine (hxs.ex en).snoc (da_dI ?_)
            rw [nw_new q1H, hide_out (by simp [q1c, q1F, q1U])]
            exact hq1'
          · rw [List.map_append]
            refine (hzs.ex en).snoc (da_dI ?_)
            rw [nw_new q2H, hide_out (by simp [q2c, q2F, q2U])]
            exact hq2'
          · rw [List.length_append]
            show is.length + 1 ≤ 16
            omega
      · refine ⟨_, rfl, c, u.dx, _, rfl, h5c, cf_no (by decide +kernel) (by decide +kernel) (by decide +kernel), c, u, t, tk, i', 0, kk, ee, y'.place, rfl, hcc.ex e5, hk', fun h0 H6 e6 => ?_, fun h0 => ?_⟩
        · rw [decide_eq_true h0] at kl
          rw [if_pos kl.symm] at hspT
          rw [hspT] at o
          have hW := hwf is hspT
          obtain ⟨a1, xs1, e1', h1', h1''⟩ := dl_da (ds := (y.1.map fun m => bytesI m.name).map dI) hw1
          subst e1'
          refine ⟨_, rfl, _, rfl, _, rfl, _, rfl, fun hx hdx nx ndx nne => ?_⟩
          refine ⟨hx, hdx, a1, a2, F, U, rfl, upd_same, fun H7 h7 k7 => ⟨rfl, ?_⟩⟩
          have e56 := e5.trans e6
          have eB : Ex H6 (upd (upd H6 hdx (.own hx)) hx (.ins a.held hdx [])) := (ex_new ndx).trans (ex_new (by rw [upd_ne (Ne.symm nne)]; exact nx))
          have e7 : Ex H6 H7 := fun b ob hb => k7 b ob (eB b ob hb) fun m => by rw [List.mem_singleton.mp m, nx] at hb; cases hb
          have eH7 : Ex H' H7 := e56.trans e7
          have kH7 : Kp [c] H H7 := kH'.trans (Kp.of eH7)
          have hxH : H hx = none := by
            refine fresh_kp (kH'.trans (Kp.of e56)) nx fun m => ?_
            rw [List.mem_singleton.mp m, e56 _ _ hc'] at nx
            cases nx
          have en : Ex (nw H (hide [c, F, U] H')) (nw H H7) := nw_ex (hide_sub.trans eH7)
          refine o hx H7 kH7 ⟨⟨hdx, a1, a2, F, U, by rw [nw_new hxH]; exact h7, hw1.ex en, hw2.ex en, ?_, ?_⟩, hW⟩
          · refine .l (xs := xs) (by rw [nw_new hFH]; exact eH7 _ _ hF') ?_
            rw [List.map_map]
            exact hxs.ex en
          · refine .l (xs := zs) (by rw [nw_new hUH]; exact eH7 _ _ hU') ?_
            rw [List.map_map]
            exact hzs.ex en
        · rw [decide_eq_false h0] at kl
          rw [if_neg (by rw [← kl]; decide)] at hspT
          have oi : itemStep y.1.length is (y' :: l) = .error ⟨3, y'.place⟩ := by
            unfold itemStep
            have ow : takeWord "item" (y' :: l) = if nextWord "item" (y' :: l) = true then .ok l else .error ⟨3, y'.place⟩ := rfl
            rw [ow, if_neg (by rw [h6]; decide)]
            rfl
          rw [oi] at hspT
          rw [show takeItems y.1.length (y.2.length + 1) [] y.2 = .error ⟨3, y'.place⟩ from hspT] at o
          exact Rs.mono (S := []) o (kH'.trans (Kp.of e5)) nil_sub
end
end Fw
set_option Elab.async false
set_option maxRecDepth 100000
set_option maxHeartbeats 4000000
namespace Fw
open PySem PySem.Spec PyProof.Rows L2 Fm
open Evl (Ex Ev EvL EvU EvT EvA RV RetL RetV)
open VaskyBase (Bytes Fault Toks takeWord takeSign takeName nextWord next)
open Vaskya (Measure Item Sheet takeMeasures takeInt takeValues takeItems)
section
variable {P : Program} {w : World} {K : PySem.W.Frag} {mg : Str → Option Value} {base : Heap} {a : Ads}
theorem ex_kp {S : List Addr} {H H1 H2 : Hp} (e : Ex H H1) (k : Kp S H1 H2) (s : ∀ b ∈ S, H b = none) : Ex H H2 := fun b o hb => k b o (e b o hb) fun m => by
  rw [s b m] at hb
  cases hb
def sp_read_list (K : PySem.W.Frag) (a : Ads) : Sp := fun vs H Q E => ∃ (q : Addr) (t : List Int), vs = [.ref q] ∧ SqL K H q (iL t) ∧ t.length ≤ 8192 ∧ Oks t ∧
  Out (Vaskya.read (bytesOf t)) (fun s => ∀ p H2 h, Ex H H2 → H2 p = some (.tup [.int 0, .int 0, .ref h]) → HeldAt a (nw H H2) h s → Q (.ref p) H2)
    (fun cd pl => cd ≠ 0 → ∀ p H2, Ex H H2 → H2 p = some (.tup [.int cd, .int pl, .non]) → Q (.ref p) H2)
theorem ok_read_list (T : Txt K mg a) (c_read_tokens : Cal P w K mg base CX0 4 "read_tokens" (sp_read_tokens K a)) (c_read_whole : Cal P w K mg base (L2.CX P w) 8 "read_whole" (sp_read_whole K a)) (c_Cursor_init : Mak P w K mg base 1 "Cursor" a.cursor (sp_Cursor_init K a)) : Cal P w K mg base CX0 9 "read_list" (sp_read_list K a) := by
  refine cal_of T.d_read_list sc_read_list (fun vs H Q E h => ?_) (fun f cdv A outer s H vs Q E hr h => ⟨_, (pss_cons (ps_if (pt_cmpR op_gt (pe_callB call_len_seq rfl T.b_len PySem.boot_len (pa_cons (pv 0) pa_nil)) (pe_gc T.g_MOST_BYTES) (nomark _)) (pss_one (ps_ret (pe_tup (pa_cons (pe_gc T.g_TOO_LONG) (pa_cons (pe_gc T.g_MOST_BYTES) (pa_cons pe_non pa_nil)))))) pss_nil) (pss_cons (ps_asg (pe_c c_read_tokens hr pass0 (pa_cons (pv 0) pa_nil)) (pg_tup rfl (pgs_cons (pg_name (i := 1) sc_read_list.nd rfl (Or.inl rfl)) (pgs_cons (pg_name (i := 2) sc_read_list.nd rfl (Or.inl rfl)) pgs_nil)))) (pss_cons (ps_if (pt_cmpR op_ge (pv 2) pe_int (nomark _)) (pss_one (ps_ret (pe_tup (pa_cons (pe_gc T.g_NO_TOKEN) (pa_cons (pv 2) (pa_cons pe_non pa_nil)))))) pss_nil) (pss_cons (ps_try_as (i := 4) rfl rfl sc_read_list.nd rfl rfl ⟨rfl, by decide, Or.inl T.gf⟩ takes0 (fun W pn xe tk _ => (pss_one (ps_set (i := 3) sc_read_list.nd rfl (Or.inl rfl) (pe_cS c_read_whole hr (fun σ => passAt tk σ) (pa_cons (pe_mk c_Cursor_init hr (pa_cons (pv 0) (pa_cons (pv 1) pa_nil))) pa_nil))))) (fun a oe cls d pn hz hf => (pss_one (ps_ret (pe_tup (pa_cons (pe_xf T.xf T.nf_code hz hf (pv 4)) (pa_cons (pe_xf T.xf T.nf_place hz hf (pv 4)) (pa_cons pe_non pa_nil)))))))) (pss_one (ps_ret (pe_tup (pa_cons pe_int (pa_cons pe_int (pa_cons (pv 3) pa_nil)))))))))), ?_⟩)
  · obtain ⟨_, _, rfl, _⟩ := h
    rfl
  · obtain ⟨q, t, rfl, hq, hz, ho, o⟩ := h
    have hlen : (iL t).length = t.length := List.length_map ..
    rw [read_eq, tokens_eq] at o
    refine ⟨_, rfl, q, _, rfl, .inl hq, _, _, rfl, rfl, _, rfl, ?_⟩
    rw [hlen]
    refine ite_b (fun hl => ?_) (fun hl => ?_)
    · have hl' := of_decide_eq_true hl
      rw [if_pos (by omega)] at o
      refine ⟨by show 3 ≤ sizeLine; decide, fun p hp => ?_⟩
      exact o (by decide) p _ (ex_new hp) upd_same
    have hl' := of_decide_eq_false hl
    rw [if_neg (by omega)] at o
    refine ⟨_, rfl, q, t, rfl, hq, by omega, ho, fun place herr p H2 r e2 h2 => ?_, fun toks found hok hg p H2 r e2 h2 hda => ?_⟩
    · rw [herr] at o
      refine ⟨p, _, rfl, st h2, rfl, r, _, rfl, _, _, rfl, rfl, ?_⟩
      refine ⟨_, rfl, _, _, rfl, rfl, _, rfl, ?_⟩
      rw [decide_eq_true (show (0 : Int) ≤ (place : Int) by omega)]
      refine iteT ⟨_, rfl, by show 3 ≤ sizeLine; decide, fun u hu => ?_⟩
      exact o (show (2 : Nat) ≠ 0 by decide) u _ (e2.trans (ex_new hu)) upd_same
    · rw [hok] at o
      have o : Out (wholeStep toks) _ _ := o
      refine ⟨p, _, rfl, st h2, rfl, r, _, rfl, _, _, rfl, rfl, ?_⟩
      refine ⟨_, rfl, _, _, rfl, rfl, _, rfl, ?_⟩
      rw [decide_eq_false (show ¬ (0 : Int) ≤ -1 by omega)]
      refine iteF ?_
      obtain ⟨rk, ys, rfl, hrk, hys⟩ := dl_da (ds := found.map dTk) hda
      have hat : At t found 0 toks := by
        obtain ⟨front, hf, hn⟩ := hg.shape
        refine ⟨hg.rel, ?_, front, hf, hn⟩
        rw [hf, List.length_append]
        exact Nat.succ_pos _
      refine ⟨_, rfl, _, rfl, fun x dx nx nd ne => ?_⟩
      refine ⟨x, dx, q, rk, rfl, upd_same, fun H3 h3 k3 => ⟨rfl, ?_⟩⟩
      have eB : Ex H2 (upd (upd H2 dx (.own x)) x (.ins a.cursor dx [])) := (ex_new nd).trans (ex_new (by rw [upd_ne (Ne.symm ne)]; exact nx))
      have e3 : Ex H2 H3 := ex_kp eB k3 fun b m => by rw [List.mem_singleton.mp m]; exact nx
      have e23 : Ex H2 (hide [x] H3) := fun b ob hb => by
        rw [hide_out fun m => by rw [List.mem_singleton.mp m, nx] at hb; cases hb]
        exact e3 b ob hb
      have hnx : H x = none := fresh_of e2 nx
      have hcur : CurAt a K [x] H3 x ⟨dx, q, rk⟩ t found 0 := ⟨h3, ex_sq (e2.trans e23) hq, (nw_da hda).ex e23⟩
      refine ⟨x, ⟨dx, q, rk⟩, t, found, 0, toks, rfl, hcur, hat, ?_⟩
      cases hw : wholeStep toks with
      | error fl =>
        rw [hw] at o
        intro d H' kH' hd
        have eH' : Ex H H' := ex_kp (e2.trans e3) kH' fun b m => by rw [List.mem_singleton.mp m]; exact hnx
        refine ⟨true, T.ef, fun _ a0 _ => ?_, fun z => Bool.noConfusion z⟩
        refine ⟨_, rfl, rfl, rfl, d, _, _, rfl, hd, (lk_past (by decide +kernel)).trans lk_here, _, rfl, rfl, rfl, d, _, _, rfl, hd, lk_here, by show 3 ≤ sizeLine; decide, fun u hu => ?_⟩
        exact o (fc_whole toks fl hw) u _ (eH'.trans (ex_new hu)) upd_same
      | ok sh =>
        rw [hw] at o
        intro p' H' kH' hh
        have eH' : Ex H H' := ex_kp (e2.trans e3) kH' fun b m => by rw [List.mem_singleton.mp m]; exact hnx
        refine ⟨_, rfl, by show 3 ≤ sizeLine; decide, fun u hu => ?_⟩
        exact o u _ p' (eH'.trans (ex_new hu)) upd_same (hh.mono ((nw_back (e2.trans e3)).trans (nw_ex (ex_new hu))))
end
end Fw
set_option Elab.async false
set_option maxRecDepth 100000
set_option maxHeartbeats 4000000
namespace Fm
/-- what one set grows into -/
def ext (many : Nat) (first : Bool) (c : List Nat) : List (List Nat) := ((List.range many).drop (if first then 0 else c.getLastD 0 + 1)).map fun x => c ++ [x]
theorem longer_ext (many : Nat) (first : Bool) (found : List (List Nat)) : longer many first found = found.flatMap (ext many first) := rfl
theorem flatMap_more {α β : Type} {f : α → List β} {l : List α} {i : Nat} {x : α} (h : l[i]? = some x) : (l.take (i + 1)).flatMap f = (l.take i).flatMap f ++ f x := by
  rw [take_more h, List.flatMap_append]
  simp
theorem flatMap_len {α β : Type} {f : α → List β} {m : Nat} : ∀ {l : List α}, (∀ x ∈ l, (f x).length ≤ m) → (l.flatMap f).length ≤ l.length * m
  | [], _ => by simp
  | x :: l, h => by
    rw [List.flatMap_cons, List.length_append, List.length_cons, Nat.succ_mul]
    have h1 := h x (List.mem_cons_self ..)
    have h2 := flatMap_len (l := l) (f := f) (m := m) fun y hy => h y (List.mem_cons_of_mem _ hy)
    omega
theorem ext_len (many : Nat) (first : Bool) (c : List Nat) : (ext many first c).length ≤ many := by
  unfold ext
  rw [List.length_map, List.length_drop, List.length_range]
  omega
theorem drop_range {many s n : Nat} (h : s + n < many) : ((List.range many).drop s)[n]? = some (s + n) := by
  rw [List.getElem?_drop, List.getElem?_range h]
/-- prey_of -/
def preyM (l : List (List Int)) (n : Nat) : List (List Nat) := (List.range l.length).map fun i => (List.range l.length).filter fun j => btL (G l i) (G l j) (List.range n)
theorem preyM_len (l : List (List Int)) (n : Nat) : (preyM l n).length = l.length := by unfold preyM; rw [List.length_map, List.length_range]
theorem preyM_get {l : List (List Int)} {n i : Nat} (h : i < l.length) : (preyM l n)[i]? = some ((List.range l.length).filter fun j => btL (G l i) (G l j) (List.range n)) := by
  unfold preyM
  rw [List.getElem?_map, List.getElem?_range h]
  rfl
/-- whether an item is among the prey of those taken -/
def hit (prey : List (List Nat)) (taken : List Nat) (j : Nat) : Bool := taken.any fun i => (prey.getD i []).contains j
theorem hit_preyM {l : List (List Int)} {n : Nat} {taken : List Nat} (ht : ∀ i ∈ taken, i < l.length) {j : Nat} (hj : j < l.length) : hit (preyM l n) taken j = beatenBy l n taken j := by
  unfold hit beatenBy
  refine any_congr' fun i hi => ?_
  rw [List.getD_eq_getElem?_getD, preyM_get (ht i hi), Option.getD_some, Bool.eq_iff_iff, List.contains_iff_mem, List.mem_filter, List.mem_range]
  exact ⟨fun h => h.2, fun h => ⟨hj, h⟩⟩
def covP (prey : List (List Nat)) (taken : List Nat) : Nat := ((List.range prey.length).filter fun j => hit prey taken j).length
theorem covP_is {l : List (List Int)} {n : Nat} {taken : List Nat} (ht : ∀ i ∈ taken, i < l.length) : covP (preyM l n) taken = covM l n taken := by
  unfold covP covM
  rw [preyM_len]
  congr 1
  exact filter_congr' fun j hj => hit_preyM ht (List.mem_range.mp hj)
/-- marks: 1 where p says so -/
def marks (n : Nat) (p : Nat → Bool) : List Int := (List.range n).map fun j => if p j = true then 1 else 0
theorem marks_len (n : Nat) (p : Nat → Bool) : (marks n p).length = n := by unfold marks; rw [List.length_map, List.length_range]
theorem marks_set (n : Nat) (p : Nat → Bool) (k : Nat) : (marks n p).set k 1 = marks n fun j => p j || j == k := by
  unfold marks
  apply List.ext_getElem
  · simp
  · intro i h1 h2
    rw [List.getElem_set, List.getElem_map, List.getElem_map, List.getElem_range]
    by_cases c : k = i
    · subst c
      simp
    · have : (i == k) = false := by simpa using fun z => c z.symm
      rw [if_neg c]
      show (if p i = true then 1 else 0) = (if (p i || i == k) = true then 1 else 0)
      rw [this, Bool.or_false]
theorem marks_zero (n : Nat) : marks n (fun _ => false) = List.replicate n 0 := by
  unfold marks
  apply List.ext_getElem
  · simp
  · intro i h1 h2
    simp
theorem sum_marks (n : Nat) (p : Nat → Bool) : (marks n p).sum = (((List.range n).filter p).length : Int) := by
  unfold marks
  generalize List.range n = l
  induction l with
  | nil => rfl
  | cons x l ih =>
    rw [List.map_cons, List.sum_cons, ih, List.filter_cons]
    split
    · rw [List.length_cons]
      omega
    · omega
theorem marks_congr {n : Nat} {p q : Nat → Bool} (h : ∀ j, p j = q j) : marks n p = marks n q := by
  have : p = q := funext h
  rw [this]
end Fm
namespace Fw
open PySem PySem.Spec PyProof.Rows L2 Fm
open Evl (Ex Ev EvL EvU EvT EvA RV RetL RetV)
open Vaskya (Sheet)
theorem rm_rm_ex {H H' : Hp} {L : Addr} (e : Ex H (rm H' L)) : Ex H H' := e.trans rm_sub
theorem dN_da {H : Hp} {v : V} {us : List Nat} (h : Da H v (dN us)) : ∃ p, v = .ref p ∧ H p = some (.lst (nats us)) := dI_da h
theorem dSets_da {H : Hp} {v : V} {ss : List (List Nat)} (h : Da H v (dSets ss)) : ∃ p xs, v = .ref p ∧ H p = some (.lst xs) ∧ xs.length = ss.length ∧ ∀ (i : Nat) (c : List Nat), ss[i]? = some c → ∃ q, xs[i]? = some (.ref q) ∧ H q = some (.lst (nats c)) := by
  obtain ⟨p, xs, rfl, h1, h2⟩ := dl_da (ds := (ss.map nz).map dI) h
  refine ⟨p, xs, rfl, h1, by rw [h2.len, List.length_map, List.length_map], fun i c hi => ?_⟩
  obtain ⟨v, a, b⟩ := h2.get (i := i) (d := dN c) (by rw [List.getElem?_map, List.getElem?_map, hi]; rfl)
  obtain ⟨q, rfl, hq⟩ := dI_da b
  exact ⟨q, a, hq⟩
section
variable {P : Program} {w : World} {K : PySem.W.Frag} {mg : Str → Option Value} {base : Heap} {a : Ads}
def sp_sets_of (K : PySem.W.Frag) (a : Ads) : Sp := fun vs H Q _ => ∃ (many size : Nat), vs = [.int many, .int size] ∧ many ≤ 16 ∧ size ≤ 4 ∧ RetD (dSets (setsOf many size)) H Q
theorem ok_sets_of (T : Txt K mg a) : Cal P w K mg base CX0 1 "sets_of" (sp_sets_of K a) := by
  refine cal_of T.d_sets_of sc_sets_of (fun vs H Q E h => ?_) (fun f cdv A outer s H vs Q E hr h => ⟨_, (pss_cons (ps_set (i := 2) sc_sets_of.nd rfl (Or.inl rfl) (pe_lst (pa_cons (pe_lst pa_nil) pa_nil))) (pss_cons (ps_for PassesOwn.never rfl (pi_range1 rfl T.b_range (pa_cons (pv 1) pa_nil)) (pg_name (i := 3) sc_sets_of.nd rfl (Or.inl rfl)) (pss_cons (ps_set (i := 4) sc_sets_of.nd rfl (Or.inl rfl) (pe_lst pa_nil)) (pss_cons (ps_for PassesOwn.never rfl (pi_list (pv 2)) (pg_name (i := 5) sc_sets_of.nd rfl (Or.inl rfl)) (pss_cons (ps_set (i := 6) sc_sets_of.nd rfl (Or.inl rfl) (pe_ifExp (pt_cmpR op_gt (pv 3) pe_int (nomark _)) (pe_op op_add (pe_ix ix_list (pv 5) (pe_un un_neg pe_int) (fun _ _ => rfl)) pe_int) pe_int)) (pss_one (ps_for PassesOwn.never rfl (pi_range2 rfl T.b_range (pa_cons (pv 6) (pa_cons (pv 0) pa_nil))) (pg_name (i := 7) sc_sets_of.nd rfl (Or.inl rfl)) (pss_one (ps_expr (pe_bm PySem.F.plainAttrs_list PySem.F.slot_list_append PySem.F.type_list_append mt_append (pv 4) (pa_cons (pe_op op_cat (pv 5) (pe_lst (pa_cons (pv 7) pa_nil))) pa_nil)))))))) (pss_one (ps_set (i := 2) sc_sets_of.nd rfl (Or.inl rfl) (pv 4)))))) (pss_one (ps_ret (pv 2))))), ?_⟩)
  · obtain ⟨_, _, rfl, _⟩ := h
    rfl
  · obtain ⟨many, size, rfl, hm, hs, k⟩ := h
    refine ⟨by show 0 ≤ sizeLine; decide, fun p0 hp0 => ⟨by show 1 ≤ sizeLine; decide, fun F0 hF0 => ?_⟩⟩
    have e0 : Ex H (upd (upd H p0 (.lst [])) F0 (.lst [.ref p0])) := (ex_new hp0).trans (ex_new hF0)
    have hF0H : H F0 = none := fresh_of (ex_new hp0) hF0
    have h0F : p0 ≠ F0 := fun z => by rw [← z, upd_same] at hF0; cases hF0
    have d0 : Da (nw H (upd (upd H p0 (.lst [])) F0 (.lst [.ref p0]))) (.ref F0) (dSets (setsOf many 0)) := by
      refine .l (xs := [.ref p0]) (by rw [nw_new hF0H]; exact upd_same) (.cons (da_dI (ns := []) ?_) .nil)
      rw [nw_new hp0, upd_ne h0F]
      exact upd_same
    refine ⟨_, rfl, (size : Int), rfl, by omega, by omega, ?_⟩
    rw [Int.toNat_natCast]
    refine for_range (lo := 0) (n := size) (fun i σ' H' => ∃ F x3 x4 x5 x6 x7, σ' = [some (.int many), some (.int size), some (.ref F), x3, x4, x5, x6, x7] ∧ Ex H H' ∧ Da (nw H H') (.ref F) (dSets (setsOf many i))) ⟨F0, none, none, none, none, none, rfl, e0, d0⟩ ?_ ?_
    · rintro i σ' H0 hi ⟨F, x3, x4, x5, x6, x7, rfl, e, hd⟩
      obtain ⟨F', vs, eF, hF, hlen, hget⟩ := dSets_da (nw_da hd)
      cases eF
      have hfl : (setsOf many i).length ≤ 1820 := setsOf_len hm (by omega)
      refine ⟨by show 0 ≤ sizeLine; decide, fun L hL => ?_⟩
      have hLH : H L = none := fresh_of e hL
      refine ⟨_, rfl, F, rfl, ⟨_, sq (ex_new hL _ _ hF)⟩, ?_⟩
      refine for_list (K := K) (a := F) (xs := vs) (fun j σ' H' => ∃ x5 x6 x7 ys, σ' = [some (.int many), some (.int size), some (.ref F), some (.int (0 + (i : Int))), some (.ref L), x5, x6, x7] ∧ H' L = some (.lst ys) ∧ Ex H0 (rm H' L) ∧
          DaL (nw H (rm H' L)) ys (((((setsOf many i).take j).flatMap (ext many (i == 0))).map nz).map dI))
        ⟨x5, x6, x7, [], rfl, upd_same, ex_rm (ex_new hL) hL, .nil⟩ (fun j σ' H' _ ⟨_, _, _, _, _, _, e1, _⟩ => sq (rm_rm_ex e1 _ _ hF)) ?_ ?_
      · rintro j v σ' H1 hj ⟨x5, x6, x7, ys, rfl, hL1, e1, hys⟩
        have hjl : j < (setsOf many i).length := by rw [← hlen]; exact (List.getElem?_eq_some_iff.mp hj).1
        have hc : (setsOf many i)[j]? = some ((setsOf many i)[j]) := List.getElem?_eq_getElem hjl
        generalize (setsOf many i)[j] = c at hc
        obtain ⟨q, hq, hqc⟩ := hget j c hc
        rw [hj] at hq
        cases hq
        obtain ⟨hcl, hcm, _⟩ := setsOf_mem hm (by omega : i ≤ 4) (List.mem_of_getElem? hc)
        have hq1 : H1 q = some (.lst (nats c)) := rm_rm_ex e1 _ _ hqc
        have hqL : q ≠ L := fun z => by rw [z, hL] at hqc; cases hqc
        -- what follows the start
        have go : ∀ (D : Ends), (∀ σ' H', (∃ x5 x6 x7 ys, σ' = [some (.int many), some (.int size), some (.ref F), some (.int (0 + (i : Int))), some (.ref L), x5, x6, x7] ∧ H' L = some (.lst ys) ∧ Ex H0 (rm H' L) ∧
                  DaL (nw H (rm H' L)) ys (((((setsOf many i).take (j + 1)).flatMap (ext many (i == 0))).map nz).map dI)) → D.nx σ' H') → ∀ (s : Nat), s = (if (i == 0) = true then 0 else c.getLastD 0 + 1) → s ≤ many → ∀ z : Int, z = (s : Int) →
            (tFor (iRng2 (tCons (tVar 6) (tCons (tVar 0) tNil))) (gName 7) (tDrop (tBM K "list" rAppend (tVar 4) (tCons (tOp rCat (tVar 5) (tLst (tCons (tVar 7) tNil))) tNil)))) D
              [some (.int many), some (.int size), some (.ref F), some (.int (0 + (i : Int))), some (.ref L), some (.ref q), some (.int z), x7] H1 := by
          intro D fin s hse hsm z hz
          subst hz
          refine ⟨_, rfl, _, rfl, (s : Int), (many : Int), rfl, ⟨by omega, by omega, by omega, by omega⟩, ?_⟩
          have en : ((many : Int) - (s : Int)).toNat = many - s := by omega
          rw [en]
          refine for_range (lo := (s : Int)) (n := many - s) (fun n σ' H' => ∃ x7 ys, σ' = [some (.int many), some (.int size), some (.ref F), some (.int (0 + (i : Int))), some (.ref L), some (.ref q), some (.int s), x7] ∧ H' L = some (.lst ys) ∧ Ex H0 (rm H' L) ∧
              DaL (nw H (rm H' L)) ys (((((setsOf many i).take j).flatMap (ext many (i == 0)) ++ (((List.range many).drop s).take n).map fun x => c ++ [x]).map nz).map dI))
            ⟨x7, ys, rfl, hL1, e1, by rw [List.take_zero, List.map_nil, List.append_nil]; exact hys⟩ ?_ ?_
          · rintro n σ' H2 hn ⟨x7, ys2, rfl, hL2, e2, hys2⟩
            have hq2 : H2 q = some (.lst (nats c)) := rm_rm_ex e2 _ _ hqc
            have hlen2 : ys2.length ≤ 60000 := by
              rw [hys2.len, List.length_map, List.length_map, List.length_append, List.length_map]
              have h1 : (((setsOf many i).take j).flatMap (ext many (i == 0))).length ≤ ((setsOf many i).take j).length * 16 := flatMap_len fun y _ => Nat.le_trans (ext_len _ _ _) hm
              have h2 : ((setsOf many i).take j).length ≤ 1820 := by rw [List.length_take]; omega
              have h3 : (((List.range many).drop s).take n).length ≤ 16 := by rw [List.length_take, List.length_drop, List.length_range]; omega
              have h4 : ((setsOf many i).take j).length * 16 ≤ 1820 * 16 := Nat.mul_le_mul_right _ h2
              omega
            refine ⟨_, rfl, .inl ⟨rfl, _, sq hL2⟩, _, rfl, _, rfl, by show 1 ≤ sizeLine; decide, fun p hp => ?_⟩
            refine ⟨q, p, _, _, rfl, rfl, ex_new hp _ _ hq2, upd_same, ?_, fun r hr => ?_⟩
            · rw [len_nats]
              exact sz (by show c.length + 1 ≤ _; omega)
            have hpL : p ≠ L := fun z => by rw [z, hL2] at hp; cases hp
            have hrp : r ≠ p := fun z => by rw [z, upd_same] at hr; cases hr
            have hr2 : H2 r = none := by rw [upd_ne hrp] at hr; exact hr
            have hrL : r ≠ L := fun z => by rw [z, hL2] at hr2; cases hr2
            have hrH : H r = none := fresh_of (e.trans (rm_rm_ex e2)) hr2
            refine ⟨L, ys2, .ref r, rfl, rfl, by rw [upd_ne (Ne.symm hrL), upd_ne (Ne.symm hpL)]; exact hL2, szl (by omega), ?_⟩
            have e3 : Ex (rm H2 L) (rm (upd (upd (upd H2 p (.lst ([] ++ [.int ((s : Int) + (n : Int))]))) r (.lst (nats c ++ ([] ++ [.int ((s : Int) + (n : Int))])))) L (.lst (ys2 ++ [.ref r]))) L) := by
              rw [rm_upd]
              exact rm_ex ((ex_new hp).trans (ex_new hr))
            refine ⟨some (.int ((s : Int) + (n : Int))), ys2 ++ [.ref r], rfl, upd_same, e2.trans e3, ?_⟩
            have hx := drop_range (many := many) (s := s) (n := n) (by omega)
            have ed : ((setsOf many i).take j).flatMap (ext many (i == 0)) ++ (((List.range many).drop s).take (n + 1)).map (fun x => c ++ [x]) = (((setsOf many i).take j).flatMap (ext many (i == 0)) ++ (((List.range many).drop s).take n).map fun x => c ++ [x]) ++ [c ++ [s + n]] := by
              rw [take_more hx, List.map_append, ← List.append_assoc]
              rfl
            rw [ed, List.map_append, List.map_append]
            refine (hys2.ex (nw_ex e3)).snoc (da_dI ?_)
            rw [nw_new hrH, rm_ne hrL, upd_ne hrL, upd_same]
            have ec : nats c ++ [V.int ((s : Int) + (n : Int))] = iL (nz (c ++ [s + n])) := by
              rw [nz, List.map_append, iL_app]
              congr 1
            show some (HO.lst (nats c ++ [V.int ((s : Int) + (n : Int))])) = _
            rw [ec]
          · rintro σ' H2 ⟨x7, ys2, rfl, hL2, e2, hys2⟩
            refine fin _ _ ⟨_, _, _, ys2, rfl, hL2, e2, ?_⟩
            rw [flatMap_more hc]
            have et : ((List.range many).drop s).take (many - s) = (List.range many).drop s := List.take_of_length_le (by rw [List.length_drop, List.length_range]; exact Nat.le_refl _)
            rw [et] at hys2
            unfold ext
            rw [← hse]
            exact hys2
        refine ⟨_, rfl, _, _, rfl, rfl, _, rfl, ite_b (fun ht => ?_) (fun ht => ?_)⟩
        · have ht' := of_decide_eq_true ht
          have hi0 : (i == 0) = false := by simpa using (show i ≠ 0 by omega)
          have hne : c ≠ [] := fun z => by rw [z] at hcl; simp at hcl; omega
          have hsplit : c = c.dropLast ++ [c.getLast hne] := (List.dropLast_concat_getLast hne).symm
          have hgl : c.getLastD 0 = c.getLast hne := by rw [List.getLastD_eq_getLast?, List.getLast?_eq_some_getLast hne, Option.getD_some]
          have hat : atI (nats c) (-1) = some (.int (c.getLastD 0)) := by
            rw [hgl]
            have : nats c = nats c.dropLast ++ [.int (c.getLast hne)] := by
              conv => lhs; rw [hsplit]
              rw [nats_app]
              rfl
            rw [this]
            exact atI_last _ _
          have hlt : c.getLastD 0 < many := by
            rw [hgl]
            exact hcm _ (List.getLast_mem hne)
          refine ⟨_, rfl, _, rfl, q, _, _, _, rfl, rfl, sq hq1, hat, _, _, rfl, rfl, ?_⟩
          exact go _ (fun _ _ h => h) (c.getLastD 0 + 1) (by rw [hi0, if_neg (by decide)]) (by omega) (((c.getLastD 0 : Nat) : Int) + 1) (by omega)
        · have ht' := of_decide_eq_false ht
          have hi0 : (i == 0) = true := by simpa using (show i = 0 by omega)
          exact go _ (fun _ _ h => h) 0 (by rw [hi0, if_pos rfl]) (Nat.zero_le _) 0 rfl
      · rintro σ' H1 ⟨x5, x6, x7, ys, rfl, hL1, e1, hys⟩
        refine ⟨_, rfl, L, _, _, _, _, _, rfl, e.trans (rm_rm_ex e1), ?_⟩
        rw [hlen, List.take_length] at hys
        refine .l (xs := ys) (by rw [nw_new hLH]; exact hL1) ?_
        exact hys.ex (nw_ex rm_sub)
    · rintro σ' H' ⟨F, x3, x4, x5, x6, x7, rfl, e, hd⟩
      exact ⟨_, rfl, k _ _ e hd⟩
def sp_all_sets (K : PySem.W.Frag) (a : Ads) : Sp := fun vs H Q _ => ∃ (many : Nat), vs = [.int many] ∧ many ≤ 4 ∧ RetD (dSets (allSets many)) H Q
theorem ok_all_sets (T : Txt K mg a) (c_sets_of : Cal P w K mg base CX0 1 "sets_of" (sp_sets_of K a)) : Cal P w K mg base CX0 2 "all_sets" (sp_all_sets K a) := by
  refine cal_of T.d_all_sets sc_all_sets (fun vs H Q E h => ?_) (fun f cdv A outer s H vs Q E hr h => ⟨_, (pss_cons (ps_set (i := 1) sc_all_sets.nd rfl (Or.inl rfl) (pe_lst pa_nil)) (pss_cons (ps_for PassesOwn.never rfl (pi_range2 rfl T.b_range (pa_cons pe_int (pa_cons (pe_op op_add (pv 0) pe_int) pa_nil))) (pg_name (i := 2) sc_all_sets.nd rfl (Or.inl rfl)) (pss_one (ps_expr (pe_bm PySem.F.plainAttrs_list PySem.F.slot_list_extend PySem.F.type_list_extend mt_extend (pv 1) (pa_cons (pe_c c_sets_of hr pass0 (pa_cons (pv 0) (pa_cons (pv 2) pa_nil))) pa_nil))))) (pss_one (ps_ret (pv 1))))), ?_⟩)
  · obtain ⟨_, rfl, _⟩ := h
    rfl
  · obtain ⟨many, rfl, hm, k⟩ := h
    refine ⟨by show 0 ≤ sizeLine; decide, fun F hF => ?_⟩
    refine ⟨_, rfl, _, _, rfl, rfl, 1, (many : Int) + 1, rfl, ⟨by omega, by omega, by omega, by omega⟩, ?_⟩
    have en : ((many : Int) + 1 - 1).toNat = many := by omega
    rw [en]
    refine for_range (lo := 1) (n := many) (fun i σ' H' => ∃ x ys, σ' = [some (.int many), some (.ref F), x] ∧ H' F = some (.lst ys) ∧ Ex H (rm H' F) ∧ DaL (nw H (rm H' F)) ys (((((List.range many).take i).flatMap fun k => setsOf many (k + 1)).map nz).map dI))
      ⟨none, [], rfl, upd_same, ex_rm (ex_new hF) hF, .nil⟩ ?_ ?_
    · rintro i σ' H1 hi ⟨x, ys, rfl, h1, e1, hys⟩
      have hr : (List.range many)[i]? = some i := List.getElem?_range hi
      have hlen : ys.length ≤ 40000 := by
        rw [hys.len, List.length_map, List.length_map]
        have h1 : (((List.range many).take i).flatMap fun k => setsOf many (k + 1)).length ≤ ((List.range many).take i).length * 1820 := flatMap_len fun y hy => setsOf_len (by omega) (by
          have := List.mem_range.mp (List.mem_of_mem_take hy)
          omega)
        have h2 : ((List.range many).take i).length ≤ 4 := by rw [List.length_take, List.length_range]; omega
        have h3 : ((List.range many).take i).length * 1820 ≤ 4 * 1820 := Nat.mul_le_mul_right _ h2
        omega
      have ei : (1 : Int) + (i : Int) = ((i + 1 : Nat) : Int) := by omega
      rw [ei]
      refine ⟨_, rfl, .inl ⟨rfl, _, sq h1⟩, _, rfl, _, rfl, many, i + 1, rfl, by omega, by omega, fun v H2 e2 hd => ?_⟩
      obtain ⟨p, zs, rfl, hp, hzs⟩ := dl_da (ds := ((setsOf many (i + 1)).map nz).map dI) hd
      have hpF : p ≠ F := fun z => by
        have := hp
        unfold nw at this
        rw [z, h1] at this
        cases this
      have hp2 : H2 p = some (.lst zs) := nw_sub _ _ hp
      have hzl : zs.length ≤ 1820 := by rw [hzs.len, List.length_map, List.length_map]; exact setsOf_len (by omega) (by omega)
      refine ⟨F, p, ys, zs, rfl, rfl, e2 _ _ h1, hp2, sz (by omega), ?_⟩
      have e3 : Ex (rm H1 F) (rm (upd H2 F (.lst (ys ++ zs))) F) := by
        rw [rm_upd]
        exact rm_ex e2
      have eH1 : Ex H H1 := rm_rm_ex e1
      refine ⟨some (.int ((i + 1 : Nat) : Int)), ys ++ zs, rfl, upd_same, e1.trans e3, ?_⟩
      rw [flatMap_more hr, List.map_append, List.map_append]
      refine (hys.ex (nw_ex e3)).app (hzs.ex ?_)
      rw [rm_upd]
      intro b ob hb
      have hH : H b = none := by
        cases q : H b with
        | none => rfl
        | some u =>
          unfold nw at hb
          rw [eH1 _ _ q] at hb
          cases hb
      rw [nw_new hH]
      exact nw_rm h1 b ob hb
    · rintro σ' H1 ⟨x, ys, rfl, h1, e1, hys⟩
      have et : (List.range many).take many = List.range many := List.take_of_length_le (by rw [List.length_range]; exact Nat.le_refl _)
      rw [et] at hys
      exact ⟨_, rfl, k _ _ (rm_rm_ex e1) (.l (xs := ys) (by rw [nw_new hF]; exact h1) (hys.ex (nw_ex rm_sub)))⟩
def sp_within (K : PySem.W.Frag) (a : Ads) : Sp := fun vs H Q _ => ∃ (p q : Addr) (u v : List Nat), vs = [.ref p, .ref q] ∧ SqL K H p (nats u) ∧ SqL K H q (nats v) ∧ RetV (.bl (Vaskyb.within u v)) H Q
theorem ok_within (T : Txt K mg a) : Cal P w K mg base CX0 1 "within" (sp_within K a) := by
  refine cal_of T.d_within sc_within (fun vs H Q E h => ?_) (fun f cdv A outer s H vs Q E hr h => ⟨_, (pss_cons (ps_for PassesOwn.never rfl (pi_list (pv 0)) (pg_name (i := 2) sc_within.nd rfl (Or.inl rfl)) (pss_one (ps_if (pt_cmpR op_notIn_seq (pv 2) (pv 1) (by rfl)) (pss_one (ps_ret pe_bl)) pss_nil))) (pss_one (ps_ret pe_bl))), ?_⟩)
  · obtain ⟨_, _, _, _, rfl, _⟩ := h
    rfl
  · obtain ⟨p, q, u, v, rfl, hp, hq, k⟩ := h
    refine ⟨_, rfl, p, rfl, ⟨_, hp⟩, for_list (K := K) (a := p) (xs := nats u) (fun i σ' H' => ∃ x, σ' = [some (.ref p), some (.ref q), x] ∧ H' = H ∧ Vaskyb.within (u.take i) v = true) ⟨none, rfl, rfl, rfl⟩ (fun i σ' H' _ ⟨_, _, e, _⟩ => by rw [e]; exact hp) ?_ ?_⟩
    · rintro i z σ' H' hi ⟨x, rfl, rfl, hw⟩
      obtain ⟨m, hm, rfl⟩ := nats_get hi
      refine ⟨_, rfl, _, rfl, q, _, rfl, .inl hq, rfl, flat_iL _, _, rfl, ?_⟩
      rw [inV_nats, if_pos rfl]
      cases hc : v.contains m with
      | true =>
        refine iteF ⟨_, rfl, rfl, ?_⟩
        rw [take_more hm]
        unfold Vaskyb.within at hw ⊢
        rw [List.all_append, hw]
        simp [List.contains_iff_mem.mp hc]
      | false =>
        refine iteT ?_
        have hf : Vaskyb.within u v = false := by
          unfold Vaskyb.within
          rw [List.all_eq_false]
          exact ⟨m, List.mem_of_getElem? hm, by rw [hc]; decide⟩
        rw [hf] at k
        exact k.go (Ex.refl _)
    · rintro σ' H' ⟨x, rfl, rfl, hw⟩
      rw [len_nats, List.take_length] at hw
      rw [hw] at k
      exact k.go (Ex.refl _)
end
end Fw
set_option Elab.async false
set_option maxRecDepth 100000
set_option maxHeartbeats 4000000
namespace Fw
open PySem PySem.Spec PyProof.Rows L2 Fm
open Evl (Ex Ev EvL EvU EvT EvA RV RetL RetV)
open Vaskya (Sheet)
theorem range_get {n t m : Nat} (h : (List.range n)[t]? = some m) : m = t ∧ t < n := by
  have hl := (List.getElem?_eq_some_iff.mp h).1
  rw [List.length_range] at hl
  rw [List.getElem?_range hl] at h
  exact ⟨(Option.some.inj h).symm, hl⟩
section
variable {P : Program} {w : World} {K : PySem.W.Frag} {mg : Str → Option Value} {base : Heap} {a : Ads}
def sp_prey_of (K : PySem.W.Frag) (a : Ads) : Sp := fun vs H Q _ => ∃ (p : Addr) (s : Sheet), vs = [.ref p] ∧ HeldAt a H p s ∧ RetD (dSets (preyM (Vaskya.rows s) s.ms.length)) H Q
theorem ok_prey_of (T : Txt K mg a) (c_Held_every_measure : Met P w K mg base CX0 1 a.held "every_measure" (sp_Held_every_measure K a)) (c_Held_every_item : Met P w K mg base CX0 1 a.held "every_item" (sp_Held_every_item K a)) (c_Held_beats : Met P w K mg base CX0 2 a.held "beats" (sp_Held_beats K a)) : Cal P w K mg base CX0 3 "prey_of" (sp_prey_of K a) := by
  refine cal_of T.d_prey_of sc_prey_of (fun vs H Q E h => ?_) (fun f cdv A outer s H vs Q E hr h => ⟨_, (pss_cons (ps_set (i := 1) sc_prey_of.nd rfl (Or.inr rfl) (pe_mt0 T.cl_held c_Held_every_measure hr pass0 (pv 0))) (pss_cons (ps_set (i := 2) sc_prey_of.nd rfl (Or.inr rfl) (pe_mt0 T.cl_held c_Held_every_item hr pass0 (pv 0))) (pss_one (ps_ret (pe_lc (own := [("item", 3)]) (g := gName 3) (tt := tYes) (te := (tLc (iList K (tVar 2)) (gName 4) (tB (tMeth a.held "beats" (sp_Held_beats K a) [] E0 (tVar 0) (tCons (tVar 3) (tCons (tVar 4) (tCons (tVar 1) tNil))))) (tVar 4) [4])) rfl sc_prey_of.nd (pi_list (pv 2)) (blkOk_by (N := N_prey_of) (sc := (defScope s_prey_of)) (by decide +kernel)) (fun _ _ _ _ _ => (pg_name (i := 3) sc_prey_of.nd rfl (Or.inr rfl))) (fun _ _ _ _ _ => pts_nil) (fun _ _ _ _ _ => (by exact (pe_lc (own := [("other", 4)]) (g := gName 4) (tt := (tB (tMeth a.held "beats" (sp_Held_beats K a) [] E0 (tVar 0) (tCons (tVar 3) (tCons (tVar 4) (tCons (tVar 1) tNil)))))) (te := (tVar 4)) rfl sc_prey_of.nd (pi_list (pv 2)) (blkOk_by (N := N_prey_of) (sc := (relS (lcScope (retE s_prey_of 2)) (defScope s_prey_of))) (by decide +kernel)) (fun _ _ _ _ _ => (pg_name (i := 4) sc_prey_of.nd rfl (Or.inl rfl))) (fun _ _ _ _ _ => (pts_one (pt_val (pe_mt T.cl_held c_Held_beats hr pass0 (pv 0) (pa_cons (pv 3) (pa_cons (pv 4) (pa_cons (pv 1) pa_nil))))))) (fun _ _ _ _ _ => (pv 4)))))))))), ?_⟩)
  · obtain ⟨_, _, rfl, _⟩ := h
    rfl
  · obtain ⟨p, sh, rfl, hh, k⟩ := h
    obtain ⟨⟨dx, r1, r2, r3, r4, h0, _⟩, wf⟩ := id hh
    have hn16 := wf.items
    refine ⟨_, rfl, p, dx, _, rfl, h0, hf_no (by decide +kernel) (by decide +kernel) (by decide +kernel) (by decide +kernel), p, sh, rfl, hh, fun M H1 hM e1 h1 => ?_⟩
    refine ⟨_, rfl, p, dx, _, rfl, e1 _ _ h0, hf_no (by decide +kernel) (by decide +kernel) (by decide +kernel) (by decide +kernel), p, sh, rfl, hh.mono e1, fun V0 H2 hV e2 h2 => ?_⟩
    have e12 := e1.trans e2
    refine ⟨_, rfl, V0, rfl, ⟨_, sq h2⟩, fun Dl hD => ?_⟩
    have hDH : H Dl = none := fresh_of e12 hD
    have hn : ∀ i, i ≤ sh.items.length → (List.range sh.items.length).take i = List.range i := fun i hi => by
      rw [List.take_range, Nat.min_eq_left hi]
    refine lc_list (K := K) (a := V0) (xs := nats (List.range sh.items.length)) (fun i H' => ∃ ys, H' Dl = some (.lst ys) ∧ Ex H2 (rm H' Dl) ∧ DaL (nw H (rm H' Dl)) ys ((((preyM (Vaskya.rows sh) sh.ms.length).take i).map nz).map dI))
      ⟨[], upd_same, ex_rm (ex_new hD) hD, .nil⟩ (fun i H' _ ⟨_, _, e, _⟩ => sq (rm_rm_ex e _ _ h2)) ?_ ?_
    · rintro i v H3 hi ⟨ys, h3, e3, hys⟩
      obtain ⟨m, hm, rfl⟩ := nats_get hi
      obtain ⟨rfl, hmn⟩ := range_get hm
      have eH3 : Ex H2 H3 := rm_rm_ex e3
      have hh3 : HeldAt a H3 p sh := (hh.mono e12).mono eH3
      refine ⟨rfl, ?_⟩
      refine ⟨_, rfl, V0, rfl, ⟨_, sq (eH3 _ _ h2)⟩, fun Di hDi => ?_⟩
      refine lc_list (K := K) (a := V0) (xs := nats (List.range sh.items.length)) (Kept H3 (fun j => btL (G (Vaskya.rows sh) m) (G (Vaskya.rows sh) j) (List.range sh.ms.length)) (List.range sh.items.length) Di) (Kept.start hDi) (fun t H' _ k' => sq (k'.2.1 _ _ (eH3 _ _ h2))) ?_ ?_
      · intro t z H4 ht k'
        obtain ⟨j, hj, rfl⟩ := nats_get ht
        obtain ⟨rfl, hjn⟩ := range_get hj
        have e4 := k'.2.1
        obtain ⟨⟨dx4, s1, s2, s3, s4, g0, _⟩, _⟩ := id (hh3.mono e4)
        refine ⟨rfl, k'.turn hj (by rw [List.length_range]; omega) (fun Q' q' => ?_) (fun H5 Q' q' => ⟨_, rfl, q'⟩)⟩
        refine ⟨_, rfl, p, dx4, _, rfl, g0, hf_no (by decide +kernel) (by decide +kernel) (by decide +kernel) (by decide +kernel), _, rfl, _, rfl, _, rfl, p, M, sh, m, j, List.range sh.ms.length, rfl, hh3.mono e4, hmn, hjn, ?_, fun x hx => List.mem_range.mp hx, fun H5 e5 => ?_⟩
        · exact sq (e4 _ _ (eH3 _ _ (e2 _ _ h1)))
        · exact ⟨_, rfl, q' H5 e5⟩
      · intro H4 k'
        obtain ⟨k1, k2, k3⟩ := k'
        rw [len_nats, List.take_length] at k3
        have hlen : ys.length ≤ 16 := by
          rw [hys.len, List.length_map, List.length_map, List.length_take, preyM_len, rows_len]
          omega
        refine ⟨ys, k2 _ _ h3, szl (by omega), ?_⟩
        have hDi3 : H3 Di = none := k1
        have hne : Di ≠ Dl := fun z => by rw [z, h3] at hDi3; cases hDi3
        have hDiH : H Di = none := fresh_of (e12.trans eH3) hDi3
        have e5 : Ex (rm H3 Dl) (rm (upd H4 Dl (.lst (ys ++ [.ref Di]))) Dl) := by
          rw [rm_upd]
          exact rm_ex k2
        refine ⟨ys ++ [.ref Di], upd_same, e3.trans e5, ?_⟩
        rw [take_more (preyM_get (by rw [rows_len]; exact hmn)), List.map_append, List.map_append]
        refine (hys.ex (nw_ex e5)).snoc (da_dI ?_)
        rw [nw_new hDiH, rm_ne hne, upd_ne hne, k3, rows_len]
    · rintro H3 ⟨ys, h3, e3, hys⟩
      rw [len_nats, List.length_range] at hys
      have et : (preyM (Vaskya.rows sh) sh.ms.length).take sh.items.length = preyM (Vaskya.rows sh) sh.ms.length := List.take_of_length_le (by rw [preyM_len, rows_len]; exact Nat.le_refl _)
      rw [et] at hys
      exact k _ _ (e12.trans (rm_rm_ex e3)) (.l (xs := ys) (by rw [nw_new hDH]; exact h3) (hys.ex (nw_ex rm_sub)))
def sp_beaten_together (K : PySem.W.Frag) (a : Ads) : Sp := fun vs H Q _ => ∃ (p q : Addr) (prey : List (List Nat)) (taken : List Nat), vs = [.ref p, .ref q] ∧ Da H (.ref p) (dSets prey) ∧ prey.length ≤ 16 ∧ (∀ l ∈ prey, ∀ j ∈ l, j < prey.length) ∧ SqL K H q (nats taken) ∧ (∀ i ∈ taken, i < prey.length) ∧
  RetV (.int (covP prey taken)) H Q
theorem ok_beaten_together (T : Txt K mg a) : Cal P w K mg base CX0 1 "beaten_together" (sp_beaten_together K a) := by
  refine cal_of T.d_beaten_together sc_beaten_together (fun vs H Q E h => ?_) (fun f cdv A outer s H vs Q E hr h => ⟨_, (pss_cons (ps_set (i := 2) sc_beaten_together.nd rfl (Or.inl rfl) (pe_op op_rep (pe_lst (pa_cons pe_int pa_nil)) (pe_callB call_len_seq rfl T.b_len PySem.boot_len (pa_cons (pv 0) pa_nil)))) (pss_cons (ps_for PassesOwn.never rfl (pi_list (pv 1)) (pg_name (i := 3) sc_beaten_together.nd rfl (Or.inl rfl)) (pss_one (ps_for PassesOwn.never rfl (pi_list (pe_ix ix_list (pv 0) (pv 3) (fun _ _ => rfl))) (pg_name (i := 4) sc_beaten_together.nd rfl (Or.inl rfl)) (pss_one (ps_asg pe_int (pg_sub (pv 2) (pv 4) set_list)))))) (pss_one (ps_ret (pe_callB (cr_sum rfl) rfl T.b_sum (by decide +kernel) (pa_cons (pv 2) pa_nil)))))), ?_⟩)
  · obtain ⟨_, _, _, _, rfl, _⟩ := h
    rfl
  · obtain ⟨p, q, prey, taken, rfl, hp, hl, hin, hq, htk, k⟩ := h
    obtain ⟨p', xs, e', hpx, hxl, hget⟩ := dSets_da hp
    cases e'
    refine ⟨by show 1 ≤ sizeLine; decide, fun z hz => ?_⟩
    have ez := ex_new (o := .lst [V.int 0]) hz
    refine ⟨_, rfl, p, _, rfl, .inl (sq (ez _ _ hpx)), ?_⟩
    refine ⟨z, (xs.length : Int), _, rfl, rfl, upd_same, by omega, by omega, ?_, fun M hM => ?_⟩
    · rw [Int.toNat_natCast, hxl]
      exact sz (by show 1 * prey.length ≤ _; omega)
    have hMH : H M = none := fresh_of ez hM
    have e1 : Ex H (upd (upd H z (.lst [V.int 0])) M (.lst (List.replicate (xs.length : Int).toNat [V.int 0]).flatten)) := ez.trans (ex_new hM)
    have em : (List.replicate (xs.length : Int).toNat [V.int 0]).flatten = iL (marks prey.length fun _ => false) := by
      rw [Int.toNat_natCast, hxl, marks_zero]
      generalize prey.length = n
      induction n with
      | zero => rfl
      | succ n ih => rw [List.replicate_succ, List.flatten_cons, ih]; rfl
    rw [em] at e1 ⊢
    have hM1 : (upd (upd H z (.lst [V.int 0])) M (.lst (iL (marks prey.length fun _ => false)))) M = some (.lst (iL (marks prey.length fun _ => false))) := upd_same
    generalize (upd (upd H z (.lst [V.int 0])) M (.lst (iL (marks prey.length fun _ => false)))) = H1 at e1 hM1
    refine ⟨_, rfl, q, rfl, ⟨_, ex_sq e1 hq⟩, for_list (K := K) (a := q) (xs := nats taken) (fun i σ' H' => ∃ x y, σ' = [some (.ref p), some (.ref q), some (.ref M), x, y] ∧ Ex H H' ∧ H' M = some (.lst (iL (marks prey.length (hit prey (taken.take i))))))
      ⟨none, none, rfl, e1, by rw [hM1, List.take_zero]; rfl⟩ (fun i σ' H' _ ⟨_, _, _, e, _⟩ => ex_sq e hq) ?_ ?_⟩
    · rintro i v σ' H' hi ⟨x, y, rfl, e, hm⟩
      obtain ⟨m, hmi, rfl⟩ := nats_get hi
      have hml := htk m (List.mem_of_getElem? hmi)
      have hc : prey[m]? = some prey[m] := List.getElem?_eq_getElem hml
      have hcin : ∀ j ∈ prey[m], j < prey.length := hin _ (List.getElem_mem hml)
      have hgd : prey.getD m [] = prey[m] := by rw [List.getD_eq_getElem?_getD, hc, Option.getD_some]
      obtain ⟨r, hr1, hr2⟩ := hget m _ hc
      have hMr : M ≠ r := fun z => by rw [z, hr2] at hMH; cases hMH
      refine ⟨_, rfl, _, rfl, p, _, _, _, rfl, rfl, sq (e _ _ hpx), at_nat hr1, r, rfl, ⟨_, sq (e _ _ hr2)⟩, ?_⟩
      refine for_list (K := K) (a := r) (xs := nats prey[m]) (fun n σ' H' => ∃ y, σ' = [some (.ref p), some (.ref q), some (.ref M), some (.int m), y] ∧ Ex H H' ∧ H' M = some (.lst (iL (marks prey.length fun j => hit prey (taken.take i) j || (prey[m].take n).contains j))))
        ⟨y, rfl, e, ?_⟩ (fun n σ' H' _ ⟨_, _, e, _⟩ => sq (e _ _ hr2)) ?_ ?_
      · rw [hm]
        refine congrArg (fun l => some (HO.lst (iL l))) (marks_congr fun j => ?_)
        simp
      · rintro n v σ' H2 hn ⟨y, rfl, e2, hm2⟩
        obtain ⟨j, hj, rfl⟩ := nats_get hn
        have hjl := hcin j (List.mem_of_getElem? hj)
        refine ⟨_, rfl, _, rfl, M, _, _, j, rfl, rfl, hm2, ?_, ?_⟩
        · rw [List.length_map, marks_len]
          exact Evl.ixN_nat hjl
        · refine ⟨_, rfl, Evl.Ex.mut e2 hMH, ?_⟩
          rw [upd_same]
          have es : (iL (marks prey.length fun j => hit prey (taken.take i) j || (prey[m].take n).contains j)).set j (.int 1) = iL ((marks prey.length fun j => hit prey (taken.take i) j || (prey[m].take n).contains j).set j 1) := by
            exact (List.map_set ..).symm
          rw [es, marks_set]
          refine congrArg (fun l => some (HO.lst (iL l))) (marks_congr fun x => ?_)
          rw [take_more hj, Bool.or_assoc]
          congr 1
          rw [Bool.eq_iff_iff, Bool.or_eq_true, List.contains_iff_mem, List.contains_iff_mem, List.mem_append, List.mem_singleton, beq_iff_eq]
      · rintro σ' H2 ⟨y, rfl, e2, hm2⟩
        refine ⟨_, _, rfl, e2, ?_⟩
        rw [hm2, len_nats, List.take_length]
        refine congrArg (fun l => some (HO.lst (iL l))) (marks_congr fun x => ?_)
        unfold hit
        rw [take_more hmi, any_snoc, hgd]
    · rintro σ' H' ⟨x, y, rfl, e, hm⟩
      refine ⟨_, rfl, M, _, rfl, sq hm, ?_⟩
      rw [sum_marks, len_nats, List.take_length]
      exact k.go e
def sp_best_together (K : PySem.W.Frag) (a : Ads) : Sp := fun vs H Q _ => ∃ (p : Addr) (prey : List (List Nat)) (many : Nat), vs = [.ref p, .int many] ∧ Da H (.ref p) (dSets prey) ∧ prey.length ≤ 16 ∧ (∀ l ∈ prey, ∀ j ∈ l, j < prey.length) ∧ many ≤ 4 ∧
  ∀ (q : Addr) (b : V) (H2 : Hp), Ex H H2 → H2 q = some (.tup [.int (bestM (covP prey) (setsOf prey.length many)).1, b]) → Da H2 b (dN (bestM (covP prey) (setsOf prey.length many)).2) → Q (.ref q) H2
theorem ok_best_together (T : Txt K mg a) (c_sets_of : Cal P w K mg base CX0 1 "sets_of" (sp_sets_of K a)) (c_beaten_together : Cal P w K mg base CX0 1 "beaten_together" (sp_beaten_together K a)) : Cal P w K mg base CX0 2 "best_together" (sp_best_together K a) := by
  refine cal_of T.d_best_together sc_best_together (fun vs H Q E h => ?_) (fun f cdv A outer s H vs Q E hr h => ⟨_, (pss_cons (ps_set (i := 2) sc_best_together.nd rfl (Or.inl rfl) (pe_un un_neg pe_int)) (pss_cons (ps_set (i := 3) sc_best_together.nd rfl (Or.inl rfl) (pe_lst pa_nil)) (pss_cons (ps_for PassesOwn.never rfl (pi_list (pe_c c_sets_of hr pass0 (pa_cons (pe_callB call_len_seq rfl T.b_len PySem.boot_len (pa_cons (pv 0) pa_nil)) (pa_cons (pv 1) pa_nil)))) (pg_name (i := 4) sc_best_together.nd rfl (Or.inl rfl)) (pss_cons (ps_set (i := 5) sc_best_together.nd rfl (Or.inl rfl) (pe_c c_beaten_together hr pass0 (pa_cons (pv 0) (pa_cons (pv 4) pa_nil)))) (pss_one (ps_if (pt_cmpR op_gt (pv 5) (pv 2) (nomark _)) (pss_cons (ps_set (i := 2) sc_best_together.nd rfl (Or.inl rfl) (pv 5)) (pss_one (ps_set (i := 3) sc_best_together.nd rfl (Or.inl rfl) (pv 4)))) pss_nil)))) (pss_one (ps_ret (pe_tup (pa_cons (pv 2) (pa_cons (pv 3) pa_nil)))))))), ?_⟩)
  · obtain ⟨_, _, _, rfl, _⟩ := h
    rfl
  · obtain ⟨p, prey, many, rfl, hp, hl, hin, hm, k⟩ := h
    obtain ⟨p', xs, e', hpx, hxl, hget⟩ := dSets_da hp
    cases e'
    refine ⟨_, rfl, by show 0 ≤ sizeLine; decide, fun B hB => ?_⟩
    have eB := ex_new (o := .lst []) hB
    refine ⟨_, rfl, p, _, rfl, .inl (sq (eB _ _ hpx)), _, rfl, prey.length, many, ?_, hl, hm, fun v H2 e2 hd => ?_⟩
    · rw [hxl]
      rfl
    obtain ⟨S, ss, rfl, hS, hsl, hsg⟩ := dSets_da (nw_da hd)
    have e12 := eB.trans e2
    refine ⟨S, rfl, ⟨_, sq hS⟩, for_list (K := K) (a := S) (xs := ss) (fun i σ' H' => ∃ b x y, σ' = [some (.ref p), some (.int many), some (.int (((setsOf prey.length many).take i).foldl (bestTurn (covP prey)) (-1, [])).1), some b, x, y] ∧ Ex H2 H' ∧ Da H' b (dN (((setsOf prey.length many).take i).foldl (bestTurn (covP prey)) (-1, [])).2))
      ⟨.ref B, none, none, rfl, Ex.refl _, da_dI (e2 _ _ upd_same)⟩ (fun i σ' H' _ ⟨_, _, _, _, e, _⟩ => sq (e _ _ hS)) ?_ ?_⟩
    · rintro i v σ' H' hi ⟨b, x, y, rfl, e, hb⟩
      have hil : i < (setsOf prey.length many).length := by rw [← hsl]; exact (List.getElem?_eq_some_iff.mp hi).1
      have hc : (setsOf prey.length many)[i]? = some ((setsOf prey.length many)[i]) := List.getElem?_eq_getElem hil
      generalize (setsOf prey.length many)[i] = c at hc
      obtain ⟨r, hr1, hr2⟩ := hsg i c hc
      rw [hi] at hr1
      cases hr1
      have step : ((setsOf prey.length many).take (i + 1)).foldl (bestTurn (covP prey)) (-1, []) = bestTurn (covP prey) (((setsOf prey.length many).take i).foldl (bestTurn (covP prey)) (-1, [])) c := by
        rw [take_more hc, List.foldl_append]
        rfl
      generalize ((setsOf prey.length many).take i).foldl (bestTurn (covP prey)) (-1, []) = X at step hb ⊢
      refine ⟨_, rfl, _, rfl, p, r, prey, c, rfl, hp.ex (e12.trans e), hl, hin, sq (e _ _ hr2), (setsOf_mem hl hm (List.mem_of_getElem? hc)).2.1, fun H3 e3 => ?_⟩
      refine ⟨_, rfl, _, rfl, _, _, rfl, rfl, _, rfl, ite_b (fun hg => ?_) (fun hg => ?_)⟩
      · have hg' := of_decide_eq_true hg
        refine ⟨_, rfl, _, rfl, .ref r, some (.ref r), some (.int (covP prey c)), ?_, e.trans e3, ?_⟩
        · rw [step]
          unfold bestTurn
          rw [if_pos hg']
          rfl
        · rw [step]
          unfold bestTurn
          rw [if_pos hg']
          exact da_dI (e3 _ _ (e _ _ hr2))
      · have hg' := of_decide_eq_false hg
        refine ⟨b, some (.ref r), some (.int (covP prey c)), ?_, e.trans e3, ?_⟩
        · rw [step]
          unfold bestTurn
          rw [if_neg hg']
          rfl
        · rw [step]
          unfold bestTurn
          rw [if_neg hg']
          exact hb.ex e3
    · rintro σ' H' ⟨b, x, y, rfl, e, hb⟩
      rw [hsl, List.take_length] at hb ⊢
      refine ⟨_, rfl, _, rfl, by show 2 ≤ sizeLine; decide, fun u hu => ?_⟩
      exact k u b _ ((e12.trans e).trans (ex_new hu)) upd_same (hb.ex (ex_new hu))
def sp_next_step (K : PySem.W.Frag) (a : Ads) : Sp := fun vs H Q _ => ∃ (p q : Addr) (prey : List (List Nat)) (taken : List Nat), vs = [.ref p, .ref q] ∧ Da H (.ref p) (dSets prey) ∧ prey.length ≤ 16 ∧ (∀ l ∈ prey, ∀ j ∈ l, j < prey.length) ∧ H q = some (.lst (nats taken)) ∧ taken.length ≤ 16 ∧ (∀ i ∈ taken, i < prey.length) ∧
  RetV (.int (nextM (covP prey) prey.length taken)) H Q
theorem ok_next_step (T : Txt K mg a) (c_beaten_together : Cal P w K mg base CX0 1 "beaten_together" (sp_beaten_together K a)) : Cal P w K mg base CX0 2 "next_step" (sp_next_step K a) := by
  refine cal_of T.d_next_step sc_next_step (fun vs H Q E h => ?_) (fun f cdv A outer s H vs Q E hr h => ⟨_, (pss_cons (ps_set (i := 2) sc_next_step.nd rfl (Or.inl rfl) (pe_un un_neg pe_int)) (pss_cons (ps_set (i := 3) sc_next_step.nd rfl (Or.inl rfl) (pe_un un_neg pe_int)) (pss_cons (ps_for PassesOwn.never rfl (pi_range1 rfl T.b_range (pa_cons (pe_callB call_len_seq rfl T.b_len PySem.boot_len (pa_cons (pv 0) pa_nil)) pa_nil)) (pg_name (i := 4) sc_next_step.nd rfl (Or.inl rfl)) (pss_one (ps_if (pt_cmpR op_notIn_seq (pv 4) (pv 1) (by rfl)) (pss_cons (ps_set (i := 5) sc_next_step.nd rfl (Or.inl rfl) (pe_c c_beaten_together hr pass0 (pa_cons (pv 0) (pa_cons (pe_op op_cat (pv 1) (pe_lst (pa_cons (pv 4) pa_nil))) pa_nil)))) (pss_one (ps_if (pt_cmpR op_gt (pv 5) (pv 2) (nomark _)) (pss_cons (ps_set (i := 2) sc_next_step.nd rfl (Or.inl rfl) (pv 5)) (pss_one (ps_set (i := 3) sc_next_step.nd rfl (Or.inl rfl) (pv 4)))) pss_nil))) pss_nil))) (pss_one (ps_ret (pv 3)))))), ?_⟩)
  · obtain ⟨_, _, _, _, rfl, _⟩ := h
    rfl
  · obtain ⟨p, q, prey, taken, rfl, hp, hl, hin, hq, hq16, htk, k⟩ := h
    obtain ⟨p', xs, e', hpx, hxl, hget⟩ := dSets_da hp
    cases e'
    refine ⟨_, rfl, _, rfl, _, rfl, p, _, rfl, .inl (sq hpx), (xs.length : Int), rfl, by omega, by omega, ?_⟩
    rw [Int.toNat_natCast, hxl]
    refine for_range (lo := 0) (n := prey.length) (fun i σ' H' => ∃ x y, σ' = [some (.ref p), some (.ref q), some (.int (((List.range prey.length).take i).foldl (nextTurn (covP prey) taken) (-1, -1)).1), some (.int (((List.range prey.length).take i).foldl (nextTurn (covP prey) taken) (-1, -1)).2), x, y] ∧ Ex H H') ⟨none, none, rfl, Ex.refl H⟩ ?_ ?_
    · rintro i σ' H' hi ⟨x, y, rfl, e⟩
      have hr : (List.range prey.length)[i]? = some i := List.getElem?_range hi
      have step : ((List.range prey.length).take (i + 1)).foldl (nextTurn (covP prey) taken) (-1, -1) = nextTurn (covP prey) taken (((List.range prey.length).take i).foldl (nextTurn (covP prey) taken) (-1, -1)) i := by
        rw [take_more hr, List.foldl_append]
        rfl
      generalize ((List.range prey.length).take i).foldl (nextTurn (covP prey) taken) (-1, -1) = X at step ⊢
      rw [Int.zero_add]
      refine ⟨_, rfl, _, rfl, q, _, rfl, .inl (sq (e _ _ hq)), rfl, flat_iL _, _, rfl, ?_⟩
      rw [inV_nats, if_pos rfl]
      cases hc : taken.contains i with
      | true =>
        refine iteF ⟨some (.int i), y, ?_, e⟩
        rw [step]
        unfold nextTurn
        rw [if_pos hc]
        rfl
      | false =>
        refine iteT ?_
        refine ⟨_, rfl, _, rfl, _, rfl, by show 1 ≤ sizeLine; decide, fun z hz => ?_⟩
        have ez := ex_new (o := .lst [V.int (i : Int)]) hz
        refine ⟨q, z, _, _, rfl, rfl, ez _ _ (e _ _ hq), upd_same, ?_, fun r hr' => ?_⟩
        · rw [len_nats]
          exact sz (by show taken.length + 1 ≤ _; omega)
        have er := ex_new (o := .lst (nats taken ++ [V.int (i : Int)])) hr'
        have e3 := (e.trans ez).trans er
        have hn : nats taken ++ [V.int (i : Int)] = nats (taken ++ [i]) := by rw [nats_app]; rfl
        refine ⟨p, r, prey, taken ++ [i], rfl, hp.ex e3, hl, hin, sq (by rw [upd_same, hn]), fun j hj => ?_, fun H4 e4 => ?_⟩
        · rcases List.mem_append.mp hj with h | h
          · exact htk j h
          · rw [List.mem_singleton.mp h]
            exact hi
        refine ⟨_, rfl, _, rfl, _, _, rfl, rfl, _, rfl, ite_b (fun hg => ?_) (fun hg => ?_)⟩
        · have hg' := of_decide_eq_true hg
          refine ⟨_, rfl, _, rfl, some (.int i), some (.int (covP prey (taken ++ [i]))), ?_, e3.trans e4⟩
          rw [step]
          unfold nextTurn
          rw [if_neg (by rw [hc]; decide), if_pos hg']
          rfl
        · have hg' := of_decide_eq_false hg
          refine ⟨some (.int i), some (.int (covP prey (taken ++ [i]))), ?_, e3.trans e4⟩
          rw [step]
          unfold nextTurn
          rw [if_neg (by rw [hc]; decide), if_neg hg']
          rfl
    · rintro σ' H' ⟨x, y, rfl, e⟩
      have et : (List.range prey.length).take prey.length = List.range prey.length := List.take_of_length_le (by rw [List.length_range]; exact Nat.le_refl _)
      rw [et]
      exact ⟨_, rfl, k.go e⟩
theorem preyM_in {l : List (List Int)} {n : Nat} : ∀ c ∈ preyM l n, ∀ j ∈ c, j < (preyM l n).length := by
  intro c hc j hj
  rw [preyM_len]
  unfold preyM at hc
  rw [List.mem_map] at hc
  obtain ⟨i, _, rfl⟩ := hc
  exact List.mem_range.mp (List.mem_filter.mp hj).1
theorem next_congr {l : List (List Int)} {n : Nat} {taken : List Nat} (ht : ∀ i ∈ taken, i < l.length) : nextM (covP (preyM l n)) l.length taken = nextM (covM l n) l.length taken := by
  unfold nextM
  congr 1
  refine foldl_congr' fun b i hi => ?_
  have hi' := List.mem_range.mp hi
  have : covP (preyM l n) (taken ++ [i]) = covM l n (taken ++ [i]) := covP_is fun j hj => by
    rcases List.mem_append.mp hj with h | h
    · exact ht j h
    · rw [List.mem_singleton.mp h]
      exact hi'
  unfold nextTurn
  rw [this]
def sp_step_by_step (K : PySem.W.Frag) (a : Ads) : Sp := fun vs H Q _ => ∃ (p : Addr) (l : List (List Int)) (n many : Nat), vs = [.ref p, .int many] ∧ Da H (.ref p) (dSets (preyM l n)) ∧ l.length ≤ 16 ∧ Wide l n ∧ many ≤ l.length ∧
  ∀ (q b : Addr) (H2 : Hp), Ex H H2 → H2 q = some (.tup [.int (covM l n (Vaskyb.greedy l many)), .ref b]) → H2 b = some (.lst (nats (Vaskyb.greedy l many))) → Q (.ref q) H2
theorem ok_step_by_step (T : Txt K mg a) (c_next_step : Cal P w K mg base CX0 2 "next_step" (sp_next_step K a)) (c_beaten_together : Cal P w K mg base CX0 1 "beaten_together" (sp_beaten_together K a)) : Cal P w K mg base CX0 3 "step_by_step" (sp_step_by_step K a) := by
  refine cal_of T.d_step_by_step sc_step_by_step (fun vs H Q E h => ?_) (fun f cdv A outer s H vs Q E hr h => ⟨_, (pss_cons (ps_set (i := 2) sc_step_by_step.nd rfl (Or.inl rfl) (pe_lst pa_nil)) (pss_cons (ps_for PassesOwn.never rfl (pi_range1 rfl T.b_range (pa_cons (pv 1) pa_nil)) (pg_name (i := 3) sc_step_by_step.nd rfl (Or.inl rfl)) (pss_one (ps_expr (pe_bm PySem.F.plainAttrs_list PySem.F.slot_list_append PySem.F.type_list_append mt_append (pv 2) (pa_cons (pe_c c_next_step hr pass0 (pa_cons (pv 0) (pa_cons (pv 2) pa_nil))) pa_nil))))) (pss_one (ps_ret (pe_tup (pa_cons (pe_c c_beaten_together hr pass0 (pa_cons (pv 0) (pa_cons (pv 2) pa_nil))) (pa_cons (pv 2) pa_nil))))))), ?_⟩)
  · obtain ⟨_, _, _, _, rfl, _⟩ := h
    rfl
  · obtain ⟨p, l, n, many, rfl, hp, hl, hw, hm, k⟩ := h
    have hpl : (preyM l n).length ≤ 16 := by rw [preyM_len]; exact hl
    refine ⟨by show 0 ≤ sizeLine; decide, fun F hF => ?_⟩
    refine ⟨_, rfl, (many : Int), rfl, by omega, by omega, ?_⟩
    rw [Int.toNat_natCast]
    refine for_range (lo := 0) (n := many) (fun i σ' H' => ∃ x, σ' = [some (.ref p), some (.int many), some (.ref F), x] ∧ Ex H H' ∧ H' F = some (.lst (nats (Vaskyb.greedy l i)))) ⟨none, rfl, ex_new hF, upd_same⟩ ?_ ?_
    · rintro i σ' H' hi ⟨x, rfl, e, hf⟩
      obtain ⟨g1, g2, g3⟩ := step_is hw i (by omega)
      obtain ⟨h1, h2, h3⟩ := step_is hw (i + 1) (by omega)
      have hnext : nats (Vaskyb.greedy l i) ++ [.int (nextM (covM l n) l.length (Vaskyb.greedy l i))] = nats (Vaskyb.greedy l (i + 1)) := by
        have : stepM (covM l n) l.length (i + 1) = stepM (covM l n) l.length i ++ [nextM (covM l n) l.length ((stepM (covM l n) l.length i).map Int.toNat)] := rfl
        rw [g1] at this
        have em : ((Vaskyb.greedy l i).map fun i : Nat => (i : Int)).map Int.toNat = Vaskyb.greedy l i := by
          rw [List.map_map]
          have : (Int.toNat ∘ fun i : Nat => (i : Int)) = id := by funext i; simp
          rw [this, List.map_id]
        rw [em, h1] at this
        show iL (nz (Vaskyb.greedy l i)) ++ iL [nextM (covM l n) l.length (Vaskyb.greedy l i)] = iL (nz (Vaskyb.greedy l (i + 1)))
        rw [← iL_app, nz, nz, this]
      refine ⟨_, rfl, .inl ⟨rfl, _, sq hf⟩, _, rfl, _, rfl, p, F, preyM l n, Vaskyb.greedy l i, rfl, hp.ex e, hpl, preyM_in, hf, by rw [g2]; omega, fun j hj => by rw [preyM_len]; exact g3 j hj, fun H2 e2 => ?_⟩
      refine ⟨F, _, _, rfl, rfl, e2 _ _ hf, szl (by rw [len_nats, g2]; omega), ?_⟩
      refine ⟨some (.int (0 + (i : Int))), rfl, Evl.Ex.mut (e.trans e2) hF, ?_⟩
      rw [upd_same, preyM_len, next_congr g3, hnext]
    · rintro σ' H' ⟨x, rfl, e, hf⟩
      obtain ⟨g1, g2, g3⟩ := step_is hw many hm
      refine ⟨_, rfl, _, rfl, p, F, preyM l n, Vaskyb.greedy l many, rfl, hp.ex e, hpl, preyM_in, sq hf, fun j hj => by rw [preyM_len]; exact g3 j hj, fun H2 e2 => ?_⟩
      rw [covP_is g3]
      refine ⟨_, rfl, by show 2 ≤ sizeLine; decide, fun u hu => ?_⟩
      have eu := ex_new (o := .tup [.int (covM l n (Vaskyb.greedy l many)), .ref F]) hu
      exact k u F _ ((e.trans e2).trans eu) upd_same (eu _ _ (e2 _ _ hf))
end
end Fw
set_option Elab.async false
set_option maxRecDepth 100000
set_option maxHeartbeats 4000000
namespace Fw
open PySem PySem.Spec PyProof.Rows L2 Fm
open Evl (Ex Ev EvL EvU EvT EvA RV RetL RetV)
open Vaskya (Sheet)
theorem dTab_da {H : Hp} {v : V} {t : Tab} (h : Da H v (dTab t)) : ∃ p xs, v = .ref p ∧ H p = some (.lst xs) ∧ xs.length = t.length ∧ ∀ (i : Nat) (x : List Nat × List Nat), t[i]? = some x → ∃ q q1 q2, xs[i]? = some (.ref q) ∧ H q = some (.tup [.ref q1, .ref q2]) ∧ H q1 = some (.lst (nats x.1)) ∧ H q2 = some (.lst (nats x.2)) := by
  obtain ⟨p, xs, rfl, h1, h2⟩ := dl_da (ds := t.map dRow) h
  refine ⟨p, xs, rfl, h1, by rw [h2.len, List.length_map], fun i x hi => ?_⟩
  obtain ⟨v, a, b⟩ := h2.get (i := i) (d := dRow x) (by rw [List.getElem?_map, hi]; rfl)
  obtain ⟨q, ys, rfl, hq, hys⟩ := dt_da (ds := [dN x.1, dN x.2]) b
  obtain ⟨v1, v2, rfl, b1, b2⟩ := da2 hys
  obtain ⟨q1, rfl, hq1⟩ := dN_da b1
  obtain ⟨q2, rfl, hq2⟩ := dN_da b2
  exact ⟨q, q1, q2, a, hq, hq1, hq2⟩
theorem row_at {xs : List V} {t : Tab} {i : Nat} {v : V} {H : Hp} (hl : xs.length = t.length) (hg : ∀ (i : Nat) (x : List Nat × List Nat), t[i]? = some x → ∃ q q1 q2, xs[i]? = some (.ref q) ∧ H q = some (.tup [.ref q1, .ref q2]) ∧ H q1 = some (.lst (nats x.1)) ∧ H q2 = some (.lst (nats x.2))) (hv : xs[i]? = some v) :
    ∃ x q q1 q2, t[i]? = some x ∧ v = .ref q ∧ H q = some (.tup [.ref q1, .ref q2]) ∧ H q1 = some (.lst (nats x.1)) ∧ H q2 = some (.lst (nats x.2)) := by
  have hi : i < t.length := by rw [← hl]; exact (List.getElem?_eq_some_iff.mp hv).1
  have hc : t[i]? = some t[i] := List.getElem?_eq_getElem hi
  obtain ⟨q, q1, q2, a, b, c, d⟩ := hg i _ hc
  rw [hv] at a
  exact ⟨_, q, q1, q2, hc, Option.some.inj a, b, c, d⟩
theorem filter_moreT {α : Type} {p : α → Bool} {l : List α} {t : Nat} {m : α} (h : l[t]? = some m) : (l.take (t + 1)).filter p = (l.take t).filter p ++ (if p m = true then [m] else []) := by
  rw [take_more h, List.filter_append, List.filter_cons, List.filter_nil]
section
variable {P : Program} {w : World} {K : PySem.W.Frag} {mg : Str → Option Value} {base : Heap} {a : Ads}
def sp_unbeaten_table (K : PySem.W.Frag) (a : Ads) : Sp := fun vs H Q _ => ∃ (p : Addr) (s : Sheet), vs = [.ref p] ∧ HeldAt a H p s ∧ RetD (dTab (tabOf (Vaskya.rows s) s.ms.length)) H Q
theorem tabOf_len {l : List (List Int)} {n : Nat} (hn : n ≤ 4) : (tabOf l n).length ≤ 15 := by
  unfold tabOf
  rw [List.length_map, allSets_is hn]
  exact (subsets_facts hn).1
theorem ok_unbeaten_table (T : Txt K mg a) (c_Held_every_item : Met P w K mg base CX0 1 a.held "every_item" (sp_Held_every_item K a)) (c_all_sets : Cal P w K mg base CX0 2 "all_sets" (sp_all_sets K a)) (c_Held_unbeaten : Met P w K mg base CX0 4 a.held "unbeaten" (sp_Held_unbeaten K a)) : Cal P w K mg base CX0 5 "unbeaten_table" (sp_unbeaten_table K a) := by
  refine cal_of T.d_unbeaten_table sc_unbeaten_table (fun vs H Q E h => ?_) (fun f cdv A outer s H vs Q E hr h => ⟨_, (pss_cons (ps_set (i := 1) sc_unbeaten_table.nd rfl (Or.inr rfl) (pe_mt0 T.cl_held c_Held_every_item hr pass0 (pv 0))) (pss_one (ps_ret (pe_lc (own := [("chosen", 2)]) (g := gName 2) (tt := tYes) (te := (tTup (tCons (tVar 2) (tCons (tMeth a.held "unbeaten" (sp_Held_unbeaten K a) [] E0 (tVar 0) (tCons (tVar 1) (tCons (tVar 2) tNil))) tNil)))) rfl sc_unbeaten_table.nd (pi_list (pe_c c_all_sets hr pass0 (pa_cons (pe_callB call_len_seq rfl T.b_len PySem.boot_len (pa_cons (pe_fld (pv 0) rfl) pa_nil)) pa_nil))) (blkOk_by (N := N_unbeaten_table) (sc := (defScope s_unbeaten_table)) (by decide +kernel)) (fun _ _ _ _ _ => (pg_name (i := 2) sc_unbeaten_table.nd rfl (Or.inl rfl))) (fun _ _ _ _ _ => pts_nil) (fun _ _ _ _ _ => (pe_tup (pa_cons (pv 2) (pa_cons (pe_mt T.cl_held c_Held_unbeaten hr pass0 (pv 0) (pa_cons (pv 1) (pa_cons (pv 2) pa_nil))) pa_nil)))))))), ?_⟩)
  · obtain ⟨_, _, rfl, _⟩ := h
    rfl
  · obtain ⟨p, sh, rfl, hh, k⟩ := h
    obtain ⟨⟨dx, r1, r2, r3, r4, h0, _, hups, _⟩, wf⟩ := id hh
    have hn16 := wf.items
    have hn4 := wf.ms.2
    obtain ⟨qu, equ, hqu⟩ := dB_da hups
    cases equ
    refine ⟨_, rfl, p, dx, _, rfl, h0, hf_no (by decide +kernel) (by decide +kernel) (by decide +kernel) (by decide +kernel), p, sh, rfl, hh, fun V0 H1 hV e1 h1 => ?_⟩
    refine ⟨_, rfl, p, _, dx, _, _, rfl, e1 _ _ h0, T.cl_held, T.na_held_ups, hf_up, r2, _, rfl, .inl (sq (e1 _ _ hqu)), sh.ms.length, ?_, hn4, fun v H2 e2 hd => ?_⟩
    · show [V.int ((((sh.ms.map fun m => m.up).map V.bl).length : Nat) : Int)] = _
      rw [List.length_map, List.length_map]
    have e12 := e1.trans e2
    obtain ⟨S, ss, rfl, hS, hsl, hsg⟩ := dSets_da (hd.ex (nw_back e1))
    have hS2 : H2 S = some (.lst ss) := nw_sub _ _ hS
    refine ⟨S, rfl, ⟨_, sq hS2⟩, fun Dl hD => ?_⟩
    have hDH : H Dl = none := fresh_of e12 hD
    refine lc_list (K := K) (a := S) (xs := ss) (fun i H' => ∃ ys, H' Dl = some (.lst ys) ∧ Ex H2 (rm H' Dl) ∧ DaL (nw H (rm H' Dl)) ys (((tabOf (Vaskya.rows sh) sh.ms.length).take i).map dRow))
      ⟨[], upd_same, ex_rm (ex_new hD) hD, .nil⟩ (fun i H' _ ⟨_, _, e, _⟩ => sq (rm_rm_ex e _ _ hS2)) ?_ ?_
    · rintro i v H3 hi ⟨ys, h3, e3, hys⟩
      have hil : i < (allSets sh.ms.length).length := by rw [← hsl]; exact (List.getElem?_eq_some_iff.mp hi).1
      have hc : (allSets sh.ms.length)[i]? = some ((allSets sh.ms.length)[i]) := List.getElem?_eq_getElem hil
      generalize (allSets sh.ms.length)[i] = c at hc
      obtain ⟨q, hq1, hq2⟩ := hsg i c hc
      rw [hi] at hq1
      cases hq1
      have hcm : ∀ m ∈ c, m < sh.ms.length := by
        have := List.mem_of_getElem? hc
        rw [allSets_is hn4] at this
        exact ((subsets_facts hn4).2 c this).2.2
      have eH3 : Ex H2 H3 := rm_rm_ex e3
      have hh3 : HeldAt a H3 p sh := (hh.mono e12).mono eH3
      have hq3 : H3 q = some (.lst (nats c)) := eH3 _ _ (nw_sub _ _ hq2)
      obtain ⟨⟨dx3, s1, s2, s3, s4, g0, _⟩, _⟩ := id hh3
      refine ⟨rfl, ?_⟩
      refine ⟨_, rfl, _, rfl, p, dx3, _, rfl, g0, hf_no (by decide +kernel) (by decide +kernel) (by decide +kernel) (by decide +kernel), _, rfl, _, rfl, p, q, V0, sh, c, List.range sh.items.length, rfl, hh3, sq hq3, hcm, sq (eH3 _ _ (e2 _ _ h1)), fun j hj => List.mem_range.mp hj, by rw [List.length_range]; omega, fun r H4 hr4 e4 h4 => ?_⟩
      refine ⟨by show 2 ≤ sizeLine; decide, fun u hu => ?_⟩
      have eu := ex_new (o := .tup [.ref q, .ref r]) hu
      have hlen : ys.length ≤ 15 := by
        rw [hys.len, List.length_map, List.length_take]
        have := tabOf_len (l := Vaskya.rows sh) hn4
        omega
      refine ⟨ys, eu _ _ (e4 _ _ h3), szl (by omega), ?_⟩
      have hrD : r ≠ Dl := fun z => by rw [z, h3] at hr4; cases hr4
      have huD : u ≠ Dl := fun z => by rw [z, e4 _ _ h3] at hu; cases hu
      have hqD : q ≠ Dl := fun z => by rw [z] at hq2; have := nw_sub _ _ hq2; rw [hD] at this; cases this
      have hrH : H r = none := fresh_of (e12.trans eH3) hr4
      have huH : H u = none := fresh_of ((e12.trans eH3).trans e4) hu
      have e5 : Ex (rm H3 Dl) (rm (upd (upd H4 u (.tup [.ref q, .ref r])) Dl (.lst (ys ++ [.ref u]))) Dl) := by
        rw [rm_upd]
        exact rm_ex (e4.trans eu)
      refine ⟨ys ++ [.ref u], upd_same, e3.trans e5, ?_⟩
      have hrow : (tabOf (Vaskya.rows sh) sh.ms.length)[i]? = some (c, unb (Vaskya.rows sh) c (List.range sh.items.length)) := by
        unfold tabOf
        rw [List.getElem?_map, hc, rows_len]
        rfl
      rw [take_more hrow, List.map_append]
      refine (hys.ex (nw_ex e5)).snoc (.t (xs := [.ref q, .ref r]) ?_ (.cons (da_dI ?_) (.cons (da_dI ?_) .nil)))
      · rw [nw_new huH, rm_ne huD, upd_ne huD]
        exact upd_same
      · exact (nw_ex (e3.trans e5)) _ _ hq2
      · rw [nw_new hrH, rm_ne hrD, upd_ne hrD]
        exact eu _ _ h4
    · rintro H3 ⟨ys, h3, e3, hys⟩
      have et : (tabOf (Vaskya.rows sh) sh.ms.length).take ss.length = tabOf (Vaskya.rows sh) sh.ms.length := List.take_of_length_le (by rw [hsl]; unfold tabOf; rw [List.length_map]; exact Nat.le_refl _)
      rw [et] at hys
      exact k _ _ (e12.trans (rm_rm_ex e3)) (.l (xs := ys) (by rw [nw_new hDH]; exact h3) (hys.ex (nw_ex rm_sub)))
def sp_unbeaten_by_smaller (K : PySem.W.Frag) (a : Ads) : Sp := fun vs H Q _ => ∃ (p q : Addr) (t : Tab) (c : List Nat) (i : Nat), vs = [.ref p, .ref q, .int i] ∧ Da H (.ref p) (dTab t) ∧ SqL K H q (nats c) ∧ RetV (.bl (smaller t c i)) H Q
theorem ok_unbeaten_by_smaller (T : Txt K mg a) (c_within : Cal P w K mg base CX0 1 "within" (sp_within K a)) : Cal P w K mg base CX0 2 "unbeaten_by_smaller" (sp_unbeaten_by_smaller K a) := by
  refine cal_of T.d_unbeaten_by_smaller sc_unbeaten_by_smaller (fun vs H Q E h => ?_) (fun f cdv A outer s H vs Q E hr h => ⟨_, (pss_cons (ps_for PassesOwn.never rfl (pi_list (pv 0)) (pg_tup rfl (pgs_cons (pg_name (i := 3) sc_unbeaten_by_smaller.nd rfl (Or.inl rfl)) (pgs_cons (pg_name (i := 4) sc_unbeaten_by_smaller.nd rfl (Or.inl rfl)) pgs_nil))) (pss_one (ps_if (PW.pt (pw_and (pt_cmpR op_lt (pe_callB call_len_seq rfl T.b_len PySem.boot_len (pa_cons (pv 3) pa_nil)) (pe_callB call_len_seq rfl T.b_len PySem.boot_len (pa_cons (pv 1) pa_nil)) (nomark _)) (pw_and (pt_val (pe_c c_within hr pass0 (pa_cons (pv 3) (pa_cons (pv 1) pa_nil)))) (pw_and1 (pt_cmpR op_in_seq (pv 2) (pv 4) (by rfl)))))) (pss_one (ps_ret pe_bl)) pss_nil))) (pss_one (ps_ret pe_bl))), ?_⟩)
  · obtain ⟨_, _, _, _, _, rfl, _⟩ := h
    rfl
  · obtain ⟨p, q, t, c, i, rfl, hp, hq, k⟩ := h
    obtain ⟨p', xs, e', hpx, hxl, hget⟩ := dTab_da hp
    cases e'
    refine ⟨_, rfl, p, rfl, ⟨_, sq hpx⟩, for_list (K := K) (a := p) (xs := xs) (fun n σ' H' => ∃ x y, σ' = [some (.ref p), some (.ref q), some (.int i), x, y] ∧ Ex H H' ∧ smaller (t.take n) c i = false) ⟨none, none, rfl, Ex.refl H, rfl⟩ (fun n σ' H' _ ⟨_, _, _, e, _⟩ => sq (e _ _ hpx)) ?_ ?_⟩
    · rintro n v σ' H' hn ⟨x, y, rfl, e, hs⟩
      obtain ⟨row, r, r1, r2, hrow, rfl, g, g1, g2⟩ := row_at hxl hget hn
      have step : smaller (t.take (n + 1)) c i = (smaller (t.take n) c i || (decide (row.1.length < c.length) && (Vaskyb.within row.1 c && row.2.contains i))) := by
        unfold smaller
        rw [take_more hrow, any_snoc]
      have fin : (decide (row.1.length < c.length) && (Vaskyb.within row.1 c && row.2.contains i)) = true → ∀ H2, Ex H H2 → Q (.bl true) H2 := fun hf H2 e2 => by
        have : smaller t c i = true := any_false_take hrow hf
        rw [this] at k
        exact k.go e2
      have nxt : (decide (row.1.length < c.length) && (Vaskyb.within row.1 c && row.2.contains i)) = false → smaller (t.take (n + 1)) c i = false := fun hf => by rw [step, hs, hf]; rfl
      refine ⟨r, _, rfl, st (e _ _ g), rfl, _, _, rfl, _, _, rfl, rfl, ?_⟩
      refine ⟨_, rfl, r1, _, rfl, .inl (sq (e _ _ g1)), _, rfl, q, _, rfl, .inl (ex_sq e hq), _, _, rfl, rfl, _, rfl, ?_⟩
      rw [len_nats, len_nats]
      refine ite_b (fun h1 => ?_) (fun h1 => ?_)
      · have h1' : decide (row.1.length < c.length) = true := decide_eq_true (by have := of_decide_eq_true h1; omega)
        rw [h1', Bool.true_and] at fin nxt
        refine ⟨_, rfl, _, rfl, r1, q, row.1, c, rfl, sq (e _ _ g1), ex_sq e hq, fun H2 e2 => ⟨_, rfl, ite_b (fun h2 => ?_) (fun h2 => ?_)⟩⟩
        · rw [h2, Bool.true_and] at fin nxt
          refine ⟨_, rfl, _, rfl, r2, _, rfl, .inl (sq (e2 _ _ (e _ _ g2))), rfl, flat_iL _, _, rfl, ?_⟩
          rw [inV_nats, if_neg Bool.false_ne_true]
          refine ite_b (fun h3 => ?_) (fun h3 => ?_)
          · exact fin h3 H2 (e.trans e2)
          · exact ⟨_, _, rfl, e.trans e2, nxt h3⟩
        · rw [h2, Bool.false_and] at nxt
          exact iteF ⟨_, _, rfl, e.trans e2, nxt rfl⟩
      · have h1' : decide (row.1.length < c.length) = false := decide_eq_false (by have := of_decide_eq_false h1; omega)
        rw [h1', Bool.false_and] at nxt
        exact iteF ⟨_, _, rfl, e, nxt rfl⟩
    · rintro σ' H' ⟨x, y, rfl, e, hs⟩
      rw [hxl, List.take_length] at hs
      rw [hs] at k
      exact k.go e
def sp_least_sets (K : PySem.W.Frag) (a : Ads) : Sp := fun vs H Q _ => ∃ (p : Addr) (t : Tab) (i : Nat), vs = [.ref p, .int i] ∧ Da H (.ref p) (dTab t) ∧ t.length ≤ 1000 ∧ RetW (dSets (leastM t i)) H Q
theorem ok_least_sets (T : Txt K mg a) (c_unbeaten_by_smaller : Cal P w K mg base CX0 2 "unbeaten_by_smaller" (sp_unbeaten_by_smaller K a)) : Cal P w K mg base CX0 3 "least_sets" (sp_least_sets K a) := by
  refine cal_of T.d_least_sets sc_least_sets (fun vs H Q E h => ?_) (fun f cdv A outer s H vs Q E hr h => ⟨_, (pss_one (ps_ret (pe_lc (own := [("chosen", 2), ("unbeaten", 3)]) (g := gTup K 2 (gCons (gName 2) (gCons (gName 3) gNil))) (tt := (tAnd (tTest (tOp (rIn K false) (tVar 1) (tVar 3))) (tNot (tB (tCall (sp_unbeaten_by_smaller K a) [] E0 (tCons (tVar 0) (tCons (tVar 2) (tCons (tVar 1) tNil)))))))) (te := (tVar 2)) rfl sc_least_sets.nd (pi_list (pv 0)) (blkOk_by (N := N_least_sets) (sc := (defScope s_least_sets)) (by decide +kernel)) (fun _ _ _ _ _ => (pg_tup rfl (pgs_cons (pg_name (i := 2) sc_least_sets.nd rfl (Or.inl rfl)) (pgs_cons (pg_name (i := 3) sc_least_sets.nd rfl (Or.inl rfl)) pgs_nil)))) (fun _ _ _ _ _ => (pts_one (PW.pt (pw_and (pt_cmpR op_in_seq (pv 1) (pv 3) (by rfl)) (pw_and1 (pt_not (pt_val (pe_c c_unbeaten_by_smaller hr pass0 (pa_cons (pv 0) (pa_cons (pv 2) (pa_cons (pv 1) pa_nil))))))))))) (fun _ _ _ _ _ => (pv 2))))), ?_⟩)
  · obtain ⟨_, _, _, rfl, _⟩ := h
    rfl
  · obtain ⟨p, t, i, rfl, hp, hz, k⟩ := h
    obtain ⟨p', xs, e', hpx, hxl, hget⟩ := dTab_da hp
    cases e'
    refine ⟨_, rfl, p, rfl, ⟨_, sq hpx⟩, fun Dl hD => ?_⟩
    refine lc_list (K := K) (a := p) (xs := xs) (fun n H' => ∃ ys, H' Dl = some (.lst ys) ∧ Ex H H' ∧ DaL H ys (((((t.take n).filter fun x => x.2.contains i && !smaller t x.1 i).map fun x => x.1).map nz).map dI))
      ⟨[], upd_same, ex_new hD, .nil⟩ (fun n H' _ ⟨_, _, e, _⟩ => sq (e _ _ hpx)) ?_ ?_
    · rintro n v H' hn ⟨ys, h1, e, hys⟩
      obtain ⟨row, r, r1, r2, hrow, rfl, g, g1, g2⟩ := row_at hxl hget hn
      have step := filter_moreT (p := fun x : List Nat × List Nat => x.2.contains i && !smaller t x.1 i) hrow
      have hlen : ys.length ≤ 1000 := by
        rw [hys.len, List.length_map, List.length_map, List.length_map]
        have h1 := List.length_filter_le (fun x : List Nat × List Nat => x.2.contains i && !smaller t x.1 i) (t.take n)
        have h2 : (t.take n).length ≤ t.length := by rw [List.length_take]; omega
        omega
      have stay : (row.2.contains i && !smaller t row.1 i) = false → ∀ H2, Ex H' H2 → ∃ ys, H2 Dl = some (.lst ys) ∧ Ex H H2 ∧ DaL H ys (((((t.take (n + 1)).filter fun x => x.2.contains i && !smaller t x.1 i).map fun x => x.1).map nz).map dI) := fun hf H2 e2 => by
        refine ⟨ys, e2 _ _ h1, e.trans e2, ?_⟩
        rw [step, hf, if_neg Bool.false_ne_true, List.append_nil]
        exact hys
      refine ⟨r, _, rfl, st (e _ _ g), rfl, _, _, rfl, _, _, rfl, rfl, rfl, ?_⟩
      refine ⟨_, rfl, _, rfl, r2, _, rfl, .inl (sq (e _ _ g2)), rfl, flat_iL _, _, rfl, ?_⟩
      rw [inV_nats, if_neg Bool.false_ne_true]
      refine ite_b (fun h2 => ?_) (fun h2 => ?_)
      · rw [h2, Bool.true_and] at stay step
        refine ⟨_, rfl, _, rfl, _, rfl, p, r1, t, row.1, i, rfl, hp.ex e, sq (e _ _ g1), fun H2 e2 => ⟨_, rfl, ?_⟩⟩
        cases hs : smaller t row.1 i with
        | true =>
          rw [hs] at stay
          exact iteF (stay rfl H2 e2)
        | false =>
          rw [hs] at step
          refine iteT ⟨_, rfl, ys, e2 _ _ h1, szl (by omega), ?_⟩
          refine ⟨ys ++ [.ref r1], upd_same, Evl.Ex.mut (e.trans e2) hD, ?_⟩
          rw [step, if_pos (show (!false) = true from rfl), List.map_append, List.map_append, List.map_append]
          exact hys.snoc (da_dI g1)
      · rw [h2, Bool.false_and] at stay
        exact iteF (stay rfl H' (Ex.refl _))
    · rintro H' ⟨ys, h1, e, hys⟩
      rw [hxl, List.take_length] at hys
      exact k _ _ e (.l (xs := ys) h1 (hys.ex e))
def sp_stored_items (K : PySem.W.Frag) (a : Ads) : Sp := fun vs H Q _ => ∃ (p q r : Addr) (t : Tab) (c u : List Nat), vs = [.ref p, .ref q, .ref r] ∧ Da H (.ref p) (dTab t) ∧ SqL K H q (nats c) ∧ SqL K H r (nats u) ∧ u.length ≤ 1000 ∧ RetL (nats (u.filter fun i => !smaller t c i)) H Q
theorem ok_stored_items (T : Txt K mg a) (c_unbeaten_by_smaller : Cal P w K mg base CX0 2 "unbeaten_by_smaller" (sp_unbeaten_by_smaller K a)) : Cal P w K mg base CX0 3 "stored_items" (sp_stored_items K a) := by
  refine cal_of T.d_stored_items sc_stored_items (fun vs H Q E h => ?_) (fun f cdv A outer s H vs Q E hr h => ⟨_, (pss_one (ps_ret (pe_lc (own := [("item", 3)]) (g := gName 3) (tt := (tNot (tB (tCall (sp_unbeaten_by_smaller K a) [] E0 (tCons (tVar 0) (tCons (tVar 1) (tCons (tVar 3) tNil))))))) (te := (tVar 3)) rfl sc_stored_items.nd (pi_list (pv 2)) (blkOk_by (N := N_stored_items) (sc := (defScope s_stored_items)) (by decide +kernel)) (fun _ _ _ _ _ => (pg_name (i := 3) sc_stored_items.nd rfl (Or.inl rfl))) (fun _ _ _ _ _ => (pts_one (pt_not (pt_val (pe_c c_unbeaten_by_smaller hr pass0 (pa_cons (pv 0) (pa_cons (pv 1) (pa_cons (pv 3) pa_nil)))))))) (fun _ _ _ _ _ => (pv 3))))), ?_⟩)
  · obtain ⟨_, _, _, _, _, _, rfl, _⟩ := h
    rfl
  · obtain ⟨p, q, r, t, c, u, rfl, hp, hq, hr', hz, k⟩ := h
    refine ⟨_, rfl, r, rfl, ⟨_, hr'⟩, fun Dl hD => ?_⟩
    refine lc_list (K := K) (a := r) (xs := nats u) (Kept H (fun i => !smaller t c i) u Dl) (Kept.start hD) (fun t H' _ k' => ex_sq k'.2.1 hr') ?_ ?_
    · intro n z H' hn k'
      obtain ⟨m, hm, rfl⟩ := nats_get hn
      have e := k'.2.1
      refine ⟨rfl, k'.turn hm (by omega) (fun Q' q' => ?_) (fun H2 Q' q' => ⟨_, rfl, q'⟩)⟩
      exact ⟨_, rfl, _, rfl, _, rfl, p, q, t, c, m, rfl, hp.ex e, ex_sq e hq, fun H2 e2 => ⟨_, rfl, q' H2 e2⟩⟩
    · intro H' k'
      rw [len_nats] at k'
      obtain ⟨k1, k2, k3⟩ := k'
      rw [List.take_length] at k3
      exact k Dl H' hD k2 k3
def sp_stored_table (K : PySem.W.Frag) (a : Ads) : Sp := fun vs H Q _ => ∃ (p : Addr) (t : Tab), vs = [.ref p] ∧ Da H (.ref p) (dTab t) ∧ t.length ≤ 1000 ∧ (∀ x ∈ t, x.2.length ≤ 1000) ∧ RetW (dTab (storedM t)) H Q
theorem ok_stored_table (T : Txt K mg a) (c_stored_items : Cal P w K mg base CX0 3 "stored_items" (sp_stored_items K a)) : Cal P w K mg base CX0 4 "stored_table" (sp_stored_table K a) := by
  refine cal_of T.d_stored_table sc_stored_table (fun vs H Q E h => ?_) (fun f cdv A outer s H vs Q E hr h => ⟨_, (pss_one (ps_ret (pe_lc (own := [("chosen", 1), ("unbeaten", 2)]) (g := gTup K 2 (gCons (gName 1) (gCons (gName 2) gNil))) (tt := tYes) (te := (tTup (tCons (tVar 1) (tCons (tCall (sp_stored_items K a) [] E0 (tCons (tVar 0) (tCons (tVar 1) (tCons (tVar 2) tNil)))) tNil)))) rfl sc_stored_table.nd (pi_list (pv 0)) (blkOk_by (N := N_stored_table) (sc := (defScope s_stored_table)) (by decide +kernel)) (fun _ _ _ _ _ => (pg_tup rfl (pgs_cons (pg_name (i := 1) sc_stored_table.nd rfl (Or.inl rfl)) (pgs_cons (pg_name (i := 2) sc_stored_table.nd rfl (Or.inl rfl)) pgs_nil)))) (fun _ _ _ _ _ => pts_nil) (fun _ _ _ _ _ => (pe_tup (pa_cons (pv 1) (pa_cons (pe_c c_stored_items hr pass0 (pa_cons (pv 0) (pa_cons (pv 1) (pa_cons (pv 2) pa_nil)))) pa_nil))))))), ?_⟩)
  · obtain ⟨_, _, rfl, _⟩ := h
    rfl
  · obtain ⟨p, t, rfl, hp, hz, hz2, k⟩ := h
    obtain ⟨p', xs, e', hpx, hxl, hget⟩ := dTab_da hp
    cases e'
    refine ⟨_, rfl, p, rfl, ⟨_, sq hpx⟩, fun Dl hD => ?_⟩
    refine lc_list (K := K) (a := p) (xs := xs) (fun n H' => ∃ ys, H' Dl = some (.lst ys) ∧ Ex H (rm H' Dl) ∧ DaL (rm H' Dl) ys (((storedM t).take n).map dRow))
      ⟨[], upd_same, ex_rm (ex_new hD) hD, .nil⟩ (fun n H' _ ⟨_, _, e, _⟩ => sq (rm_rm_ex e _ _ hpx)) ?_ ?_
    · rintro n v H' hn ⟨ys, h1, e1, hys⟩
      have e : Ex H H' := rm_rm_ex e1
      obtain ⟨row, r, r1, r2, hrow, rfl, g, g1, g2⟩ := row_at hxl hget hn
      refine ⟨r, _, rfl, st (e _ _ g), rfl, _, _, rfl, _, _, rfl, rfl, rfl, ?_⟩
      refine ⟨_, rfl, _, rfl, _, rfl, _, rfl, p, r1, r2, t, row.1, row.2, rfl, hp.ex e, sq (e _ _ g1), sq (e _ _ g2), hz2 row (List.mem_of_getElem? hrow), fun y H2 hy e2 h2 => ?_⟩
      refine ⟨by show 2 ≤ sizeLine; decide, fun u hu => ?_⟩
      have eu := ex_new (o := .tup [.ref r1, .ref y]) hu
      have hlen : ys.length ≤ 1000 := by
        rw [hys.len, List.length_map, List.length_take]
        unfold storedM
        rw [List.length_map]
        omega
      refine ⟨ys, eu _ _ (e2 _ _ h1), szl (by omega), ?_⟩
      have hyD : y ≠ Dl := fun z => by rw [z, h1] at hy; cases hy
      have huD : u ≠ Dl := fun z => by rw [z, e2 _ _ h1] at hu; cases hu
      have h1D : r1 ≠ Dl := fun z => by rw [z, hD] at g1; cases g1
      have e5 : Ex (rm H' Dl) (rm (upd (upd H2 u (.tup [.ref r1, .ref y])) Dl (.lst (ys ++ [.ref u]))) Dl) := by
        rw [rm_upd]
        exact rm_ex (e2.trans eu)
      refine ⟨ys ++ [.ref u], upd_same, e1.trans e5, ?_⟩
      have hs : (storedM t)[n]? = some (row.1, row.2.filter fun i => !smaller t row.1 i) := by
        unfold storedM
        rw [List.getElem?_map, hrow]
        rfl
      rw [take_more hs, List.map_append]
      refine (hys.ex e5).snoc (.t (xs := [.ref r1, .ref y]) ?_ (.cons (da_dI ?_) (.cons (da_dI ?_) .nil)))
      · rw [rm_ne huD, upd_ne huD]
        exact upd_same
      · exact (e1.trans e5) _ _ g1
      · rw [rm_ne hyD, upd_ne hyD]
        exact eu _ _ h2
    · rintro H' ⟨ys, h1, e1, hys⟩
      have et : (storedM t).take xs.length = storedM t := List.take_of_length_le (by rw [hxl]; unfold storedM; rw [List.length_map]; exact Nat.le_refl _)
      rw [et] at hys
      exact k _ _ (rm_rm_ex e1) (.l (xs := ys) h1 (hys.ex rm_sub))
def sp_how_many (K : PySem.W.Frag) (a : Ads) : Sp := fun vs H Q _ => ∃ (p : Addr) (t : Tab), vs = [.ref p] ∧ Da H (.ref p) (dTab t) ∧ t.length ≤ 1000 ∧ RetV (.int (manyM t)) H Q
theorem sum_nz : ∀ l : List Nat, (nz l).sum = ((l.sum : Nat) : Int)
  | [] => rfl
  | x :: l => by
    show ((x : Int) :: nz l).sum = _
    rw [List.sum_cons, List.sum_cons, sum_nz l]
    omega
theorem ok_how_many (T : Txt K mg a) : Cal P w K mg base CX0 1 "how_many" (sp_how_many K a) := by
  refine cal_of T.d_how_many sc_how_many (fun vs H Q E h => ?_) (fun f cdv A outer s H vs Q E hr h => ⟨_, (pss_one (ps_ret (pe_callB (cr_sum rfl) rfl T.b_sum (by decide +kernel) (pa_cons (pe_lc (own := [("chosen", 1), ("found", 2)]) (g := gTup K 2 (gCons (gName 1) (gCons (gName 2) gNil))) (tt := tYes) (te := (tCB (Evl.rLenS K) (tCons (tVar 2) tNil))) rfl sc_how_many.nd (pi_list (pv 0)) (blkOk_by (N := N_how_many) (sc := (defScope s_how_many)) (by decide +kernel)) (fun _ _ _ _ _ => (pg_tup rfl (pgs_cons (pg_name (i := 1) sc_how_many.nd rfl (Or.inl rfl)) (pgs_cons (pg_name (i := 2) sc_how_many.nd rfl (Or.inl rfl)) pgs_nil)))) (fun _ _ _ _ _ => pts_nil) (fun _ _ _ _ _ => (pe_callB call_len_seq rfl T.b_len PySem.boot_len (pa_cons (pv 2) pa_nil)))) pa_nil)))), ?_⟩)
  · obtain ⟨_, _, rfl, _⟩ := h
    rfl
  · obtain ⟨p, t, rfl, hp, hz, k⟩ := h
    obtain ⟨p', xs, e', hpx, hxl, hget⟩ := dTab_da hp
    cases e'
    refine ⟨_, rfl, p, rfl, ⟨_, sq hpx⟩, fun Dl hD => ?_⟩
    refine lc_list (K := K) (a := p) (xs := xs) (fun n H' => Ex H H' ∧ H' Dl = some (.lst (nats ((t.take n).map fun x => x.2.length))))
      ⟨ex_new hD, upd_same⟩ (fun n H' _ ⟨e, _⟩ => sq (e _ _ hpx)) ?_ ?_
    · rintro n v H' hn ⟨e, h1⟩
      obtain ⟨row, r, r1, r2, hrow, rfl, g, g1, g2⟩ := row_at hxl hget hn
      refine ⟨r, _, rfl, st (e _ _ g), rfl, _, _, rfl, _, _, rfl, rfl, rfl, ?_⟩
      refine ⟨_, rfl, r2, _, rfl, .inl (sq (e _ _ g2)), ?_⟩
      refine ⟨_, h1, szl (by rw [len_nats, List.length_map, List.length_take]; omega), Evl.Ex.mut e hD, ?_⟩
      rw [upd_same, take_more hrow, List.map_append, nats_app, len_nats]
      rfl
    · rintro H' ⟨e, h1⟩
      rw [hxl, List.take_length] at h1
      refine ⟨Dl, _, rfl, sq h1, ?_⟩
      rw [sum_nz]
      exact k.go e
def sp_stored_within (K : PySem.W.Frag) (a : Ads) : Sp := fun vs H Q _ => ∃ (p q : Addr) (t : Tab) (u : List Nat) (i : Nat), vs = [.ref p, .ref q, .int i] ∧ Da H (.ref p) (dTab t) ∧ SqL K H q (nats u) ∧ RetV (.bl (t.any fun x => Vaskyb.within x.1 u && x.2.contains i)) H Q
theorem ok_stored_within (T : Txt K mg a) (c_within : Cal P w K mg base CX0 1 "within" (sp_within K a)) : Cal P w K mg base CX0 2 "stored_within" (sp_stored_within K a) := by
  refine cal_of T.d_stored_within sc_stored_within (fun vs H Q E h => ?_) (fun f cdv A outer s H vs Q E hr h => ⟨_, (pss_cons (ps_for PassesOwn.never rfl (pi_list (pv 0)) (pg_tup rfl (pgs_cons (pg_name (i := 3) sc_stored_within.nd rfl (Or.inl rfl)) (pgs_cons (pg_name (i := 4) sc_stored_within.nd rfl (Or.inl rfl)) pgs_nil))) (pss_one (ps_if (PW.pt (pw_and (pt_val (pe_c c_within hr pass0 (pa_cons (pv 3) (pa_cons (pv 1) pa_nil)))) (pw_and1 (pt_cmpR op_in_seq (pv 2) (pv 4) (by rfl))))) (pss_one (ps_ret pe_bl)) pss_nil))) (pss_one (ps_ret pe_bl))), ?_⟩)
  · obtain ⟨_, _, _, _, _, rfl, _⟩ := h
    rfl
  · obtain ⟨p, q, t, u, i, rfl, hp, hq, k⟩ := h
    obtain ⟨p', xs, e', hpx, hxl, hget⟩ := dTab_da hp
    cases e'
    refine ⟨_, rfl, p, rfl, ⟨_, sq hpx⟩, for_list (K := K) (a := p) (xs := xs) (fun n σ' H' => ∃ x y, σ' = [some (.ref p), some (.ref q), some (.int i), x, y] ∧ Ex H H' ∧ ((t.take n).any fun x => Vaskyb.within x.1 u && x.2.contains i) = false) ⟨none, none, rfl, Ex.refl H, rfl⟩ (fun n σ' H' _ ⟨_, _, _, e, _⟩ => sq (e _ _ hpx)) ?_ ?_⟩
    · rintro n v σ' H' hn ⟨x, y, rfl, e, hs⟩
      obtain ⟨row, r, r1, r2, hrow, rfl, g, g1, g2⟩ := row_at hxl hget hn
      have step : ((t.take (n + 1)).any fun x => Vaskyb.within x.1 u && x.2.contains i) = (((t.take n).any fun x => Vaskyb.within x.1 u && x.2.contains i) || (Vaskyb.within row.1 u && row.2.contains i)) := by
        rw [take_more hrow, any_snoc]
      refine ⟨r, _, rfl, st (e _ _ g), rfl, _, _, rfl, _, _, rfl, rfl, ?_⟩
      refine ⟨_, rfl, _, rfl, r1, q, row.1, u, rfl, sq (e _ _ g1), ex_sq e hq, fun H2 e2 => ⟨_, rfl, ite_b (fun h2 => ?_) (fun h2 => ?_)⟩⟩
      · rw [hs, h2, Bool.true_and, Bool.false_or] at step
        refine ⟨_, rfl, _, rfl, r2, _, rfl, .inl (sq (e2 _ _ (e _ _ g2))), rfl, flat_iL _, _, rfl, ?_⟩
        rw [inV_nats, if_neg Bool.false_ne_true]
        refine ite_b (fun h3 => ?_) (fun h3 => ?_)
        · have : (t.any fun x => Vaskyb.within x.1 u && x.2.contains i) = true := any_false_take hrow (by rw [h2, h3]; rfl)
          rw [this] at k
          exact k.go (e.trans e2)
        · exact ⟨_, _, rfl, e.trans e2, step.trans h3⟩
      · rw [hs, h2] at step
        exact iteF ⟨_, _, rfl, e.trans e2, step⟩
    · rintro σ' H' ⟨x, y, rfl, e, hs⟩
      rw [hxl, List.take_length] at hs
      rw [hs] at k
      exact k.go e
theorem tabOf_items {l : List (List Int)} {n : Nat} {x : List Nat × List Nat} (h : x ∈ tabOf l n) : x.2.length ≤ l.length := by
  unfold tabOf at h
  rw [List.mem_map] at h
  obtain ⟨u, _, rfl⟩ := h
  have := unb_len (l := l) (u := u) (is := List.range l.length)
  rw [List.length_range] at this
  exact this
def sp_candidates (K : PySem.W.Frag) (a : Ads) : Sp := fun vs H Q _ => ∃ (p q : Addr) (s : Sheet) (u : List Nat), vs = [.ref p, .ref q] ∧ HeldAt a H p s ∧ SqL K H q (nats u) ∧ RetL (nats (candM (Vaskya.rows s) s.ms.length u)) H Q
theorem ok_candidates (T : Txt K mg a) (c_stored_table : Cal P w K mg base CX0 4 "stored_table" (sp_stored_table K a)) (c_unbeaten_table : Cal P w K mg base CX0 5 "unbeaten_table" (sp_unbeaten_table K a)) (c_Held_every_item : Met P w K mg base CX0 1 a.held "every_item" (sp_Held_every_item K a)) (c_stored_within : Cal P w K mg base CX0 2 "stored_within" (sp_stored_within K a)) : Cal P w K mg base CX0 6 "candidates" (sp_candidates K a) := by
  refine cal_of T.d_candidates sc_candidates (fun vs H Q E h => ?_) (fun f cdv A outer s H vs Q E hr h => ⟨_, (pss_cons (ps_set (i := 2) sc_candidates.nd rfl (Or.inr rfl) (pe_c c_stored_table hr pass0 (pa_cons (pe_c c_unbeaten_table hr pass0 (pa_cons (pv 0) pa_nil)) pa_nil))) (pss_one (ps_ret (pe_lc (own := [("item", 3)]) (g := gName 3) (tt := (tB (tCall (sp_stored_within K a) [] E0 (tCons (tVar 2) (tCons (tVar 1) (tCons (tVar 3) tNil)))))) (te := (tVar 3)) rfl sc_candidates.nd (pi_list (pe_mt0 T.cl_held c_Held_every_item hr pass0 (pv 0))) (blkOk_by (N := N_candidates) (sc := (defScope s_candidates)) (by decide +kernel)) (fun _ _ _ _ _ => (pg_name (i := 3) sc_candidates.nd rfl (Or.inl rfl))) (fun _ _ _ _ _ => (pts_one (pt_val (pe_c c_stored_within hr pass0 (pa_cons (pv 2) (pa_cons (pv 1) (pa_cons (pv 3) pa_nil))))))) (fun _ _ _ _ _ => (pv 3)))))), ?_⟩)
  · obtain ⟨_, _, _, _, rfl, _⟩ := h
    rfl
  · obtain ⟨p, q, sh, u, rfl, hh, hq, k⟩ := h
    have wf := hh.wf
    have hn16 := wf.items
    have hn4 := wf.ms.2
    refine ⟨_, rfl, p, sh, rfl, hh, fun v H1 e1 hd => ?_⟩
    obtain ⟨tp, _, rfl, _⟩ := dTab_da (nw_da hd)
    refine ⟨tp, _, rfl, nw_da hd, ?_, ?_, fun v2 H2 e2 hd2 => ?_⟩
    · have := tabOf_len (l := Vaskya.rows sh) hn4
      omega
    · intro x hx
      have := tabOf_items hx
      rw [rows_len] at this
      omega
    obtain ⟨tq, _, rfl, _⟩ := dTab_da hd2
    have e12 := e1.trans e2
    obtain ⟨⟨dx, r1, r2, r3, r4, h0, _⟩, _⟩ := id (hh.mono e12)
    refine ⟨_, rfl, p, dx, _, rfl, h0, hf_no (by decide +kernel) (by decide +kernel) (by decide +kernel) (by decide +kernel), p, sh, rfl, hh.mono e12, fun V0 H3 hV e3 h3 => ?_⟩
    refine ⟨V0, rfl, ⟨_, sq h3⟩, fun Dl hD => ?_⟩
    have e13 := e12.trans e3
    refine lc_list (K := K) (a := V0) (xs := nats (List.range sh.items.length)) (Kept H3 (fun i => (storedM (tabOf (Vaskya.rows sh) sh.ms.length)).any fun x => Vaskyb.within x.1 u && x.2.contains i) (List.range sh.items.length) Dl) (Kept.start hD) (fun t H' _ k' => sq (k'.2.1 _ _ h3)) ?_ ?_
    · intro n z H' hn k'
      obtain ⟨m, hm, rfl⟩ := nats_get hn
      have e := k'.2.1
      refine ⟨rfl, k'.turn hm (by rw [List.length_range]; omega) (fun Q' q' => ?_) (fun H4 Q' q' => ⟨_, rfl, q'⟩)⟩
      exact ⟨_, rfl, _, rfl, _, rfl, tq, q, _, u, m, rfl, hd2.ex (e3.trans e), ex_sq (e13.trans e) hq, fun H4 e4 => ⟨_, rfl, q' H4 e4⟩⟩
    · intro H' k'
      rw [len_nats] at k'
      obtain ⟨k1, k2, k3⟩ := k'
      rw [List.take_length] at k3
      refine k Dl H' (fresh_of e13 hD) (e13.trans k2) ?_
      rw [k3]
      unfold candM
      rw [rows_len]
end
end Fw
set_option Elab.async false
set_option maxRecDepth 100000
set_option maxHeartbeats 4000000
namespace Fw
open PySem PySem.Spec PyProof.Rows L2 Fm
open Evl (Ex Ev EvL EvU EvT EvA RV RetL RetV)
open Vaskya (Sheet Measure Item)
theorem digs : ∀ n ∈ List.range 1001, (Nat.toDigits 10 n).map (fun c => ((UInt8.ofNat c.toNat).toNat : Int)) = (Nat.toDigits 10 n).map fun c => ((c.toNat : Nat) : Int) := by decide +kernel
theorem str_nat (n : Nat) : (toString n).toList = Nat.toDigits 10 n := by
  show (Nat.repr n).toList = _
  unfold Nat.repr
  simp
theorem str_int {v : Int} (h1 : -1000 ≤ v) (h2 : v ≤ 1000) : (toString v).toList.map (fun c => (c.toNat : Int)) = intCodes v := by
  unfold intCodes bytesI VaskyBase.showInt VaskyBase.showNat
  cases v with
  | ofNat m =>
    have hn : ¬ (Int.ofNat m < 0) := Int.not_lt.mpr (Int.natCast_nonneg m)
    rw [if_neg hn]
    show (toString m).toList.map _ = _
    rw [str_nat, List.map_map]
    exact (digs m (List.mem_range.mpr (by simp at h2; omega))).symm
  | negSucc m =>
    rw [if_pos (by omega)]
    show ("-" ++ toString (m + 1)).toList.map _ = _
    rw [String.toList_append, str_nat]
    have := digs (m + 1) (List.mem_range.mpr (by omega))
    show _ :: _ = _ :: _
    rw [List.map_map]
    congr 1
    exact this.symm
theorem int_log {v : Int} (h1 : -1000 ≤ v) (h2 : v ≤ 1000) : v.natAbs.log2 < 1920 := by
  by_cases h : v.natAbs = 0
  · rw [h]; decide
  · have : v.natAbs.log2 < 10 := (Nat.log2_lt h).mpr (by omega)
    omega
theorem codes_int {v : Int} (h1 : -1000 ≤ v) (h2 : v ≤ 1000) : codesOf (Str.ofString (toString v)) = intCodes v := by
  rw [← str_int h1 h2, Str.ofString_eq_toList]
  unfold codesOf
  show ((toString v).toList.map Char.toNat).toArray.toList.map _ = _
  rw [List.toList_toArray, List.map_map]
  rfl
theorem codes_words : codesOf (", " : Str) = [44, 32] ∧ codesOf ("measures " : Str) = codesI "measures " ∧ codesOf (" ;\n" : Str) = codesI " ;\n" ∧ codesOf ("item " : Str) = codesI "item " ∧ codesOf (" : " : Str) = codesI " : " ∧ codesOf (" up" : Str) = codesI " up" ∧ codesOf (" down" : Str) = codesI " down" := by decide +kernel
theorem size_int {v : Int} (h1 : -1000 ≤ v) (h2 : v ≤ 1000) : (Str.ofString (toString v)).cps.size ≤ 100000 := by
  have h := congrArg List.length (codes_int h1 h2)
  unfold codesOf at h
  rw [List.length_map, Array.length_toList] at h
  have := intCodes_len v h1 h2
  omega
theorem joinI_more {l : List (List Int)} {i : Nat} {x : List Int} (h : l[i]? = some x) : joinI (l.take (i + 1)) = if i = 0 then x else joinI (l.take i) ++ [44, 32] ++ x := by
  rw [take_more h, joinI_snoc]
  cases i with
  | zero => rfl
  | succ n =>
    have : (l.take (n + 1)).isEmpty = false := by
      cases l with
      | nil => simp at h
      | cons a l => rfl
    rw [this, if_neg (by decide), if_neg (by omega)]
theorem joinI_size {l : List (List Int)} (h1 : l.length ≤ 1000) (h2 : ∀ x ∈ l, x.length ≤ 10000) (n : Nat) : (joinI (l.take n)).length ≤ 10002000 := by
  have h := joinI_len 10000 (l.take n) fun x hx => h2 x (List.mem_of_mem_take hx)
  have : (l.take n).length ≤ 1000 := by rw [List.length_take]; omega
  have := Nat.mul_le_mul_right (10000 + 2) this
  omega
theorem iL_len (ns : List Int) : (iL ns).length = ns.length := List.length_map ..
section
variable {P : Program} {w : World} {K : PySem.W.Frag} {mg : Str → Option Value} {base : Heap} {a : Ads}
def sp_joined (K : PySem.W.Frag) (a : Ads) : Sp := fun vs H Q _ => ∃ (p : Addr) (ls : List (List Int)), vs = [.ref p] ∧ Da H (.ref p) (dLL ls) ∧ ls.length ≤ 1000 ∧ (∀ x ∈ ls, x.length ≤ 10000) ∧ RetL (iL (joinI ls)) H Q
theorem ok_joined (T : Txt K mg a) (c_codes : Cal P w K mg base CX0 1 "codes" (sp_codes K a)) : Cal P w K mg base CX0 2 "joined" (sp_joined K a) := by
  refine cal_of T.d_joined sc_joined (fun vs H Q E h => ?_) (fun f cdv A outer s H vs Q E hr h => ⟨_, (pss_cons (ps_set (i := 1) sc_joined.nd rfl (Or.inl rfl) (pe_lst pa_nil)) (pss_cons (ps_for PassesOwn.never rfl (pi_enum rfl T.b_enumerate (pa_cons (pv 0) pa_nil)) (pg_tup rfl (pgs_cons (pg_name (i := 2) sc_joined.nd rfl (Or.inl rfl)) (pgs_cons (pg_name (i := 3) sc_joined.nd rfl (Or.inl rfl)) pgs_nil))) (pss_cons (ps_if (pt_cmpR op_gt (pv 2) pe_int (nomark _)) (pss_one (ps_expr (pe_bm PySem.F.plainAttrs_list PySem.F.slot_list_extend PySem.F.type_list_extend mt_extend (pv 1) (pa_cons (pe_c c_codes hr pass0 (pa_cons pe_str pa_nil)) pa_nil)))) pss_nil) (pss_one (ps_expr (pe_bm PySem.F.plainAttrs_list PySem.F.slot_list_extend PySem.F.type_list_extend mt_extend (pv 1) (pa_cons (pv 3) pa_nil)))))) (pss_one (ps_ret (pv 1))))), ?_⟩)
  · obtain ⟨_, _, rfl, _⟩ := h
    rfl
  · obtain ⟨p, ls, rfl, hp, hls, hlx, k⟩ := h
    obtain ⟨xs, hpx, hxl, hget⟩ := dLL_da hp
    refine ⟨by show 0 ≤ sizeLine; decide, fun L hL => ?_⟩
    refine ⟨_, rfl, p, xs, rfl, sq (ex_new hL _ _ hpx), for_it (walk_enum (K := K) (a := p) (xs := xs)) (fun i σ' H' => ∃ x2 x3, σ' = [some (.ref p), some (.ref L), x2, x3] ∧ Ex H (rm H' L) ∧ H' L = some (.lst (iL (joinI (ls.take i))))) ⟨none, none, rfl, ex_rm (ex_new hL) hL, upd_same⟩ (fun i σ' H' _ ⟨_, _, _, e, _⟩ => sq (rm_rm_ex e _ _ hpx)) ?_ ?_⟩
    · rintro i v σ' H' H2 hi ⟨x2, x3, rfl, e, hL'⟩ ⟨T1, x, y, rfl, hT, rfl, hx, hy⟩
      cases hx
      have hc : ls[i]? = some (ls[i]'(by omega)) := List.getElem?_eq_getElem _
      generalize ls[i]'(by omega) = ns at hc
      obtain ⟨q, hq1, hq2⟩ := hget i ns hc
      dsimp only at hy
      rw [hy] at hq1
      cases hq1
      have hns : ns.length ≤ 10000 := hlx _ (List.mem_of_getElem? hc)
      have hTL : T1 ≠ L := fun z => by rw [z, hL'] at hT; cases hT
      have hTL2 : L ≠ T1 := Ne.symm hTL
      have eT := ex_new (o := .tup [.int (i : Nat), .ref q]) hT
      have hqL : q ≠ L := fun z => by rw [z, hL] at hq2; cases hq2
      refine ⟨T1, _, rfl, st upd_same, rfl, _, _, rfl, _, _, rfl, rfl, ?_⟩
      have go : ∀ (D : Ends) (line : List Int) (H3 : Hp), line.length ≤ 10002002 → H3 L = some (.lst (iL line)) → Ex H (rm H3 L) → line ++ ns = joinI (ls.take (i + 1)) →
          (∀ σ' H', (∃ x2 x3, σ' = [some (.ref p), some (.ref L), x2, x3] ∧ Ex H (rm H' L) ∧ H' L = some (.lst (iL (joinI (ls.take (i + 1)))))) → D.nx σ' H') →
          (tDrop (tBM K "list" rExtend (tVar 1) (tCons (tVar 3) tNil))) D [some (.ref p), some (.ref L), some (.int (i : Nat)), some (.ref q)] H3 := by
        intro D line H3 hl h3 e3 hline fin
        refine ⟨_, rfl, .inl ⟨rfl, _, sq h3⟩, _, rfl, L, q, _, _, rfl, rfl, h3, rm_rm_ex e3 _ _ hq2, ?_, ?_⟩
        · rw [iL_len, iL_len]
          exact sz (by omega)
        · refine fin _ _ ⟨_, _, rfl, by rw [rm_upd]; exact e3, ?_⟩
          rw [upd_same, ← iL_app, hline]
      have hT3 : Ex H (rm (upd H' T1 (.tup [.int (i : Nat), .ref q])) L) := e.trans (rm_ex eT)
      refine ⟨_, rfl, _, _, rfl, rfl, _, rfl, ite_b (fun hc0 => ?_) (fun hc0 => ?_)⟩
      · have hi0 := of_decide_eq_true hc0
        refine ⟨_, rfl, .inl ⟨rfl, _, sq (eT _ _ hL')⟩, (", " : Str), rfl, (by decide +kernel), fun c H4 hc4 e4 h4 => ?_⟩
        rw [codes_words.1] at h4
        have hcL : c ≠ L := fun z => by rw [z, eT _ _ hL'] at hc4; cases hc4
        refine ⟨L, c, _, _, rfl, rfl, e4 _ _ (eT _ _ hL'), h4, ?_, ?_⟩
        · have := joinI_size hls hlx i
          rw [iL_len, iL_len]
          exact sz (by show _ + 2 ≤ _; omega)
        refine go _ (joinI (ls.take i) ++ [44, 32]) _ ?_ (by rw [upd_same, iL_app]) ?_ ?_ ?_
        · have := joinI_size hls hlx i
          rw [List.length_append]
          show _ + 2 ≤ _
          omega
        · rw [rm_upd]
          exact hT3.trans (rm_ex e4)
        · rw [joinI_more hc, if_neg (by omega)]
        · exact fun _ _ h => h
      · have hi0 := of_decide_eq_false hc0
        have i0 : i = 0 := by omega
        refine go _ (joinI (ls.take i)) _ ?_ (eT _ _ hL') hT3 ?_ ?_
        · have := joinI_size hls hlx i
          omega
        · rw [joinI_more hc, if_pos i0, i0]
          rfl
        · exact fun _ _ h => h
    · rintro σ' H' ⟨x2, x3, rfl, e, hL'⟩
      rw [hxl, List.take_length] at hL'
      exact ⟨_, rfl, k L H' hL (rm_rm_ex e) hL'⟩
def sp_measure_part (K : PySem.W.Frag) (a : Ads) : Sp := fun vs H Q _ => ∃ (q : Addr) (m : Measure), vs = [.ref q, .bl m.up] ∧ H q = some (.lst (iL (bytesI m.name))) ∧ m.name.length ≤ 10000 ∧ RetL (iL (measurePart m)) H Q
theorem ok_measure_part (T : Txt K mg a) (c_codes : Cal P w K mg base CX0 1 "codes" (sp_codes K a)) : Cal P w K mg base CX0 2 "measure_part" (sp_measure_part K a) := by
  refine cal_of T.d_measure_part sc_measure_part (fun vs H Q E h => ?_) (fun f cdv A outer s H vs Q E hr h => ⟨_, (pss_cons (ps_if (pt_val (pv 1)) (pss_one (ps_ret (pe_op op_cat (pv 0) (pe_c c_codes hr pass0 (pa_cons pe_str pa_nil))))) pss_nil) (pss_one (ps_ret (pe_op op_cat (pv 0) (pe_c c_codes hr pass0 (pa_cons pe_str pa_nil)))))), ?_⟩)
  · obtain ⟨_, _, rfl, _⟩ := h
    rfl
  · obtain ⟨q, m, rfl, hq, hl, k⟩ := h
    unfold measurePart at k
    refine ⟨_, rfl, _, rfl, ite_b (fun c => ?_) (fun c => ?_)⟩
    · rw [if_pos c] at k
      refine ⟨_, rfl, (" up" : Str), rfl, (by decide +kernel), fun p1 H1 n1 e1 h1 => ⟨q, p1, _, _, rfl, rfl, e1 _ _ hq, h1, ?_, fun r hr => ?_⟩⟩
      · rw [iL_len, iL_len, bytesI_len]
        exact sz (by have : (codesOf (" up" : Str)).length ≤ 10 := by decide +kernel
                     omega)
      · rw [codes_words.2.2.2.2.2.1, ← iL_app]
        exact k r _ (fresh_of e1 hr) (e1.trans (ex_new hr)) upd_same
    · rw [if_neg (by rw [c]; decide)] at k
      refine ⟨_, rfl, (" down" : Str), rfl, (by decide +kernel), fun p1 H1 n1 e1 h1 => ⟨q, p1, _, _, rfl, rfl, e1 _ _ hq, h1, ?_, fun r hr => ?_⟩⟩
      · rw [iL_len, iL_len, bytesI_len]
        exact sz (by have : (codesOf (" down" : Str)).length ≤ 10 := by decide +kernel
                     omega)
      · rw [codes_words.2.2.2.2.2.2, ← iL_app]
        exact k r _ (fresh_of e1 hr) (e1.trans (ex_new hr)) upd_same
/-- a + b of two lists -/
theorem cat_go {H H1 H2 : Hp} {Q : VK} {r1 r2 : Addr} {xs ys zs : List Int} (e : Ex H H2) (h1 : H2 r1 = some (.lst (iL xs))) (h2 : H2 r2 = some (.lst (iL ys))) (hz : xs.length + ys.length ≤ 16000000) (hzs : zs = xs ++ ys)
    (k : RetL (iL zs) H Q) : rCat (.ref r1) (.ref r2) H2 Q := by
  refine ⟨r1, r2, _, _, rfl, rfl, h1, h2, by rw [iL_len, iL_len]; exact sz hz, fun p hp => ?_⟩
  rw [← iL_app, ← hzs]
  exact k p _ (fresh_of e hp) (e.trans (ex_new hp)) upd_same
def sp_measures_line (K : PySem.W.Frag) (a : Ads) : Sp := fun vs H Q _ => ∃ (p : Addr) (s : Sheet), vs = [.ref p] ∧ HeldAt a H p s ∧ RetL (iL (measuresLine s)) H Q
theorem ok_measures_line (T : Txt K mg a) (c_measure_part : Cal P w K mg base CX0 2 "measure_part" (sp_measure_part K a)) (c_codes : Cal P w K mg base CX0 1 "codes" (sp_codes K a)) (c_joined : Cal P w K mg base CX0 2 "joined" (sp_joined K a)) : Cal P w K mg base CX0 3 "measures_line" (sp_measures_line K a) := by
  refine cal_of T.d_measures_line sc_measures_line (fun vs H Q E h => ?_) (fun f cdv A outer s H vs Q E hr h => ⟨_, (pss_cons (ps_setLc (i := 1) (own := [("name", 2), ("up", 3)]) (g := gTup K 2 (gCons (gName 2) (gCons (gName 3) gNil))) (tt := tYes) (te := (tCall (sp_measure_part K a) [] E0 (tCons (tVar 2) (tCons (tVar 3) tNil)))) rfl sc_measures_line.nd rfl rfl (sw_true rfl rfl rfl (by decide +kernel)) (pi_zip rfl T.b_zip (pa_cons (pe_fld (pv 0) rfl) (pa_cons (pe_fld (pv 0) rfl) pa_nil))) (blkOk_by (N := N_measures_line) (sc := (defScope s_measures_line)) (by decide +kernel)) (fun _ _ _ _ _ => (pg_tup rfl (pgs_cons (pg_name (i := 2) sc_measures_line.nd rfl (Or.inl rfl)) (pgs_cons (pg_name (i := 3) sc_measures_line.nd rfl (Or.inl rfl)) pgs_nil)))) (fun _ _ _ _ _ => pts_nil) (fun _ _ _ _ _ => (pe_c c_measure_part hr pass0 (pa_cons (pv 2) (pa_cons (pv 3) pa_nil))))) (pss_one (ps_ret (pe_op op_cat (pe_op op_cat (pe_c c_codes hr pass0 (pa_cons pe_str pa_nil)) (pe_c c_joined hr pass0 (pa_cons (pv 1) pa_nil))) (pe_c c_codes hr pass0 (pa_cons pe_str pa_nil)))))), ?_⟩)
  · obtain ⟨_, _, rfl, _⟩ := h
    rfl
  · obtain ⟨p, sh, rfl, hh, k⟩ := h
    obtain ⟨⟨dx, r1, r2, r3, r4, h0, hm, hups, hin, hro⟩, wf⟩ := id hh
    obtain ⟨xs, hx, hxl, hxg⟩ := dLL_da hm
    obtain ⟨qu, equ, hu⟩ := dB_da hups
    cases equ
    rw [List.length_map] at hxl
    have hn4 := wf.ms.2
    refine ⟨_, rfl, p, _, dx, _, _, rfl, h0, T.cl_held, T.na_held_measure_names, hf_mn, _, rfl, p, _, dx, _, _, rfl, h0, T.cl_held, T.na_held_ups, hf_up, r1, r2, _, _, rfl, sq hx, sq hu, fun Dl hD => ?_⟩
    refine lc_it (walk_zip (K := K) (a := r1) (b := r2) (n := sh.ms.length) (by rw [hxl, List.length_map, List.length_map, Nat.min_self])) (fun i H' => ∃ ys, H' Dl = some (.lst ys) ∧ Ex H (rm H' Dl) ∧ DaL (rm H' Dl) ys (((sh.ms.map measurePart).take i).map dI))
      ⟨[], upd_same, ex_rm (ex_new hD) hD, .nil⟩ (fun i H' _ ⟨_, _, e, _⟩ => ⟨sq (rm_rm_ex e _ _ hx), sq (rm_rm_ex e _ _ hu)⟩) ?_ ?_
    · rintro i v H' H2 hi ⟨ys, h3, e3, hys⟩ ⟨T1, x, y, rfl, hT, rfl, hx1, hy1⟩
      have hc : sh.ms[i]? = some (sh.ms[i]) := List.getElem?_eq_getElem hi
      have hmem := List.mem_of_getElem? hc
      generalize sh.ms[i] = m at hc hmem
      obtain ⟨q, hq1, hq2⟩ := hxg i (bytesI m.name) (by rw [List.getElem?_map, hc]; rfl)
      dsimp only at hx1 hy1
      rw [hx1] at hq1
      cases hq1
      rw [List.getElem?_map, List.getElem?_map, hc] at hy1
      cases hy1
      have hTL : T1 ≠ Dl := fun z => by rw [z, h3] at hT; cases hT
      have eT := ex_new (o := .tup [.ref q, .bl m.up]) hT
      refine ⟨T1, _, rfl, st upd_same, rfl, _, _, rfl, _, _, rfl, rfl, rfl, ?_⟩
      refine ⟨_, rfl, _, rfl, q, m, rfl, eT _ _ (rm_rm_ex e3 _ _ hq2), by have := wf.mnames m hmem; omega, fun r H4 hr4 e4 h4 => ?_⟩
      have hrD : r ≠ Dl := fun z => by rw [z, eT _ _ h3] at hr4; cases hr4
      have hlen : ys.length ≤ 4 := by rw [hys.len, List.length_map, List.length_take, List.length_map]; omega
      have e5 : Ex (rm H' Dl) (rm (upd H4 Dl (.lst (ys ++ [.ref r]))) Dl) := by
        rw [rm_upd]
        exact rm_ex (eT.trans e4)
      refine ⟨ys, e4 _ _ (eT _ _ h3), szl (by omega), ys ++ [.ref r], upd_same, e3.trans e5, ?_⟩
      rw [take_more (x := measurePart m) (by rw [List.getElem?_map, hc]; rfl), List.map_append]
      refine (hys.ex e5).snoc (da_dI ?_)
      rw [rm_ne hrD, upd_ne hrD]
      exact h4
    · rintro H3 ⟨ys, h3, e3, hys⟩
      have et : (sh.ms.map measurePart).take sh.ms.length = sh.ms.map measurePart := List.take_of_length_le (by rw [List.length_map]; exact Nat.le_refl _)
      rw [et] at hys
      have hd : Da H3 (.ref Dl) (dLL (sh.ms.map measurePart)) := .l h3 (hys.ex rm_sub)
      have eH3 := rm_rm_ex e3
      have hj : (joinI (sh.ms.map measurePart)).length ≤ 20000 := by
        have h := joinI_len 4101 (sh.ms.map measurePart) fun x hx => by
          rw [List.mem_map] at hx
          obtain ⟨m, hm, rfl⟩ := hx
          exact measurePart_len wf hm
        rw [List.length_map] at h
        have : sh.ms.length * (4101 + 2) ≤ 4 * 4103 := Nat.mul_le_mul_right _ hn4
        omega
      have w1 : (codesI "measures ").length = 9 := by decide
      have w2 : (codesI " ;\n").length = 3 := by decide
      refine ⟨("measures " : Str), rfl, (by decide +kernel), fun c1 H4 n4 e4 h4 => ?_⟩
      rw [codes_words.2.1] at h4
      refine ⟨_, rfl, Dl, sh.ms.map measurePart, rfl, hd.ex e4, by rw [List.length_map]; omega, fun x hx => ?_, fun c2 H5 n5 e5 h5 => ?_⟩
      · rw [List.mem_map] at hx
        obtain ⟨m, hm, rfl⟩ := hx
        have := measurePart_len wf hm
        omega
      refine cat_go (H := H5) (H1 := H5) (zs := codesI "measures " ++ joinI (sh.ms.map measurePart)) (Ex.refl _) (e5 _ _ h4) h5 (by omega) rfl fun c3 H6 n6 e6 h6 => ?_
      refine ⟨(" ;\n" : Str), rfl, (by decide +kernel), fun c4 H7 n7 e7 h7 => ?_⟩
      rw [codes_words.2.2.1] at h7
      refine cat_go (H := H) (H1 := H) ((eH3.trans e4).trans (e5.trans (e6.trans e7))) (e7 _ _ h6) h7 (by rw [List.length_append]; omega) rfl k
def sp_item_line (K : PySem.W.Frag) (a : Ads) : Sp := fun vs H Q _ => ∃ (q r : Addr) (it : Item), vs = [.ref q, .ref r] ∧ H q = some (.lst (iL (bytesI it.name))) ∧ H r = some (.lst (iL it.vs)) ∧ it.name.length ≤ 4096 ∧ it.vs.length ≤ 4 ∧ (∀ v ∈ it.vs, -1000 ≤ v ∧ v ≤ 1000) ∧ RetL (iL (itemLine it)) H Q
theorem ok_item_line (T : Txt K mg a) (c_codes : Cal P w K mg base CX0 1 "codes" (sp_codes K a)) (c_joined : Cal P w K mg base CX0 2 "joined" (sp_joined K a)) : Cal P w K mg base CX0 3 "item_line" (sp_item_line K a) := by
  refine cal_of T.d_item_line sc_item_line (fun vs H Q E h => ?_) (fun f cdv A outer s H vs Q E hr h => ⟨_, (pss_cons (ps_setLc (i := 2) (own := [("value", 3)]) (g := gName 3) (tt := tYes) (te := (tCall (sp_codes K a) [] E0 (tCons (tCB (fun xs H Q => ∃ i, xs = [.int i] ∧ i.natAbs.log2 < 1920 ∧ Q (.str (toString i)) H) (tCons (tVar 3) tNil)) tNil))) rfl sc_item_line.nd rfl rfl (sw_true rfl rfl rfl (by decide +kernel)) (pi_list (pv 1)) (blkOk_by (N := N_item_line) (sc := (defScope s_item_line)) (by decide +kernel)) (fun _ _ _ _ _ => (pg_name (i := 3) sc_item_line.nd rfl (Or.inl rfl))) (fun _ _ _ _ _ => pts_nil) (fun _ _ _ _ _ => (pe_c c_codes hr pass0 (pa_cons (pe_callTy call_str_int rfl T.b_str (by decide +kernel) (pa_cons (pv 3) pa_nil)) pa_nil)))) (pss_one (ps_ret (pe_op op_cat (pe_op op_cat (pe_op op_cat (pe_op op_cat (pe_c c_codes hr pass0 (pa_cons pe_str pa_nil)) (pv 0)) (pe_c c_codes hr pass0 (pa_cons pe_str pa_nil))) (pe_c c_joined hr pass0 (pa_cons (pv 2) pa_nil))) (pe_c c_codes hr pass0 (pa_cons pe_str pa_nil)))))), ?_⟩)
  · obtain ⟨_, _, _, rfl, _⟩ := h
    rfl
  · obtain ⟨q, r, it, rfl, hq, hr0, hnl, hvl, hvs, k⟩ := h
    refine ⟨_, rfl, r, rfl, ⟨_, sq hr0⟩, fun Dl hD => ?_⟩
    refine lc_list (K := K) (a := r) (xs := iL it.vs) (fun i H' => ∃ ys, H' Dl = some (.lst ys) ∧ Ex H (rm H' Dl) ∧ DaL (rm H' Dl) ys (((it.vs.map intCodes).take i).map dI))
      ⟨[], upd_same, ex_rm (ex_new hD) hD, .nil⟩ (fun i H' _ ⟨_, _, e, _⟩ => sq (rm_rm_ex e _ _ hr0)) ?_ ?_
    · rintro i v H' hi ⟨ys, h3, e3, hys⟩
      obtain ⟨z, hz, rfl⟩ := iL_at hi
      have hil := (List.getElem?_eq_some_iff.mp hz).1
      obtain ⟨z1, z2⟩ := hvs z (List.mem_of_getElem? hz)
      refine ⟨rfl, ?_⟩
      refine ⟨_, rfl, z, rfl, int_log z1 z2, _, rfl, size_int z1 z2, fun r' H4 hr4 e4 h4 => ?_⟩
      rw [codes_int z1 z2] at h4
      have hrD : r' ≠ Dl := fun z => by rw [z, h3] at hr4; cases hr4
      have hlen : ys.length ≤ 4 := by rw [hys.len, List.length_map, List.length_take, List.length_map]; omega
      have e5 : Ex (rm H' Dl) (rm (upd H4 Dl (.lst (ys ++ [.ref r']))) Dl) := by
        rw [rm_upd]
        exact rm_ex e4
      refine ⟨ys, e4 _ _ h3, szl (by omega), ys ++ [.ref r'], upd_same, e3.trans e5, ?_⟩
      rw [take_more (x := intCodes z) (by rw [List.getElem?_map, hz]; rfl), List.map_append]
      refine (hys.ex e5).snoc (da_dI ?_)
      rw [rm_ne hrD, upd_ne hrD]
      exact h4
    · rintro H3 ⟨ys, h3, e3, hys⟩
      have et : (it.vs.map intCodes).take (iL it.vs).length = it.vs.map intCodes := List.take_of_length_le (by rw [List.length_map, List.length_map]; exact Nat.le_refl _)
      rw [et] at hys
      have hd : Da H3 (.ref Dl) (dLL (it.vs.map intCodes)) := .l h3 (hys.ex rm_sub)
      have eH3 := rm_rm_ex e3
      have hcl : ∀ x ∈ it.vs.map intCodes, x.length ≤ 5 := fun x hx => by
        rw [List.mem_map] at hx
        obtain ⟨v, hv, rfl⟩ := hx
        obtain ⟨v1, v2⟩ := hvs v hv
        exact intCodes_len v v1 v2
      have hj : (joinI (it.vs.map intCodes)).length ≤ 28 := by
        have h := joinI_len 5 (it.vs.map intCodes) hcl
        rw [List.length_map] at h
        have : it.vs.length * (5 + 2) ≤ 4 * 7 := Nat.mul_le_mul_right _ hvl
        omega
      have w1 : (codesI "item ").length = 5 := by decide
      have w2 : (codesI " ;\n").length = 3 := by decide
      have w3 : (codesI " : ").length = 3 := by decide
      have wn := bytesI_len it.name
      refine ⟨("item " : Str), rfl, (by decide +kernel), fun c1 H4 n4 e4 h4 => ?_⟩
      rw [codes_words.2.2.2.1] at h4
      refine ⟨_, rfl, ?_⟩
      refine cat_go (H := H4) (H1 := H4) (zs := codesI "item " ++ bytesI it.name) (Ex.refl _) h4 (e4 _ _ (eH3 _ _ hq)) (by omega) rfl fun c2 H5 n5 e5 h5 => ?_
      refine ⟨(" : " : Str), rfl, (by decide +kernel), fun c3 H6 n6 e6 h6 => ?_⟩
      rw [codes_words.2.2.2.2.1] at h6
      refine cat_go (H := H6) (H1 := H6) (zs := codesI "item " ++ bytesI it.name ++ codesI " : ") (Ex.refl _) (e6 _ _ h5) h6 (by rw [List.length_append]; omega) rfl fun c4 H7 n7 e7 h7 => ?_
      refine ⟨_, rfl, Dl, it.vs.map intCodes, rfl, hd.ex (e4.trans (e5.trans (e6.trans e7))), by rw [List.length_map]; omega, fun x hx => by have := hcl x hx; omega, fun c5 H8 n8 e8 h8 => ?_⟩
      refine cat_go (H := H8) (H1 := H8) (zs := codesI "item " ++ bytesI it.name ++ codesI " : " ++ joinI (it.vs.map intCodes)) (Ex.refl _) (e8 _ _ h7) h8 (by simp only [List.length_append]; omega) rfl fun c6 H9 n9 e9 h9 => ?_
      refine ⟨(" ;\n" : Str), rfl, (by decide +kernel), fun c7 H10 n10 e10 h10 => ?_⟩
      rw [codes_words.2.2.1] at h10
      exact cat_go (H := H) (H1 := H) ((eH3.trans e4).trans ((e5.trans (e6.trans e7)).trans (e8.trans (e9.trans e10)))) (e10 _ _ h9) h10 (by simp only [List.length_append]; omega) rfl k
def sp_one_form (K : PySem.W.Frag) (a : Ads) : Sp := fun vs H Q _ => ∃ (p : Addr) (s : Sheet), vs = [.ref p] ∧ HeldAt a H p s ∧ RetL (iL (oneForm s)) H Q
theorem one_size {s : Sheet} (wf : WF s) (n : Nat) : ((s.items.take n).flatMap itemLine).length ≤ 16 * 4200 := by
  have h : ((s.items.take n).flatMap itemLine).length ≤ (s.items.take n).length * 4200 := flatMap_len fun y hy => itemLine_len wf (List.mem_of_mem_take hy)
  have : (s.items.take n).length ≤ 16 := by rw [List.length_take]; have := wf.items; omega
  have := Nat.mul_le_mul_right 4200 this
  omega
theorem ok_one_form (T : Txt K mg a) (c_measures_line : Cal P w K mg base CX0 3 "measures_line" (sp_measures_line K a)) (c_item_line : Cal P w K mg base CX0 3 "item_line" (sp_item_line K a)) : Cal P w K mg base CX0 4 "one_form" (sp_one_form K a) := by
  refine cal_of T.d_one_form sc_one_form (fun vs H Q E h => ?_) (fun f cdv A outer s H vs Q E hr h => ⟨_, (pss_cons (ps_set (i := 1) sc_one_form.nd rfl (Or.inl rfl) (pe_c c_measures_line hr pass0 (pa_cons (pv 0) pa_nil))) (pss_cons (ps_for PassesOwn.never rfl (pi_zip rfl T.b_zip (pa_cons (pe_fld (pv 0) rfl) (pa_cons (pe_fld (pv 0) rfl) pa_nil))) (pg_tup rfl (pgs_cons (pg_name (i := 2) sc_one_form.nd rfl (Or.inl rfl)) (pgs_cons (pg_name (i := 3) sc_one_form.nd rfl (Or.inl rfl)) pgs_nil))) (pss_one (ps_expr (pe_bm PySem.F.plainAttrs_list PySem.F.slot_list_extend PySem.F.type_list_extend mt_extend (pv 1) (pa_cons (pe_c c_item_line hr pass0 (pa_cons (pv 2) (pa_cons (pv 3) pa_nil))) pa_nil))))) (pss_one (ps_ret (pv 1))))), ?_⟩)
  · obtain ⟨_, _, rfl, _⟩ := h
    rfl
  · obtain ⟨p, sh, rfl, hh, k⟩ := h
    refine ⟨_, rfl, p, sh, rfl, hh, fun L H1 hL e1 h1 => ?_⟩
    obtain ⟨⟨dx, r1, r2, r3, r4, h0, hm, hups, hin, hro⟩, wf⟩ := id (hh.mono e1)
    obtain ⟨xs, hx, hxl, hxg⟩ := dLL_da hin
    obtain ⟨zs, hz, hzl, hzg⟩ := dLL_da hro
    rw [List.length_map] at hxl hzl
    have hL1 : ∀ {b : Addr} {o : HO}, H1 b = some o → (∀ ns, o ≠ .lst (iL ns) ∨ H b ≠ none) → True := fun _ _ => trivial
    obtain ⟨⟨dx', q1, q2, q3, q4, g0, gm, gups, gin, gro⟩, _⟩ := id hh
    have eqi := (e1 _ _ g0).symm.trans h0
    injection eqi with eqi
    injection eqi with _ eqd eqf
    unfold heldF at eqf
    injection eqf with ea eqf
    injection eqf with eb eqf
    injection eqf with ec eqf
    injection eqf with ed eqf
    injection ec with _ ec
    injection ed with _ ed
    injection ec with ec
    injection ed with ed
    subst ec ed
    obtain ⟨xs', hx', hxl', hxg'⟩ := dLL_da gin
    obtain ⟨zs', hz', hzl', hzg'⟩ := dLL_da gro
    rw [List.length_map] at hxl' hzl'
    have e0 : Ex H (rm H1 L) := ex_rm e1 hL
    refine ⟨_, rfl, p, _, dx, _, _, rfl, h0, T.cl_held, T.na_held_item_names, hf_in, _, rfl, p, _, dx, _, _, rfl, h0, T.cl_held, T.na_held_rows, hf_ro, q3, q4, _, _, rfl, sq (e1 _ _ hx'), sq (e1 _ _ hz'), ?_⟩
    refine for_it (walk_zip (K := K) (a := q3) (b := q4) (xs := xs') (ys := zs') (n := sh.items.length) (by rw [hxl', hzl', Nat.min_self])) (fun i σ' H' => ∃ x2 x3, σ' = [some (.ref p), some (.ref L), x2, x3] ∧ Ex H (rm H' L) ∧ H' L = some (.lst (iL (measuresLine sh ++ (sh.items.take i).flatMap itemLine))))
      ⟨none, none, rfl, e0, by rw [List.take_zero, List.flatMap_nil, List.append_nil]; exact h1⟩ (fun i σ' H' _ ⟨_, _, _, e, _⟩ => ⟨sq (rm_rm_ex e _ _ hx'), sq (rm_rm_ex e _ _ hz')⟩) ?_ ?_
    · rintro i v σ' H' H2 hi ⟨x2, x3, rfl, e, hL'⟩ ⟨T1, x, y, rfl, hT, rfl, hx1, hy1⟩
      have hc : sh.items[i]? = some (sh.items[i]) := List.getElem?_eq_getElem hi
      have hmem := List.mem_of_getElem? hc
      generalize sh.items[i] = it at hc hmem
      obtain ⟨q, hq1, hq2⟩ := hxg' i (bytesI it.name) (by rw [List.getElem?_map, hc]; rfl)
      dsimp only at hx1 hy1
      rw [hx1] at hq1
      cases hq1
      obtain ⟨r, hr1, hr2⟩ := hzg' i it.vs (by rw [List.getElem?_map, hc]; rfl)
      rw [hy1] at hr1
      cases hr1
      have hTL : T1 ≠ L := fun z => by rw [z, hL'] at hT; cases hT
      have eT := ex_new (o := .tup [.ref q, .ref r]) hT
      have eH := (rm_rm_ex e).trans eT
      refine ⟨T1, _, rfl, st upd_same, rfl, _, _, rfl, _, _, rfl, rfl, ?_⟩
      refine ⟨_, rfl, .inl ⟨rfl, _, sq (eT _ _ hL')⟩, _, rfl, _, rfl, q, r, it, rfl, eH _ _ hq2, eH _ _ hr2, wf.inames it hmem, by rw [wf.rows it hmem]; exact wf.ms.2, wf.vals it hmem, fun c H4 hc4 e4 h4 => ?_⟩
      refine ⟨L, c, _, _, rfl, rfl, e4 _ _ (eT _ _ hL'), h4, ?_, ?_⟩
      · rw [iL_len, iL_len, List.length_append]
        have := one_size wf i
        have := measuresLine_len wf
        have := itemLine_len wf hmem
        exact sz (by omega)
      · refine ⟨_, _, rfl, ?_, ?_⟩
        · rw [rm_upd]
          exact e.trans (rm_ex (eT.trans e4))
        · rw [upd_same, ← iL_app, flatMap_more hc, List.append_assoc]
    · rintro σ' H' ⟨x2, x3, rfl, e, hL'⟩
      rw [List.take_length] at hL'
      exact ⟨_, rfl, k L H' hL (rm_rm_ex e) hL'⟩
end
end Fw
set_option Elab.async false
set_option maxRecDepth 100000
set_option maxHeartbeats 4000000
namespace Fw
open PySem PySem.Spec PyProof.Rows L2
open Evl (Ex Ev EvL EvU EvT EvA RV RetL RetV)
/-- three lists side by side, the items in new triples -/
def Itz3 (K : PySem.W.Frag) (a b c : Addr) : It :=
  ⟨fun i H => ∃ (xs ys zs : List V) (x y z : V), SqL K H a xs ∧ SqL K H b ys ∧ SqL K H c zs ∧ xs[i]? = some x ∧ ys[i]? = some y ∧ zs[i]? = some z,
    fun i H v H' => ∃ T x y z, v = .ref T ∧ H T = none ∧ H' = upd H T (.tup [x, y, z]) ∧ (∀ xs, SqL K H a xs → xs[i]? = some x) ∧ (∀ ys, SqL K H b ys → ys[i]? = some y) ∧ ∀ zs, SqL K H c zs → zs[i]? = some z,
    fun i H => ∃ xs ys zs : List V, SqL K H a xs ∧ SqL K H b ys ∧ SqL K H c zs ∧ i = min (min xs.length ys.length) zs.length⟩
/-- the three iterators, the zip and its two tuples stand -/
def Three (z TI TO i1 i2 i3 a b c : Addr) (i : Nat) (h : Heap) : Prop :=
  IsZip h z TI TO .none ∧ IsTupOf3 h TI (.ref i1) (.ref i2) (.ref i3) ∧ (∃ x y u, IsTupOf3 h TO x y u) ∧ h.IsListIter i1 a i ∧ h.IsListIter i2 b i ∧ h.IsListIter i3 c i
theorem mem_six {α : Type} {d z t o p q r : α} (h : d ∈ [z, t, o, p, q, r]) : d = z ∨ d = t ∨ d = o ∨ d = p ∨ d = q ∨ d = r := by simpa using h
theorem same_at {its : List Value} {i : Nat} {w u : Value} (h1 : its.toArray[i]? = some w) (h2 : its[i]? = some u) : w = u := by
  have h3 : its[i]? = some w := by simpa using h1
  exact Option.some.inj (h3.symm.trans h2)
theorem turn_zip3 {P : Program} {w : World} {K : PySem.W.Frag} {elts : List Expr} {kk : Nat} {tpos : Pos} {a b c z TI TO i1 i2 i3 : Addr} (S : ZipSep3 z TI TO i1 i2 i3 [i1, a] [i2, b] [i3, c]) (n1 : a ≠ i1) (n2 : b ≠ i2) (n3 : c ≠ i3) :
    Turn P w K (.Tuple elts kk tpos) (Itz3 K a b c) [z, TI, TO, i1, i2, i3] z (Three z TI TO i1 i2 i3 a b c) where
  mem := List.mem_cons_self ..
  obj := fun i h ⟨hz, hi, ⟨_, _, _, ho⟩, ⟨o1, e1, _, d1⟩, ⟨o2, e2, _, d2⟩, ⟨o3, e3, _, d3⟩⟩ d hd => by
    rcases mem_six hd with rfl | rfl | rfl | rfl | rfl | rfl
    · exact ⟨_, hz, fun _ => nofun⟩
    · exact ⟨_, hi, fun _ => nofun⟩
    · exact ⟨_, ho, fun _ => nofun⟩
    · exact ⟨o1, e1, fun v => by rw [d1]; exact nofun⟩
    · exact ⟨o2, e2, fun v => by rw [d2]; exact nofun⟩
    · exact ⟨o3, e3, fun v => by rw [d3]; exact nofun⟩
  keep := fun i h h' ⟨hz, hi, ⟨x, y, u, ho⟩, it1, it2, it3⟩ k =>
    ⟨k z (by simp) _ hz, k TI (by simp) _ hi, ⟨x, y, u, k TO (by simp) _ ho⟩, it1.at (k i1 (by simp)), it2.at (k i2 (by simp)), it3.at (k i3 (by simp))⟩
  item := by
    rintro X rfl rfl rfl calm i pins s σ H E inv fresh ⟨hz, hi, ⟨_, _, _, ho⟩, it1, it2, it3⟩ ⟨xs, ys, zs, x, y, v, qx, qy, qz, hx, hy, hv⟩
    obtain ⟨l1, r1, p1, _⟩ := inv.list qx
    obtain ⟨l2, r2, p2, _⟩ := inv.list qy
    obtain ⟨l3, r3, p3, _⟩ := inv.list qz
    obtain ⟨u1, g1, ru1⟩ := r1.get hx
    obtain ⟨u2, g2, ru2⟩ := r2.get hy
    obtain ⟨u3, g3, ru3⟩ := r3.get hv
    have no : X.A.in1.handled = none := inv.ok.hd calm
    have zs' : z < s.heap.objs.size := Heap.lt_size hz
    have lt : ∀ {l : List Value} {u : Value}, l[i]? = some u → i < l.toArray.size := fun g => by simpa using (List.getElem?_eq_some_iff.mp g).1
    refine wpAny_pyNext_zipD3_item S (Draws.list no i1 a n1 l1.toArray) (Draws.list no i2 b n2 l2.toArray) (Draws.list no i3 c n3 l3.toArray) hz hi ho ⟨it1, p1.isList⟩ ⟨it2, p2.isList⟩ ⟨it3, p3.isList⟩ (lt g1) (lt g2) (lt g3)
      fun w1 w2 w3 h1 tk hw1 hw2 hw3 zz oo s1 s2 s3 hT _ rest => ?_
    obtain rfl := same_at hw1 g1
    obtain rfl := same_at hw2 g2
    obtain rfl := same_at hw3 g3
    refine ⟨_, rfl, wpAny_letOwnedTupleGo_zip (s := { s with heap := h1, toks := tk }) zz fun h2 z2 sb => ?_⟩
    have hT2 : h2.get? s.heap.objs.size = some { cls := .type "tuple", data := .seq #[w1, w2, w3] } := (sb.2 _ (Nat.ne_of_gt zs')).trans hT
    have made : ObjOk X.prog X.w (upd H s.heap.objs.size (.tup [x, y, v])) h2 s.heap.objs.size (.tup [x, y, v]) :=
      ⟨by show 3 ≤ sizeLine; decide, [w1, w2, w3], .cons ru1 (.cons ru2 (.cons ru3 .nil)), ⟨_, hT2, rfl, _, rfl⟩⟩
    have stays : ∀ (d : Addr) (o : Obj), d ∉ [z, TI, TO, i1, i2, i3] → s.heap.get? d = some o → h2.get? d = some o := fun d o nd e => by
      simp only [List.mem_cons, List.not_mem_nil, or_false, not_or] at nd
      exact (sb.2 d nd.1).trans (rest d o nd.1 nd.2.2.1 nd.2.2.2.1 nd.2.2.2.2.1 nd.2.2.2.2.2 e)
    have inv2 := inv.turnedNew (t' := tk) (ch := [z, TI, TO, i1, i2, i3]) stays fresh (Nat.le_refl _) made
    have once : ∀ {l : Addr} {ls ls' : List V} {x : V}, SqL X.K H l ls → SqL X.K H l ls' → ls[i]? = some x → ls'[i]? = some x := fun q q' e => by
      rw [inv.list_inj q' q]
      exact e
    refine ⟨.ref s.heap.objs.size, _, inv2, rfl, ⟨_, x, y, v, rfl, inv.hok.fresh (Nat.le_refl _), rfl, fun _ q => once qx q hx, fun _ q => once qy q hy, fun _ q => once qz q hv⟩,
      ⟨z2, (sb.2 _ S.TIz).trans (rest _ _ S.TIz S.TITO S.TIi1 S.TIi2 S.TIi3 hi), ⟨w1, w2, w3, (sb.2 _ S.TOz).trans oo⟩, s1.1.at fun o e => (sb.2 _ (Ne.symm S.zi1)).trans e, s2.1.at fun o e => (sb.2 _ (Ne.symm S.zi2)).trans e, s3.1.at fun o e => (sb.2 _ (Ne.symm S.zi3)).trans e⟩, fun d hd => ?_⟩
    have below : d < s.heap.objs.size := by
      rcases mem_six hd with rfl | rfl | rfl | rfl | rfl | rfl
      · exact zs'
      · exact Heap.lt_size hi
      · exact Heap.lt_size ho
      · exact Heap.lt_size it1.choose_spec.1
      · exact Heap.lt_size it2.choose_spec.1
      · exact Heap.lt_size it3.choose_spec.1
    have far : d ≠ s.heap.objs.size := Nat.ne_of_lt below
    rw [upd_ne far]
    exact (fresh d hd).1
  done := by
    rintro X rfl rfl rfl calm i pins s σ H E inv fresh ⟨hz, hi, ⟨_, _, _, ho⟩, it1, it2, it3⟩ ⟨xs, ys, zs, qx, qy, qz, end3⟩
    obtain ⟨l1, r1, p1, _⟩ := inv.list qx
    obtain ⟨l2, r2, p2, _⟩ := inv.list qy
    obtain ⟨l3, r3, p3, _⟩ := inv.list qz
    have k1 : l1.toArray.size = xs.length := by rw [List.size_toArray, r1.length]
    have k2 : l2.toArray.size = ys.length := by rw [List.size_toArray, r2.length]
    have k3 : l3.toArray.size = zs.length := by rw [List.size_toArray, r3.length]
    have no : X.A.in1.handled = none := inv.ok.hd calm
    refine wpAny_pyNext_zipD3_end S (Draws.list no i1 a n1 l1.toArray) (Draws.list no i2 b n2 l2.toArray) (Draws.list no i3 c n3 l3.toArray) hz hi ho ⟨it1, p1.isList⟩ ⟨it2, p2.isList⟩ ⟨it3, p3.isList⟩ (by omega) (by omega) (by omega) (by omega) fun h1 tk rest => ⟨rfl, ?_⟩
    refine inv.turnedL (t' := tk) (ch := [z, TI, TO, i1, i2, i3]) (fun d o nd e => ?_) fresh
    simp only [List.mem_cons, List.not_mem_nil, or_false, not_or] at nd
    exact rest d o nd.1 nd.2.2.1 nd.2.2.2.1 nd.2.2.2.2.1 nd.2.2.2.2.2 e
  self := fun _ _ _ _ _ three q => wpAny_pyIter_zip three.1 q
theorem vals3 {x y z : Addr} {us : List Value} (r : Vals [.ref x, .ref y, .ref z] us) : ∃ u r1, us = u :: r1 ∧ u = .ref x ∧ ∃ v r2, r1 = v :: r2 ∧ v = .ref y ∧ ∃ w r3, r2 = w :: r3 ∧ w = .ref z ∧ r3 = [] := by
  cases r with
  | cons a r =>
    cases r with
    | cons b r =>
      cases r with
      | cons c r =>
        cases r
        exact ⟨_, _, rfl, a, _, _, rfl, b, _, _, rfl, c, rfl⟩
def iZip3 (K : PySem.W.Frag) (ta : TA) : TI := fun σ H R => ta σ H fun vs H1 => ∃ a b c xs ys zs, vs = [.ref a, .ref b, .ref c] ∧ SqL K H1 a xs ∧ SqL K H1 b ys ∧ SqL K H1 c zs ∧ R (Itz3 K a b c) H1
theorem pi_zip3 {X : Cx} {e e2 e3 : Expr} {ta : TA} {p pos tpos : Pos} {elts : List Expr} {kk : Nat} (hg : Gl X "zip") (hm : X.mg "zip" = none) (ha : PA X [e, e2, e3] ta)
    (hs : starEach [e, e2, e3] X.env = (false, eval e X.env) :: starEach [e2, e3] X.env := by rfl)
    (hpl : (backTo pos (starEach [e2, e3] X.env)).any (·.1) = false := by rfl) :
    PI X (.Tuple elts kk tpos) (.Call (.Name "zip" p) [e, e2, e3] [] pos) (iZip3 X.K ta) := by
  constructor
  intro pins s σ H R inv w
  refine Call_ (ld_blt inv hg hm boot_zip (callWith_type1 (thn (ha.run pos pins s σ H _ inv w) fun us s1 ⟨vs, H1, inv1, rel, a, b, c, xs, ys, zs, hvs, qx, qy, qz, go⟩ => ?_) hs hpl))
  subst hvs
  obtain ⟨_, _, rfl, rfl, _, _, rfl, rfl, _, _, rfl, rfl, rfl⟩ := vals3 rel
  obtain ⟨l1, _, p1, _⟩ := inv1.list qx
  obtain ⟨l2, _, p2, _⟩ := inv1.list qy
  obtain ⟨l3, _, p3, _⟩ := inv1.list qz
  generalize hN : s1.heap.objs.size = N
  have ba : a < N := hN ▸ p1.lt
  have bb : b < N := hN ▸ p2.lt
  have bc : c < N := hN ▸ p3.lt
  refine zip_begins3 (begins_list a l1.toArray) (begins_list b l2.toArray) (begins_list c l3.toArray) p1.isList p2.isList p3.isList fun h' hz hi ho g1 g2 g3 _ rest => wpAny_pyIter_zip hz ?_
  rw [hN] at hz hi ho g1 g2 g3 ⊢
  refine ⟨N + 5, [N + 5, N + 3, N + 4, N, N + 1, N + 2], _, _, H1, rfl, inv1.kept (t' := s1.toks) rest, turn_zip3 (zip_sep3 (fp1 := [a]) (fp2 := [b]) (fp3 := [c]) (by simpa using ba) (by simpa using bb) (by simpa using bc)) (Nat.ne_of_lt ba) (Nat.ne_of_lt (Nat.lt_of_lt_of_le bb (Nat.le_add_right N 1))) (Nat.ne_of_lt (Nat.lt_of_lt_of_le bc (Nat.le_add_right N 2))),
    ⟨hz, hi, ⟨_, _, _, ho⟩, ⟨_, g1, rfl, rfl⟩, ⟨_, g2, rfl, rfl⟩, ⟨_, g3, rfl, rfl⟩⟩, fun d hd => ?_, go⟩
  have above : s1.heap.objs.size ≤ d := by
    rw [hN]
    rcases mem_six hd with h | h | h | h | h | h <;> (rw [h]; first | exact Nat.le_refl _ | exact Nat.le_add_right _ _)
  exact inv1.fpOk above (inv1.hok.fresh above)
def YTri (xs ys zs : Nat → Option V) : Nat → Hp → V → Hp → Prop := fun i H v H' => ∃ T x y z, v = .ref T ∧ H T = none ∧ H' = upd H T (.tup [x, y, z]) ∧ xs i = some x ∧ ys i = some y ∧ zs i = some z
theorem walk_zip3 {K : PySem.W.Frag} {a b c : Addr} {xs ys zs : List V} {n : Nat} (hn : n = min (min xs.length ys.length) zs.length) : Walk (Itz3 K a b c) n (fun H => SqL K H a xs ∧ SqL K H b ys ∧ SqL K H c zs) (YTri (fun i => xs[i]?) (fun i => ys[i]?) (fun i => zs[i]?)) := by
  subst hn
  refine ⟨fun i _ hi q => ?_, fun _ q => ⟨xs, ys, zs, q.1, q.2.1, q.2.2, rfl⟩, fun i H v H' _ q y => ?_⟩
  · have h1 : i < xs.length := by omega
    have h2 : i < ys.length := by omega
    have h3 : i < zs.length := by omega
    exact ⟨xs, ys, zs, xs[i], ys[i], zs[i], q.1, q.2.1, q.2.2, by simp [h1], by simp [h2], by simp [h3]⟩
  · obtain ⟨T, x, y, z, e1, e2, e3, e4, e5, e6⟩ := y
    exact ⟨T, x, y, z, e1, e2, e3, e4 xs q.1, e5 ys q.2.1, e6 zs q.2.2⟩
end Fw
/-! pure laws 9: the answers as whole numbers -/
namespace Fm
open Vaskya (Sheet)
def tM (ns : List Int) : List Int := (ns.length : Int) :: ns
abbrev nzI (us : List Nat) : List Int := us.map fun n : Nat => (n : Int)
def subM (s : Sheet) (l : List Int) : List Int := if rightM s.ms.length l = true then tM (nzI (unb (Vaskya.rows s) (toN l) (List.range s.items.length))) else [-3]
def cubeRow (x : List Nat × List Nat) : List Int := tM (nzI x.1) ++ tM (nzI x.2)
def cubeM (s : Sheet) : List Int := [((tabOf (Vaskya.rows s) s.ms.length).length : Int), (manyM (tabOf (Vaskya.rows s) s.ms.length) : Int), (manyM (storedM (tabOf (Vaskya.rows s) s.ms.length)) : Int)] ++ (storedM (tabOf (Vaskya.rows s) s.ms.length)).flatMap cubeRow
def leastA (s : Sheet) (i : Int) : List Int := if i < 0 ∨ (s.items.length : Int) ≤ i then [-2] else
  [((leastM (tabOf (Vaskya.rows s) s.ms.length) i.toNat).length : Int)] ++ (leastM (tabOf (Vaskya.rows s) s.ms.length) i.toNat).flatMap (fun c => tM (nzI c)) ++ [(((tabOf (Vaskya.rows s) s.ms.length).filter fun x => x.2.contains i.toNat).length : Int)]
def boundsM (s : Sheet) (lo hi : List Int) : List Int := if lo.length ≠ s.ms.length ∨ hi.length ≠ s.ms.length then [-4] else
  [((insideM (s.items.map fun i => i.vs) lo hi).length : Int)] ++ tM (nzI (unb (Vaskya.rows s) (List.range s.ms.length) (insideM (s.items.map fun i => i.vs) lo hi)))
def grpRow (x : Nat × List Nat) : List Int := (x.1 : Int) :: tM (nzI x.2)
def groupsM (s : Sheet) (l : List Int) : List Int := if rightG s.items.length l = true then
  [((bsM (Vaskya.rows s) s.ms.length (toN l) 10).length : Int)] ++ (bsM (Vaskya.rows s) s.ms.length (toN l) 10).flatMap grpRow ++
    tM (nzI (unb (Vaskya.rows s) (List.range s.ms.length) ((List.range (Vaskya.rows s).length).filter fun i => (bsM (Vaskya.rows s) s.ms.length (toN l) 10).any fun x => x.2.contains i))) else [-4]
def coverM (s : Sheet) (i : Int) : List Int := if i < 1 ∨ 4 < i ∨ (s.items.length : Int) < i then [-5] else
  [(bestM (covM (Vaskya.rows s) s.ms.length) (setsOf (Vaskya.rows s).length i.toNat)).1] ++ nzI (bestM (covM (Vaskya.rows s) s.ms.length) (setsOf (Vaskya.rows s).length i.toNat)).2 ++
    [(covM (Vaskya.rows s) s.ms.length (Vaskyb.greedy (Vaskya.rows s) i.toNat) : Int)] ++ nzI (Vaskyb.greedy (Vaskya.rows s) i.toNat)
def askM (s : Sheet) (l : List Int) : List Int := if rightM s.ms.length l = true then
  [((candM (Vaskya.rows s) s.ms.length (toN l)).length : Int)] ++ tM (nzI (unb (Vaskya.rows s) (toN l) (candM (Vaskya.rows s) s.ms.length (toN l)))) else [-3]
/-! ### right measures, as the loop goes -/
theorem right_bad {n : Nat} {l : List Int} {i : Nat} {z : Int} (h : l[i]? = some z) (hb : z < 0 ∨ (n : Int) ≤ z ∨ z ∈ l.take i) : rightM n l = false := by
  unfold rightM
  refine decide_eq_false ?_
  rintro ⟨_, h2, h3⟩
  rcases hb with c | c | c
  · have := h2 z (List.mem_of_getElem? h)
    omega
  · have := h2 z (List.mem_of_getElem? h)
    omega
  · obtain ⟨j, hj⟩ := List.getElem?_of_mem c
    have hj1 : j < i := by
      have := (List.getElem?_eq_some_iff.mp hj).1
      rw [List.length_take] at this
      omega
    rw [List.getElem?_take, if_pos hj1] at hj
    have hi := (List.getElem?_eq_some_iff.mp h).1
    have hjl := (List.getElem?_eq_some_iff.mp hj).1
    have e1 := (List.getElem?_eq_some_iff.mp h).2
    have e2 := (List.getElem?_eq_some_iff.mp hj).2
    exact List.pairwise_iff_getElem.mp h3 j i hjl hi hj1 (e2.trans e1.symm)
def okM (n : Nat) (l : List Int) : Prop := (∀ z ∈ l, 0 ≤ z ∧ z < (n : Int)) ∧ l.Nodup
theorem okM_more {n : Nat} {l : List Int} {z : Int} (h : okM n l) (h1 : 0 ≤ z) (h2 : z < (n : Int)) (h3 : z ∉ l) : okM n (l ++ [z]) := by
  refine ⟨fun y hy => ?_, ?_⟩
  · rcases List.mem_append.mp hy with c | c
    · exact h.1 y c
    · rw [List.mem_singleton.mp c]
      exact ⟨h1, h2⟩
  · rw [List.nodup_append]
    refine ⟨h.2, by simp, fun x hx y hy => ?_⟩
    rw [List.mem_singleton.mp hy]
    intro c
    exact h3 (c ▸ hx)
theorem right_ok {n : Nat} {l : List Int} (h : okM n l) : rightM n l = decide (0 < l.length) := by
  unfold rightM
  rw [decide_eq_decide]
  constructor
  · rintro ⟨a, _⟩
    exact List.length_pos_iff.mpr a
  · exact fun a => ⟨List.length_pos_iff.mp a, h⟩
/-! ### within bounds -/
theorem inB_iff {row lo hi : List Int} : inB row lo hi = true ↔ ∀ (j : Nat) (v l h : Int), row[j]? = some v → lo[j]? = some l → hi[j]? = some h → l ≤ v ∧ v ≤ h := by
  unfold inB
  rw [List.all_eq_true]
  constructor
  · intro q j v l h h1 h2 h3
    have hz : (row.zip (lo.zip hi))[j]? = some (v, l, h) := by
      rw [List.getElem?_zip_eq_some]
      exact ⟨h1, by rw [List.getElem?_zip_eq_some]; exact ⟨h2, h3⟩⟩
    exact of_decide_eq_true (q _ (List.mem_of_getElem? hz))
  · rintro q ⟨v, l, h⟩ hx
    obtain ⟨j, hj⟩ := List.getElem?_of_mem hx
    rw [List.getElem?_zip_eq_some] at hj
    obtain ⟨h1, h23⟩ := hj
    rw [List.getElem?_zip_eq_some] at h23
    exact decide_eq_true (q j v l h h1 h23.1 h23.2)
end Fm
set_option Elab.async false
set_option maxRecDepth 100000
set_option maxHeartbeats 4000000
namespace Fw
open PySem PySem.Spec PyProof.Rows L2 Fm
open Evl (Ex Ev EvL EvU EvT EvA RV RetL RetV)
open Vaskya (Sheet Measure Item)
section
variable {r1 r2 r3 r4 : Addr}
theorem hn_unb : (heldF r1 r2 r3 r4).lookup ("unbeaten" : Str) = none := hf_no (by decide +kernel) (by decide +kernel) (by decide +kernel) (by decide +kernel)
theorem hn_itm : (heldF r1 r2 r3 r4).lookup ("every_item" : Str) = none := hf_no (by decide +kernel) (by decide +kernel) (by decide +kernel) (by decide +kernel)
theorem hn_mea : (heldF r1 r2 r3 r4).lookup ("every_measure" : Str) = none := hf_no (by decide +kernel) (by decide +kernel) (by decide +kernel) (by decide +kernel)
end
theorem nz_len (us : List Nat) : (nz us).length = us.length := List.length_map ..
theorem tM_len (ns : List Int) : (tM ns).length = ns.length + 1 := rfl
section
variable {P : Program} {w : World} {K : PySem.W.Frag} {mg : Str → Option Value} {base : Heap} {a : Ads}
def sp_told (K : PySem.W.Frag) (a : Ads) : Sp := fun vs H Q _ => ∃ (p : Addr) (ns : List Int), vs = [.ref p] ∧ H p = some (.lst (iL ns)) ∧ ns.length ≤ 1000000 ∧ RetL (iL (tM ns)) H Q
theorem ok_told (T : Txt K mg a) : Cal P w K mg base CX0 1 "told" (sp_told K a) := by
  refine cal_of T.d_told sc_told (fun vs H Q E h => ?_) (fun f cdv A outer s H vs Q E hr h => ⟨_, (pss_one (ps_ret (pe_op op_cat (pe_lst (pa_cons (pe_callB call_len_seq rfl T.b_len PySem.boot_len (pa_cons (pv 0) pa_nil)) pa_nil)) (pv 0)))), ?_⟩)
  · obtain ⟨_, _, rfl, _⟩ := h
    rfl
  · obtain ⟨p, ns, rfl, hp, hl, k⟩ := h
    refine ⟨_, rfl, p, _, rfl, .inl (sq hp), (by show 1 ≤ sizeLine; decide), fun u hu => ⟨_, rfl, ?_⟩⟩
    refine cat_go (H := H) (H1 := H) (xs := [(ns.length : Int)]) (ex_new hu) (by rw [upd_same, iL_len]; rfl) (ex_new hu _ _ hp) (by show 1 + ns.length ≤ _; omega) rfl k
theorem ext_told {i j : Nat} {σ : L2.St} {L q : Addr} {acc ns : List Int} {H0 H' : Hp} {D : Ends} {E0 : XK} (hi : σ[i]? = some (some (.ref L))) (hj : σ[j]? = some (some (.ref q))) (hL : H' L = some (.lst (iL acc))) (hq : H' q = some (.lst (iL ns)))
    (e : Ex H0 H') (h0 : H0 L = none) (h1 : acc.length ≤ 1000000) (h2 : ns.length ≤ 1000000) (k : ∀ H2, Ex H0 H2 → (∀ b o, b ≠ L → H' b = some o → H2 b = some o) → H2 L = some (.lst (iL (acc ++ tM ns))) → D.nx σ H2) :
    (tDrop (tBM K "list" rExtend (tVar i) (tCons (tCall (sp_told K a) [] E0 (tCons (tVar j) tNil)) tNil))) D σ H' := by
  refine ⟨_, hi, .inl ⟨rfl, _, sq hL⟩, _, hj, q, ns, rfl, hq, h2, fun u H5 hu e5 h5 => ⟨L, u, _, _, rfl, rfl, e5 _ _ hL, h5, ?_, ?_⟩⟩
  · rw [iL_len, iL_len, tM_len]
    exact sz (by omega)
  · refine k _ (Evl.Ex.mut (e.trans e5) h0) (fun b o hb ho => by rw [upd_ne hb]; exact e5 _ _ ho) ?_
    rw [upd_same, ← iL_app]
def sp_right_measures (K : PySem.W.Frag) (a : Ads) : Sp := fun vs H Q _ => ∃ (p q : Addr) (s : Sheet) (l : List Int), vs = [.ref p, .ref q] ∧ HeldAt a H p s ∧ SqL K H q (iL l) ∧ l.length ≤ 1000000 ∧ RetV (.bl (rightM s.ms.length l)) H Q
theorem ok_right_measures (T : Txt K mg a) : Cal P w K mg base CX0 1 "right_measures" (sp_right_measures K a) := by
  refine cal_of T.d_right_measures sc_right_measures (fun vs H Q E h => ?_) (fun f cdv A outer s H vs Q E hr h => ⟨_, (pss_cons (ps_set (i := 2) sc_right_measures.nd rfl (Or.inl rfl) (pe_lst pa_nil)) (pss_cons (ps_for PassesOwn.never rfl (pi_list (pv 1)) (pg_name (i := 3) sc_right_measures.nd rfl (Or.inl rfl)) (pss_cons (ps_if (PW.pt (pw_or (pt_cmpR op_lt (pv 3) pe_int (nomark _)) (pw_or (pt_cmpR op_ge (pv 3) (pe_callB call_len_seq rfl T.b_len PySem.boot_len (pa_cons (pe_fld (pv 0) rfl) pa_nil)) (nomark _)) (pw_or1 (pt_cmpR op_in_seq (pv 3) (pv 2) (by rfl)))))) (pss_one (ps_ret pe_bl)) pss_nil) (pss_one (ps_expr (pe_bm PySem.F.plainAttrs_list PySem.F.slot_list_append PySem.F.type_list_append mt_append (pv 2) (pa_cons (pv 3) pa_nil)))))) (pss_one (ps_ret (pe_cmpR op_gt (pe_callB call_len_seq rfl T.b_len PySem.boot_len (pa_cons (pv 2) pa_nil)) pe_int (nomark _)))))), ?_⟩)
  · obtain ⟨_, _, _, _, rfl, _⟩ := h
    rfl
  · obtain ⟨p, q, sh, l, rfl, hh, hq, hl, k⟩ := h
    refine ⟨by show 0 ≤ sizeLine; decide, fun L hL => ?_⟩
    refine ⟨_, rfl, q, rfl, ⟨_, ex_sq (ex_new hL) hq⟩, for_list (K := K) (a := q) (xs := iL l) (fun i σ' H' => ∃ x3, σ' = [some (.ref p), some (.ref q), some (.ref L), x3] ∧ Ex H H' ∧ H' L = some (.lst (iL (l.take i))) ∧ okM sh.ms.length (l.take i)) ⟨none, rfl, ex_new hL, upd_same, fun z hz => by simp at hz, by simp⟩ (fun i σ' H' _ ⟨_, _, e, _⟩ => ex_sq e hq) ?_ ?_⟩
    · rintro i v σ' H' hi ⟨x3, rfl, e, hL', ok⟩
      obtain ⟨z, hz, rfl⟩ := iL_at hi
      obtain ⟨⟨dx, r1, r2, r3, r4, h0, _, hups, _⟩, wf⟩ := id (hh.mono e)
      obtain ⟨qu, equ, hqu⟩ := dB_da hups
      cases equ
      have bad : (z < 0 ∨ (sh.ms.length : Int) ≤ z ∨ z ∈ l.take i) → Q (.bl false) H' := fun hb => by
        rw [right_bad hz hb] at k
        exact k.go e
      refine ⟨_, rfl, _, _, rfl, rfl, _, rfl, ite_b (fun c1 => ?_) (fun c1 => ?_)⟩
      · exact iteT (bad (.inl (of_decide_eq_true c1)))
      have c1' := of_decide_eq_false c1
      refine ⟨_, rfl, _, rfl, p, _, dx, _, _, rfl, h0, T.cl_held, T.na_held_ups, hf_up, r2, _, rfl, .inl (sq hqu), _, _, rfl, rfl, _, rfl, ?_⟩
      rw [List.length_map, List.length_map]
      refine ite_b (fun c2 => ?_) (fun c2 => ?_)
      · exact iteT (bad (.inr (.inl (of_decide_eq_true c2))))
      have c2' := of_decide_eq_false c2
      refine ⟨_, rfl, _, rfl, L, _, rfl, .inl (sq hL'), rfl, flat_iL _, _, rfl, ?_⟩
      rw [inV_iL, if_neg Bool.false_ne_true]
      refine ite_b (fun c3 => ?_) (fun c3 => ?_)
      · exact bad (.inr (.inr (List.contains_iff_mem.mp c3)))
      have c3' : z ∉ l.take i := fun m => by
        rw [List.contains_iff_mem.mpr m] at c3
        cases c3
      refine ⟨_, rfl, .inl ⟨rfl, _, sq hL'⟩, _, rfl, L, _, _, rfl, rfl, hL', ?_, _, rfl, Evl.Ex.mut e hL, ?_, ?_⟩
      · rw [iL_len, List.length_take]
        exact szl (by omega)
      · rw [upd_same, take_more hz, iL_app]
        rfl
      · rw [take_more hz]
        exact okM_more ok (by omega) (by omega) c3'
    · rintro σ' H' ⟨x3, rfl, e, hL', ok⟩
      rw [iL_len, List.take_length] at hL' ok
      rw [right_ok ok] at k
      refine ⟨_, rfl, L, _, rfl, .inl (sq hL'), _, _, rfl, rfl, ?_⟩
      have e0 : decide ((0 : Int) < ((iL l).length : Int)) = decide (0 < l.length) := by
        rw [iL_len, decide_eq_decide]
        omega
      show Q (V.bl (decide ((0 : Int) < ((iL l).length : Int)))) H'
      rw [e0]
      exact k.go e
def sp_tell_shown (K : PySem.W.Frag) (a : Ads) : Sp := fun vs H Q _ => ∃ (p : Addr) (s : Sheet), vs = [.ref p] ∧ HeldAt a H p s ∧ RetL (iL (tM (oneForm s))) H Q
theorem ok_tell_shown (T : Txt K mg a) (c_told : Cal P w K mg base CX0 1 "told" (sp_told K a)) (c_one_form : Cal P w K mg base CX0 4 "one_form" (sp_one_form K a)) : Cal P w K mg base CX0 5 "tell_shown" (sp_tell_shown K a) := by
  refine cal_of T.d_tell_shown sc_tell_shown (fun vs H Q E h => ?_) (fun f cdv A outer s H vs Q E hr h => ⟨_, (pss_one (ps_ret (pe_c c_told hr pass0 (pa_cons (pe_c c_one_form hr pass0 (pa_cons (pv 0) pa_nil)) pa_nil)))), ?_⟩)
  · obtain ⟨_, _, rfl, _⟩ := h
    rfl
  · obtain ⟨p, sh, rfl, hh, k⟩ := h
    refine ⟨_, rfl, p, sh, rfl, hh, fun r H1 hr e1 h1 => ⟨r, _, rfl, h1, ?_, fun u H2 hu e2 h2 => k u H2 (fresh_of e1 hu) (e1.trans e2) h2⟩⟩
    unfold oneForm
    rw [List.length_append]
    have h1 := measuresLine_len hh.wf
    have h2 := one_size hh.wf sh.items.length
    rw [List.take_length] at h2
    omega
def sp_tell_sub (K : PySem.W.Frag) (a : Ads) : Sp := fun vs H Q _ => ∃ (p q : Addr) (s : Sheet) (l : List Int), vs = [.ref p, .ref q] ∧ HeldAt a H p s ∧ SqL K H q (iL l) ∧ l.length ≤ 1000000 ∧ RetL (iL (subM s l)) H Q
theorem one_lst {H H' : Hp} {Q : VK} {z : Int} {ns : List Int} (k : RetL (iL ns) H Q) (e : Ex H H') (h : ns = [z]) : (1 ≤ sizeLine ∧ ∀ u, H' u = none → Q (.ref u) (upd H' u (.lst [.int z]))) := by
  subst h
  exact ⟨by decide, fun u hu => k u _ (fresh_of e hu) (e.trans (ex_new hu)) upd_same⟩
theorem unb_small {s : Sheet} {us is : List Nat} (h : is.length ≤ 100000) : (nz (unb (Vaskya.rows s) us is)).length ≤ 100000 := by
  rw [nz_len]
  exact Nat.le_trans unb_len h
theorem ok_tell_sub (T : Txt K mg a) (c_right_measures : Cal P w K mg base CX0 1 "right_measures" (sp_right_measures K a)) (c_told : Cal P w K mg base CX0 1 "told" (sp_told K a)) (c_Held_unbeaten : Met P w K mg base CX0 4 a.held "unbeaten" (sp_Held_unbeaten K a)) (c_Held_every_item : Met P w K mg base CX0 1 a.held "every_item" (sp_Held_every_item K a)) : Cal P w K mg base CX0 5 "tell_sub" (sp_tell_sub K a) := by
  refine cal_of T.d_tell_sub sc_tell_sub (fun vs H Q E h => ?_) (fun f cdv A outer s H vs Q E hr h => ⟨_, (pss_cons (ps_if (pt_not (pt_val (pe_c c_right_measures hr pass0 (pa_cons (pv 0) (pa_cons (pv 1) pa_nil))))) (pss_one (ps_ret (pe_lst (pa_cons (pe_gc T.g_WRONG_MEASURES) pa_nil)))) pss_nil) (pss_one (ps_ret (pe_c c_told hr pass0 (pa_cons (pe_mt T.cl_held c_Held_unbeaten hr pass0 (pv 0) (pa_cons (pe_mt0 T.cl_held c_Held_every_item hr pass0 (pv 0)) (pa_cons (pv 1) pa_nil))) pa_nil))))), ?_⟩)
  · obtain ⟨_, _, _, _, rfl, _⟩ := h
    rfl
  · obtain ⟨p, q, sh, l, rfl, hh, hq, hl, k⟩ := h
    unfold subM at k
    refine ⟨_, rfl, _, rfl, p, q, sh, l, rfl, hh, hq, hl, fun H1 e1 => ⟨_, rfl, ?_⟩⟩
    cases hrm : rightM sh.ms.length l with
    | false =>
      rw [hrm, if_neg Bool.false_ne_true] at k
      exact iteT (one_lst k e1 rfl)
    | true =>
      rw [hrm, if_pos rfl] at k
      refine iteF ?_
      obtain ⟨hln, hlt⟩ := right_nat hrm
      have hh1 := hh.mono e1
      have hn16 := hh.wf.items
      obtain ⟨⟨dx, r1, r2, r3, r4, h0, _⟩, _⟩ := id hh1
      have hq1 : SqL K H q (nats (toN l)) := by
        have : iL l = nats (toN l) := congrArg iL hln
        rw [← this]
        exact hq
      refine ⟨_, rfl, p, dx, _, rfl, h0, hn_unb, _, rfl, p, dx, _, rfl, h0, hn_itm, p, sh, rfl, hh1, fun V0 H2 hV e2 h2 => ?_⟩
      refine ⟨_, rfl, p, q, V0, sh, toN l, List.range sh.items.length, rfl, hh1.mono e2, ex_sq (e1.trans e2) hq1, hlt, sq h2, fun j hj => List.mem_range.mp hj, by rw [List.length_range]; omega, fun r H3 hr3 e3 h3 => ?_⟩
      refine ⟨r, nz (unb (Vaskya.rows sh) (toN l) (List.range sh.items.length)), rfl, h3, ?_, fun u H4 hu e4 h4 => k u H4 (fresh_of ((e1.trans e2).trans e3) hu) ((e1.trans e2).trans (e3.trans e4)) h4⟩
      have := unb_small (s := sh) (us := toN l) (is := List.range sh.items.length) (by rw [List.length_range]; omega)
      omega
theorem stored_rows {l : List (List Int)} {n : Nat} (hn : n ≤ 4) {x : List Nat × List Nat} (h : x ∈ storedM (tabOf l n)) : x.1.length ≤ 4 ∧ x.2.length ≤ l.length := by
  unfold storedM at h
  rw [List.mem_map] at h
  obtain ⟨y, hy, rfl⟩ := h
  refine ⟨?_, Nat.le_trans (List.length_filter_le ..) (tabOf_items hy)⟩
  unfold tabOf at hy
  rw [List.mem_map] at hy
  obtain ⟨u, hu, rfl⟩ := hy
  rw [allSets_is hn] at hu
  exact ((subsets_facts hn).2 u hu).1
theorem stored_len {t : Tab} : (storedM t).length = t.length := by
  unfold storedM
  rw [List.length_map]
def sp_tell_cube (K : PySem.W.Frag) (a : Ads) : Sp := fun vs H Q _ => ∃ (p : Addr) (s : Sheet), vs = [.ref p] ∧ HeldAt a H p s ∧ RetL (iL (cubeM s)) H Q
theorem ok_tell_cube (T : Txt K mg a) (c_unbeaten_table : Cal P w K mg base CX0 5 "unbeaten_table" (sp_unbeaten_table K a)) (c_stored_table : Cal P w K mg base CX0 4 "stored_table" (sp_stored_table K a)) (c_how_many : Cal P w K mg base CX0 1 "how_many" (sp_how_many K a)) (c_told : Cal P w K mg base CX0 1 "told" (sp_told K a)) : Cal P w K mg base CX0 6 "tell_cube" (sp_tell_cube K a) := by
  refine cal_of T.d_tell_cube sc_tell_cube (fun vs H Q E h => ?_) (fun f cdv A outer s H vs Q E hr h => ⟨_, (pss_cons (ps_set (i := 1) sc_tell_cube.nd rfl (Or.inl rfl) (pe_c c_unbeaten_table hr pass0 (pa_cons (pv 0) pa_nil))) (pss_cons (ps_set (i := 2) sc_tell_cube.nd rfl (Or.inl rfl) (pe_c c_stored_table hr pass0 (pa_cons (pv 1) pa_nil))) (pss_cons (ps_set (i := 3) sc_tell_cube.nd rfl (Or.inl rfl) (pe_lst (pa_cons (pe_callB call_len_seq rfl T.b_len PySem.boot_len (pa_cons (pv 1) pa_nil)) (pa_cons (pe_c c_how_many hr pass0 (pa_cons (pv 1) pa_nil)) (pa_cons (pe_c c_how_many hr pass0 (pa_cons (pv 2) pa_nil)) pa_nil))))) (pss_cons (ps_for PassesOwn.never rfl (pi_list (pv 2)) (pg_tup rfl (pgs_cons (pg_name (i := 4) sc_tell_cube.nd rfl (Or.inl rfl)) (pgs_cons (pg_name (i := 5) sc_tell_cube.nd rfl (Or.inl rfl)) pgs_nil))) (pss_cons (ps_expr (pe_bm PySem.F.plainAttrs_list PySem.F.slot_list_extend PySem.F.type_list_extend mt_extend (pv 3) (pa_cons (pe_c c_told hr pass0 (pa_cons (pv 4) pa_nil)) pa_nil))) (pss_one (ps_expr (pe_bm PySem.F.plainAttrs_list PySem.F.slot_list_extend PySem.F.type_list_extend mt_extend (pv 3) (pa_cons (pe_c c_told hr pass0 (pa_cons (pv 5) pa_nil)) pa_nil)))))) (pss_one (ps_ret (pv 3))))))), ?_⟩)
  · obtain ⟨_, _, rfl, _⟩ := h
    rfl
  · obtain ⟨p, sh, rfl, hh, k⟩ := h
    have hn16 := hh.wf.items
    have hn4 := hh.wf.ms.2
    have ht := tabOf_len (l := Vaskya.rows sh) hn4
    refine ⟨_, rfl, p, sh, rfl, hh, fun v H1 e1 hd => ?_⟩
    have hd1 := hd.ex nw_sub
    obtain ⟨tp, txs, rfl, htx, htl, _⟩ := dTab_da hd1
    refine ⟨_, rfl, tp, _, rfl, hd1, by omega, fun x hx => ?_, fun v2 H2 e2 hd2 => ?_⟩
    · have := tabOf_items hx
      rw [rows_len] at this
      omega
    obtain ⟨tq, qxs, rfl, hqx, hql, hqg⟩ := dTab_da hd2
    refine ⟨_, rfl, tp, _, rfl, .inl (sq (e2 _ _ htx)), _, rfl, tp, _, rfl, hd1.ex e2, by omega, fun H3 e3 => ⟨_, rfl, tq, _, rfl, hd2.ex e3, by rw [stored_len]; omega, fun H4 e4 => ⟨by show 3 ≤ sizeLine; decide, fun L hL => ?_⟩⟩⟩
    have e24 := e3.trans e4
    have eH4 := (e1.trans e2).trans e24
    have hLH : H L = none := fresh_of eH4 hL
    have hq4 : H4 tq = some (.lst qxs) := e24 _ _ hqx
    generalize hhead : [((tabOf (Vaskya.rows sh) sh.ms.length).length : Int), (manyM (tabOf (Vaskya.rows sh) sh.ms.length) : Int), (manyM (storedM (tabOf (Vaskya.rows sh) sh.ms.length)) : Int)] = head at *
    have hhl : head.length = 3 := by rw [← hhead]; rfl
    have hsize : ∀ n, (head ++ ((storedM (tabOf (Vaskya.rows sh) sh.ms.length)).take n).flatMap cubeRow).length ≤ 1000 := fun n => by
      have h1 : (((storedM (tabOf (Vaskya.rows sh) sh.ms.length)).take n).flatMap cubeRow).length ≤ ((storedM (tabOf (Vaskya.rows sh) sh.ms.length)).take n).length * 22 := flatMap_len fun x hx => by
        obtain ⟨a1, a2⟩ := stored_rows hn4 (List.mem_of_mem_take hx)
        rw [rows_len] at a2
        unfold cubeRow
        rw [List.length_append, tM_len, tM_len, nz_len, nz_len]
        omega
      have h2 : ((storedM (tabOf (Vaskya.rows sh) sh.ms.length)).take n).length ≤ 15 := by rw [List.length_take, stored_len]; omega
      have := Nat.mul_le_mul_right 22 h2
      rw [List.length_append]
      omega
    refine ⟨_, rfl, tq, rfl, ⟨_, sq (ex_new hL _ _ hq4)⟩, for_list (K := K) (a := tq) (xs := qxs) (fun n σ' H' => ∃ x4 x5, σ' = [some (.ref p), some (.ref tp), some (.ref tq), some (.ref L), x4, x5] ∧ Ex H4 H' ∧ H' L = some (.lst (iL (head ++ ((storedM (tabOf (Vaskya.rows sh) sh.ms.length)).take n).flatMap cubeRow))))
      ⟨none, none, rfl, ex_new hL, ?_⟩ (fun n σ' H' _ ⟨_, _, _, e, _⟩ => sq (e _ _ hq4)) ?_ ?_⟩
    · rw [upd_same, ← hhead, htl]
      rfl
    · rintro n v σ' H' hn ⟨x4, x5, rfl, e, hL'⟩
      obtain ⟨row, r, r1, r2, hrow, rfl, g, g1, g2⟩ := row_at hql hqg hn
      have e2' := e24.trans e
      have hmem := List.mem_of_getElem? hrow
      obtain ⟨a1, a2⟩ := stored_rows hn4 hmem
      rw [rows_len] at a2
      have hs := hsize n
      have hr1 : H4 r1 = some (.lst (nats row.1)) := e24 _ _ g1
      have hr2 : H4 r2 = some (.lst (nats row.2)) := e24 _ _ g2
      refine ⟨r, _, rfl, st (e2' _ _ g), rfl, _, _, rfl, _, _, rfl, rfl, ?_⟩
      refine ext_told (H0 := H4) (i := 3) (j := 4) (L := L) (q := r1) (ns := nz row.1) rfl rfl hL' (e _ _ hr1) e hL (by omega) (by rw [nz_len]; omega) fun H5 e5 _ h5 => ?_
      refine ext_told (H0 := H4) (i := 3) (j := 5) (L := L) (q := r2) (ns := nz row.2) rfl rfl h5 (e5 _ _ hr2) e5 hL (by rw [List.length_append, tM_len, nz_len]; omega) (by rw [nz_len]; omega) fun H6 e6 _ h6 => ?_
      refine ⟨_, _, rfl, e6, ?_⟩
      rw [h6, flatMap_more hrow]
      unfold cubeRow
      simp only [List.append_assoc]
    · rintro σ' H' ⟨x4, x5, rfl, e, hL'⟩
      rw [hql, List.take_length] at hL'
      refine ⟨_, rfl, k L H' hLH (eH4.trans e) ?_⟩
      unfold cubeM
      rw [hhead]
      exact hL'
def sp_tell_least (K : PySem.W.Frag) (a : Ads) : Sp := fun vs H Q _ => ∃ (p : Addr) (s : Sheet) (i : Int), vs = [.ref p, .int i] ∧ HeldAt a H p s ∧ RetL (iL (leastA s i)) H Q
theorem least_rows {l : List (List Int)} {n : Nat} (hn : n ≤ 4) {i : Nat} {c : List Nat} (h : c ∈ leastM (tabOf l n) i) : c.length ≤ 4 := by
  unfold leastM at h
  rw [List.mem_map] at h
  obtain ⟨y, hy, rfl⟩ := h
  have hy := (List.mem_filter.mp hy).1
  unfold tabOf at hy
  rw [List.mem_map] at hy
  obtain ⟨u, hu, rfl⟩ := hy
  rw [allSets_is hn] at hu
  exact ((subsets_facts hn).2 u hu).1
theorem least_len {t : Tab} {i : Nat} : (leastM t i).length ≤ t.length := by
  unfold leastM
  rw [List.length_map]
  exact List.length_filter_le ..
theorem ok_tell_least (T : Txt K mg a) (c_unbeaten_table : Cal P w K mg base CX0 5 "unbeaten_table" (sp_unbeaten_table K a)) (c_least_sets : Cal P w K mg base CX0 3 "least_sets" (sp_least_sets K a)) (c_told : Cal P w K mg base CX0 1 "told" (sp_told K a)) : Cal P w K mg base CX0 6 "tell_least" (sp_tell_least K a) := by
  refine cal_of T.d_tell_least sc_tell_least (fun vs H Q E h => ?_) (fun f cdv A outer s H vs Q E hr h => ⟨_, (pss_cons (ps_if (PW.pt (pw_or (pt_cmpR op_lt (pv 1) pe_int (nomark _)) (pw_or1 (pt_cmpR op_ge (pv 1) (pe_callB call_len_seq rfl T.b_len PySem.boot_len (pa_cons (pe_fld (pv 0) rfl) pa_nil)) (nomark _))))) (pss_one (ps_ret (pe_lst (pa_cons (pe_gc T.g_NO_ITEM) pa_nil)))) pss_nil) (pss_cons (ps_set (i := 2) sc_tell_least.nd rfl (Or.inl rfl) (pe_c c_unbeaten_table hr pass0 (pa_cons (pv 0) pa_nil))) (pss_cons (ps_set (i := 3) sc_tell_least.nd rfl (Or.inl rfl) (pe_c c_least_sets hr pass0 (pa_cons (pv 2) (pa_cons (pv 1) pa_nil)))) (pss_cons (ps_set (i := 4) sc_tell_least.nd rfl (Or.inl rfl) (pe_lst (pa_cons (pe_callB call_len_seq rfl T.b_len PySem.boot_len (pa_cons (pv 3) pa_nil)) pa_nil))) (pss_cons (ps_for PassesOwn.never rfl (pi_list (pv 3)) (pg_name (i := 5) sc_tell_least.nd rfl (Or.inl rfl)) (pss_one (ps_expr (pe_bm PySem.F.plainAttrs_list PySem.F.slot_list_extend PySem.F.type_list_extend mt_extend (pv 4) (pa_cons (pe_c c_told hr pass0 (pa_cons (pv 5) pa_nil)) pa_nil))))) (pss_cons (ps_expr (pe_bm PySem.F.plainAttrs_list PySem.F.slot_list_append PySem.F.type_list_append mt_append (pv 4) (pa_cons (pe_callB call_len_seq rfl T.b_len PySem.boot_len (pa_cons (pe_lc (own := [("chosen", 5), ("unbeaten", 6)]) (g := gTup K 2 (gCons (gName 5) (gCons (gName 6) gNil))) (tt := (tTest (tOp (rIn K false) (tVar 1) (tVar 6)))) (te := (tVar 5)) rfl sc_tell_least.nd (pi_list (pv 2)) (blkOk_by (N := N_tell_least) (sc := (defScope s_tell_least)) (by decide +kernel)) (fun _ _ _ _ _ => (pg_tup rfl (pgs_cons (pg_name (i := 5) sc_tell_least.nd rfl (Or.inl rfl)) (pgs_cons (pg_name (i := 6) sc_tell_least.nd rfl (Or.inl rfl)) pgs_nil)))) (fun _ _ _ _ _ => (pts_one (pt_cmpR op_in_seq (pv 1) (pv 6) (by rfl)))) (fun _ _ _ _ _ => (pv 5))) pa_nil)) pa_nil))) (pss_one (ps_ret (pv 4))))))))), ?_⟩)
  · obtain ⟨_, _, _, rfl, _⟩ := h
    rfl
  · obtain ⟨p, sh, i, rfl, hh, k⟩ := h
    have hn16 := hh.wf.items
    have hn4 := hh.wf.ms.2
    have ht := tabOf_len (l := Vaskya.rows sh) hn4
    obtain ⟨⟨dx, r1, r2, r3, r4, h0, _, _, _, hro⟩, _⟩ := id hh
    obtain ⟨zs, hz, hzl, hzg⟩ := dLL_da hro
    rw [List.length_map] at hzl
    unfold leastA at k
    refine ⟨_, rfl, _, _, rfl, rfl, _, rfl, ite_b (fun c1 => ?_) (fun c1 => ?_)⟩
    · rw [if_pos (.inl (of_decide_eq_true c1))] at k
      exact iteT (one_lst k (Ex.refl _) rfl)
    have c1' := of_decide_eq_false c1
    refine ⟨_, rfl, _, rfl, p, _, dx, _, _, rfl, h0, T.cl_held, T.na_held_rows, hf_ro, r4, _, rfl, .inl (sq hz), _, _, rfl, rfl, _, rfl, ?_⟩
    rw [hzl]
    refine ite_b (fun c2 => ?_) (fun c2 => ?_)
    · rw [if_pos (.inr (of_decide_eq_true c2))] at k
      exact one_lst k (Ex.refl _) rfl
    have c2' := of_decide_eq_false c2
    rw [if_neg (by omega)] at k
    obtain ⟨kk, rfl⟩ : ∃ kk : Nat, i = (kk : Int) := ⟨i.toNat, by omega⟩
    rw [Int.toNat_natCast] at k
    refine ⟨_, rfl, p, sh, rfl, hh, fun v H1 e1 hd => ?_⟩
    have hd1 := hd.ex nw_sub
    obtain ⟨tp, txs, rfl, htx, htl, htg⟩ := dTab_da hd1
    refine ⟨_, rfl, _, rfl, tp, _, kk, rfl, hd1, by omega, fun v2 H2 e2 hd2 => ?_⟩
    obtain ⟨tq, qxs, rfl, hqx, hql, hqg⟩ := dSets_da hd2
    refine ⟨_, rfl, tq, _, rfl, .inl (sq hqx), by show 1 ≤ sizeLine; decide, fun L hL => ?_⟩
    have eH2 := e1.trans e2
    have hLH : H L = none := fresh_of eH2 hL
    have hll : (leastM (tabOf (Vaskya.rows sh) sh.ms.length) kk).length ≤ 15 := Nat.le_trans least_len ht
    have hsize : ∀ n, ([((leastM (tabOf (Vaskya.rows sh) sh.ms.length) kk).length : Int)] ++ ((leastM (tabOf (Vaskya.rows sh) sh.ms.length) kk).take n).flatMap fun c => tM (nz c)).length ≤ 1000 := fun n => by
      have h1 : (((leastM (tabOf (Vaskya.rows sh) sh.ms.length) kk).take n).flatMap fun c => tM (nz c)).length ≤ ((leastM (tabOf (Vaskya.rows sh) sh.ms.length) kk).take n).length * 5 := flatMap_len fun x hx => by
        have := least_rows hn4 (List.mem_of_mem_take hx)
        rw [tM_len, nz_len]
        omega
      have h2 : ((leastM (tabOf (Vaskya.rows sh) sh.ms.length) kk).take n).length ≤ 15 := by rw [List.length_take]; omega
      have := Nat.mul_le_mul_right 5 h2
      rw [List.length_append]
      show 1 + _ ≤ _
      omega
    refine ⟨_, rfl, tq, rfl, ⟨_, sq (ex_new hL _ _ hqx)⟩, for_list (K := K) (a := tq) (xs := qxs) (fun n σ' H' => ∃ x5, σ' = [some (.ref p), some (.int kk), some (.ref tp), some (.ref tq), some (.ref L), x5, none] ∧ Ex H2 H' ∧ H' L = some (.lst (iL ([((leastM (tabOf (Vaskya.rows sh) sh.ms.length) kk).length : Int)] ++ ((leastM (tabOf (Vaskya.rows sh) sh.ms.length) kk).take n).flatMap fun c => tM (nz c)))))
      ⟨none, rfl, ex_new hL, ?_⟩ (fun n σ' H' _ ⟨_, _, e, _⟩ => sq (e _ _ hqx)) ?_ ?_⟩
    · rw [upd_same, hql]
      rfl
    · rintro n v σ' H' hn ⟨x5, rfl, e, hL'⟩
      have hnl : n < (leastM (tabOf (Vaskya.rows sh) sh.ms.length) kk).length := by rw [← hql]; exact (List.getElem?_eq_some_iff.mp hn).1
      have hc := List.getElem?_eq_getElem hnl
      generalize (leastM (tabOf (Vaskya.rows sh) sh.ms.length) kk)[n] = c at hc
      obtain ⟨q, hq1, hq2⟩ := hqg n c hc
      rw [hn] at hq1
      cases hq1
      have hcl := least_rows hn4 (List.mem_of_getElem? hc)
      have hs := hsize n
      refine ext_told (H0 := H2) (i := 4) (j := 5) (L := L) (q := q) (ns := nz c) rfl rfl hL' (e _ _ hq2) e hL (by omega) (by rw [nz_len]; omega) fun H5 e5 _ h5 => ?_
      refine ⟨_, rfl, e5, ?_⟩
      rw [h5, flatMap_more hc, List.append_assoc]
    · rintro σ' H3 ⟨x5, rfl, e3, hL3⟩
      rw [hql, List.take_length] at hL3
      have htx3 : H3 tp = some (.lst txs) := e3 _ _ (e2 _ _ htx)
      refine ⟨_, rfl, .inl ⟨rfl, _, sq hL3⟩, _, rfl, tp, rfl, ⟨_, sq htx3⟩, fun Dl hD => ?_⟩
      refine lc_list (K := K) (a := tp) (xs := txs) (fun n H' => ∃ ys, H' Dl = some (.lst ys) ∧ Ex H3 H' ∧ ys.length = ((((tabOf (Vaskya.rows sh) sh.ms.length).take n).filter fun x => x.2.contains kk)).length)
        ⟨[], upd_same, ex_new hD, rfl⟩ (fun n H' _ ⟨_, _, e, _⟩ => sq (e _ _ htx3)) ?_ ?_
      · rintro n v H' hn ⟨ys, h1, e, hys⟩
        obtain ⟨row, r, r1, r2, hrow, rfl, g, g1, g2⟩ := row_at htl htg hn
        have step := filter_moreT (p := fun x : List Nat × List Nat => x.2.contains kk) hrow
        have e4 := (e2.trans e3).trans e
        have hlen : ys.length ≤ 1000 := by
          rw [hys]
          have h1 := List.length_filter_le (fun x : List Nat × List Nat => x.2.contains kk) ((tabOf (Vaskya.rows sh) sh.ms.length).take n)
          have h2 : ((tabOf (Vaskya.rows sh) sh.ms.length).take n).length ≤ 15 := by rw [List.length_take]; omega
          omega
        refine ⟨r, _, rfl, st (e4 _ _ g), rfl, _, _, rfl, _, _, rfl, rfl, rfl, ?_⟩
        refine ⟨_, rfl, _, rfl, r2, _, rfl, .inl (sq (e4 _ _ g2)), rfl, flat_iL _, _, rfl, ?_⟩
        rw [inV_nats, if_neg Bool.false_ne_true]
        refine ite_b (fun h2 => ?_) (fun h2 => ?_)
        · rw [h2, if_pos rfl] at step
          refine ⟨_, rfl, ys, h1, szl (by omega), ys ++ [.ref r1], upd_same, Evl.Ex.mut e hD, ?_⟩
          rw [step, List.length_append, List.length_append, hys]
          rfl
        · rw [h2, if_neg Bool.false_ne_true, List.append_nil] at step
          exact ⟨ys, h1, e, by rw [step]; exact hys⟩
      · rintro H' ⟨ys, h1, e, hys⟩
        rw [htl, List.take_length] at hys
        have hs := hsize (leastM (tabOf (Vaskya.rows sh) sh.ms.length) kk).length
        rw [List.take_length] at hs
        refine ⟨Dl, _, rfl, .inl (sq h1), L, _, _, rfl, rfl, e _ _ hL3, ?_, ?_⟩
        · rw [iL_len]
          exact szl (by omega)
        · refine ⟨_, rfl, k L _ hLH (Evl.Ex.mut ((eH2.trans e3).trans e) hLH) ?_⟩
          rw [upd_same, hys, iL_app _ [(((tabOf (Vaskya.rows sh) sh.ms.length).filter fun x => x.2.contains kk).length : Int)]]
          rfl
end
end Fw
set_option Elab.async false
set_option maxRecDepth 100000
set_option maxHeartbeats 4000000
namespace Fw
open PySem PySem.Spec PyProof.Rows L2 Fm
open Evl (Ex Ev EvL EvU EvT EvA RV RetL RetV)
open Vaskya (Sheet Measure Item)
section
variable {P : Program} {w : World} {K : PySem.W.Frag} {mg : Str → Option Value} {base : Heap} {a : Ads}
def sp_in_bounds (K : PySem.W.Frag) (a : Ads) : Sp := fun vs H Q _ => ∃ (p q r : Addr) (row lo hi : List Int), vs = [.ref p, .ref q, .ref r] ∧ SqL K H p (iL row) ∧ SqL K H q (iL lo) ∧ SqL K H r (iL hi) ∧ lo.length = row.length ∧ hi.length = row.length ∧ RetV (.bl (inB row lo hi)) H Q
theorem ok_in_bounds (T : Txt K mg a) : Cal P w K mg base CX0 1 "in_bounds" (sp_in_bounds K a) := by
  refine cal_of T.d_in_bounds sc_in_bounds (fun vs H Q E h => ?_) (fun f cdv A outer s H vs Q E hr h => ⟨_, (pss_cons (ps_for PassesOwn.never rfl (pi_zip3 rfl T.b_zip (pa_cons (pv 0) (pa_cons (pv 1) (pa_cons (pv 2) pa_nil)))) (pg_tup rfl (pgs_cons (pg_name (i := 3) sc_in_bounds.nd rfl (Or.inl rfl)) (pgs_cons (pg_name (i := 4) sc_in_bounds.nd rfl (Or.inl rfl)) (pgs_cons (pg_name (i := 5) sc_in_bounds.nd rfl (Or.inl rfl)) pgs_nil)))) (pss_one (ps_if (PW.pt (pw_or (pt_cmpR op_lt (pv 3) (pv 4) (nomark _)) (pw_or1 (pt_cmpR op_gt (pv 3) (pv 5) (nomark _))))) (pss_one (ps_ret pe_bl)) pss_nil))) (pss_one (ps_ret pe_bl))), ?_⟩)
  · obtain ⟨_, _, _, _, _, _, rfl, _⟩ := h
    rfl
  · obtain ⟨p, q, r, row, lo, hi, rfl, hp, hq, hr', l1, l2, k⟩ := h
    refine ⟨_, rfl, _, rfl, _, rfl, p, q, r, _, _, _, rfl, hp, hq, hr', ?_⟩
    refine for_it (walk_zip3 (K := K) (a := p) (b := q) (c := r) (xs := iL row) (ys := iL lo) (zs := iL hi) (n := row.length) (by rw [iL_len, iL_len, iL_len, l1, l2, Nat.min_self, Nat.min_self]))
      (fun i σ' H' => ∃ x3 x4 x5, σ' = [some (.ref p), some (.ref q), some (.ref r), x3, x4, x5] ∧ Ex H H' ∧ ∀ (j : Nat) (v l h : Int), j < i → row[j]? = some v → lo[j]? = some l → hi[j]? = some h → l ≤ v ∧ v ≤ h)
      ⟨none, none, none, rfl, Ex.refl H, fun j v l h hj => absurd hj (Nat.not_lt_zero _)⟩ (fun i σ' H' _ ⟨_, _, _, _, e, _⟩ => ⟨ex_sq e hp, ex_sq e hq, ex_sq e hr'⟩) ?_ ?_
    · rintro i v σ' H' H2 hi' ⟨x3, x4, x5, rfl, e, ok⟩ ⟨T1, x, y, z, rfl, hT, rfl, hx, hy, hz⟩
      dsimp only at hx hy hz
      obtain ⟨vv, hvv, rfl⟩ := iL_at hx
      obtain ⟨ll, hll, rfl⟩ := iL_at hy
      obtain ⟨gg, hgg, rfl⟩ := iL_at hz
      have eT := e.trans (ex_new (o := .tup [.int vv, .int ll, .int gg]) hT)
      refine ⟨T1, _, rfl, st upd_same, rfl, _, _, rfl, _, _, rfl, _, _, rfl, rfl, ?_⟩
      have bad : ¬ (ll ≤ vv ∧ vv ≤ gg) → inB row lo hi = false := fun hb => by
        cases hB : inB row lo hi with
        | false => rfl
        | true => exact absurd (inB_iff.mp hB i vv ll gg hvv hll hgg) hb
      refine ⟨_, rfl, _, rfl, _, _, rfl, rfl, _, rfl, ite_b (fun c1 => ?_) (fun c1 => ?_)⟩
      · have c1' := of_decide_eq_true c1
        rw [bad (by omega)] at k
        exact iteT (k.go eT)
      have c1' := of_decide_eq_false c1
      refine ⟨_, rfl, _, rfl, _, _, rfl, rfl, _, rfl, ite_b (fun c2 => ?_) (fun c2 => ?_)⟩
      · have c2' := of_decide_eq_true c2
        rw [bad (by omega)] at k
        exact k.go eT
      have c2' := of_decide_eq_false c2
      refine ⟨_, _, _, rfl, eT, fun j v l h hj h1 h2 h3 => ?_⟩
      by_cases hji : j = i
      · subst hji
        rw [hvv] at h1
        rw [hll] at h2
        rw [hgg] at h3
        cases h1
        cases h2
        cases h3
        omega
      · exact ok j v l h (by omega) h1 h2 h3
    · rintro σ' H' ⟨x3, x4, x5, rfl, e, ok⟩
      have : inB row lo hi = true := inB_iff.mpr fun j v l h h1 h2 h3 => ok j v l h (List.getElem?_eq_some_iff.mp h1).1 h1 h2 h3
      rw [this] at k
      exact k.go e
def sp_tell_bounds (K : PySem.W.Frag) (a : Ads) : Sp := fun vs H Q _ => ∃ (p q r : Addr) (s : Sheet) (lo hi : List Int), vs = [.ref p, .ref q, .ref r] ∧ HeldAt a H p s ∧ SqL K H q (iL lo) ∧ SqL K H r (iL hi) ∧ RetL (iL (boundsM s lo hi)) H Q
theorem ne_int (a b : Int) : (!decide (V.int a = V.int b)) = decide (a ≠ b) := by
  rw [dec_int]
  by_cases h : a = b
  · rw [decide_eq_true h, decide_eq_false (fun c => c h)]
    rfl
  · rw [decide_eq_false h, decide_eq_true h]
    rfl
theorem inside_lt {rows : List (List Int)} {lo hi : List Int} : ∀ j ∈ insideM rows lo hi, j < rows.length := fun j hj => List.mem_range.mp (List.mem_filter.mp hj).1
theorem inside_len {rows : List (List Int)} {lo hi : List Int} : (insideM rows lo hi).length ≤ rows.length := by
  have := List.length_filter_le (fun i => inB (rows.getD i []) lo hi) (List.range rows.length)
  rw [List.length_range] at this
  exact this
theorem ok_tell_bounds (T : Txt K mg a) (c_Held_every_item : Met P w K mg base CX0 1 a.held "every_item" (sp_Held_every_item K a)) (c_in_bounds : Cal P w K mg base CX0 1 "in_bounds" (sp_in_bounds K a)) (c_told : Cal P w K mg base CX0 1 "told" (sp_told K a)) (c_Held_unbeaten : Met P w K mg base CX0 4 a.held "unbeaten" (sp_Held_unbeaten K a)) (c_Held_every_measure : Met P w K mg base CX0 1 a.held "every_measure" (sp_Held_every_measure K a)) : Cal P w K mg base CX0 5 "tell_bounds" (sp_tell_bounds K a) := by
  refine cal_of T.d_tell_bounds sc_tell_bounds (fun vs H Q E h => ?_) (fun f cdv A outer s H vs Q E hr h => ⟨_, (pss_cons (ps_if (PW.pt (pw_or (pt_cmpR op_ne (pe_callB call_len_seq rfl T.b_len PySem.boot_len (pa_cons (pv 1) pa_nil)) (pe_callB call_len_seq rfl T.b_len PySem.boot_len (pa_cons (pe_fld (pv 0) rfl) pa_nil)) (nomark _)) (pw_or1 (pt_cmpR op_ne (pe_callB call_len_seq rfl T.b_len PySem.boot_len (pa_cons (pv 2) pa_nil)) (pe_callB call_len_seq rfl T.b_len PySem.boot_len (pa_cons (pe_fld (pv 0) rfl) pa_nil)) (nomark _))))) (pss_one (ps_ret (pe_lst (pa_cons (pe_gc T.g_WRONG_ROWS) pa_nil)))) pss_nil) (pss_cons (ps_setLc (i := 3) (own := [("item", 4)]) (g := gName 4) (tt := (tB (tCall (sp_in_bounds K a) [] E0 (tCons (tOp (rIxL K) (tFld K (tVar 0) "rows") (tVar 4)) (tCons (tVar 1) (tCons (tVar 2) tNil)))))) (te := (tVar 4)) rfl sc_tell_bounds.nd rfl rfl (sw_true rfl rfl rfl (by decide +kernel)) (pi_list (pe_mt0 T.cl_held c_Held_every_item hr pass0 (pv 0))) (blkOk_by (N := N_tell_bounds) (sc := (defScope s_tell_bounds)) (by decide +kernel)) (fun _ _ _ _ _ => (pg_name (i := 4) sc_tell_bounds.nd rfl (Or.inl rfl))) (fun _ _ _ _ _ => (pts_one (pt_val (pe_c c_in_bounds hr pass0 (pa_cons (pe_ix ix_list (pe_fld (pv 0) rfl) (pv 4) (fun _ _ => rfl)) (pa_cons (pv 1) (pa_cons (pv 2) pa_nil))))))) (fun _ _ _ _ _ => (pv 4))) (pss_one (ps_ret (pe_op op_cat (pe_lst (pa_cons (pe_callB call_len_seq rfl T.b_len PySem.boot_len (pa_cons (pv 3) pa_nil)) pa_nil)) (pe_c c_told hr pass0 (pa_cons (pe_mt T.cl_held c_Held_unbeaten hr pass0 (pv 0) (pa_cons (pv 3) (pa_cons (pe_mt0 T.cl_held c_Held_every_measure hr pass0 (pv 0)) pa_nil))) pa_nil))))))), ?_⟩)
  · obtain ⟨_, _, _, _, _, _, rfl, _⟩ := h
    rfl
  · obtain ⟨p, q, r, sh, lo, hi, rfl, hh, hq, hr', k⟩ := h
    have hn16 := hh.wf.items
    have hn4 := hh.wf.ms.2
    obtain ⟨⟨dx, r1, r2, r3, r4, h0, _, hups, _, hro⟩, wf⟩ := id hh
    obtain ⟨qu, equ, hqu⟩ := dB_da hups
    cases equ
    unfold boundsM at k
    refine ⟨_, rfl, q, _, rfl, .inl hq, _, rfl, p, _, dx, _, _, rfl, h0, T.cl_held, T.na_held_ups, hf_up, r2, _, rfl, .inl (sq hqu), rfl, _, rfl, ?_⟩
    rw [ne_int, iL_len, List.length_map, List.length_map]
    refine ite_b (fun c1 => ?_) (fun c1 => ?_)
    · have c1' := of_decide_eq_true c1
      rw [if_pos (.inl (by omega))] at k
      exact iteT (one_lst k (Ex.refl _) rfl)
    have c1' := of_decide_eq_false c1
    refine ⟨_, rfl, r, _, rfl, .inl hr', _, rfl, p, _, dx, _, _, rfl, h0, T.cl_held, T.na_held_ups, hf_up, r2, _, rfl, .inl (sq hqu), rfl, _, rfl, ?_⟩
    rw [ne_int, iL_len, List.length_map, List.length_map]
    refine ite_b (fun c2 => ?_) (fun c2 => ?_)
    · have c2' := of_decide_eq_true c2
      rw [if_pos (.inr (by omega))] at k
      exact one_lst k (Ex.refl _) rfl
    have c2' := of_decide_eq_false c2
    rw [if_neg (by omega)] at k
    refine ⟨_, rfl, p, dx, _, rfl, h0, hn_itm, p, sh, rfl, hh, fun V0 H1 hV e1 h1 => ?_⟩
    refine ⟨V0, rfl, ⟨_, sq h1⟩, fun Dl hD => ?_⟩
    refine lc_list (K := K) (a := V0) (xs := nats (List.range sh.items.length)) (Kept H1 (fun i => inB ((sh.items.map fun i => i.vs).getD i []) lo hi) (List.range sh.items.length) Dl) (Kept.start hD) (fun t H' _ k' => sq (k'.2.1 _ _ h1)) ?_ ?_
    · intro n z H' hn k'
      obtain ⟨m, hm, rfl⟩ := nats_get hn
      have e := e1.trans k'.2.1
      have hml : m < sh.items.length := List.mem_range.mp (List.mem_of_getElem? hm)
      obtain ⟨⟨dx', s1, s2, s3, s4, g0, _, _, _, gro⟩, _⟩ := id (hh.mono e)
      obtain ⟨zs, hz, hzl, hzg⟩ := dLL_da gro
      have hi' := List.getElem?_eq_getElem hml
      have hmem := List.mem_of_getElem? hi'
      generalize sh.items[m] = it at hi' hmem
      have hit : (sh.items.map fun i => i.vs)[m]? = some it.vs := by rw [List.getElem?_map, hi']; rfl
      obtain ⟨qi, xi, hqi⟩ := hzg m it.vs hit
      have hgd : (sh.items.map fun i => i.vs).getD m [] = it.vs := by rw [List.getD_eq_getElem?_getD, hit]; rfl
      have hwid := wf.rows it hmem
      refine ⟨rfl, k'.turn hm (by rw [List.length_range]; omega) (fun Q' q' => ?_) (fun H4 Q' q' => ⟨_, rfl, q'⟩)⟩
      refine ⟨_, rfl, p, _, dx', _, _, rfl, g0, T.cl_held, T.na_held_rows, hf_ro, _, rfl, s4, zs, _, _, rfl, rfl, sq hz, at_nat xi, _, rfl, _, rfl, qi, q, r, it.vs, lo, hi, rfl, sq hqi, ex_sq e hq, ex_sq e hr', by omega, by omega, fun H4 e4 => ⟨_, rfl, ?_⟩⟩
      rw [← hgd]
      exact q' H4 e4
    · intro H2 k'
      rw [len_nats] at k'
      obtain ⟨k1, k2, k3⟩ := k'
      rw [List.take_length] at k3
      have e2 := e1.trans k2
      have hins : (List.range sh.items.length).filter (fun i => inB ((sh.items.map fun i => i.vs).getD i []) lo hi) = insideM (sh.items.map fun i => i.vs) lo hi := by
        unfold insideM
        rw [List.length_map]
      rw [hins] at k3
      generalize hI : insideM (sh.items.map fun i => i.vs) lo hi = I at k k3
      have hIl : I.length ≤ 16 := by
        rw [← hI]
        have := inside_len (rows := sh.items.map fun i => i.vs) (lo := lo) (hi := hi)
        rw [List.length_map] at this
        omega
      have hIm : ∀ j ∈ I, j < sh.items.length := fun j hj => by
        rw [← hI] at hj
        have := inside_lt j hj
        rwa [List.length_map] at this
      refine ⟨_, rfl, Dl, _, rfl, .inl (sq k3), by show 1 ≤ sizeLine; decide, fun u hu => ?_⟩
      have eu := ex_new (o := .lst [.int ((nats I).length : Nat)]) hu
      have e3 := e2.trans eu
      have hh3 := hh.mono e3
      obtain ⟨⟨dx', s1, s2, s3, s4, g0, _⟩, _⟩ := id hh3
      refine ⟨_, rfl, p, dx', _, rfl, g0, hn_unb, _, rfl, _, rfl, p, dx', _, rfl, g0, hn_mea, p, sh, rfl, hh3, fun V1 H4 hV1 e4 h4 => ?_⟩
      refine ⟨p, V1, Dl, sh, List.range sh.ms.length, I, rfl, hh3.mono e4, sq h4, fun m hm => List.mem_range.mp hm, sq (e4 _ _ (eu _ _ k3)), hIm, by omega, fun r' H5 hr5 e5 h5 => ?_⟩
      have hul : (nz (unb (Vaskya.rows sh) (List.range sh.ms.length) I)).length ≤ 100000 := unb_small (by omega)
      refine ⟨r', _, rfl, h5, by omega, fun v H6 hv6 e6 h6 => ?_⟩
      refine cat_go (H := H) (H1 := H) (xs := [(I.length : Int)]) (e3.trans (e4.trans (e5.trans e6))) ((e4.trans (e5.trans e6)) _ _ (by rw [upd_same, len_nats]; rfl)) h6 (by rw [tM_len]; show 1 + _ ≤ _; omega) rfl k
def sp_right_groups (K : PySem.W.Frag) (a : Ads) : Sp := fun vs H Q _ => ∃ (p q : Addr) (s : Sheet) (l : List Int), vs = [.ref p, .ref q] ∧ HeldAt a H p s ∧ SqL K H q (iL l) ∧ RetV (.bl (rightG s.items.length l)) H Q
theorem ok_right_groups (T : Txt K mg a) : Cal P w K mg base CX0 1 "right_groups" (sp_right_groups K a) := by
  refine cal_of T.d_right_groups sc_right_groups (fun vs H Q E h => ?_) (fun f cdv A outer s H vs Q E hr h => ⟨_, (pss_cons (ps_if (pt_cmpR op_ne (pe_callB call_len_seq rfl T.b_len PySem.boot_len (pa_cons (pv 1) pa_nil)) (pe_callB call_len_seq rfl T.b_len PySem.boot_len (pa_cons (pe_fld (pv 0) rfl) pa_nil)) (nomark _)) (pss_one (ps_ret pe_bl)) pss_nil) (pss_cons (ps_for PassesOwn.never rfl (pi_list (pv 1)) (pg_name (i := 2) sc_right_groups.nd rfl (Or.inl rfl)) (pss_one (ps_if (PW.pt (pw_or (pt_cmpR op_lt (pv 2) pe_int (nomark _)) (pw_or1 (pt_cmpR op_ge (pv 2) (pe_gc T.g_GROUPS_telling) (nomark _))))) (pss_one (ps_ret pe_bl)) pss_nil))) (pss_one (ps_ret pe_bl)))), ?_⟩)
  · obtain ⟨_, _, _, _, rfl, _⟩ := h
    rfl
  · obtain ⟨p, q, sh, l, rfl, hh, hq, k⟩ := h
    obtain ⟨⟨dx, r1, r2, r3, r4, h0, _, _, _, hro⟩, _⟩ := id hh
    obtain ⟨zs, hz, hzl, hzg⟩ := dLL_da hro
    rw [List.length_map] at hzl
    refine ⟨_, rfl, q, _, rfl, .inl hq, _, rfl, p, _, dx, _, _, rfl, h0, T.cl_held, T.na_held_rows, hf_ro, r4, _, rfl, .inl (sq hz), rfl, _, rfl, ?_⟩
    rw [ne_int, iL_len, hzl]
    refine ite_b (fun c1 => ?_) (fun c1 => ?_)
    · have c1' := of_decide_eq_true c1
      have : rightG sh.items.length l = false := decide_eq_false fun ⟨h1, _⟩ => by omega
      rw [this] at k
      exact k.go (Ex.refl _)
    have c1' := of_decide_eq_false c1
    refine ⟨_, rfl, q, rfl, ⟨_, hq⟩, for_list (K := K) (a := q) (xs := iL l) (fun i σ' H' => ∃ x2, σ' = [some (.ref p), some (.ref q), x2] ∧ Ex H H' ∧ ∀ z ∈ l.take i, 0 ≤ z ∧ z < 10) ⟨none, rfl, Ex.refl H, fun z hz => by simp at hz⟩ (fun i σ' H' _ ⟨_, _, e, _⟩ => ex_sq e hq) ?_ ?_⟩
    · rintro i v σ' H' hi ⟨x2, rfl, e, ok⟩
      obtain ⟨z, hz, rfl⟩ := iL_at hi
      have bad : ¬ (0 ≤ z ∧ z < 10) → Q (.bl false) H' := fun hb => by
        have : rightG sh.items.length l = false := decide_eq_false fun ⟨_, h2⟩ => hb (h2 z (List.mem_of_getElem? hz))
        rw [this] at k
        exact k.go e
      refine ⟨_, rfl, _, _, rfl, rfl, _, rfl, ite_b (fun c1 => ?_) (fun c1 => ?_)⟩
      · have := of_decide_eq_true c1
        exact iteT (bad (by omega))
      have c1' := of_decide_eq_false c1
      refine ⟨_, rfl, _, _, rfl, rfl, _, rfl, ite_b (fun c2 => ?_) (fun c2 => ?_)⟩
      · have := of_decide_eq_true c2
        exact bad (by omega)
      have c2' := of_decide_eq_false c2
      refine ⟨_, rfl, e, fun y hy => ?_⟩
      rw [take_more hz] at hy
      rcases List.mem_append.mp hy with h | h
      · exact ok y h
      · rw [List.mem_singleton.mp h]
        omega
    · rintro σ' H' ⟨x2, rfl, e, ok⟩
      rw [iL_len, List.take_length] at ok
      have : rightG sh.items.length l = true := decide_eq_true ⟨by omega, ok⟩
      rw [this] at k
      exact k.go e
end
end Fw
set_option Elab.async false
set_option maxRecDepth 100000
set_option maxHeartbeats 4000000
namespace Fw
open PySem PySem.Spec PyProof.Rows L2 Fm
open Evl (Ex Ev EvL EvU EvT EvA RV RetL RetV)
open Vaskya (Sheet Measure Item)
theorem toN_get {l : List Int} {i : Nat} {z : Int} (h : l[i]? = some z) : (toN l).getD i 0 = z.toNat := by
  unfold toN
  rw [List.getD_eq_getElem?_getD, List.getElem?_map, h]
  rfl
theorem bs_len (l : List (List Int)) (n : Nat) (gs : List Nat) (k : Nat) : (bsM l n gs k).length ≤ k := by
  unfold bsM
  rw [List.length_map]
  have := List.length_filter_le (fun g => gs.contains g) (List.range k)
  rw [List.length_range] at this
  exact this
theorem grp_len {l : List (List Int)} {n : Nat} {gs : List Nat} {k : Nat} (hl : l.length ≤ 16) : ((bsM l n gs k).flatMap grpRow).length ≤ k * 18 := by
  have h := flatMap_len (f := grpRow) (m := 18) (l := bsM l n gs k) fun x hx => by
    unfold bsM at hx
    rw [List.mem_map] at hx
    obtain ⟨g, _, rfl⟩ := hx
    unfold grpRow
    show (tM (nz (unb l (List.range n) (members l.length gs g)))).length + 1 ≤ 18
    rw [tM_len, nz_len]
    have h1 := unb_len (l := l) (u := List.range n) (is := members l.length gs g)
    have h2 : (members l.length gs g).length ≤ l.length := by
      unfold members
      have := List.length_filter_le (fun i => gs.getD i 0 == g) (List.range l.length)
      rw [List.length_range] at this
      exact this
    omega
  exact Nat.le_trans h (Nat.mul_le_mul_right _ (bs_len l n gs k))
theorem members_small {len : Nat} {gs : List Nat} {g : Nat} : (members len gs g).length ≤ len ∧ ∀ i ∈ members len gs g, i < len := by
  unfold members
  refine ⟨?_, fun i hi => List.mem_range.mp (List.mem_filter.mp hi).1⟩
  have := List.length_filter_le (fun i => gs.getD i 0 == g) (List.range len)
  rw [List.length_range] at this
  exact this
section
variable {P : Program} {w : World} {K : PySem.W.Frag} {mg : Str → Option Value} {base : Heap} {a : Ads}
def sp_tell_groups (K : PySem.W.Frag) (a : Ads) : Sp := fun vs H Q _ => ∃ (p q : Addr) (s : Sheet) (l : List Int), vs = [.ref p, .ref q] ∧ HeldAt a H p s ∧ SqL K H q (iL l) ∧ RetL (iL (groupsM s l)) H Q
theorem ok_tell_groups (T : Txt K mg a) (c_right_groups : Cal P w K mg base CX0 1 "right_groups" (sp_right_groups K a)) (c_Held_every_measure : Met P w K mg base CX0 1 a.held "every_measure" (sp_Held_every_measure K a)) (c_Held_every_item : Met P w K mg base CX0 1 a.held "every_item" (sp_Held_every_item K a)) (c_Held_unbeaten : Met P w K mg base CX0 4 a.held "unbeaten" (sp_Held_unbeaten K a)) (c_told : Cal P w K mg base CX0 1 "told" (sp_told K a)) : Cal P w K mg base CX0 5 "tell_groups" (sp_tell_groups K a) := by
  refine cal_of T.d_tell_groups sc_tell_groups (fun vs H Q E h => ?_) (fun f cdv A outer s H vs Q E hr h => ⟨_, (pss_cons (ps_if (pt_not (pt_val (pe_c c_right_groups hr pass0 (pa_cons (pv 0) (pa_cons (pv 1) pa_nil))))) (pss_one (ps_ret (pe_lst (pa_cons (pe_gc T.g_WRONG_ROWS) pa_nil)))) pss_nil) (pss_cons (ps_set (i := 2) sc_tell_groups.nd rfl (Or.inl rfl) (pe_mt0 T.cl_held c_Held_every_measure hr pass0 (pv 0))) (pss_cons (ps_set (i := 3) sc_tell_groups.nd rfl (Or.inl rfl) pe_int) (pss_cons (ps_set (i := 4) sc_tell_groups.nd rfl (Or.inl rfl) (pe_lst pa_nil)) (pss_cons (ps_set (i := 5) sc_tell_groups.nd rfl (Or.inl rfl) (pe_lst pa_nil)) (pss_cons (ps_for PassesOwn.never rfl (pi_range1 rfl T.b_range (pa_cons (pe_gc T.g_GROUPS_telling) pa_nil)) (pg_name (i := 6) sc_tell_groups.nd rfl (Or.inr rfl)) (pss_cons (ps_setLc (i := 7) (own := [("item", 9)]) (g := gName 9) (tt := (tTest (tOp rEq (tOp (rIxL K) (tVar 1) (tVar 9)) (tVar 6)))) (te := (tVar 9)) rfl sc_tell_groups.nd rfl rfl (sw_true rfl rfl rfl (by decide +kernel)) (pi_list (pe_mt0 T.cl_held c_Held_every_item hr pass0 (pv 0))) (blkOk_by (N := N_tell_groups) (sc := (defScope s_tell_groups)) (by decide +kernel)) (fun _ _ _ _ _ => (pg_name (i := 9) sc_tell_groups.nd rfl (Or.inl rfl))) (fun _ _ _ _ _ => (pts_one (pt_cmpR op_eq (pe_ix ix_list (pv 1) (pv 9) (fun _ _ => rfl)) (pv 6) (nomark _)))) (fun _ _ _ _ _ => (pv 9))) (pss_one (ps_if (pt_cmpR op_gt (pe_callB call_len_seq rfl T.b_len PySem.boot_len (pa_cons (pv 7) pa_nil)) pe_int (nomark _)) (pss_cons (ps_set (i := 8) sc_tell_groups.nd rfl (Or.inl rfl) (pe_mt T.cl_held c_Held_unbeaten hr pass0 (pv 0) (pa_cons (pv 7) (pa_cons (pv 2) pa_nil)))) (pss_cons (ps_aug (i := 3) sc_tell_groups.nd rfl (Or.inl rfl) pe_int ip_add) (pss_cons (ps_expr (pe_bm PySem.F.plainAttrs_list PySem.F.slot_list_append PySem.F.type_list_append mt_append (pv 4) (pa_cons (pv 6) pa_nil))) (pss_cons (ps_expr (pe_bm PySem.F.plainAttrs_list PySem.F.slot_list_extend PySem.F.type_list_extend mt_extend (pv 4) (pa_cons (pe_c c_told hr pass0 (pa_cons (pv 8) pa_nil)) pa_nil))) (pss_one (ps_expr (pe_bm PySem.F.plainAttrs_list PySem.F.slot_list_extend PySem.F.type_list_extend mt_extend (pv 5) (pa_cons (pv 8) pa_nil)))))))) pss_nil)))) (pss_one (ps_ret (pe_op op_cat (pe_op op_cat (pe_lst (pa_cons (pv 3) pa_nil)) (pv 4)) (pe_c c_told hr pass0 (pa_cons (pe_mt T.cl_held c_Held_unbeaten hr pass0 (pv 0) (pa_cons (pe_callB cr_sorted rfl T.b_sorted (by decide +kernel) (pa_cons (pv 5) pa_nil)) (pa_cons (pv 2) pa_nil))) pa_nil))))))))))), ?_⟩)
  · obtain ⟨_, _, _, _, rfl, _⟩ := h
    rfl
  · obtain ⟨p, q, sh, l, rfl, hh, hq, k⟩ := h
    have hn16 := hh.wf.items
    have hn4 := hh.wf.ms.2
    have hrl := rows_len sh
    unfold groupsM at k
    refine ⟨_, rfl, _, rfl, p, q, sh, l, rfl, hh, hq, fun H1 e1 => ⟨_, rfl, ?_⟩⟩
    cases hrg : rightG sh.items.length l with
    | false =>
      rw [hrg, if_neg Bool.false_ne_true] at k
      exact iteT (one_lst k e1 rfl)
    | true =>
    rw [hrg, if_pos rfl] at k
    refine iteF ?_
    obtain ⟨hll, hlr⟩ := of_decide_eq_true hrg
    have hgl : (toN l).length = (Vaskya.rows sh).length := by unfold toN; rw [List.length_map, hrl, hll]
    obtain ⟨⟨dx, r1, r2, r3, r4, h0, _⟩, _⟩ := id (hh.mono e1)
    refine ⟨_, rfl, p, dx, _, rfl, h0, hn_mea, p, sh, rfl, hh.mono e1, fun M H0 hM e0 hM0 => ?_⟩
    refine ⟨by show 0 ≤ sizeLine; decide, fun A1 hA => ⟨by show 0 ≤ sizeLine; decide, fun B1 hB => ?_⟩⟩
    have eA := ex_new (o := .lst []) hA
    have hB0 : H0 B1 = none := fresh_of eA hB
    have hAB : A1 ≠ B1 := fun z => by rw [z, upd_same] at hB; cases hB
    have eH0 := e1.trans e0
    refine ⟨10, rfl, by decide, by decide, ?_⟩
    refine for_range (lo := 0) (n := 10) (fun g σ' H' => ∃ x6 x7 x8, σ' = [some (.ref p), some (.ref q), some (.ref M), some (.int ((bsM (Vaskya.rows sh) sh.ms.length (toN l) g).length : Nat)), some (.ref A1), some (.ref B1), x6, x7, x8, none] ∧ Ex H0 H' ∧
        H' A1 = some (.lst (iL ((bsM (Vaskya.rows sh) sh.ms.length (toN l) g).flatMap grpRow))) ∧ H' B1 = some (.lst (nats (restM (bsM (Vaskya.rows sh) sh.ms.length (toN l) g)))))
      ⟨none, none, none, rfl, eA.trans (ex_new hB), by rw [upd_ne hAB]; exact upd_same, upd_same⟩ ?_ ?_
    · rintro g σ' H' hg ⟨x6, x7, x8, rfl, e, hA', hB'⟩
      have eH := eH0.trans e
      obtain ⟨⟨dx', s1, s2, s3, s4, g0, _⟩, _⟩ := id (hh.mono eH)
      refine ⟨_, rfl, p, dx', _, rfl, g0, hn_itm, p, sh, rfl, hh.mono eH, fun V0 H2 hV e2 h2 => ?_⟩
      refine ⟨V0, rfl, ⟨_, sq h2⟩, fun Dl hD => ?_⟩
      refine lc_list (K := K) (a := V0) (xs := nats (List.range sh.items.length)) (Kept H2 (fun i => (toN l).getD i 0 == g) (List.range sh.items.length) Dl) (Kept.start hD) (fun t H' _ k' => sq (k'.2.1 _ _ h2)) ?_ ?_
      · intro n z H3 hn k'
        obtain ⟨m, hm, rfl⟩ := nats_get hn
        have hml : m < l.length := by rw [hll]; exact List.mem_range.mp (List.mem_of_getElem? hm)
        have hz := List.getElem?_eq_getElem hml
        generalize l[m] = z at hz
        obtain ⟨z1, z2⟩ := hlr z (List.mem_of_getElem? hz)
        have e3 := (eH.trans e2).trans k'.2.1
        refine ⟨rfl, k'.turn hm (by rw [List.length_range]; omega) (fun Q' q' => ?_) (fun H4 Q' q' => ⟨_, rfl, q'⟩)⟩
        refine ⟨_, rfl, _, rfl, q, _, _, _, rfl, rfl, ex_sq e3 hq, at_nat (iL_get hz), _, rfl, rfl, _, rfl, ?_⟩
        have hb : decide (V.int z = V.int (0 + (g : Int))) = ((toN l).getD m 0 == g) := by
          rw [dec_int, toN_get hz, Bool.eq_iff_iff, decide_eq_true_eq, beq_iff_eq]
          omega
        rw [hb]
        exact q' H3 (Ex.refl _)
      · intro H3 k'
        rw [len_nats] at k'
        obtain ⟨k1, k2, k3⟩ := k'
        rw [List.take_length] at k3
        have hmm : (List.range sh.items.length).filter (fun i => (toN l).getD i 0 == g) = members (Vaskya.rows sh).length (toN l) g := by
          unfold members
          rw [hrl]
        rw [hmm] at k3
        have e3 := e.trans (e2.trans k2)
        have e23 := e2.trans k2
        obtain ⟨hms1, hms2⟩ := members_small (len := (Vaskya.rows sh).length) (gs := toN l) (g := g)
        have hms3 : ∀ j ∈ members (Vaskya.rows sh).length (toN l) g, j < sh.items.length := fun j hj => by
          have := hms2 j hj
          omega
        refine ⟨_, rfl, Dl, _, rfl, .inl (sq k3), _, _, rfl, rfl, _, rfl, ?_⟩
        rw [len_nats]
        refine ite_b (fun c1 => ?_) (fun c1 => ?_)
        · have c1' := of_decide_eq_true c1
          have hcon : (toN l).contains g = true := by
            cases hcc : (toN l).contains g with
            | true => rfl
            | false =>
              have := (members_ne (g := g) hgl).mpr hcc
              rw [this] at c1'
              simp at c1'
          rw [bs_yes hcon]
          obtain ⟨⟨dx3, t1, t2, t3, t4, f0, _⟩, _⟩ := id (hh.mono (eH0.trans e3))
          refine ⟨_, rfl, p, dx3, _, rfl, f0, hn_unb, _, rfl, _, rfl, p, M, Dl, sh, List.range sh.ms.length, members (Vaskya.rows sh).length (toN l) g, rfl, hh.mono (eH0.trans e3), sq (e3 _ _ hM0), fun m hm => List.mem_range.mp hm, sq k3, hms3, by omega, fun r H4 hr4 e4 h4 => ?_⟩
          have hul : (unb (Vaskya.rows sh) (List.range sh.ms.length) (members (Vaskya.rows sh).length (toN l) g)).length ≤ 16 := Nat.le_trans unb_len (by omega)
          have hA4 := e4 _ _ (e23 _ _ hA')
          have hB4 := e4 _ _ (e23 _ _ hB')
          have hgs := grp_len (l := Vaskya.rows sh) (n := sh.ms.length) (gs := toN l) (k := g) (by omega)
          have hrs := rest_len (Vaskya.rows sh) sh.ms.length (toN l) g
          refine ⟨_, rfl, _, _, rfl, rfl, ?_⟩
          refine ⟨_, rfl, .inl ⟨rfl, _, sq hA4⟩, _, rfl, A1, _, _, rfl, rfl, hA4, szl (by rw [iL_len]; omega), ?_⟩
          have e5 := Evl.Ex.mut (o := .lst (iL ((bsM (Vaskya.rows sh) sh.ms.length (toN l) g).flatMap grpRow) ++ [.int (0 + (g : Int))])) (e3.trans e4) hA
          have hrA : r ≠ A1 := fun z => by rw [z, e23 _ _ hA'] at hr4; cases hr4
          have hrB : r ≠ B1 := fun z => by rw [z, e23 _ _ hB'] at hr4; cases hr4
          refine ext_told (H0 := H0) (i := 4) (j := 8) (L := A1) (q := r) (acc := (bsM (Vaskya.rows sh) sh.ms.length (toN l) g).flatMap grpRow ++ [(0 + (g : Int))]) (ns := nz (unb (Vaskya.rows sh) (List.range sh.ms.length) (members (Vaskya.rows sh).length (toN l) g))) rfl rfl ?_ ?_ e5 hA ?_ ?_ fun H6 e6 oth h6 => ?_
          · rw [upd_same, iL_app]
            rfl
          · rw [upd_ne hrA]
            exact h4
          · rw [List.length_append]
            show _ + 1 ≤ _
            omega
          · rw [nz_len]
            omega
          · have hB6 := oth B1 _ (Ne.symm hAB) (by rw [upd_ne (Ne.symm hAB)]; exact hB4)
            have hr6 := oth r _ hrA (by rw [upd_ne hrA]; exact h4)
            refine ⟨_, rfl, .inl ⟨rfl, _, sq hB6⟩, _, rfl, B1, r, _, _, rfl, rfl, hB6, hr6, ?_, ?_⟩
            · rw [len_nats, len_nats]
              exact sz (by omega)
            · refine ⟨some (.int (0 + (g : Int))), some (.ref Dl), some (.ref r), ?_, Evl.Ex.mut e6 hB0, ?_, ?_⟩
              · rw [List.length_append]
                rfl
              · rw [upd_ne hAB, h6, List.flatMap_append, List.flatMap_cons, List.flatMap_nil, List.append_nil, List.append_assoc]
                unfold grpRow
                rw [Int.zero_add]
                rfl
              · rw [upd_same, ← nats_app]
                unfold restM
                rw [List.flatMap_append, List.flatMap_cons, List.flatMap_nil, List.append_nil]
        · have c1' := of_decide_eq_false c1
          have hcon : (toN l).contains g = false := by
            refine (members_ne hgl).mp ?_
            exact List.length_eq_zero_iff.mp (by omega)
          rw [bs_no hcon]
          exact ⟨_, _, _, rfl, e3, e23 _ _ hA', e23 _ _ hB'⟩
    · rintro σ' H' ⟨x6, x7, x8, rfl, e, hA', hB'⟩
      have eH := eH0.trans e
      have hgs := grp_len (l := Vaskya.rows sh) (n := sh.ms.length) (gs := toN l) (k := 10) (by omega)
      have hrs := rest_len (Vaskya.rows sh) sh.ms.length (toN l) 10
      generalize hbs : bsM (Vaskya.rows sh) sh.ms.length (toN l) 10 = bs at *
      refine ⟨_, rfl, by show 1 ≤ sizeLine; decide, fun u hu => ⟨_, rfl, ?_⟩⟩
      have eu := ex_new (o := .lst [.int ((bs.length : Nat) : Int)]) hu
      refine cat_go (H := upd H' u (.lst [.int ((bs.length : Nat) : Int)])) (H1 := H') (xs := [((bs.length : Nat) : Int)]) (zs := [((bs.length : Nat) : Int)] ++ bs.flatMap grpRow) (Ex.refl _) (by rw [upd_same]; rfl) (eu _ _ hA') (by show 1 + _ ≤ _; omega) rfl fun c H2 hc e2 h2 => ?_
      have e3 := eH.trans (eu.trans e2)
      obtain ⟨⟨dx', s1, s2, s3, s4, g0, _⟩, _⟩ := id (hh.mono e3)
      refine ⟨_, rfl, p, dx', _, rfl, g0, hn_unb, _, rfl, B1, nz (restM bs), rfl, sq (e2 _ _ (eu _ _ hB')), by rw [nz_len]; omega, fun ns' r hpm hpw hr => ?_⟩
      have hso : ns' = nz ((List.range (Vaskya.rows sh).length).filter fun i => bs.any fun x => x.2.contains i) := by
        have := sorted_is (l := Vaskya.rows sh) (n := sh.ms.length) (gs := toN l) (k := 10) (ns := ns') (by rw [hbs]; exact hpm) hpw
        rw [hbs] at this
        exact this
      subst hso
      generalize hI : ((List.range (Vaskya.rows sh).length).filter fun i => bs.any fun x => x.2.contains i) = I at *
      have hIl : I.length ≤ 16 := by
        rw [← hI]
        have := List.length_filter_le (fun i => bs.any fun x => x.2.contains i) (List.range (Vaskya.rows sh).length)
        rw [List.length_range] at this
        omega
      have hIm : ∀ j ∈ I, j < sh.items.length := fun j hj => by
        rw [← hI] at hj
        have := List.mem_range.mp (List.mem_filter.mp hj).1
        omega
      have er := ex_new (o := .lst (nats I)) hr
      have hM4 : (upd H2 r (.lst (nats I))) M = some (.lst (nats (List.range sh.ms.length))) := er _ _ ((e.trans (eu.trans e2)) _ _ hM0)
      refine ⟨_, rfl, p, M, r, sh, List.range sh.ms.length, I, rfl, hh.mono (e3.trans er), sq hM4, fun m hm => List.mem_range.mp hm, sq upd_same, hIm, by omega, fun r' H5 hr5 e5 h5 => ?_⟩
      have hul : (nz (unb (Vaskya.rows sh) (List.range sh.ms.length) I)).length ≤ 100000 := unb_small (by omega)
      refine ⟨r', _, rfl, h5, by omega, fun v H6 hv6 e6 h6 => ?_⟩
      refine cat_go (H := H) (H1 := H) (xs := [((bs.length : Nat) : Int)] ++ bs.flatMap grpRow) (e3.trans (er.trans (e5.trans e6))) ((er.trans (e5.trans e6)) _ _ h2) h6 (by rw [tM_len, List.length_append]; show 1 + _ + _ ≤ _; omega) rfl k
def sp_tell_cover (K : PySem.W.Frag) (a : Ads) : Sp := fun vs H Q _ => ∃ (p : Addr) (s : Sheet) (i : Int), vs = [.ref p, .int i] ∧ HeldAt a H p s ∧ RetL (iL (coverM s i)) H Q
theorem best_len {cov : List Nat → Nat} {m : Nat} : ∀ (ss : List (List Nat)) (b : Int × List Nat), (∀ s ∈ ss, s.length ≤ m) → b.2.length ≤ m → (ss.foldl (bestTurn cov) b).2.length ≤ m
  | [], b, _, hb => hb
  | s :: ss, b, h, hb => by
    refine best_len ss _ (fun x hx => h x (List.mem_cons_of_mem _ hx)) ?_
    unfold bestTurn
    split
    · exact h s (List.mem_cons_self ..)
    · exact hb
theorem ok_tell_cover (T : Txt K mg a) (c_prey_of : Cal P w K mg base CX0 3 "prey_of" (sp_prey_of K a)) (c_best_together : Cal P w K mg base CX0 2 "best_together" (sp_best_together K a)) (c_step_by_step : Cal P w K mg base CX0 3 "step_by_step" (sp_step_by_step K a)) : Cal P w K mg base CX0 4 "tell_cover" (sp_tell_cover K a) := by
  refine cal_of T.d_tell_cover sc_tell_cover (fun vs H Q E h => ?_) (fun f cdv A outer s H vs Q E hr h => ⟨_, (pss_cons (ps_if (PW.pt (pw_or (pt_cmpR op_lt (pv 1) pe_int (nomark _)) (pw_or (pt_cmpR op_gt (pv 1) (pe_gc T.g_MOST_TAKEN) (nomark _)) (pw_or1 (pt_cmpR op_gt (pv 1) (pe_callB call_len_seq rfl T.b_len PySem.boot_len (pa_cons (pe_fld (pv 0) rfl) pa_nil)) (nomark _)))))) (pss_one (ps_ret (pe_lst (pa_cons (pe_gc T.g_WRONG_MANY) pa_nil)))) pss_nil) (pss_cons (ps_set (i := 2) sc_tell_cover.nd rfl (Or.inl rfl) (pe_c c_prey_of hr pass0 (pa_cons (pv 0) pa_nil))) (pss_cons (ps_asg (pe_c c_best_together hr pass0 (pa_cons (pv 2) (pa_cons (pv 1) pa_nil))) (pg_tup rfl (pgs_cons (pg_name (i := 3) sc_tell_cover.nd rfl (Or.inl rfl)) (pgs_cons (pg_name (i := 4) sc_tell_cover.nd rfl (Or.inl rfl)) pgs_nil)))) (pss_cons (ps_asg (pe_c c_step_by_step hr pass0 (pa_cons (pv 2) (pa_cons (pv 1) pa_nil))) (pg_tup rfl (pgs_cons (pg_name (i := 5) sc_tell_cover.nd rfl (Or.inl rfl)) (pgs_cons (pg_name (i := 6) sc_tell_cover.nd rfl (Or.inl rfl)) pgs_nil)))) (pss_one (ps_ret (pe_op op_cat (pe_op op_cat (pe_op op_cat (pe_lst (pa_cons (pv 3) pa_nil)) (pv 4)) (pe_lst (pa_cons (pv 5) pa_nil))) (pv 6)))))))), ?_⟩)
  · obtain ⟨_, _, _, rfl, _⟩ := h
    rfl
  · obtain ⟨p, sh, i, rfl, hh, k⟩ := h
    have hn16 := hh.wf.items
    have hrl := rows_len sh
    obtain ⟨⟨dx, r1, r2, r3, r4, h0, _, _, _, hro⟩, wf⟩ := id hh
    obtain ⟨zs, hz, hzl, hzg⟩ := dLL_da hro
    rw [List.length_map] at hzl
    unfold coverM at k
    refine ⟨_, rfl, _, _, rfl, rfl, _, rfl, ite_b (fun c1 => ?_) (fun c1 => ?_)⟩
    · rw [if_pos (.inl (of_decide_eq_true c1))] at k
      exact iteT (one_lst k (Ex.refl _) rfl)
    have c1' := of_decide_eq_false c1
    refine ⟨_, rfl, _, _, rfl, rfl, _, rfl, ite_b (fun c2 => ?_) (fun c2 => ?_)⟩
    · rw [if_pos (.inr (.inl (of_decide_eq_true c2)))] at k
      exact iteT (one_lst k (Ex.refl _) rfl)
    have c2' := of_decide_eq_false c2
    refine ⟨_, rfl, _, rfl, p, _, dx, _, _, rfl, h0, T.cl_held, T.na_held_rows, hf_ro, r4, _, rfl, .inl (sq hz), _, _, rfl, rfl, _, rfl, ?_⟩
    rw [hzl]
    refine ite_b (fun c3 => ?_) (fun c3 => ?_)
    · rw [if_pos (.inr (.inr (of_decide_eq_true c3)))] at k
      exact one_lst k (Ex.refl _) rfl
    have c3' := of_decide_eq_false c3
    rw [if_neg (by omega)] at k
    obtain ⟨kk, rfl⟩ : ∃ kk : Nat, i = (kk : Int) := ⟨i.toNat, by omega⟩
    rw [Int.toNat_natCast] at k
    have hbest : bestM (covP (preyM (Vaskya.rows sh) sh.ms.length)) (setsOf (preyM (Vaskya.rows sh) sh.ms.length).length kk) = bestM (covM (Vaskya.rows sh) sh.ms.length) (setsOf (Vaskya.rows sh).length kk) := by
      rw [preyM_len]
      unfold bestM
      refine foldl_congr' fun b x hx => ?_
      unfold bestTurn
      rw [covP_is (setsOf_mem (by omega) (by omega) hx).2.1]
    obtain ⟨hg1, hg2, hg3⟩ := step_is (rows_wide wf) kk (by omega)
    have hbl : (bestM (covM (Vaskya.rows sh) sh.ms.length) (setsOf (Vaskya.rows sh).length kk)).2.length ≤ 16 := by
      unfold bestM
      refine best_len _ _ (fun x hx => ?_) (by simp)
      rw [(setsOf_mem (by omega) (by omega) hx).1]
      omega
    refine ⟨_, rfl, p, sh, rfl, hh, fun v H1 e1 hd => ?_⟩
    have hd1 := hd.ex nw_sub
    obtain ⟨tp, txs, rfl, htx, htl, htg⟩ := dSets_da hd1
    refine ⟨_, rfl, _, rfl, tp, preyM (Vaskya.rows sh) sh.ms.length, kk, rfl, hd1, by rw [preyM_len]; omega, preyM_in, by omega, fun q1 b1 H2 e2 hq1 hb1 => ?_⟩
    rw [hbest] at hq1 hb1
    obtain ⟨bp, rfl, hbp⟩ := dN_da hb1
    generalize bestM (covM (Vaskya.rows sh) sh.ms.length) (setsOf (Vaskya.rows sh).length kk) = bm at *
    refine ⟨q1, _, rfl, st hq1, rfl, _, _, rfl, _, _, rfl, rfl, ?_⟩
    refine ⟨_, rfl, _, rfl, tp, Vaskya.rows sh, sh.ms.length, kk, rfl, hd1.ex e2, by omega, rows_wide wf, by omega, fun q2 b2 H3 e3 hq2 hb2 => ?_⟩
    refine ⟨q2, _, rfl, st hq2, rfl, _, _, rfl, _, _, rfl, rfl, ?_⟩
    have e13 := (e1.trans e2).trans e3
    refine ⟨_, rfl, by show 1 ≤ sizeLine; decide, fun u hu => ⟨_, rfl, ?_⟩⟩
    have eu := ex_new (o := .lst [.int bm.1]) hu
    refine cat_go (H := upd H3 u (.lst [.int bm.1])) (H1 := H) (xs := [bm.1]) (zs := [bm.1] ++ nz bm.2) (Ex.refl _) (by rw [upd_same]; rfl) (eu _ _ (e3 _ _ hbp)) (by rw [nz_len]; show 1 + _ ≤ _; omega) rfl fun c H4 hc e4 h4 => ?_
    refine ⟨_, rfl, by show 1 ≤ sizeLine; decide, fun u2 hu2 => ?_⟩
    have eu2 := ex_new (o := .lst [.int (covM (Vaskya.rows sh) sh.ms.length (Vaskyb.greedy (Vaskya.rows sh) kk) : Nat)]) hu2
    refine cat_go (H := upd H4 u2 (.lst [.int (covM (Vaskya.rows sh) sh.ms.length (Vaskyb.greedy (Vaskya.rows sh) kk) : Nat)])) (H1 := H) (ys := [((covM (Vaskya.rows sh) sh.ms.length (Vaskyb.greedy (Vaskya.rows sh) kk) : Nat) : Int)]) (zs := [bm.1] ++ nz bm.2 ++ [((covM (Vaskya.rows sh) sh.ms.length (Vaskyb.greedy (Vaskya.rows sh) kk) : Nat) : Int)]) (Ex.refl _) (eu2 _ _ h4) (by rw [upd_same]; rfl) (by rw [List.length_append, nz_len]; show 1 + _ + 1 ≤ _; omega) rfl fun c2 H5 hc2 e5 h5 => ?_
    have e35 := eu.trans (e4.trans (eu2.trans e5))
    refine ⟨_, rfl, ?_⟩
    refine cat_go (H := H) (H1 := H) (e13.trans e35) h5 (e35 _ _ hb2) (by rw [List.length_append, List.length_append, nz_len, nz_len, hg2]; show 1 + _ + 1 + _ ≤ _; omega) rfl k
def sp_tell_ask (K : PySem.W.Frag) (a : Ads) : Sp := fun vs H Q _ => ∃ (p q : Addr) (s : Sheet) (l : List Int), vs = [.ref p, .ref q] ∧ HeldAt a H p s ∧ SqL K H q (iL l) ∧ l.length ≤ 1000000 ∧ RetL (iL (askM s l)) H Q
theorem ok_tell_ask (T : Txt K mg a) (c_right_measures : Cal P w K mg base CX0 1 "right_measures" (sp_right_measures K a)) (c_candidates : Cal P w K mg base CX0 6 "candidates" (sp_candidates K a)) (c_told : Cal P w K mg base CX0 1 "told" (sp_told K a)) (c_Held_unbeaten : Met P w K mg base CX0 4 a.held "unbeaten" (sp_Held_unbeaten K a)) : Cal P w K mg base CX0 7 "tell_ask" (sp_tell_ask K a) := by
  refine cal_of T.d_tell_ask sc_tell_ask (fun vs H Q E h => ?_) (fun f cdv A outer s H vs Q E hr h => ⟨_, (pss_cons (ps_if (pt_not (pt_val (pe_c c_right_measures hr pass0 (pa_cons (pv 0) (pa_cons (pv 1) pa_nil))))) (pss_one (ps_ret (pe_lst (pa_cons (pe_gc T.g_WRONG_MEASURES) pa_nil)))) pss_nil) (pss_cons (ps_set (i := 2) sc_tell_ask.nd rfl (Or.inl rfl) (pe_c c_candidates hr pass0 (pa_cons (pv 0) (pa_cons (pv 1) pa_nil)))) (pss_one (ps_ret (pe_op op_cat (pe_lst (pa_cons (pe_callB call_len_seq rfl T.b_len PySem.boot_len (pa_cons (pv 2) pa_nil)) pa_nil)) (pe_c c_told hr pass0 (pa_cons (pe_mt T.cl_held c_Held_unbeaten hr pass0 (pv 0) (pa_cons (pv 2) (pa_cons (pv 1) pa_nil))) pa_nil))))))), ?_⟩)
  · obtain ⟨_, _, _, _, rfl, _⟩ := h
    rfl
  · obtain ⟨p, q, sh, l, rfl, hh, hq, hl, k⟩ := h
    unfold askM at k
    refine ⟨_, rfl, _, rfl, p, q, sh, l, rfl, hh, hq, hl, fun H1 e1 => ⟨_, rfl, ?_⟩⟩
    cases hrm : rightM sh.ms.length l with
    | false =>
      rw [hrm, if_neg Bool.false_ne_true] at k
      exact iteT (one_lst k e1 rfl)
    | true =>
      rw [hrm, if_pos rfl] at k
      refine iteF ?_
      obtain ⟨hln, hlt⟩ := right_nat hrm
      have hh1 := hh.mono e1
      have hn16 := hh.wf.items
      have hrl := rows_len sh
      have hq1 : SqL K H q (nats (toN l)) := by
        have : iL l = nats (toN l) := congrArg iL hln
        rw [← this]
        exact hq
      refine ⟨_, rfl, _, rfl, p, q, sh, toN l, rfl, hh1, ex_sq e1 hq1, fun C H2 hC e2 h2 => ?_⟩
      generalize hI : candM (Vaskya.rows sh) sh.ms.length (toN l) = I at *
      have hIl : I.length ≤ 16 := by
        rw [← hI]
        unfold candM
        have := List.length_filter_le (fun i => (storedM (tabOf (Vaskya.rows sh) sh.ms.length)).any fun x => Vaskyb.within x.1 (toN l) && x.2.contains i) (List.range (Vaskya.rows sh).length)
        rw [List.length_range] at this
        omega
      have hIm : ∀ j ∈ I, j < sh.items.length := fun j hj => by
        rw [← hI] at hj
        have := List.mem_range.mp (List.mem_filter.mp hj).1
        omega
      refine ⟨_, rfl, C, _, rfl, .inl (sq h2), by show 1 ≤ sizeLine; decide, fun u hu => ?_⟩
      have eu := ex_new (o := .lst [.int ((nats I).length : Nat)]) hu
      have e3 := (e1.trans e2).trans eu
      have hh3 := hh.mono e3
      obtain ⟨⟨dx', s1, s2, s3, s4, g0, _⟩, _⟩ := id hh3
      refine ⟨_, rfl, p, dx', _, rfl, g0, hn_unb, _, rfl, _, rfl, p, q, C, sh, toN l, I, rfl, hh3, ex_sq e3 hq1, hlt, sq (eu _ _ h2), hIm, by omega, fun r' H5 hr5 e5 h5 => ?_⟩
      have hul : (nz (unb (Vaskya.rows sh) (toN l) I)).length ≤ 100000 := unb_small (by omega)
      refine ⟨r', _, rfl, h5, by omega, fun v H6 hv6 e6 h6 => ?_⟩
      refine cat_go (H := H) (H1 := H) (xs := [(I.length : Int)]) (e3.trans (e5.trans e6)) ((e5.trans e6) _ _ (by rw [upd_same, len_nats]; rfl)) h6 (by rw [tM_len]; show 1 + _ ≤ _; omega) rfl k
end
end Fw
set_option Elab.async false
set_option maxRecDepth 100000
set_option maxHeartbeats 4000000
namespace Fm
open Vaskya (Sheet)
theorem toNats {us : List Nat} : Vaskyb.nats us = nzI us := rfl
theorem listRow_is (us : List Nat) : Vaskyb.listRow us = tM (nzI us) := by
  unfold Vaskyb.listRow tM
  rw [List.length_map]
  rfl
theorem enc (v : Int) (r : List Int) : VaskybNeutral.encode ⟨v, r⟩ = v :: r := rfl
theorem look_shown (s : Sheet) : VaskybNeutral.encode (Vaskyb.looked s .shown) = tM (oneForm s) := by
  show ((Vaskya.shown s).length : Int) :: bytesI (Vaskya.shown s) = _
  rw [← shown_is]
  unfold tM
  rw [bytesI_len]
theorem look_sub (s : Sheet) (w : WF s) (l : List Int) : VaskybNeutral.encode (Vaskyb.looked s (.sub l)) = subM s l := by
  show VaskybNeutral.encode (Vaskyb.withMeasures s l fun u => Vaskya.listAnswer (Vaskyb.bestBy (Vaskya.rows s) u)) = _
  unfold Vaskyb.withMeasures subM
  cases h : rightM s.ms.length l with
  | false =>
    rw [measuresOf_none h, if_neg Bool.false_ne_true]
    rfl
  | true =>
    obtain ⟨u, hu, hm⟩ := measuresOf_some h
    rw [hu, if_pos rfl]
    show ((Vaskyb.bestBy (Vaskya.rows s) u).length : Int) :: nzI (Vaskyb.bestBy (Vaskya.rows s) u) = _
    rw [bestBy_is, unb_congr hm, rows_len]
    unfold tM
    rw [List.length_map]
theorem look_cube (s : Sheet) (w : WF s) : VaskybNeutral.encode (Vaskyb.looked s .cube) = cubeM s := by
  show ((Vaskyb.cubeOf s).length : Int) :: (Vaskyb.nats [Vaskyb.sizeOf_ (Vaskyb.cubeOf s), Vaskyb.sizeOf_ (Vaskyb.store (Vaskyb.cubeOf s) s.items.length)] ++ (Vaskyb.store (Vaskyb.cubeOf s) s.items.length).flatMap fun x => Vaskyb.listRow x.1 ++ Vaskyb.listRow x.2) = _
  have e1 : Vaskyb.cubeOf s = tabOf (Vaskya.rows s) s.ms.length := (tab_cube w.ms.2).symm
  have e2 : Vaskyb.store (Vaskyb.cubeOf s) s.items.length = storedM (tabOf (Vaskya.rows s) s.ms.length) := by
    have := stored_eq (l := Vaskya.rows s) w.ms.2
    rw [rows_len] at this
    exact this
  rw [e2, e1]
  have e3 : (fun x : List Nat × List Nat => Vaskyb.listRow x.1 ++ Vaskyb.listRow x.2) = cubeRow := by
    funext x
    rw [listRow_is, listRow_is]
    rfl
  rw [e3]
  rfl
theorem look_least (s : Sheet) (w : WF s) (i : Int) : VaskybNeutral.encode (Vaskyb.looked s (.least i)) = leastA s i := by
  show VaskybNeutral.encode (match VaskyBase.index i s.items.length with
    | none => VaskyBase.one (-2)
    | some k => let c := Vaskyb.cubeOf s; let l := Vaskyb.leastSets c k; ⟨(l.length : Int), l.flatMap Vaskyb.listRow ++ Vaskyb.nats [(c.filter fun x => x.2.contains k).length]⟩) = _
  unfold VaskyBase.index leastA
  by_cases h : 0 ≤ i ∧ i < (s.items.length : Int)
  · rw [if_pos h, if_neg (by omega)]
    dsimp only
    have e1 : Vaskyb.cubeOf s = tabOf (Vaskya.rows s) s.ms.length := (tab_cube w.ms.2).symm
    rw [e1, least_is (tab_is w.ms.2), enc]
    have e3 : Vaskyb.listRow = fun c => tM (nzI c) := by
      funext x
      exact listRow_is x
    rw [e3]
    simp only [List.cons_append, List.nil_append]
    rfl
  · rw [if_neg h, if_pos (by omega)]
    rfl
theorem look_bounds (s : Sheet) (w : WF s) (lo hi : List Int) : VaskybNeutral.encode (Vaskyb.looked s (.bounds lo hi)) = boundsM s lo hi := by
  show VaskybNeutral.encode (if lo.length ≠ s.ms.length ∨ hi.length ≠ s.ms.length then VaskyBase.one (-4) else let is := Vaskyb.inside s lo hi; ⟨(is.length : Int), Vaskyb.listRow (Vaskya.unbeatenIn (Vaskya.rows s) is)⟩) = _
  unfold boundsM
  by_cases h : lo.length ≠ s.ms.length ∨ hi.length ≠ s.ms.length
  · rw [if_pos h, if_pos h]
    rfl
  · rw [if_neg h, if_neg h]
    dsimp only
    rw [inside_is, enc, listRow_is, unb_rows (rows_wide w)]
    · rfl
    · intro i hi'
      have := List.mem_range.mp (List.mem_filter.mp hi').1
      rw [List.length_map] at this
      rw [rows_len]
      exact this
theorem look_groups (s : Sheet) (w : WF s) (l : List Int) : VaskybNeutral.encode (Vaskyb.looked s (.groups l)) = groupsM s l := by
  have hb : ∀ gs : List Nat, (((List.range Vaskyb.GROUPS).filter fun g => gs.contains g).map fun g => (g, Vaskyb.groupBest (Vaskya.rows s) gs g)) = bsM (Vaskya.rows s) s.ms.length gs 10 := fun gs => by
    unfold bsM
    refine List.map_congr_left fun g _ => ?_
    unfold Vaskyb.groupBest
    rw [unb_rows (rows_wide w)]
    · rfl
    · exact fun i hi => List.mem_range.mp (List.mem_filter.mp hi).1
  unfold groupsM
  cases h : rightG s.items.length l with
  | false =>
    have h' : l.length ≠ s.items.length ∨ l.any (fun z => (VaskyBase.index z Vaskyb.GROUPS).isNone) = true := by
      refine Classical.byContradiction fun c => ?_
      rw [rightG_iff.mpr c] at h
      cases h
    show VaskybNeutral.encode (if l.length ≠ s.items.length ∨ l.any (fun z => (VaskyBase.index z Vaskyb.GROUPS).isNone) = true then VaskyBase.one (-4) else _) = _
    rw [if_pos h', if_neg Bool.false_ne_true]
    rfl
  | true =>
    have h' := rightG_iff.mp h
    rw [if_pos rfl]
    show VaskybNeutral.encode (if l.length ≠ s.items.length ∨ l.any (fun z => (VaskyBase.index z Vaskyb.GROUPS).isNone) = true then VaskyBase.one (-4) else _) = _
    rw [if_neg h']
    rw [hb, enc, listRow_is]
    have e3 : (fun x : Nat × List Nat => (x.1 : Int) :: Vaskyb.listRow x.2) = grpRow := by
      funext x
      rw [listRow_is]
      rfl
    rw [e3, unb_rows (rows_wide w)]
    · rfl
    · exact fun i hi => List.mem_range.mp (List.mem_filter.mp hi).1
theorem look_cover (s : Sheet) (w : WF s) (i : Int) : VaskybNeutral.encode (Vaskyb.looked s (.cover i)) = coverM s i := by
  show VaskybNeutral.encode (if i < 1 ∨ (Vaskyb.FEW : Int) < i ∨ (s.items.length : Int) < i then VaskyBase.one (-5) else _) = _
  unfold coverM
  by_cases h : i < 1 ∨ (4 : Int) < i ∨ (s.items.length : Int) < i
  · rw [if_pos (show i < 1 ∨ ((Vaskyb.FEW : Nat) : Int) < i ∨ (s.items.length : Int) < i from h), if_pos h]
    rfl
  · rw [if_neg (show ¬ (i < 1 ∨ ((Vaskyb.FEW : Nat) : Int) < i ∨ (s.items.length : Int) < i) from h), if_neg h]
    have hl := rows_len s
    have hi := w.items
    obtain ⟨g1, g2, g3⟩ := step_is (rows_wide w) i.toNat (by omega)
    rw [enc, bestCover_is (rows_wide w) (by omega) (by omega), covM_is (rows_wide w) g3]
    simp only [List.cons_append, List.nil_append, List.append_assoc]
    rfl
theorem look_ask (s : Sheet) (w : WF s) (l : List Int) : VaskybNeutral.encode (Vaskyb.looked s (.ask l)) = askM s l := by
  show VaskybNeutral.encode (Vaskyb.withMeasures s l _) = _
  unfold Vaskyb.withMeasures askM
  cases h : rightM s.ms.length l with
  | false =>
    rw [measuresOf_none h, if_neg Bool.false_ne_true]
    rfl
  | true =>
    obtain ⟨u, hu, hm⟩ := measuresOf_some h
    rw [hu, if_pos rfl]
    dsimp only
    have e2 : Vaskyb.store (Vaskyb.cubeOf s) s.items.length = storedM (tabOf (Vaskya.rows s) s.ms.length) := by
      have := stored_eq (l := Vaskya.rows s) w.ms.2
      rw [rows_len] at this
      exact this
    rw [e2, enc, listRow_is]
    have e4 : ((List.range (Vaskya.rows s).length).filter fun i => (storedM (tabOf (Vaskya.rows s) s.ms.length)).any fun x => Vaskyb.within x.1 u && x.2.contains i) = candM (Vaskya.rows s) s.ms.length u := rfl
    have e5 : Vaskyb.askStore (Vaskya.rows s) (storedM (tabOf (Vaskya.rows s) s.ms.length)) u = unb (Vaskya.rows s) u (candM (Vaskya.rows s) s.ms.length u) := by
      unfold Vaskyb.askStore
      dsimp only
      rw [unb_cut]
      · rfl
      · exact fun i hi => List.mem_range.mp (List.mem_filter.mp hi).1
    rw [e4, e5, candM_congr hm, unb_congr hm]
    rfl
/-! ### a call's answer -/
def TellOk (s : Sheet) (cl : Int) (nums : List Int) (rows : List (List Int)) (ans : List Int) : Prop :=
  (cl = 1 ∧ nums = [] ∧ rows = [] ∧ ans = tM (oneForm s)) ∨ (cl = 2 ∧ nums = [] ∧ ∃ l, rows = [l] ∧ l.length ≤ 8192 ∧ ans = subM s l) ∨ (cl = 3 ∧ nums = [] ∧ rows = [] ∧ ans = cubeM s) ∨
  (cl = 4 ∧ (∃ z, nums = [z] ∧ ans = leastA s z) ∧ rows = []) ∨ (cl = 5 ∧ nums = [] ∧ ∃ lo hi, rows = [lo, hi] ∧ ans = boundsM s lo hi) ∨ (cl = 6 ∧ nums = [] ∧ ∃ l, rows = [l] ∧ ans = groupsM s l) ∨
  (cl = 7 ∧ (∃ z, nums = [z] ∧ ans = coverM s z) ∧ rows = []) ∨ (cl = 8 ∧ nums = [] ∧ ∃ l, rows = [l] ∧ l.length ≤ 8192 ∧ ans = askM s l)
def loadM (o : Option Sheet) (t : List Int) : Option Sheet × List Int := match Vaskya.read (bytesOf t) with
  | .ok s => (some s, [1, (s.ms.length : Int), (s.items.length : Int)])
  | .error f => (o, [0, (f.code : Int), (f.place : Int)])
def AnsOk (o : Option Sheet) (cl : Int) (nums : List Int) (rows : List (List Int)) (o2 : Option Sheet) (ans : List Int) : Prop :=
  (cl = 0 ∧ nums = [] ∧ ∃ t, rows = [t] ∧ t.length ≤ 8192 ∧ Oks t ∧ o2 = (loadM o t).1 ∧ ans = (loadM o t).2) ∨
  (cl ≠ 0 ∧ o = none ∧ o2 = none ∧ ans = [-1]) ∨ (cl ≠ 0 ∧ ∃ s, o = some s ∧ o2 = some s ∧ TellOk s cl nums rows ans)
theorem step_none {c : List (List Int)} {k : Vaskyb.Call} (h : VaskybNeutral.callOf c = some k) (hk : ∀ b, k ≠ .load b) : VaskybNeutral.step none c = (none, [-1]) := by
  unfold VaskybNeutral.step
  rw [h]
  cases k with
  | load b => exact absurd rfl (hk b)
  | _ => rfl
theorem step_some {c : List (List Int)} {k : Vaskyb.Call} {s : Sheet} (h : VaskybNeutral.callOf c = some k) (hk : ∀ b, k ≠ .load b) : VaskybNeutral.step (some s) c = (some s, VaskybNeutral.encode (Vaskyb.looked s k)) := by
  unfold VaskybNeutral.step
  rw [h]
  cases k with
  | load b => exact absurd rfl (hk b)
  | _ => rfl
theorem step_load (o : Option Sheet) {t : List Int} (h : Oks t) : VaskybNeutral.step o [[0], t] = loadM o t := by
  have hb : NeutralIO.bytes t = true := by
    unfold NeutralIO.bytes
    rw [List.all_eq_true]
    intro z hz
    obtain ⟨a, b⟩ := h z hz
    rw [Bool.and_eq_true, decide_eq_true_eq, decide_eq_true_eq]
    exact ⟨a, b⟩
  have hc : VaskybNeutral.callOf [[0], t] = some (.load (bytesOf t)) := by
    show (if NeutralIO.bytes t = true then some (Vaskyb.Call.load (VaskybNeutral.bytesOf t)) else none) = _
    rw [if_pos hb]
    rfl
  unfold VaskybNeutral.step loadM
  rw [hc]
  show ((Vaskyb.step o (.load (bytesOf t))).1, VaskybNeutral.encode (Vaskyb.step o (.load (bytesOf t))).2) = _
  have e : Vaskyb.step o (.load (bytesOf t)) = (match Vaskya.read (bytesOf t) with
    | .ok s => (some s, ⟨1, Vaskyb.nats [s.ms.length, s.items.length]⟩)
    | .error f => (o, VaskyBase.faulty f)) := rfl
  rw [e]
  cases Vaskya.read (bytesOf t) <;> rfl
theorem whole_id (c : List (List Int)) : PyVaskyb.whole c = c := by
  unfold PyVaskyb.whole
  split <;> rfl
def WFo (o : Option Sheet) : Prop := ∀ s, o = some s → WF s
theorem tell_any {o : Option Sheet} {cl : Int} {nums : List Int} {rows : List (List Int)} {k : Vaskyb.Call} (hc : VaskybNeutral.callOf ((cl :: nums) :: rows) = some k) (hk : ∀ b, k ≠ .load b) (h0 : cl ≠ 0)
    (ht : ∀ s, o = some s → TellOk s cl nums rows (VaskybNeutral.encode (Vaskyb.looked s k))) : AnsOk o cl nums rows (VaskybNeutral.step o ((cl :: nums) :: rows)).1 (VaskybNeutral.step o ((cl :: nums) :: rows)).2 := by
  cases o with
  | none =>
    rw [step_none hc hk]
    exact .inr (.inl ⟨h0, rfl, rfl, rfl⟩)
  | some s =>
    rw [step_some hc hk]
    exact .inr (.inr ⟨h0, s, rfl, rfl, ht s rfl⟩)
theorem two_of {α : Type} {l : List α} (h : l.length = 2) : ∃ x y, l = [x, y] := by
  cases l with
  | nil => cases h
  | cons x l =>
    cases l with
    | nil => cases h
    | cons y l =>
      cases l with
      | nil => exact ⟨x, y, rfl⟩
      | cons z l => simp at h
theorem ans_ok {o : Option Sheet} (w : WFo o) {cl : Int} {nums : List Int} {rows : List (List Int)} {n k : Nat} (hs : PyVaskyb.shape cl = some (n, k)) (hn : nums.length = n) (hk : rows.length = k)
    (ha : VaskybNeutral.asked1 ((cl :: nums) :: rows) = true) : AnsOk o cl nums rows (VaskybNeutral.step o ((cl :: nums) :: rows)).1 (VaskybNeutral.step o ((cl :: nums) :: rows)).2 := by
  unfold PyVaskyb.shape at hs
  by_cases c0 : cl = 0
  · subst c0
    rw [if_pos rfl] at hs
    obtain ⟨rfl, rfl⟩ := Prod.mk.inj (Option.some.inj hs)
    have en := List.length_eq_zero_iff.mp hn
    subst en
    obtain ⟨l, rfl⟩ := List.length_eq_one_iff.mp hk
    have ha' : (l.all (fun (z : Int) => VaskybNeutral.natural z 8) && decide (l.length ≤ 8192)) = true := ha
    rw [Bool.and_eq_true] at ha'
    have ok : Oks l := fun z hz => by
      have := List.all_eq_true.mp ha'.1 z hz
      unfold VaskybNeutral.natural at this
      rw [Bool.and_eq_true] at this
      have h1 := of_decide_eq_true this.1
      have h2 := of_decide_eq_true this.2
      exact ⟨h1, by omega⟩
    rw [step_load o ok]
    exact .inl ⟨rfl, rfl, l, rfl, of_decide_eq_true ha'.2, ok, rfl, rfl⟩
  rw [if_neg c0] at hs
  by_cases c1 : cl = 1
  · subst c1
    rw [if_pos rfl] at hs
    obtain ⟨rfl, rfl⟩ := Prod.mk.inj (Option.some.inj hs)
    have en := List.length_eq_zero_iff.mp hn
    subst en
    have ek := List.length_eq_zero_iff.mp hk
    subst ek
    exact tell_any (k := .shown) rfl (fun _ z => by cases z) (by decide) fun s h => .inl ⟨rfl, rfl, rfl, look_shown s⟩
  rw [if_neg c1] at hs
  by_cases c2 : cl = 2
  · subst c2
    rw [if_pos rfl] at hs
    obtain ⟨rfl, rfl⟩ := Prod.mk.inj (Option.some.inj hs)
    have en := List.length_eq_zero_iff.mp hn
    subst en
    obtain ⟨l, rfl⟩ := List.length_eq_one_iff.mp hk
    have ha' : (l.all VaskybNeutral.whole60 && decide (l.length ≤ 2000)) = true := ha
    rw [Bool.and_eq_true] at ha'
    have hll := of_decide_eq_true ha'.2
    exact tell_any (k := .sub l) rfl (fun _ z => by cases z) (by decide) fun s h => .inr (.inl ⟨rfl, rfl, l, rfl, by omega, look_sub s (w s h) l⟩)
  rw [if_neg c2] at hs
  by_cases c3 : cl = 3
  · subst c3
    rw [if_pos rfl] at hs
    obtain ⟨rfl, rfl⟩ := Prod.mk.inj (Option.some.inj hs)
    have en := List.length_eq_zero_iff.mp hn
    subst en
    have ek := List.length_eq_zero_iff.mp hk
    subst ek
    exact tell_any (k := .cube) rfl (fun _ z => by cases z) (by decide) fun s h => .inr (.inr (.inl ⟨rfl, rfl, rfl, look_cube s (w s h)⟩))
  rw [if_neg c3] at hs
  by_cases c4 : cl = 4
  · subst c4
    rw [if_pos rfl] at hs
    obtain ⟨rfl, rfl⟩ := Prod.mk.inj (Option.some.inj hs)
    obtain ⟨z, rfl⟩ := List.length_eq_one_iff.mp hn
    have ek := List.length_eq_zero_iff.mp hk
    subst ek
    exact tell_any (k := .least z) rfl (fun _ z => by cases z) (by decide) fun s h => .inr (.inr (.inr (.inl ⟨rfl, ⟨z, rfl, look_least s (w s h) z⟩, rfl⟩)))
  rw [if_neg c4] at hs
  by_cases c5 : cl = 5
  · subst c5
    rw [if_pos rfl] at hs
    obtain ⟨rfl, rfl⟩ := Prod.mk.inj (Option.some.inj hs)
    have en := List.length_eq_zero_iff.mp hn
    subst en
    obtain ⟨lo, hi, rfl⟩ := two_of hk
    exact tell_any (k := .bounds lo hi) rfl (fun _ z => by cases z) (by decide) fun s h => .inr (.inr (.inr (.inr (.inl ⟨rfl, rfl, lo, hi, rfl, look_bounds s (w s h) lo hi⟩))))
  rw [if_neg c5] at hs
  by_cases c6 : cl = 6
  · subst c6
    rw [if_pos rfl] at hs
    obtain ⟨rfl, rfl⟩ := Prod.mk.inj (Option.some.inj hs)
    have en := List.length_eq_zero_iff.mp hn
    subst en
    obtain ⟨l, rfl⟩ := List.length_eq_one_iff.mp hk
    exact tell_any (k := .groups l) rfl (fun _ z => by cases z) (by decide) fun s h => .inr (.inr (.inr (.inr (.inr (.inl ⟨rfl, rfl, l, rfl, look_groups s (w s h) l⟩)))))
  rw [if_neg c6] at hs
  by_cases c7 : cl = 7
  · subst c7
    rw [if_pos rfl] at hs
    obtain ⟨rfl, rfl⟩ := Prod.mk.inj (Option.some.inj hs)
    obtain ⟨z, rfl⟩ := List.length_eq_one_iff.mp hn
    have ek := List.length_eq_zero_iff.mp hk
    subst ek
    exact tell_any (k := .cover z) rfl (fun _ z => by cases z) (by decide) fun s h => .inr (.inr (.inr (.inr (.inr (.inr (.inl ⟨rfl, ⟨z, rfl, look_cover s (w s h) z⟩, rfl⟩))))))
  rw [if_neg c7] at hs
  by_cases c8 : cl = 8
  · subst c8
    rw [if_pos rfl] at hs
    obtain ⟨rfl, rfl⟩ := Prod.mk.inj (Option.some.inj hs)
    have en := List.length_eq_zero_iff.mp hn
    subst en
    obtain ⟨l, rfl⟩ := List.length_eq_one_iff.mp hk
    have ha' : (l.all VaskybNeutral.whole60 && decide (l.length ≤ 2000)) = true := ha
    rw [Bool.and_eq_true] at ha'
    have hll := of_decide_eq_true ha'.2
    exact tell_any (k := .ask l) rfl (fun _ z => by cases z) (by decide) fun s h => .inr (.inr (.inr (.inr (.inr (.inr (.inr ⟨rfl, rfl, l, rfl, by omega, look_ask s (w s h) l⟩))))))
  rw [if_neg c8] at hs
  cases hs
/-- the state after a call may be held -/
theorem wf_step {o : Option Sheet} (w : WFo o) (c : List (List Int)) (hr : ∀ b s, Vaskya.read b = .ok s → WF s) : WFo (VaskybNeutral.step o c).1 := by
  unfold VaskybNeutral.step
  cases hc : VaskybNeutral.callOf c with
  | none => exact w
  | some k =>
    show WFo (Vaskyb.step o k).1
    cases k with
    | load b =>
      have e : Vaskyb.step o (.load b) = (match Vaskya.read b with
        | .ok s => (some s, ⟨1, Vaskyb.nats [s.ms.length, s.items.length]⟩)
        | .error f => (o, VaskyBase.faulty f)) := rfl
      rw [e]
      cases h : Vaskya.read b with
      | ok s =>
        intro s' hs'
        cases hs'
        exact hr b s h
      | error f => exact w
    | _ => cases o <;> exact w
/-! ### the calls -/
theorem row_cons (n : Int) (r : List Int) : PyFlat.row (n :: r) = if 0 ≤ n ∧ n.toNat ≤ r.length then some (r.take n.toNat, r.drop n.toNat) else none := rfl
theorem call_cons (p : Int) (r : List Int) : PyFlat.call PyVaskyb.shape (p :: r) = match PyVaskyb.shape p with
    | none => none
    | some (n, k) => if r.length < n then none else match PyFlat.rows k (r.drop n) with
      | none => none
      | some (xs, t) => some ((p :: r.take n) :: xs, t) := rfl
theorem rows_step {j : Nat} {r : List Int} {xs : List (List Int)} {t : List Int} (h : PyFlat.rows (j + 1) r = some (xs, t)) :
    ∃ (n : Int) (r' : List Int) (xs' : List (List Int)), r = n :: r' ∧ 0 ≤ n ∧ n.toNat ≤ r'.length ∧ xs = r'.take n.toNat :: xs' ∧ PyFlat.rows j (r'.drop n.toNat) = some (xs', t) := by
  rw [PyFlat.rows] at h
  cases r with
  | nil => cases h
  | cons n r' =>
    rw [row_cons] at h
    by_cases c : 0 ≤ n ∧ n.toNat ≤ r'.length
    · rw [if_pos c] at h
      dsimp only at h
      cases h2 : PyFlat.rows j (r'.drop n.toNat) with
      | none => rw [h2] at h; cases h
      | some y =>
        obtain ⟨xs', t'⟩ := y
        rw [h2] at h
        cases h
        exact ⟨n, r', xs', rfl, c.1, c.2, rfl, h2⟩
    · rw [if_neg c] at h
      cases h
theorem rows_count : ∀ {j : Nat} {r : List Int} {xs : List (List Int)} {t : List Int}, PyFlat.rows j r = some (xs, t) → xs.length = j
  | 0, r, xs, t, h => by
    cases h
    rfl
  | j + 1, r, xs, t, h => by
    obtain ⟨n, r', xs', rfl, _, _, rfl, h2⟩ := rows_step h
    rw [List.length_cons, rows_count h2]
theorem calls_step {f : Nat} {cl : Int} {r : List Int} {cs : List (List (List Int))} (h : PyFlat.calls PyVaskyb.shape f (cl :: r) = some cs) :
    ∃ (f' n k : Nat) (rows : List (List Int)) (t : List Int) (cs' : List (List (List Int))), PyVaskyb.shape cl = some (n, k) ∧ n ≤ r.length ∧ PyFlat.rows k (r.drop n) = some (rows, t) ∧ cs = ((cl :: r.take n) :: rows) :: cs' ∧ PyFlat.calls PyVaskyb.shape f' t = some cs' := by
  cases f with
  | zero => rw [PyFlat.calls] at h; cases h
  | succ f =>
    rw [PyFlat.calls] at h
    rw [call_cons] at h
    cases hs : PyVaskyb.shape cl with
    | none => rw [hs] at h; cases h
    | some nk =>
      obtain ⟨n, k⟩ := nk
      rw [hs] at h
      dsimp only at h
      by_cases c : r.length < n
      · rw [if_pos c] at h; cases h
      · rw [if_neg c] at h
        cases hr : PyFlat.rows k (r.drop n) with
        | none => rw [hr] at h; cases h
        | some y =>
          obtain ⟨rows, t⟩ := y
          rw [hr] at h
          dsimp only at h
          cases hc : PyFlat.calls PyVaskyb.shape f t with
          | none => rw [hc] at h; cases h
          | some cs' =>
            rw [hc] at h
            cases h
            exact ⟨f, n, k, rows, t, cs', rfl, by omega, hr, rfl, hc⟩
/-- what is told of calls played from a state -/
def toldFrom (o : Option Sheet) (cs : List (List (List Int))) : List Int := PyFlat.told (PyFlat.played VaskybNeutral.step o cs)
theorem toldFrom_cons (o : Option Sheet) (c : List (List Int)) (cs : List (List (List Int))) : toldFrom o (c :: cs) = ((VaskybNeutral.step o c).2.length : Int) :: (VaskybNeutral.step o c).2 ++ toldFrom (VaskybNeutral.step o c).1 cs := by
  unfold toldFrom
  rw [PyFlat.played]
  unfold PyFlat.told
  rw [List.flatMap_cons]
theorem map_whole (cs : List (List (List Int))) : cs.map PyVaskyb.whole = cs := by
  have : PyVaskyb.whole = id := funext whole_id
  rw [this, List.map_id]
theorem asked_facts {l : List Int} (h : PyVaskyb.answers_asked l = true) : ∃ cs, PyFlat.calls PyVaskyb.shape l.length l = some cs ∧ (∀ c ∈ cs, VaskybNeutral.asked1 c = true) ∧ PyVaskyb.answers l = toldFrom none cs ∧ (PyVaskyb.answers l).length ≤ 10000000 := by
  unfold PyVaskyb.answers_asked at h
  cases hc : PyFlat.calls PyVaskyb.shape l.length l with
  | none => rw [hc] at h; cases h
  | some cs =>
    rw [hc] at h
    simp only [Bool.and_eq_true] at h
    obtain ⟨⟨_, h2⟩, h3⟩ := h
    rw [map_whole] at h2
    refine ⟨cs, rfl, ?_, ?_, of_decide_eq_true h3⟩
    · unfold VaskybNeutral.asked at h2
      rw [Bool.and_eq_true] at h2
      exact List.all_eq_true.mp h2.1
    · unfold PyVaskyb.answers PyVaskyb.calls
      rw [hc]
      show PyFlat.told (PyFlat.played VaskybNeutral.step VaskybNeutral.start (cs.map PyVaskyb.whole)) = _
      rw [map_whole]
      rfl
end Fm
set_option Elab.async false
set_option maxRecDepth 100000
set_option maxHeartbeats 4000000
namespace Fw
open PySem PySem.Spec PyProof.Rows L2 Fm
open Evl (Ex Ev EvL EvU EvT EvA RV RetL RetV)
open Vaskya (Sheet Measure Item)
def deskF (v : V) : List (Str × V) := [("held", v)]
theorem df_held {v : V} : (deskF v).lookup ("held" : Str) = some v := lk_here
theorem df_no {k : Str} (h : (k == ("held" : Str)) = false) {v : V} : (deskF v).lookup k = none := (lk_past h).trans rfl
theorem df_put {v x : V} : putF ("held" : Str) v (deskF x) = deskF v := put_here
def DeskAt (a : Ads) (S : List Addr) (H : Hp) (d : Addr) (o : Option Sheet) : Prop := match o with
  | none => ∃ dx, H d = some (.ins a.desk dx (deskF .non))
  | some s => ∃ dx h, H d = some (.ins a.desk dx (deskF (.ref h))) ∧ HeldAt a (Fw.hide S H) h s
theorem DeskAt.obj {a : Ads} {S : List Addr} {H : Hp} {d : Addr} {o : Option Sheet} (h : DeskAt a S H d o) : ∃ dx v, H d = some (.ins a.desk dx (deskF v)) := by
  cases o with
  | none => obtain ⟨dx, h⟩ := h; exact ⟨dx, _, h⟩
  | some s => obtain ⟨dx, p, h, _⟩ := h; exact ⟨dx, _, h⟩
theorem DeskAt.mono {a : Ads} {S : List Addr} {H H' : Hp} {d : Addr} {o : Option Sheet} (e : Ex H H') (h : DeskAt a S H d o) : DeskAt a S H' d o := by
  cases o with
  | none => obtain ⟨dx, h⟩ := h; exact ⟨dx, e _ _ h⟩
  | some s => obtain ⟨dx, p, h, hh⟩ := h; exact ⟨dx, p, e _ _ h, hh.mono (Kp.of e).hid⟩
theorem hide_upd {S : List Addr} {H : Hp} {q : Addr} {o : HO} (h : q ∈ S) : Fw.hide S (upd H q o) = Fw.hide S H := by
  funext b
  by_cases c : b ∈ S
  · rw [hide_in c, hide_in c]
  · rw [hide_out c, hide_out c, upd_ne (fun z => c (by rw [z]; exact h))]
theorem DeskAt.set {a : Ads} {S : List Addr} {H : Hp} {d q : Addr} {o : Option Sheet} {ob : HO} (h : DeskAt a S H d o) (hq : q ∈ S) (hn : d ≠ q) : DeskAt a S (upd H q ob) d o := by
  cases o with
  | none => obtain ⟨dx, h⟩ := h; exact ⟨dx, by rw [upd_ne hn]; exact h⟩
  | some s => obtain ⟨dx, p, h, hh⟩ := h; exact ⟨dx, p, by rw [upd_ne hn]; exact h, by rw [hide_upd hq]; exact hh⟩
theorem kp_fresh {H H2 : Hp} {d p : Addr} (k : Kp [d] H H2) (hd : H2 d ≠ none) (hp : H2 p = none) : H p = none := by
  cases h : H p with
  | none => rfl
  | some o =>
    by_cases c : p = d
    · rw [c] at hp
      exact absurd hp hd
    · have := k p o h fun m => c (List.mem_singleton.mp m)
      rw [hp] at this
      cases this
theorem tif_no {n m : Int} (h : n ≠ m) {A B : Prop} (b : B) : if decide (V.int n = V.int m) = true then A else B := by
  rw [dec_int, decide_eq_false h]
  exact iteF b
theorem tif_yes {n m : Int} (h : n = m) {A B : Prop} (x : A) : if decide (V.int n = V.int m) = true then A else B := by
  rw [dec_int, decide_eq_true h]
  exact iteT x
theorem shape_at {cl : Int} {n k : Nat} (h : PyVaskyb.shape cl = some (n, k)) :
    atI [V.int 0, .int 0, .int 0, .int 0, .int 1, .int 0, .int 0, .int 1, .int 0] cl = some (.int n) ∧ atI [V.int 1, .int 0, .int 1, .int 0, .int 0, .int 2, .int 1, .int 0, .int 1] cl = some (.int k) ∧ k ≤ 2 := by
  unfold PyVaskyb.shape at h
  by_cases c : cl = 0
  · subst c; rw [if_pos rfl] at h; cases h; exact ⟨rfl, rfl, by omega⟩
  rw [if_neg c] at h
  by_cases c : cl = 1
  · subst c; rw [if_pos rfl] at h; cases h; exact ⟨rfl, rfl, by omega⟩
  rw [if_neg c] at h
  by_cases c : cl = 2
  · subst c; rw [if_pos rfl] at h; cases h; exact ⟨rfl, rfl, by omega⟩
  rw [if_neg c] at h
  by_cases c : cl = 3
  · subst c; rw [if_pos rfl] at h; cases h; exact ⟨rfl, rfl, by omega⟩
  rw [if_neg c] at h
  by_cases c : cl = 4
  · subst c; rw [if_pos rfl] at h; cases h; exact ⟨rfl, rfl, by omega⟩
  rw [if_neg c] at h
  by_cases c : cl = 5
  · subst c; rw [if_pos rfl] at h; cases h; exact ⟨rfl, rfl, by omega⟩
  rw [if_neg c] at h
  by_cases c : cl = 6
  · subst c; rw [if_pos rfl] at h; cases h; exact ⟨rfl, rfl, by omega⟩
  rw [if_neg c] at h
  by_cases c : cl = 7
  · subst c; rw [if_pos rfl] at h; cases h; exact ⟨rfl, rfl, by omega⟩
  rw [if_neg c] at h
  by_cases c : cl = 8
  · subst c; rw [if_pos rfl] at h; cases h; exact ⟨rfl, rfl, by omega⟩
  rw [if_neg c] at h
  cases h
section
variable {P : Program} {w : World} {K : PySem.W.Frag} {mg : Str → Option Value} {base : Heap} {a : Ads}
def sp_Desk_init (K : PySem.W.Frag) (a : Ads) : Sp := fun vs H Q _ => ∃ (p dx : Addr), vs = [.ref p] ∧ H p = some (.ins a.desk dx []) ∧ ∀ H' : Hp, H' p = some (.ins a.desk dx (deskF .non)) → Kp [p] H H' → Q .non H'
theorem ok_Desk_init (T : Txt K mg a) : Mak P w K mg base 1 "Desk" a.desk (sp_Desk_init K a) := by
  refine mak_of T.d_Desk_init sc_Desk_init (fun vs H Q E h => ?_) (fun f cdv A outer s H vs Q E hr h => ⟨_, (pss_one (ps_fld (pv 0) pe_non rfl)), ?_⟩)
  · obtain ⟨_, _, rfl, _⟩ := h
    rfl
  · obtain ⟨p, dx, rfl, hp, k⟩ := h
    refine ⟨_, rfl, p, _, dx, [], rfl, hp, T.cl_desk, T.na_desk_held, (by show 0 < 1000; decide), ?_⟩
    exact k _ upd_same ((Kp.refl _ _).up (List.mem_singleton.mpr rfl))
def sp_Desk_load (K : PySem.W.Frag) (a : Ads) : Sp := fun vs H Q _ => ∃ (d q : Addr) (S : List Addr) (o : Option Sheet) (t : List Int), vs = [.ref d, .ref q] ∧ DeskAt a S H d o ∧ d ∈ S ∧ (∀ b ∈ S, H b ≠ none) ∧ SqL K H q (iL t) ∧ t.length ≤ 8192 ∧ Oks t ∧
  (∀ p H2, H p = none → Kp [d] H H2 → DeskAt a S H2 d (loadM o t).1 → H2 p = some (.lst (iL (loadM o t).2)) → Q (.ref p) H2)
theorem ok_Desk_load (T : Txt K mg a) (c_read_list : Cal P w K mg base CX0 9 "read_list" (sp_read_list K a)) : Met P w K mg base CX0 10 a.desk "load" (sp_Desk_load K a) := by
  refine met_of T.d_Desk_load sc_Desk_load (fun vs H Q E h => ?_) (fun f cdv A outer s H vs Q E hr h => ⟨_, (pss_cons (ps_asg (pe_c c_read_list hr pass0 (pa_cons (pv 1) pa_nil)) (pg_tup rfl (pgs_cons (pg_name (i := 2) sc_Desk_load.nd rfl (Or.inl rfl)) (pgs_cons (pg_name (i := 3) sc_Desk_load.nd rfl (Or.inl rfl)) (pgs_cons (pg_name (i := 4) sc_Desk_load.nd rfl (Or.inl rfl)) pgs_nil))))) (pss_cons (ps_if (pt_cmpR op_ne (pv 2) pe_int (nomark _)) (pss_one (ps_ret (pe_lst (pa_cons pe_int (pa_cons (pv 2) (pa_cons (pv 3) pa_nil)))))) pss_nil) (pss_cons (ps_fld (pv 0) (pv 4) rfl) (pss_one (ps_ret (pe_lst (pa_cons pe_int (pa_cons (pe_callB call_len_seq rfl T.b_len PySem.boot_len (pa_cons (pe_fld (pv 4) rfl) pa_nil)) (pa_cons (pe_callB call_len_seq rfl T.b_len PySem.boot_len (pa_cons (pe_fld (pv 4) rfl) pa_nil)) pa_nil))))))))), ?_⟩)
  · obtain ⟨_, _, _, _, _, rfl, _⟩ := h
    rfl
  · obtain ⟨d, q, S, o, t, rfl, hd, hdS, hS, hq, hz, ho, k⟩ := h
    refine ⟨_, rfl, q, t, rfl, hq, hz, ho, ?_⟩
    unfold loadM at k
    cases hrd : Vaskya.read (bytesOf t) with
    | error fl =>
      rw [hrd] at k
      intro hc p H2 e2 hp
      refine ⟨p, _, rfl, st hp, rfl, _, _, rfl, _, _, rfl, _, _, rfl, rfl, ?_⟩
      refine ⟨_, rfl, rfl, _, rfl, ?_⟩
      rw [ne_int, decide_eq_true (by omega)]
      refine iteT ⟨_, rfl, _, rfl, by show 3 ≤ sizeLine; decide, fun u hu => ?_⟩
      exact k u _ (fresh_of e2 hu) (Kp.of (e2.trans (ex_new hu))) (hd.mono (e2.trans (ex_new hu))) upd_same
    | ok sh =>
      rw [hrd] at k
      intro p H2 h e2 hp hh
      refine ⟨p, _, rfl, st hp, rfl, _, _, rfl, _, _, rfl, _, _, rfl, rfl, ?_⟩
      refine ⟨_, rfl, rfl, _, rfl, ?_⟩
      rw [ne_int, decide_eq_false (fun c => c rfl)]
      refine iteF ?_
      obtain ⟨dx, v, hobj⟩ := hd.obj
      refine ⟨_, rfl, _, rfl, d, _, dx, _, rfl, e2 _ _ hobj, T.cl_desk, T.na_desk_held, by show 1 < 1000; decide, ?_⟩
      rw [df_put]
      have hh3 : HeldAt a (Fw.hide S (upd H2 d (.ins a.desk dx (deskF (.ref h))))) h sh := by
        rw [hide_upd hdS]
        exact hh.mono (nw_hide hS)
      obtain ⟨⟨dx', r1, r2, r3, r4, h0, _, hups, _, hro⟩, wf⟩ := id (hh3.mono hide_sub)
      obtain ⟨qu, equ, hqu⟩ := dB_da hups
      cases equ
      obtain ⟨zs, hzs, hzl, hzg⟩ := dLL_da hro
      rw [List.length_map] at hzl
      refine ⟨_, rfl, h, _, dx', _, _, rfl, h0, T.cl_held, T.na_held_ups, hf_up, r2, _, rfl, .inl (sq hqu), _, rfl, h, _, dx', _, _, rfl, h0, T.cl_held, T.na_held_rows, hf_ro, r4, _, rfl, .inl (sq hzs), by show 3 ≤ sizeLine; decide, fun u hu => ?_⟩
      have kk : Kp [d] H (upd H2 d (.ins a.desk dx (deskF (.ref h)))) := (Kp.of e2).up (List.mem_singleton.mpr rfl)
      refine k u _ (kp_fresh kk (by rw [upd_same]; exact Option.some_ne_none _) hu) (kk.trans (Kp.of (ex_new hu))) ⟨dx, h, ex_new hu _ _ upd_same, hh3.mono (Kp.of (ex_new hu)).hid⟩ ?_
      rw [upd_same, hzl, List.length_map, List.length_map]
      rfl
def sp_tell (K : PySem.W.Frag) (a : Ads) : Sp := fun vs H Q _ => ∃ (p q r : Addr) (s : Sheet) (cl : Int) (nums : List Int) (rows : List (List Int)) (ans : List Int), vs = [.ref p, .int cl, .ref q, .ref r] ∧ HeldAt a H p s ∧ SqL K H q (iL nums) ∧ Da H (.ref r) (dLL rows) ∧ TellOk s cl nums rows ans ∧ RetL (iL ans) H Q
theorem ok_tell (T : Txt K mg a) (c_tell_shown : Cal P w K mg base CX0 5 "tell_shown" (sp_tell_shown K a)) (c_tell_sub : Cal P w K mg base CX0 5 "tell_sub" (sp_tell_sub K a)) (c_tell_cube : Cal P w K mg base CX0 6 "tell_cube" (sp_tell_cube K a)) (c_tell_least : Cal P w K mg base CX0 6 "tell_least" (sp_tell_least K a)) (c_tell_bounds : Cal P w K mg base CX0 5 "tell_bounds" (sp_tell_bounds K a)) (c_tell_groups : Cal P w K mg base CX0 5 "tell_groups" (sp_tell_groups K a)) (c_tell_cover : Cal P w K mg base CX0 4 "tell_cover" (sp_tell_cover K a)) (c_tell_ask : Cal P w K mg base CX0 7 "tell_ask" (sp_tell_ask K a)) : Cal P w K mg base CX0 8 "tell" (sp_tell K a) := by
  refine cal_of T.d_tell sc_tell (fun vs H Q E h => ?_) (fun f cdv A outer s H vs Q E hr h => ⟨_, (pss_cons (ps_if (pt_cmpR op_eq (pv 1) (pe_gc T.g_SHOWN) (nomark _)) (pss_one (ps_ret (pe_c c_tell_shown hr pass0 (pa_cons (pv 0) pa_nil)))) pss_nil) (pss_cons (ps_if (pt_cmpR op_eq (pv 1) (pe_gc T.g_SUB) (nomark _)) (pss_one (ps_ret (pe_c c_tell_sub hr pass0 (pa_cons (pv 0) (pa_cons (pe_ix ix_list (pv 3) pe_int (fun _ _ => rfl)) pa_nil))))) pss_nil) (pss_cons (ps_if (pt_cmpR op_eq (pv 1) (pe_gc T.g_CUBE) (nomark _)) (pss_one (ps_ret (pe_c c_tell_cube hr pass0 (pa_cons (pv 0) pa_nil)))) pss_nil) (pss_cons (ps_if (pt_cmpR op_eq (pv 1) (pe_gc T.g_LEAST) (nomark _)) (pss_one (ps_ret (pe_c c_tell_least hr pass0 (pa_cons (pv 0) (pa_cons (pe_ix ix_list (pv 2) pe_int (fun _ _ => rfl)) pa_nil))))) pss_nil) (pss_cons (ps_if (pt_cmpR op_eq (pv 1) (pe_gc T.g_BOUNDS) (nomark _)) (pss_one (ps_ret (pe_c c_tell_bounds hr pass0 (pa_cons (pv 0) (pa_cons (pe_ix ix_list (pv 3) pe_int (fun _ _ => rfl)) (pa_cons (pe_ix ix_list (pv 3) pe_int (fun _ _ => rfl)) pa_nil)))))) pss_nil) (pss_cons (ps_if (pt_cmpR op_eq (pv 1) (pe_gc T.g_GROUPS_desk) (nomark _)) (pss_one (ps_ret (pe_c c_tell_groups hr pass0 (pa_cons (pv 0) (pa_cons (pe_ix ix_list (pv 3) pe_int (fun _ _ => rfl)) pa_nil))))) pss_nil) (pss_cons (ps_if (pt_cmpR op_eq (pv 1) (pe_gc T.g_COVER) (nomark _)) (pss_one (ps_ret (pe_c c_tell_cover hr pass0 (pa_cons (pv 0) (pa_cons (pe_ix ix_list (pv 2) pe_int (fun _ _ => rfl)) pa_nil))))) pss_nil) (pss_one (ps_ret (pe_c c_tell_ask hr pass0 (pa_cons (pv 0) (pa_cons (pe_ix ix_list (pv 3) pe_int (fun _ _ => rfl)) pa_nil)))))))))))), ?_⟩)
  · obtain ⟨_, _, _, _, _, _, _, _, rfl, _⟩ := h
    rfl
  · obtain ⟨p, q, r, sh, cl, nums, rows, ans, rfl, hh, hq, hro, ok, k⟩ := h
    obtain ⟨rxs, hrx, hrl, hrg⟩ := dLL_da hro
    rcases ok with ⟨rfl, rfl, rfl, rfl⟩ | ⟨rfl, rfl, l, rfl, hl, rfl⟩ | ⟨rfl, rfl, rfl, rfl⟩ | ⟨rfl, ⟨z, rfl, rfl⟩, rfl⟩ | ⟨rfl, rfl, lo, hi, rfl, rfl⟩ | ⟨rfl, rfl, l, rfl, rfl⟩ | ⟨rfl, ⟨z, rfl, rfl⟩, rfl⟩ | ⟨rfl, rfl, l, rfl, hl, rfl⟩
    · exact ⟨_, rfl, rfl, _, rfl, tif_yes rfl ⟨_, rfl, p, sh, rfl, hh, k⟩⟩
    · obtain ⟨y, hy1, hy2⟩ := hrg 0 l rfl
      exact ⟨_, rfl, rfl, _, rfl, tif_no (by decide) ⟨_, rfl, rfl, _, rfl, tif_yes rfl ⟨_, rfl, _, rfl, r, rxs, _, _, rfl, rfl, sq hrx, at_nat (i := 0) hy1, p, y, sh, l, rfl, hh, sq hy2, by omega, k⟩⟩⟩
    · exact ⟨_, rfl, rfl, _, rfl, tif_no (by decide) ⟨_, rfl, rfl, _, rfl, tif_no (by decide) ⟨_, rfl, rfl, _, rfl, tif_yes rfl ⟨_, rfl, p, sh, rfl, hh, k⟩⟩⟩⟩
    · exact ⟨_, rfl, rfl, _, rfl, tif_no (by decide) ⟨_, rfl, rfl, _, rfl, tif_no (by decide) ⟨_, rfl, rfl, _, rfl, tif_no (by decide) ⟨_, rfl, rfl, _, rfl, tif_yes rfl ⟨_, rfl, _, rfl, q, _, _, _, rfl, rfl, hq, at_nat (i := 0) rfl, p, sh, z, rfl, hh, k⟩⟩⟩⟩⟩
    · obtain ⟨y, hy1, hy2⟩ := hrg 0 lo rfl
      obtain ⟨y', hy1', hy2'⟩ := hrg 1 hi rfl
      exact ⟨_, rfl, rfl, _, rfl, tif_no (by decide) ⟨_, rfl, rfl, _, rfl, tif_no (by decide) ⟨_, rfl, rfl, _, rfl, tif_no (by decide) ⟨_, rfl, rfl, _, rfl, tif_no (by decide) ⟨_, rfl, rfl, _, rfl, tif_yes rfl
        ⟨_, rfl, _, rfl, r, rxs, _, _, rfl, rfl, sq hrx, at_nat (i := 0) hy1, _, rfl, r, rxs, _, _, rfl, rfl, sq hrx, at_nat (i := 1) hy1', p, y, y', sh, lo, hi, rfl, hh, sq hy2, sq hy2', k⟩⟩⟩⟩⟩⟩
    · obtain ⟨y, hy1, hy2⟩ := hrg 0 l rfl
      exact ⟨_, rfl, rfl, _, rfl, tif_no (by decide) ⟨_, rfl, rfl, _, rfl, tif_no (by decide) ⟨_, rfl, rfl, _, rfl, tif_no (by decide) ⟨_, rfl, rfl, _, rfl, tif_no (by decide) ⟨_, rfl, rfl, _, rfl, tif_no (by decide) ⟨_, rfl, rfl, _, rfl, tif_yes rfl
        ⟨_, rfl, _, rfl, r, rxs, _, _, rfl, rfl, sq hrx, at_nat (i := 0) hy1, p, y, sh, l, rfl, hh, sq hy2, k⟩⟩⟩⟩⟩⟩⟩
    · exact ⟨_, rfl, rfl, _, rfl, tif_no (by decide) ⟨_, rfl, rfl, _, rfl, tif_no (by decide) ⟨_, rfl, rfl, _, rfl, tif_no (by decide) ⟨_, rfl, rfl, _, rfl, tif_no (by decide) ⟨_, rfl, rfl, _, rfl, tif_no (by decide) ⟨_, rfl, rfl, _, rfl, tif_no (by decide) ⟨_, rfl, rfl, _, rfl, tif_yes rfl
        ⟨_, rfl, _, rfl, q, _, _, _, rfl, rfl, hq, at_nat (i := 0) rfl, p, sh, z, rfl, hh, k⟩⟩⟩⟩⟩⟩⟩⟩
    · obtain ⟨y, hy1, hy2⟩ := hrg 0 l rfl
      exact ⟨_, rfl, rfl, _, rfl, tif_no (by decide) ⟨_, rfl, rfl, _, rfl, tif_no (by decide) ⟨_, rfl, rfl, _, rfl, tif_no (by decide) ⟨_, rfl, rfl, _, rfl, tif_no (by decide) ⟨_, rfl, rfl, _, rfl, tif_no (by decide) ⟨_, rfl, rfl, _, rfl, tif_no (by decide) ⟨_, rfl, rfl, _, rfl, tif_no (by decide)
        ⟨_, rfl, _, rfl, r, rxs, _, _, rfl, rfl, sq hrx, at_nat (i := 0) hy1, p, y, sh, l, rfl, hh, sq hy2, by omega, k⟩⟩⟩⟩⟩⟩⟩⟩
def sp_Desk_answer (K : PySem.W.Frag) (a : Ads) : Sp := fun vs H Q _ => ∃ (d q r : Addr) (S : List Addr) (o o2 : Option Sheet) (cl : Int) (nums : List Int) (rows : List (List Int)) (ans : List Int), vs = [.ref d, .int cl, .ref q, .ref r] ∧ DeskAt a S H d o ∧ d ∈ S ∧ (∀ b ∈ S, H b ≠ none) ∧
  SqL K H q (iL nums) ∧ Da H (.ref r) (dLL rows) ∧ AnsOk o cl nums rows o2 ans ∧ (∀ p H2, H p = none → Kp [d] H H2 → DeskAt a S H2 d o2 → H2 p = some (.lst (iL ans)) → Q (.ref p) H2)
theorem ok_Desk_answer (T : Txt K mg a) (c_Desk_load : Met P w K mg base CX0 10 a.desk "load" (sp_Desk_load K a)) (c_tell : Cal P w K mg base CX0 8 "tell" (sp_tell K a)) : Met P w K mg base CX0 11 a.desk "answer" (sp_Desk_answer K a) := by
  refine met_of T.d_Desk_answer sc_Desk_answer (fun vs H Q E h => ?_) (fun f cdv A outer s H vs Q E hr h => ⟨_, (pss_cons (ps_if (pt_cmpR op_eq (pv 1) (pe_gc T.g_LOAD) (nomark _)) (pss_one (ps_ret (pe_mt T.cl_desk c_Desk_load hr pass0 (pv 0) (pa_cons (pe_ix ix_list (pv 3) pe_int (fun _ _ => rfl)) pa_nil)))) pss_nil) (pss_cons (ps_if (pt_cmpR op_isN (pe_fld (pv 0) rfl) pe_non (nomark _)) (pss_one (ps_ret (pe_lst (pa_cons (pe_gc T.g_NO_LIST) pa_nil)))) pss_nil) (pss_one (ps_ret (pe_c c_tell hr pass0 (pa_cons (pe_fld (pv 0) rfl) (pa_cons (pv 1) (pa_cons (pv 2) (pa_cons (pv 3) pa_nil))))))))), ?_⟩)
  · obtain ⟨_, _, _, _, _, _, _, _, _, _, rfl, _⟩ := h
    rfl
  · obtain ⟨d, q, r, S, o, o2, cl, nums, rows, ans, rfl, hd, hdS, hS, hq, hro, ok, k⟩ := h
    obtain ⟨rxs, hrx, hrl, hrg⟩ := dLL_da hro
    rcases ok with ⟨rfl, rfl, t, rfl, htl, hto, rfl, rfl⟩ | ⟨hc, rfl, rfl, rfl⟩ | ⟨hc, sh, rfl, rfl, ok⟩
    · obtain ⟨y, hy1, hy2⟩ := hrg 0 t rfl
      obtain ⟨dx, v, hobj⟩ := hd.obj
      exact ⟨_, rfl, rfl, _, rfl, tif_yes rfl ⟨_, rfl, d, dx, _, rfl, hobj, df_no (by decide +kernel), _, rfl, r, rxs, _, _, rfl, rfl, sq hrx, at_nat (i := 0) hy1, d, y, S, o, t, rfl, hd, hdS, hS, sq hy2, htl, hto, k⟩⟩
    · obtain ⟨dx, hobj⟩ := hd
      refine ⟨_, rfl, rfl, _, rfl, tif_no hc ⟨_, rfl, d, _, dx, _, _, rfl, hobj, T.cl_desk, T.na_desk_held, df_held, rfl, _, rfl, ?_⟩⟩
      rw [decide_eq_true rfl]
      refine iteT ⟨by show 1 ≤ sizeLine; decide, fun u hu => ?_⟩
      exact k u _ hu (Kp.of (ex_new hu)) ⟨dx, ex_new hu _ _ hobj⟩ upd_same
    · obtain ⟨dx, h, hobj, hh⟩ := id hd
      refine ⟨_, rfl, rfl, _, rfl, tif_no hc ⟨_, rfl, d, _, dx, _, _, rfl, hobj, T.cl_desk, T.na_desk_held, df_held, rfl, _, rfl, ?_⟩⟩
      rw [decide_eq_false (fun z => by cases z)]
      refine iteF ⟨_, rfl, d, _, dx, _, _, rfl, hobj, T.cl_desk, T.na_desk_held, df_held, _, rfl, _, rfl, _, rfl, h, q, r, sh, cl, nums, rows, ans, rfl, hh.mono hide_sub, hq, hro, ok, fun p H2 hp e2 h2 => ?_⟩
      exact k p H2 hp (Kp.of e2) (hd.mono e2) h2
end
end Fw
set_option Elab.async false
set_option maxRecDepth 100000
set_option maxHeartbeats 4000000
namespace Fm
theorem rows_le : ∀ {j : Nat} {r : List Int} {xs : List (List Int)} {t : List Int}, PyFlat.rows j r = some (xs, t) → t.length ≤ r.length
  | 0, r, xs, t, h => by
    cases h
    exact Nat.le_refl _
  | j + 1, r, xs, t, h => by
    obtain ⟨n, r', xs', rfl, _, _, _, h2⟩ := rows_step h
    have := rows_le h2
    rw [List.length_drop] at this
    rw [List.length_cons]
    omega
theorem drop_head {l : List Int} {i : Nat} {z : Int} {r : List Int} (h : l.drop i = z :: r) : l[i]? = some z ∧ r = l.drop (i + 1) ∧ i < l.length := by
  have h0 : (l.drop i)[0]? = some z := by rw [h]; rfl
  rw [List.getElem?_drop, Nat.add_zero] at h0
  refine ⟨h0, ?_, (List.getElem?_eq_some_iff.mp h0).1⟩
  have : (l.drop i).drop 1 = r := by rw [h]; rfl
  rw [← this, List.drop_drop]
end Fm
namespace Fw
open PySem PySem.Spec PyProof.Rows L2 Fm
open Evl (Ex Ev EvL EvU EvT EvA RV RetL RetV)
open Vaskya (Sheet Measure Item)
section
variable {P : Program} {w : World} {K : PySem.W.Frag} {mg : Str → Option Value} {base : Heap} {a : Ads}
theorem cut_off (ns : List Int) {i j : Nat} {x y : Int} (hx : x = (i : Int)) (hy : y = ((i + j : Nat) : Int)) : cutV (iL ns) (some x) (some y) = iL ((ns.drop i).take j) := by
  rw [hx, hy, cut_far, Nat.add_sub_cancel_left]
def sp_read_rows (K : PySem.W.Frag) (a : Ads) : Sp := fun vs H Q _ => ∃ (p : Addr) (ns : List Int) (st many : Nat) (rows : List (List Int)) (rest : List Int), vs = [.ref p, .int st, .int many] ∧ SqL K H p (iL ns) ∧ st ≤ ns.length ∧ many ≤ 2 ∧ PyFlat.rows many (ns.drop st) = some (rows, rest) ∧
  ∀ (q b : Addr) (en : Nat) (H2 : Hp), Ex H H2 → en ≤ ns.length → ns.drop en = rest → H2 q = some (.tup [.ref b, .int en]) → Da H2 (.ref b) (dLL rows) → Q (.ref q) H2
theorem ok_read_rows (T : Txt K mg a) : Cal P w K mg base CX0 1 "read_rows" (sp_read_rows K a) := by
  refine cal_of T.d_read_rows sc_read_rows (fun vs H Q E h => ?_) (fun f cdv A outer s H vs Q E hr h => ⟨_, (pss_cons (ps_set (i := 3) sc_read_rows.nd rfl (Or.inl rfl) (pe_lst pa_nil)) (pss_cons (ps_set (i := 4) sc_read_rows.nd rfl (Or.inl rfl) (pv 1)) (pss_cons (ps_for PassesOwn.never rfl (pi_range1 rfl T.b_range (pa_cons (pv 2) pa_nil)) (pg_name (i := 5) sc_read_rows.nd rfl (Or.inl rfl)) (pss_cons (ps_set (i := 6) sc_read_rows.nd rfl (Or.inl rfl) (pe_op op_add (pe_op op_add (pv 4) pe_int) (pe_ix ix_list (pv 0) (pv 4) (fun _ _ => rfl)))) (pss_cons (ps_expr (pe_bm PySem.F.plainAttrs_list PySem.F.slot_list_append PySem.F.type_list_append mt_append (pv 3) (pa_cons (pe_slice sl_list (pv 0) (po_some (pe_op op_add (pv 4) pe_int)) (po_some (pv 6))) pa_nil))) (pss_one (ps_set (i := 4) sc_read_rows.nd rfl (Or.inl rfl) (pv 6)))))) (pss_one (ps_ret (pe_tup (pa_cons (pv 3) (pa_cons (pv 4) pa_nil)))))))), ?_⟩)
  · obtain ⟨_, _, _, _, _, _, rfl, _⟩ := h
    rfl
  · obtain ⟨p, ns, st0, many, rows, rest, rfl, hp, hst, hm, hrs, k⟩ := h
    refine ⟨by show 0 ≤ sizeLine; decide, fun R hR => ?_⟩
    refine ⟨_, rfl, _, rfl, (many : Int), rfl, by omega, by omega, ?_⟩
    rw [Int.toNat_natCast]
    refine for_range (lo := 0) (n := many) (fun i σ' H' => ∃ (e0 : Nat) (x5 x6 : Option V) (ys : List V) (ri xs : List (List Int)), σ' = [some (.ref p), some (.int st0), some (.int many), some (.ref R), some (.int e0), x5, x6] ∧ e0 ≤ ns.length ∧ rows = ri ++ xs ∧
        PyFlat.rows (many - i) (ns.drop e0) = some (xs, rest) ∧ ri.length = i ∧ Ex H (rm H' R) ∧ H' R = some (.lst ys) ∧ DaL (rm H' R) ys (ri.map dI))
      ⟨st0, none, none, [], [], rows, rfl, hst, rfl, hrs, rfl, ex_rm (ex_new hR) hR, upd_same, .nil⟩ ?_ ?_
    · rintro i σ' H' hi ⟨e0, x5, x6, ys, ri, xs, rfl, hle, hrows, hpf, hri, e, hR', hys⟩
      have hj : many - i = (many - (i + 1)) + 1 := by omega
      rw [hj] at hpf
      obtain ⟨n, r', xs', hdr, hn0, hnl, hxs, hpf2⟩ := rows_step hpf
      obtain ⟨hget, hr', hlt⟩ := drop_head hdr
      have eH := rm_rm_ex e
      obtain ⟨m, rfl⟩ : ∃ m : Nat, n = (m : Int) := ⟨n.toNat, by omega⟩
      rw [Int.toNat_natCast] at hnl hxs hpf2
      have hlen' : r'.length = ns.length - (e0 + 1) := by rw [hr', List.length_drop]
      refine ⟨_, rfl, _, _, rfl, rfl, _, rfl, _, rfl, p, _, _, _, rfl, rfl, ex_sq eH hp, at_nat (iL_get hget), _, _, rfl, rfl, ?_⟩
      refine ⟨_, rfl, .inl ⟨rfl, _, sq hR'⟩, _, rfl, _, rfl, _, _, rfl, rfl, _, rfl, _, rfl, _, rfl, p, _, rfl, ex_sq eH hp, fun u hu => ?_⟩
      have huR : u ≠ R := fun z => by rw [z, hR'] at hu; cases hu
      have hylen : ys.length = i := by rw [hys.len, List.length_map, hri]
      have hcut : cutV (iL ns) (some ((e0 : Int) + 1)) (some ((e0 : Int) + 1 + (m : Int))) = iL (r'.take m) := by
        rw [hr']
        exact cut_off ns (i := e0 + 1) (j := m) (by omega) (by omega)
      have eu := ex_new (o := .lst (cutV (iL ns) (some ((e0 : Int) + 1)) (some ((e0 : Int) + 1 + (m : Int))))) hu
      refine ⟨R, ys, .ref u, rfl, rfl, eu _ _ hR', szl (by omega), ?_⟩
      have e5 : Ex (rm H' R) (rm (upd (upd H' u (.lst (cutV (iL ns) (some ((e0 : Int) + 1)) (some ((e0 : Int) + 1 + (m : Int)))))) R (.lst (ys ++ [.ref u]))) R) := by
        rw [rm_upd]
        exact rm_ex eu
      refine ⟨_, rfl, e0 + 1 + m, some (.int (0 + (i : Int))), some (.int ((e0 : Int) + 1 + (m : Int))), ys ++ [.ref u], ri ++ [r'.take m], xs', ?_, by omega, by rw [hrows, hxs, List.append_assoc]; rfl, ?_, by rw [List.length_append, hri]; rfl, e.trans e5, upd_same, ?_⟩
      · rfl
      · rw [hr', List.drop_drop] at hpf2
        exact hpf2
      · rw [List.map_append]
        refine (hys.ex e5).snoc (da_dI ?_)
        rw [rm_ne huR, upd_ne huR, ← hcut]
        exact upd_same
    · rintro σ' H' ⟨e0, x5, x6, ys, ri, xs, rfl, hle, hrows, hpf, hri, e, hR', hys⟩
      rw [Nat.sub_self] at hpf
      cases hpf
      rw [List.append_nil] at hrows
      subst hrows
      refine ⟨_, rfl, _, rfl, by show 2 ≤ sizeLine; decide, fun u hu => ?_⟩
      have eu := ex_new (o := .tup [.ref R, .int (e0 : Nat)]) hu
      exact k u R e0 _ ((rm_rm_ex e).trans eu) hle rfl upd_same ((Da.l hR' (hys.ex rm_sub)).ex eu)
theorem DeskAt.wfo {S : List Addr} {H : Hp} {d : Addr} {o : Option Sheet} (h : DeskAt a S H d o) : WFo o := by
  cases o with
  | none => intro s h'; cases h'
  | some s =>
    obtain ⟨dx, p, _, hh⟩ := h
    intro s' h'
    cases h'
    exact hh.wf
/-- the entry's promise names no address -/
def sp_end (K : PySem.W.Frag) : Sp := fun vs H Q _ => ∃ (p : Addr) (ns : List Int), vs = [.ref p] ∧ SqL K H p (iL ns) ∧ PyVaskyb.answers_asked ns = true ∧ RetL (iL (PyVaskyb.answers ns)) H Q
theorem fn_of {x qual : Str} {st : Stmt} {f : Addr} {fd : FuncData} {N ps : List Str} {k : Nat} {sp : Sp} (F : Fun K x qual st f fd) (S : FnScope N ps (defScope st)) (len : ∀ vs H Q E, sp vs H Q E → vs.length = ps.length)
    (hbody : ∀ (f : Addr) (cdv : Value) (A : Around) (outer : List Env) (s : Shared) (H : Hp) (vs : List V) (Q : VK) (E : XK), Room k (A.deeper (envOfC qual (defScope st) s.heap.objs.size f cdv)) → sp vs H Q E →
      ∃ t, PSs (cxOf CX0 P w K mg base N qual (defScope st) f cdv A outer s H E).nox (defBody st) t ∧ t { nx := fun _ H' => Q .non H', rt := Q } (start N vs) H) : FnOk P w K mg base CX0 (k + 1) f fd ps sp := F.ok S len (hbody f)
theorem go_answers {f : Addr} {fd : FuncData} (T : Txt K mg a) (F : Fun K "answers" "answers" s_answers f fd) (c_Desk_init : Mak P w K mg base 1 "Desk" a.desk (sp_Desk_init K a)) (c_read_rows : Cal P w K mg base CX0 1 "read_rows" (sp_read_rows K a)) (c_Desk_answer : Met P w K mg base CX0 11 a.desk "answer" (sp_Desk_answer K a)) : FnOk P w K mg base CX0 12 f fd ["calls"] (sp_end K) := by
  refine fn_of (k := 11) F sc_answers (fun vs H Q E h => ?_) (fun f cdv A outer s H vs Q E hr h => ⟨_, (pss_cons (ps_set (i := 1) sc_answers.nd rfl (Or.inl rfl) (pe_mk0 c_Desk_init hr)) (pss_cons (ps_set (i := 2) sc_answers.nd rfl (Or.inl rfl) (pe_lst pa_nil)) (pss_cons (ps_set (i := 3) sc_answers.nd rfl (Or.inl rfl) pe_int) (pss_cons (ps_while PassesOwn.never (pt_cmpR op_lt (pv 3) (pe_callB call_len_seq rfl T.b_len PySem.boot_len (pa_cons (pv 0) pa_nil)) (nomark _)) (pss_cons (ps_set (i := 4) sc_answers.nd rfl (Or.inl rfl) (pe_ix ix_list (pv 0) (pv 3) (fun _ _ => rfl))) (pss_cons (ps_set (i := 5) sc_answers.nd rfl (Or.inl rfl) (pe_op op_add (pe_op op_add (pv 3) pe_int) (pe_ix ix_tup (pe_gc T.g_MANY_NUMBERS) (pv 4) (fun _ _ => rfl)))) (pss_cons (ps_set (i := 6) sc_answers.nd rfl (Or.inl rfl) (pe_slice sl_list (pv 0) (po_some (pe_op op_add (pv 3) pe_int)) (po_some (pv 5)))) (pss_cons (ps_asg (pe_c c_read_rows hr pass0 (pa_cons (pv 0) (pa_cons (pv 5) (pa_cons (pe_ix ix_tup (pe_gc T.g_MANY_ROWS) (pv 4) (fun _ _ => rfl)) pa_nil)))) (pg_tup rfl (pgs_cons (pg_name (i := 7) sc_answers.nd rfl (Or.inl rfl)) (pgs_cons (pg_name (i := 3) sc_answers.nd rfl (Or.inl rfl)) pgs_nil)))) (pss_cons (ps_set (i := 8) sc_answers.nd rfl (Or.inl rfl) (pe_mt T.cl_desk c_Desk_answer hr pass0 (pv 1) (pa_cons (pv 4) (pa_cons (pv 6) (pa_cons (pv 7) pa_nil))))) (pss_cons (ps_expr (pe_bm PySem.F.plainAttrs_list PySem.F.slot_list_append PySem.F.type_list_append mt_append (pv 2) (pa_cons (pe_callB call_len_seq rfl T.b_len PySem.boot_len (pa_cons (pv 8) pa_nil)) pa_nil))) (pss_one (ps_expr (pe_bm PySem.F.plainAttrs_list PySem.F.slot_list_extend PySem.F.type_list_extend mt_extend (pv 2) (pa_cons (pv 8) pa_nil))))))))))) (pss_one (ps_ret (pv 2))))))), ?_⟩)
  · obtain ⟨_, _, rfl, _⟩ := h
    rfl
  · obtain ⟨p, ns, rfl, hp, hask, k⟩ := h
    obtain ⟨cs0, hcs0, hal0, hans0, hlong⟩ := asked_facts hask
    refine fun x dx nx nd ne => ⟨x, dx, rfl, upd_same, fun H3 h3 k3 => ⟨rfl, ?_⟩⟩
    have eB : Ex H (upd (upd H dx (.own x)) x (.ins a.desk dx [])) := (ex_new nd).trans (ex_new (by rw [upd_ne (Ne.symm ne)]; exact nx))
    have e3 : Ex H H3 := ex_kp eB k3 fun b m => by rw [List.mem_singleton.mp m]; exact nx
    refine ⟨by show 0 ≤ sizeLine; decide, fun g hg => ?_⟩
    have hgH : H g = none := fresh_of e3 hg
    have hgx : g ≠ x := fun z => by rw [z, h3] at hg; cases hg
    have eg := ex_new (o := .lst []) hg
    refine ⟨fun m σ' H' => ∃ (e0 : Nat) (cs : List (List (List Int))) (f : Nat) (o : Option Sheet) (out : List Int) (x4 x5 x6 x7 x8 : Option V), m = ns.length - e0 ∧ σ' = [some (.ref p), some (.ref x), some (.ref g), some (.int e0), x4, x5, x6, x7, x8] ∧ e0 ≤ ns.length ∧
        PyFlat.calls PyVaskyb.shape f (ns.drop e0) = some cs ∧ (∀ c ∈ cs, VaskybNeutral.asked1 c = true) ∧ out ++ toldFrom o cs = PyVaskyb.answers ns ∧ WFo o ∧ Ex H H' ∧ DeskAt a [x, g] H' x o ∧ H' g = some (.lst (iL out)),
      ⟨_, 0, cs0, ns.length, none, [], none, none, none, none, none, rfl, rfl, by omega, by rw [List.drop_zero]; exact hcs0, hal0, by rw [hans0]; rfl, (fun s h => by cases h), e3.trans eg, ⟨dx, eg _ _ h3⟩, upd_same⟩, ?_⟩
    rintro m σ' H' ⟨e0, cs, f, o, out, x4, x5, x6, x7, x8, rfl, rfl, hle, hcs, hal, hout, wo, e, hd, hg'⟩
    refine ⟨_, rfl, _, rfl, p, _, rfl, .inl (ex_sq e hp), _, _, rfl, rfl, _, rfl, ?_⟩
    rw [iL_len]
    refine ite_b (fun c => ?_) (fun c => ?_)
    · have hlt : e0 < ns.length := by have := of_decide_eq_true c; omega
      obtain ⟨cl, r, hdr⟩ : ∃ cl r, ns.drop e0 = cl :: r := by
        cases hd0 : ns.drop e0 with
        | nil =>
          have := congrArg List.length hd0
          rw [List.length_drop] at this
          simp at this
          omega
        | cons cl r => exact ⟨cl, r, rfl⟩
      obtain ⟨hget, hr', _⟩ := drop_head hdr
      rw [hdr] at hcs
      obtain ⟨f', n, kk, rows, t, cs', hsh, hnl, hrw, hcse, hcs'⟩ := calls_step hcs
      subst hcse
      obtain ⟨hs1, hs2, hs3⟩ := shape_at hsh
      have hrl : r.length = ns.length - (e0 + 1) := by rw [hr', List.length_drop]
      have htl := rows_le hrw
      rw [List.length_drop] at htl
      rw [toldFrom_cons] at hout
      have hok := ans_ok wo hsh (nums := r.take n) (rows := rows) (by rw [List.length_take]; omega) (rows_count hrw) (hal _ (List.mem_cons_self ..))
      generalize (VaskybNeutral.step o ((cl :: r.take n) :: rows)).2 = ans at *
      generalize (VaskybNeutral.step o ((cl :: r.take n) :: rows)).1 = o2 at *
      have htot : out.length + (1 + ans.length) ≤ 10000000 := by
        have := congrArg List.length hout
        rw [List.length_append, List.length_append, List.length_cons] at this
        omega
      refine ⟨fun σ2 H2 => ∃ (e1 : Nat) (cs : List (List (List Int))) (f : Nat) (o : Option Sheet) (out : List Int) (x4 x5 x6 x7 x8 : Option V), ns.length - e1 < ns.length - e0 ∧ σ2 = [some (.ref p), some (.ref x), some (.ref g), some (.int e1), x4, x5, x6, x7, x8] ∧ e1 ≤ ns.length ∧
        PyFlat.calls PyVaskyb.shape f (ns.drop e1) = some cs ∧ (∀ c ∈ cs, VaskybNeutral.asked1 c = true) ∧ out ++ toldFrom o cs = PyVaskyb.answers ns ∧ WFo o ∧ Ex H H2 ∧ DeskAt a [x, g] H2 x o ∧ H2 g = some (.lst (iL out)), ?_, ?_⟩
      · rintro σ2 H2 ⟨e1, cs, f, o, out, x4, x5, x6, x7, x8, h1, h2⟩
        exact ⟨_, h1, e1, cs, f, o, out, x4, x5, x6, x7, x8, rfl, h2⟩
      refine ⟨_, rfl, _, rfl, p, _, _, _, rfl, rfl, ex_sq e hp, at_nat (iL_get hget), ?_⟩
      refine ⟨_, rfl, _, _, rfl, rfl, _, rfl, a.manyN, _, _, _, rfl, rfl, T.t_MANY_NUMBERS _, hs1, _, _, rfl, rfl, ?_⟩
      refine ⟨_, rfl, _, rfl, _, _, rfl, rfl, _, rfl, _, rfl, _, rfl, p, _, rfl, ex_sq e hp, fun q hq => ?_⟩
      have hcut : cutV (iL ns) (some ((e0 : Int) + 1)) (some ((e0 : Int) + 1 + (n : Int))) = iL (r.take n) := by
        rw [hr']
        exact cut_off ns (i := e0 + 1) (j := n) (by omega) (by omega)
      have eq' := ex_new (o := .lst (cutV (iL ns) (some ((e0 : Int) + 1)) (some ((e0 : Int) + 1 + (n : Int))))) hq
      have eHq := e.trans eq'
      refine ⟨_, rfl, _, rfl, _, rfl, a.manyR, _, _, _, rfl, rfl, T.t_MANY_ROWS _, hs2, p, ns, e0 + 1 + n, kk, rows, t, rfl, ex_sq eHq hp, by omega, hs3, ?_, fun rq b en H2 e2 hen hdrop hrq hb => ?_⟩
      · rw [hr', List.drop_drop] at hrw
        exact hrw
      refine ⟨rq, _, rfl, st hrq, rfl, _, _, rfl, _, _, rfl, rfl, ?_⟩
      have eq2 := eq'.trans e2
      have hd2 := hd.mono eq2
      obtain ⟨dx2, v2, hobj⟩ := hd2.obj
      have hg2 := eq2 _ _ hg'
      have hkn : ∀ b ∈ [x, g], H2 b ≠ none := fun b hb => by
        rcases List.mem_cons.mp hb with h | h
        · rw [h, hobj]; exact Option.some_ne_none _
        · rw [List.mem_singleton.mp h, hg2]; exact Option.some_ne_none _
      refine ⟨_, rfl, x, dx2, _, rfl, hobj, df_no (by decide +kernel), _, rfl, _, rfl, _, rfl, x, q, b, [x, g], o, o2, cl, r.take n, rows, ans, rfl, hd2, List.mem_cons_self .., hkn, sq (e2 _ _ (by rw [← hcut]; exact upd_same)), hb, hok, fun ap H4 hap k4 hd4 h4 => ?_⟩
      have e4 : Ex H H4 := ex_kp (e.trans eq2) k4 fun b m => by rw [List.mem_singleton.mp m]; exact nx
      have hg4 : H4 g = some (.lst (iL out)) := k4 g _ hg2 fun m => hgx (List.mem_singleton.mp m)
      have hapg : ap ≠ g := fun z => by rw [z, hg2] at hap; cases hap
      refine ⟨_, rfl, .inl ⟨rfl, _, sq hg4⟩, _, rfl, ap, _, rfl, .inl (sq h4), g, _, _, rfl, rfl, hg4, szl (by rw [iL_len]; omega), ?_⟩
      refine ⟨_, rfl, .inl ⟨rfl, _, sq upd_same⟩, _, rfl, g, ap, _, _, rfl, rfl, upd_same, by rw [upd_ne hapg]; exact h4, ?_, ?_⟩
      · rw [List.length_append, iL_len, iL_len]
        exact sz (by show _ + 1 + _ ≤ _; omega)
      · have hgS : g ∈ [x, g] := List.mem_cons_of_mem _ (List.mem_cons_self ..)
        refine ⟨en, cs', f', o2, out ++ (ans.length : Int) :: ans, _, _, _, _, _, ?_, rfl, hen, by rw [hdrop]; exact hcs', fun c hc => hal c (List.mem_cons_of_mem _ hc), ?_, hd4.wfo, Evl.Ex.mut (Evl.Ex.mut e4 hgH) hgH, (hd4.set hgS (Ne.symm hgx)).set hgS (Ne.symm hgx), ?_⟩
        · have := congrArg List.length hdrop
          rw [List.length_drop] at this
          omega
        · rw [List.append_assoc]
          exact hout
        · rw [upd_same, iL_len, iL_app]
          show some (HO.lst ((iL out ++ [.int (ans.length : Nat)]) ++ iL ans)) = some (HO.lst (iL out ++ V.int (ans.length : Nat) :: iL ans))
          rw [List.append_assoc]
          rfl
    · have hge : ns.length ≤ e0 := by have := of_decide_eq_false c; omega
      have hdr : ns.drop e0 = [] := List.drop_eq_nil_of_le hge
      rw [hdr] at hcs
      have hnil : cs = [] := by
        cases f <;> (rw [PyFlat.calls] at hcs; exact (Option.some.inj hcs).symm)
      subst hnil
      have : out = PyVaskyb.answers ns := by
        rw [← hout]
        show out = out ++ []
        rw [List.append_nil]
      rw [this] at hg'
      exact ⟨_, rfl, k g H' hgH e hg'⟩
end
end Fw
set_option Elab.async false
set_option maxRecDepth 100000
set_option maxHeartbeats 4000000
namespace Fw
open PySem PySem.Spec PyProof.Rows L2 Fm
/-! ### the end: what the top has written, told fact by fact -/
theorem self_err {K : PySem.W.Frag} {S : Addr} (h1 : PySem.W.subIn K (.ref S) (.type "BaseException") = some true) (h2 : PySem.W.isClsIn K S = true) (h3 : PySem.W.typeIn K (.ref S) = some (.type "type"))
    (h4 : PySem.W.subIn K (.ref S) (.ref S) = some true) : PySem.W.exmOne K (.ref S) (.ref S) = some true := by
  have h2' : (PySem.W.clsIn K S).isSome = true := h2
  have e1 : (PySem.W.subIn K (.ref S) (.type "BaseException") == some true) = true := by rw [h1] <;> rfl
  have e2 : ((PySem.W.clsIn K S).isSome && PySem.W.typeIn K (.ref S) == some (.type "type")) = true := by rw [h2', h3] <;> rfl
  unfold PySem.W.exmOne
  rw [if_pos e1]
  show (if ((PySem.W.clsIn K S).isSome && PySem.W.typeIn K (.ref S) == some (.type "type")) = true then PySem.W.subIn K (.ref S) (.ref S) else none) = some true
  rw [if_pos e2]
  exact h4
/-- how a def takes its arguments -/
def Bnd (x qual : Str) (st : Stmt) (ps : List Str) : Prop := ∀ (kV doc pm : Value) (an : Option Addr) (cdv ct : Value) (us : List Value), us.length = ps.length → bindArgs (PySem.W.fnOf x qual (defArgs st) (defBody st) (defScope st) .none kV doc pm an cdv ct) ⟨us, []⟩ = pure (ps.zip us)
section
variable {goal : Prop} {K : PySem.W.Frag} {h : Heap} {mg : Str → Option Value} {x qual : Str} {st : Stmt} {ps : List Str} {C f t : Addr} {od an : Option Addr} {sl : Array (Option Value)} {oc kV dc pm cd ct u : Value} {z : Int} {tk : Tok}
theorem def_go (X : K.In h) (G : h.Ns mainGlobals mg) (hb : Bnd x x st ps) (e : PySem.W.nsIn K mainGlobals x = some (some (.ref f))) (l : K.lookup f = some ⟨oc, od, .func (PySem.W.fnOf x x (defArgs st) (defBody st) (defScope st) .none kV dc pm an cd ct), sl⟩)
    (c : PySem.W.codeIn K cd x = true) (k : PySem.W.keepIn K (.ref f) = true) (next : Def K mg x st ps → goal) : goal := next ⟨f, _, fun_mk l c k, PySem.W.mg_of X G e, (fun_mk l c k).binds hb⟩
theorem met_go (_ : Cls K C) (hb : Bnd x qual st ps) (e : PySem.W.findIn K (.ref C) x = some (some (.ref f))) (i : PySem.W.isFn K (.ref f) = true) (l : K.lookup f = some ⟨oc, od, .func (PySem.W.fnOf x qual (defArgs st) (defBody st) (defScope st) .none kV dc pm an cd ct), sl⟩)
    (c : PySem.W.codeIn K cd qual = true) (k : PySem.W.keepIn K (.ref f) = true) (next : DefM K C x qual st ps → goal) : goal := next ⟨f, _, fun_mk l c k, ⟨e, i, k⟩, (fun_mk l c k).binds hb⟩
theorem ini_go {cn : Str} (_ : Cls K C) (hb : Bnd "__init__" qual st ps) (hm : mg cn = some (.ref C)) (mk : PySem.W.makesIn K C = true) (kc : PySem.W.keepIn K (.ref C) = true) (e : PySem.W.findIn K (.ref C) "__init__" = some (some (.ref f))) (i : PySem.W.isFn K (.ref f) = true)
    (l : K.lookup f = some ⟨oc, od, .func (PySem.W.fnOf "__init__" qual (defArgs st) (defBody st) (defScope st) .none kV dc pm an cd ct), sl⟩) (c : PySem.W.codeIn K cd qual = true) (k : PySem.W.keepIn K (.ref f) = true) (next : DefI K mg C cn qual st ps → goal) : goal :=
  next ⟨f, _, fun_mk l c k, ⟨mk, e, i, kc⟩, hm, (fun_mk l c k).binds hb⟩
theorem flt_go (_ : OexC K C) (hb : Bnd "__init__" "ListFault.__init__" st ps) (e : PySem.W.findIn K (.ref C) "__init__" = some (some (.ref f))) (i : PySem.W.typeIn K (.ref f) = some (.type "function"))
    (l : K.lookup f = some ⟨oc, od, .func (PySem.W.fnOf "__init__" "ListFault.__init__" (defArgs st) (defBody st) (defScope st) .none kV dc pm an cd ct), sl⟩) (c : PySem.W.codeIn K cd "ListFault.__init__" = true) (k : PySem.W.keepIn K (.ref f) = true) (next : DefF K C st ps → goal) : goal :=
  next ⟨f, _, fun_mk l c k, e, i, (fun_mk l c k).binds hb⟩
theorem cls_go (X : K.In h) (G : h.Ns mainGlobals mg) (e : PySem.W.nsIn K mainGlobals x = some (some (.ref C))) (pg : PySem.W.plainGet K C Str.empty = true) (hd : PySem.W.hasDictIn K C = true) (po : PySem.W.plainOver K C = true)
    (sa : PySem.W.findIn K (.ref C) "__setattr__" = some (some (.builtin "object.__setattr__"))) (mk : PySem.W.makesIn K C = true) (kc : PySem.W.keepIn K (.ref C) = true)
    (next : mg x = some (.ref C) → Cls K C → PySem.W.makesIn K C = true → PySem.W.keepIn K (.ref C) = true → goal) : goal := next (PySem.W.mg_of X G e) ⟨pg, hd, po, sa⟩ mk kc
theorem err_go {nm q : Str} {N : Addr} {bs : List Value} {sn : List Str} {sub : List Value} {ab : Bool} {col : Option Bool} {dd : Option Addr} {m0 m1 m2 m3 m5 : Option Value} (X : K.In h) (G : h.Ns mainGlobals mg) (e : PySem.W.nsIn K mainGlobals x = some (some (.ref C)))
    (l : K.lookup C = some (excClassObj nm q C N bs [.type "ValueError", .type "Exception", .type "BaseException", .type "object"] true sn sub ab col dd m0 m1 m2 m3 m5 "ValueError.__new__"))
    (sa : PySem.W.findIn K (.ref C) "__setattr__" = some (some (.builtin "object.__setattr__"))) (ga : PySem.W.findIn K (.ref C) "__getattribute__" = some (some (.builtin "BaseException.__getattribute__"))) (gg : PySem.W.findIn K (.ref C) "__getattr__" = some none)
    (ex : PySem.W.subIn K (.ref C) (.type "BaseException") = some true) (ty : PySem.W.typeIn K (.ref C) = some (.type "type")) (kc : PySem.W.keepIn K (.ref C) = true) (hd : PySem.W.hasDictIn K C = true) (ic : PySem.W.isClsIn K C = true) (sc : PySem.W.subIn K (.ref C) (.ref C) = some true)
    (next : mg x = some (.ref C) → OexC K C → XfC K C → PySem.W.exmOne K (.ref C) (.ref C) = some true → goal) : goal :=
  next (PySem.W.mg_of X G e) ⟨⟨nm, q, N, bs, _, sn, sub, ab, col, dd, m0, m1, m2, m3, m5, l, by decide +kernel⟩, sa, ex, ty, kc⟩ ⟨ga, gg, ex, hd⟩ (self_err ex ic ty sc)
theorem con_go (X : K.In h) (G : h.Ns mainGlobals mg) (e : PySem.W.nsIn K mainGlobals x = some (some (.int z tk))) (next : (∃ u, mg x = some u ∧ RelV (.int z) u) → goal) : goal := next ⟨_, PySem.W.mg_of X G e, tk, rfl⟩
theorem tup_go {o : Obj} {its : Array Value} {n : Nat} {xs : List V} (X : K.In h) (G : h.Ns mainGlobals mg) (e : PySem.W.nsIn K mainGlobals x = some (some (.ref t))) (l : K.lookup t = some o) (hc : o.cls = .type "tuple") (hd : o.data = .seq its n) (hz : its.size ≤ 100) (hv : Vals xs its.toList)
    (next : (∃ u, mg x = some u ∧ RelV (.ref t) u) → (∀ H : Hp, SqT K H t xs) → goal) : goal :=
  next ⟨_, PySem.W.mg_of X G e, rfl⟩ fun H => .inr ⟨o, its, n, l, hc, hd, sz (by omega), hv⟩
theorem na_go (_ : Cls K C) (e : PySem.W.findIn K (.ref C) x = some none) (next : NoAttr K C x → goal) : goal := next e
theorem nf_go (_ : OexC K C) (e : PySem.W.findIn K (.ref C) x = some none) (next : PySem.W.findIn K (.ref C) x = some none → goal) : goal := next e
theorem blt_go (X : K.In h) (G : h.Ns mainGlobals mg) (e : PySem.W.nsIn K mainGlobals x = some none) (next : mg x = none → goal) : goal := next (PySem.W.mg_none_of X G e)
end

theorem bn_Held_init : Bnd "__init__" "Held.__init__" s_Held_init ["self", "measure_names", "ups", "item_names", "rows"] := fun _ _ _ _ _ _ us hl => match us, hl with | [_, _, _, _, _], _ => rfl
theorem bn_Held_every_measure : Bnd "every_measure" "Held.every_measure" s_Held_every_measure ["self"] := fun _ _ _ _ _ _ us hl => match us, hl with | [_], _ => rfl
theorem bn_Held_every_item : Bnd "every_item" "Held.every_item" s_Held_every_item ["self"] := fun _ _ _ _ _ _ us hl => match us, hl with | [_], _ => rfl
theorem bn_Held_lead : Bnd "lead" "Held.lead" s_Held_lead ["self", "first", "second", "measure"] := fun _ _ _ _ _ _ us hl => match us, hl with | [_, _, _, _], _ => rfl
theorem bn_Held_beats : Bnd "beats" "Held.beats" s_Held_beats ["self", "first", "second", "measures"] := fun _ _ _ _ _ _ us hl => match us, hl with | [_, _, _, _], _ => rfl
theorem bn_Held_beaten : Bnd "beaten" "Held.beaten" s_Held_beaten ["self", "item", "among", "measures"] := fun _ _ _ _ _ _ us hl => match us, hl with | [_, _, _, _], _ => rfl
theorem bn_Held_unbeaten : Bnd "unbeaten" "Held.unbeaten" s_Held_unbeaten ["self", "among", "measures"] := fun _ _ _ _ _ _ us hl => match us, hl with | [_, _, _], _ => rfl
theorem bn_is_letter : Bnd "is_letter" "is_letter" s_is_letter ["byte"] := fun _ _ _ _ _ _ us hl => match us, hl with | [_], _ => rfl
theorem bn_is_digit : Bnd "is_digit" "is_digit" s_is_digit ["byte"] := fun _ _ _ _ _ _ us hl => match us, hl with | [_], _ => rfl
theorem bn_codes : Bnd "codes" "codes" s_codes ["word"] := fun _ _ _ _ _ _ us hl => match us, hl with | [_], _ => rfl
theorem bn_after_blanks : Bnd "after_blanks" "after_blanks" s_after_blanks ["text", "start"] := fun _ _ _ _ _ _ us hl => match us, hl with | [_, _], _ => rfl
theorem bn_name_end : Bnd "name_end" "name_end" s_name_end ["text", "start"] := fun _ _ _ _ _ _ us hl => match us, hl with | [_, _], _ => rfl
theorem bn_digits_end : Bnd "digits_end" "digits_end" s_digits_end ["text", "start"] := fun _ _ _ _ _ _ us hl => match us, hl with | [_, _], _ => rfl
theorem bn_name_kind : Bnd "name_kind" "name_kind" s_name_kind ["name"] := fun _ _ _ _ _ _ us hl => match us, hl with | [_], _ => rfl
theorem bn_number_of : Bnd "number_of" "number_of" s_number_of ["digits"] := fun _ _ _ _ _ _ us hl => match us, hl with | [_], _ => rfl
theorem bn_number_kind : Bnd "number_kind" "number_kind" s_number_kind ["digits"] := fun _ _ _ _ _ _ us hl => match us, hl with | [_], _ => rfl
theorem bn_token_at : Bnd "token_at" "token_at" s_token_at ["text", "place"] := fun _ _ _ _ _ _ us hl => match us, hl with | [_, _], _ => rfl
theorem bn_read_tokens : Bnd "read_tokens" "read_tokens" s_read_tokens ["text"] := fun _ _ _ _ _ _ us hl => match us, hl with | [_], _ => rfl
theorem bn_ListFault_init : Bnd "__init__" "ListFault.__init__" s_ListFault_init ["self", "code", "place"] := fun _ _ _ _ _ _ us hl => match us, hl with | [_, _, _], _ => rfl
theorem bn_Cursor_init : Bnd "__init__" "Cursor.__init__" s_Cursor_init ["self", "text", "tokens"] := fun _ _ _ _ _ _ us hl => match us, hl with | [_, _, _], _ => rfl
theorem bn_Cursor_kind : Bnd "kind" "Cursor.kind" s_Cursor_kind ["self"] := fun _ _ _ _ _ _ us hl => match us, hl with | [_], _ => rfl
theorem bn_Cursor_here : Bnd "here" "Cursor.here" s_Cursor_here ["self"] := fun _ _ _ _ _ _ us hl => match us, hl with | [_], _ => rfl
theorem bn_Cursor_spelled : Bnd "spelled" "Cursor.spelled" s_Cursor_spelled ["self"] := fun _ _ _ _ _ _ us hl => match us, hl with | [_], _ => rfl
theorem bn_Cursor_need : Bnd "need" "Cursor.need" s_Cursor_need ["self", "kind"] := fun _ _ _ _ _ _ us hl => match us, hl with | [_, _], _ => rfl
theorem bn_Cursor_step : Bnd "step" "Cursor.step" s_Cursor_step ["self"] := fun _ _ _ _ _ _ us hl => match us, hl with | [_], _ => rfl
theorem bn_Cursor_take : Bnd "take" "Cursor.take" s_Cursor_take ["self", "kind"] := fun _ _ _ _ _ _ us hl => match us, hl with | [_, _], _ => rfl
theorem bn_read_name : Bnd "read_name" "read_name" s_read_name ["cursor", "earlier"] := fun _ _ _ _ _ _ us hl => match us, hl with | [_, _], _ => rfl
theorem bn_read_direction : Bnd "read_direction" "read_direction" s_read_direction ["cursor"] := fun _ _ _ _ _ _ us hl => match us, hl with | [_], _ => rfl
theorem bn_read_measure : Bnd "read_measure" "read_measure" s_read_measure ["cursor", "names", "ups"] := fun _ _ _ _ _ _ us hl => match us, hl with | [_, _, _], _ => rfl
theorem bn_read_measures : Bnd "read_measures" "read_measures" s_read_measures ["cursor"] := fun _ _ _ _ _ _ us hl => match us, hl with | [_], _ => rfl
theorem bn_read_value : Bnd "read_value" "read_value" s_read_value ["cursor"] := fun _ _ _ _ _ _ us hl => match us, hl with | [_], _ => rfl
theorem bn_read_row : Bnd "read_row" "read_row" s_read_row ["cursor", "many"] := fun _ _ _ _ _ _ us hl => match us, hl with | [_, _], _ => rfl
theorem bn_read_item : Bnd "read_item" "read_item" s_read_item ["cursor", "many", "names", "rows"] := fun _ _ _ _ _ _ us hl => match us, hl with | [_, _, _, _], _ => rfl
theorem bn_read_whole : Bnd "read_whole" "read_whole" s_read_whole ["cursor"] := fun _ _ _ _ _ _ us hl => match us, hl with | [_], _ => rfl
theorem bn_read_list : Bnd "read_list" "read_list" s_read_list ["text"] := fun _ _ _ _ _ _ us hl => match us, hl with | [_], _ => rfl
theorem bn_sets_of : Bnd "sets_of" "sets_of" s_sets_of ["many", "size"] := fun _ _ _ _ _ _ us hl => match us, hl with | [_, _], _ => rfl
theorem bn_all_sets : Bnd "all_sets" "all_sets" s_all_sets ["many"] := fun _ _ _ _ _ _ us hl => match us, hl with | [_], _ => rfl
theorem bn_within : Bnd "within" "within" s_within ["inner", "outer"] := fun _ _ _ _ _ _ us hl => match us, hl with | [_, _], _ => rfl
theorem bn_prey_of : Bnd "prey_of" "prey_of" s_prey_of ["held"] := fun _ _ _ _ _ _ us hl => match us, hl with | [_], _ => rfl
theorem bn_beaten_together : Bnd "beaten_together" "beaten_together" s_beaten_together ["prey", "taken"] := fun _ _ _ _ _ _ us hl => match us, hl with | [_, _], _ => rfl
theorem bn_best_together : Bnd "best_together" "best_together" s_best_together ["prey", "many"] := fun _ _ _ _ _ _ us hl => match us, hl with | [_, _], _ => rfl
theorem bn_next_step : Bnd "next_step" "next_step" s_next_step ["prey", "taken"] := fun _ _ _ _ _ _ us hl => match us, hl with | [_, _], _ => rfl
theorem bn_step_by_step : Bnd "step_by_step" "step_by_step" s_step_by_step ["prey", "many"] := fun _ _ _ _ _ _ us hl => match us, hl with | [_, _], _ => rfl
theorem bn_joined : Bnd "joined" "joined" s_joined ["parts"] := fun _ _ _ _ _ _ us hl => match us, hl with | [_], _ => rfl
theorem bn_measure_part : Bnd "measure_part" "measure_part" s_measure_part ["name", "up"] := fun _ _ _ _ _ _ us hl => match us, hl with | [_, _], _ => rfl
theorem bn_measures_line : Bnd "measures_line" "measures_line" s_measures_line ["held"] := fun _ _ _ _ _ _ us hl => match us, hl with | [_], _ => rfl
theorem bn_item_line : Bnd "item_line" "item_line" s_item_line ["name", "row"] := fun _ _ _ _ _ _ us hl => match us, hl with | [_, _], _ => rfl
theorem bn_one_form : Bnd "one_form" "one_form" s_one_form ["held"] := fun _ _ _ _ _ _ us hl => match us, hl with | [_], _ => rfl
theorem bn_unbeaten_table : Bnd "unbeaten_table" "unbeaten_table" s_unbeaten_table ["held"] := fun _ _ _ _ _ _ us hl => match us, hl with | [_], _ => rfl
theorem bn_unbeaten_by_smaller : Bnd "unbeaten_by_smaller" "unbeaten_by_smaller" s_unbeaten_by_smaller ["table", "chosen", "item"] := fun _ _ _ _ _ _ us hl => match us, hl with | [_, _, _], _ => rfl
theorem bn_least_sets : Bnd "least_sets" "least_sets" s_least_sets ["table", "item"] := fun _ _ _ _ _ _ us hl => match us, hl with | [_, _], _ => rfl
theorem bn_stored_items : Bnd "stored_items" "stored_items" s_stored_items ["table", "chosen", "unbeaten"] := fun _ _ _ _ _ _ us hl => match us, hl with | [_, _, _], _ => rfl
theorem bn_stored_table : Bnd "stored_table" "stored_table" s_stored_table ["table"] := fun _ _ _ _ _ _ us hl => match us, hl with | [_], _ => rfl
theorem bn_how_many : Bnd "how_many" "how_many" s_how_many ["table"] := fun _ _ _ _ _ _ us hl => match us, hl with | [_], _ => rfl
theorem bn_stored_within : Bnd "stored_within" "stored_within" s_stored_within ["stored", "measures", "item"] := fun _ _ _ _ _ _ us hl => match us, hl with | [_, _, _], _ => rfl
theorem bn_candidates : Bnd "candidates" "candidates" s_candidates ["held", "measures"] := fun _ _ _ _ _ _ us hl => match us, hl with | [_, _], _ => rfl
theorem bn_told : Bnd "told" "told" s_told ["numbers"] := fun _ _ _ _ _ _ us hl => match us, hl with | [_], _ => rfl
theorem bn_right_measures : Bnd "right_measures" "right_measures" s_right_measures ["held", "measures"] := fun _ _ _ _ _ _ us hl => match us, hl with | [_, _], _ => rfl
theorem bn_tell_shown : Bnd "tell_shown" "tell_shown" s_tell_shown ["held"] := fun _ _ _ _ _ _ us hl => match us, hl with | [_], _ => rfl
theorem bn_tell_sub : Bnd "tell_sub" "tell_sub" s_tell_sub ["held", "measures"] := fun _ _ _ _ _ _ us hl => match us, hl with | [_, _], _ => rfl
theorem bn_tell_cube : Bnd "tell_cube" "tell_cube" s_tell_cube ["held"] := fun _ _ _ _ _ _ us hl => match us, hl with | [_], _ => rfl
theorem bn_tell_least : Bnd "tell_least" "tell_least" s_tell_least ["held", "item"] := fun _ _ _ _ _ _ us hl => match us, hl with | [_, _], _ => rfl
theorem bn_in_bounds : Bnd "in_bounds" "in_bounds" s_in_bounds ["row", "low", "high"] := fun _ _ _ _ _ _ us hl => match us, hl with | [_, _, _], _ => rfl
theorem bn_tell_bounds : Bnd "tell_bounds" "tell_bounds" s_tell_bounds ["held", "low", "high"] := fun _ _ _ _ _ _ us hl => match us, hl with | [_, _, _], _ => rfl
theorem bn_right_groups : Bnd "right_groups" "right_groups" s_right_groups ["held", "groups"] := fun _ _ _ _ _ _ us hl => match us, hl with | [_, _], _ => rfl
theorem bn_tell_groups : Bnd "tell_groups" "tell_groups" s_tell_groups ["held", "groups"] := fun _ _ _ _ _ _ us hl => match us, hl with | [_, _], _ => rfl
theorem bn_tell_cover : Bnd "tell_cover" "tell_cover" s_tell_cover ["held", "many"] := fun _ _ _ _ _ _ us hl => match us, hl with | [_, _], _ => rfl
theorem bn_tell_ask : Bnd "tell_ask" "tell_ask" s_tell_ask ["held", "measures"] := fun _ _ _ _ _ _ us hl => match us, hl with | [_, _], _ => rfl
theorem bn_Desk_init : Bnd "__init__" "Desk.__init__" s_Desk_init ["self"] := fun _ _ _ _ _ _ us hl => match us, hl with | [_], _ => rfl
theorem bn_Desk_load : Bnd "load" "Desk.load" s_Desk_load ["self", "text"] := fun _ _ _ _ _ _ us hl => match us, hl with | [_, _], _ => rfl
theorem bn_Desk_answer : Bnd "answer" "Desk.answer" s_Desk_answer ["self", "call", "numbers", "rows"] := fun _ _ _ _ _ _ us hl => match us, hl with | [_, _, _, _], _ => rfl
theorem bn_tell : Bnd "tell" "tell" s_tell ["held", "call", "numbers", "rows"] := fun _ _ _ _ _ _ us hl => match us, hl with | [_, _, _, _], _ => rfl
theorem bn_read_rows : Bnd "read_rows" "read_rows" s_read_rows ["calls", "start", "many"] := fun _ _ _ _ _ _ us hl => match us, hl with | [_, _, _], _ => rfl
theorem bn_answers : Bnd "answers" "answers" s_answers ["calls"] := fun _ _ _ _ _ _ us hl => match us, hl with | [_], _ => rfl
section
variable {P : Program} {w : World} {K : PySem.W.Frag} {mg : Str → Option Value} {base : Heap} {a : Ads}
theorem fn_answers {f : Addr} {fd : FuncData} (T : Txt K mg a) (F : Fun K "answers" "answers" s_answers f fd) : FnOk P w K mg base CX0 12 f fd ["calls"] (sp_end K) := by
  have c_Desk_init := ok_Desk_init (P := P) (w := w) (base := base) T 
  have c_read_rows := ok_read_rows (P := P) (w := w) (base := base) T 
  have c_after_blanks := ok_after_blanks (P := P) (w := w) (base := base) T 
  have c_is_letter := ok_is_letter (P := P) (w := w) (base := base) T 
  have c_is_digit := ok_is_digit (P := P) (w := w) (base := base) T 
  have c_name_end := ok_name_end (P := P) (w := w) (base := base) T c_is_letter c_is_digit
  have c_codes := ok_codes (P := P) (w := w) (base := base) T 
  have c_name_kind := ok_name_kind (P := P) (w := w) (base := base) T c_codes
  have c_digits_end := ok_digits_end (P := P) (w := w) (base := base) T c_is_digit
  have c_number_of := ok_number_of (P := P) (w := w) (base := base) T 
  have c_number_kind := ok_number_kind (P := P) (w := w) (base := base) T c_number_of
  have c_token_at := ok_token_at (P := P) (w := w) (base := base) T c_is_letter c_name_end c_name_kind c_is_digit c_digits_end c_number_kind
  have c_read_tokens := ok_read_tokens (P := P) (w := w) (base := base) T c_after_blanks c_token_at
  have c_Cursor_kind := ok_Cursor_kind (P := P) (w := w) (base := base) T 
  have c_Cursor_here := ok_Cursor_here (P := P) (w := w) (base := base) T 
  have c_ListFault_init := ok_ListFault_init (P := P) (w := w) (base := base) T 
  have c_Cursor_need := ok_Cursor_need (P := P) (w := w) (base := base) T c_Cursor_kind c_Cursor_here c_ListFault_init
  have c_Cursor_step := ok_Cursor_step (P := P) (w := w) (base := base) T 
  have c_Cursor_take := ok_Cursor_take (P := P) (w := w) (base := base) T c_Cursor_need c_Cursor_step
  have c_Cursor_spelled := ok_Cursor_spelled (P := P) (w := w) (base := base) T 
  have c_read_name := ok_read_name (P := P) (w := w) (base := base) T c_Cursor_need c_Cursor_spelled c_Cursor_here c_ListFault_init c_Cursor_step
  have c_read_direction := ok_read_direction (P := P) (w := w) (base := base) T c_Cursor_kind c_Cursor_step c_Cursor_take
  have c_read_measure := ok_read_measure (P := P) (w := w) (base := base) T c_Cursor_need c_Cursor_here c_ListFault_init c_read_name c_read_direction
  have c_read_measures := ok_read_measures (P := P) (w := w) (base := base) T c_Cursor_take c_read_measure c_Cursor_kind c_Cursor_step
  have c_read_value := ok_read_value (P := P) (w := w) (base := base) T c_Cursor_kind c_Cursor_step c_Cursor_need c_number_of c_Cursor_spelled c_Cursor_here c_ListFault_init
  have c_read_row := ok_read_row (P := P) (w := w) (base := base) T c_read_value c_Cursor_take
  have c_read_item := ok_read_item (P := P) (w := w) (base := base) T c_Cursor_need c_Cursor_here c_ListFault_init c_Cursor_step c_read_name c_Cursor_take c_read_row
  have c_Held_init := ok_Held_init (P := P) (w := w) (base := base) T 
  have c_read_whole := ok_read_whole (P := P) (w := w) (base := base) T c_read_measures c_Cursor_kind c_read_item c_Cursor_need c_Held_init
  have c_Cursor_init := ok_Cursor_init (P := P) (w := w) (base := base) T 
  have c_read_list := ok_read_list (P := P) (w := w) (base := base) T c_read_tokens c_read_whole c_Cursor_init
  have c_Desk_load := ok_Desk_load (P := P) (w := w) (base := base) T c_read_list
  have c_told := ok_told (P := P) (w := w) (base := base) T 
  have c_measure_part := ok_measure_part (P := P) (w := w) (base := base) T c_codes
  have c_joined := ok_joined (P := P) (w := w) (base := base) T c_codes
  have c_measures_line := ok_measures_line (P := P) (w := w) (base := base) T c_measure_part c_codes c_joined
  have c_item_line := ok_item_line (P := P) (w := w) (base := base) T c_codes c_joined
  have c_one_form := ok_one_form (P := P) (w := w) (base := base) T c_measures_line c_item_line
  have c_tell_shown := ok_tell_shown (P := P) (w := w) (base := base) T c_told c_one_form
  have c_right_measures := ok_right_measures (P := P) (w := w) (base := base) T 
  have c_Held_lead := ok_Held_lead (P := P) (w := w) (base := base) T 
  have c_Held_beats := ok_Held_beats (P := P) (w := w) (base := base) T c_Held_lead
  have c_Held_beaten := ok_Held_beaten (P := P) (w := w) (base := base) T c_Held_beats
  have c_Held_unbeaten := ok_Held_unbeaten (P := P) (w := w) (base := base) T c_Held_beaten
  have c_Held_every_item := ok_Held_every_item (P := P) (w := w) (base := base) T 
  have c_tell_sub := ok_tell_sub (P := P) (w := w) (base := base) T c_right_measures c_told c_Held_unbeaten c_Held_every_item
  have c_sets_of := ok_sets_of (P := P) (w := w) (base := base) T 
  have c_all_sets := ok_all_sets (P := P) (w := w) (base := base) T c_sets_of
  have c_unbeaten_table := ok_unbeaten_table (P := P) (w := w) (base := base) T c_Held_every_item c_all_sets c_Held_unbeaten
  have c_within := ok_within (P := P) (w := w) (base := base) T 
  have c_unbeaten_by_smaller := ok_unbeaten_by_smaller (P := P) (w := w) (base := base) T c_within
  have c_stored_items := ok_stored_items (P := P) (w := w) (base := base) T c_unbeaten_by_smaller
  have c_stored_table := ok_stored_table (P := P) (w := w) (base := base) T c_stored_items
  have c_how_many := ok_how_many (P := P) (w := w) (base := base) T 
  have c_tell_cube := ok_tell_cube (P := P) (w := w) (base := base) T c_unbeaten_table c_stored_table c_how_many c_told
  have c_least_sets := ok_least_sets (P := P) (w := w) (base := base) T c_unbeaten_by_smaller
  have c_tell_least := ok_tell_least (P := P) (w := w) (base := base) T c_unbeaten_table c_least_sets c_told
  have c_in_bounds := ok_in_bounds (P := P) (w := w) (base := base) T 
  have c_Held_every_measure := ok_Held_every_measure (P := P) (w := w) (base := base) T 
  have c_tell_bounds := ok_tell_bounds (P := P) (w := w) (base := base) T c_Held_every_item c_in_bounds c_told c_Held_unbeaten c_Held_every_measure
  have c_right_groups := ok_right_groups (P := P) (w := w) (base := base) T 
  have c_tell_groups := ok_tell_groups (P := P) (w := w) (base := base) T c_right_groups c_Held_every_measure c_Held_every_item c_Held_unbeaten c_told
  have c_prey_of := ok_prey_of (P := P) (w := w) (base := base) T c_Held_every_measure c_Held_every_item c_Held_beats
  have c_beaten_together := ok_beaten_together (P := P) (w := w) (base := base) T 
  have c_best_together := ok_best_together (P := P) (w := w) (base := base) T c_sets_of c_beaten_together
  have c_next_step := ok_next_step (P := P) (w := w) (base := base) T c_beaten_together
  have c_step_by_step := ok_step_by_step (P := P) (w := w) (base := base) T c_next_step c_beaten_together
  have c_tell_cover := ok_tell_cover (P := P) (w := w) (base := base) T c_prey_of c_best_together c_step_by_step
  have c_stored_within := ok_stored_within (P := P) (w := w) (base := base) T c_within
  have c_candidates := ok_candidates (P := P) (w := w) (base := base) T c_stored_table c_unbeaten_table c_Held_every_item c_stored_within
  have c_tell_ask := ok_tell_ask (P := P) (w := w) (base := base) T c_right_measures c_candidates c_told c_Held_unbeaten
  have c_tell := ok_tell (P := P) (w := w) (base := base) T c_tell_shown c_tell_sub c_tell_cube c_tell_least c_tell_bounds c_tell_groups c_tell_cover c_tell_ask
  have c_Desk_answer := ok_Desk_answer (P := P) (w := w) (base := base) T c_Desk_load c_tell
  exact go_answers (P := P) (w := w) (base := base) T F c_Desk_init c_read_rows c_Desk_answer
theorem end_mk {fa : Addr} (T : Txt K mg a) (hfa : mg "answers" = some (.ref fa)) :
    ∃ fd : FuncData, (∀ (s : Shared) (us : List Value), us.length = (["calls"] : List Str).length → BindsTo s fd ⟨us, []⟩ ((["calls"] : List Str).zip us)) ∧ ∀ base : Heap, K.In base → base.Ns mainGlobals mg → FnOk P w K mg base CX0 12 fa fd ["calls"] (sp_end K) := by
  obtain ⟨f, fd, F, hm, _⟩ := T.d_answers.ex
  rw [hm] at hfa
  cases hfa
  refine ⟨fd, fun s us hu => ?_, fun base _ _ => fn_answers T F⟩
  obtain ⟨oc, od, kV, doc, pm, an, cdv, ct, osl, rfl, _, _⟩ := F.ex
  exact .of_eq (bn_answers kV doc pm an cdv ct us hu)
end
end Fw
open PySem PySem.W PyProof.Rows
set_option maxRecDepth 100000 in
set_option maxHeartbeats 0 in
theorem PySem.Challenge.cw_fewmeasures_s01_answers_holds : PySem.Challenge.rw_fewmeasures_s01_answers.Holds := by
  w_on; k_headS; (case hw => exact ⟨[.list [.int 3]], by decide +kernel, by decide +kernel⟩)
  k_fillS
  refine L2.walk_specK (r := PySem.Challenge.rw_fewmeasures_s01_answers) (k := 12) (CX := L2.CX0) (ps := ["calls"]) (sp := Fw.sp_end) (by decide +kernel) rfl rfl ⟨rfl, by decide, by decide⟩ (fun w h Y => PySem.W.kIn_of Y) ?F ?S (fun _ _ _ _ z => z)
  case F =>
    intro w mg fa h Y KX G hmg
    refine' Fw.cls_go (x := "Held") KX G ?e1 ?p1 ?h1 ?o1 ?s1 ?m1 ?k1 (fun m_held cl_held mk_held kc_held => ?go1)
    (case e1 => k_is); (case p1 => k_is); (case h1 => k_is); (case o1 => k_is); (case s1 => k_is); (case m1 => k_is); (case k1 => k_is)
    refine' Fw.cls_go (x := "Cursor") KX G ?e2 ?p2 ?h2 ?o2 ?s2 ?m2 ?k2 (fun m_cursor cl_cursor mk_cursor kc_cursor => ?go2)
    (case e2 => k_is); (case p2 => k_is); (case h2 => k_is); (case o2 => k_is); (case s2 => k_is); (case m2 => k_is); (case k2 => k_is)
    refine' Fw.cls_go (x := "Desk") KX G ?e3 ?p3 ?h3 ?o3 ?s3 ?m3 ?k3 (fun m_desk cl_desk mk_desk kc_desk => ?go3)
    (case e3 => k_is); (case p3 => k_is); (case h3 => k_is); (case o3 => k_is); (case s3 => k_is); (case m3 => k_is); (case k3 => k_is)
    refine' Fw.err_go (x := "ListFault") KX G ?e4 ?l4 ?s4 ?g4 ?q4 ?x4 ?t4 ?k4 ?h4 ?i4 ?b4 (fun m_fault oex xf ef => ?go4)
    (case e4 => k_is); (case l4 => k_is); (case s4 => k_is); (case g4 => k_is); (case q4 => k_is); (case x4 => k_is); (case t4 => k_is); (case k4 => k_is); (case h4 => k_is); (case i4 => k_is); (case b4 => first | rfl | k_is)
    refine' Fw.ini_go cl_held Fw.bn_Held_init m_held mk_held kc_held ?e5 ?i5 ?l5 ?c5 ?k5 (fun d_Held_init => ?go5)
    (case e5 => k_is); (case i5 => k_is); (case l5 => k_is); (case c5 => k_is); (case k5 => k_is)
    refine' Fw.met_go cl_held Fw.bn_Held_every_measure ?e6 ?i6 ?l6 ?c6 ?k6 (fun d_Held_every_measure => ?go6)
    (case e6 => k_is); (case i6 => k_is); (case l6 => k_is); (case c6 => k_is); (case k6 => k_is)
    refine' Fw.met_go cl_held Fw.bn_Held_every_item ?e7 ?i7 ?l7 ?c7 ?k7 (fun d_Held_every_item => ?go7)
    (case e7 => k_is); (case i7 => k_is); (case l7 => k_is); (case c7 => k_is); (case k7 => k_is)
    refine' Fw.met_go cl_held Fw.bn_Held_lead ?e8 ?i8 ?l8 ?c8 ?k8 (fun d_Held_lead => ?go8)
    (case e8 => k_is); (case i8 => k_is); (case l8 => k_is); (case c8 => k_is); (case k8 => k_is)
    refine' Fw.met_go cl_held Fw.bn_Held_beats ?e9 ?i9 ?l9 ?c9 ?k9 (fun d_Held_beats => ?go9)
    (case e9 => k_is); (case i9 => k_is); (case l9 => k_is); (case c9 => k_is); (case k9 => k_is)
    refine' Fw.met_go cl_held Fw.bn_Held_beaten ?e10 ?i10 ?l10 ?c10 ?k10 (fun d_Held_beaten => ?go10)
    (case e10 => k_is); (case i10 => k_is); (case l10 => k_is); (case c10 => k_is); (case k10 => k_is)
    refine' Fw.met_go cl_held Fw.bn_Held_unbeaten ?e11 ?i11 ?l11 ?c11 ?k11 (fun d_Held_unbeaten => ?go11)
    (case e11 => k_is); (case i11 => k_is); (case l11 => k_is); (case c11 => k_is); (case k11 => k_is)
    refine' Fw.def_go KX G Fw.bn_is_letter ?e12 ?l12 ?c12 ?k12 (fun d_is_letter => ?go12)
    (case e12 => k_is); (case l12 => k_is); (case c12 => k_is); (case k12 => k_is)
    refine' Fw.def_go KX G Fw.bn_is_digit ?e13 ?l13 ?c13 ?k13 (fun d_is_digit => ?go13)
    (case e13 => k_is); (case l13 => k_is); (case c13 => k_is); (case k13 => k_is)
    refine' Fw.def_go KX G Fw.bn_codes ?e14 ?l14 ?c14 ?k14 (fun d_codes => ?go14)
    (case e14 => k_is); (case l14 => k_is); (case c14 => k_is); (case k14 => k_is)
    refine' Fw.def_go KX G Fw.bn_after_blanks ?e15 ?l15 ?c15 ?k15 (fun d_after_blanks => ?go15)
    (case e15 => k_is); (case l15 => k_is); (case c15 => k_is); (case k15 => k_is)
    refine' Fw.def_go KX G Fw.bn_name_end ?e16 ?l16 ?c16 ?k16 (fun d_name_end => ?go16)
    (case e16 => k_is); (case l16 => k_is); (case c16 => k_is); (case k16 => k_is)
    refine' Fw.def_go KX G Fw.bn_digits_end ?e17 ?l17 ?c17 ?k17 (fun d_digits_end => ?go17)
    (case e17 => k_is); (case l17 => k_is); (case c17 => k_is); (case k17 => k_is)
    refine' Fw.def_go KX G Fw.bn_name_kind ?e18 ?l18 ?c18 ?k18 (fun d_name_kind => ?go18)
    (case e18 => k_is); (case l18 => k_is); (case c18 => k_is); (case k18 => k_is)
    refine' Fw.def_go KX G Fw.bn_number_of ?e19 ?l19 ?c19 ?k19 (fun d_number_of => ?go19)
    (case e19 => k_is); (case l19 => k_is); (case c19 => k_is); (case k19 => k_is)
    refine' Fw.def_go KX G Fw.bn_number_kind ?e20 ?l20 ?c20 ?k20 (fun d_number_kind => ?go20)
    (case e20 => k_is); (case l20 => k_is); (case c20 => k_is); (case k20 => k_is)
    refine' Fw.def_go KX G Fw.bn_token_at ?e21 ?l21 ?c21 ?k21 (fun d_token_at => ?go21)
    (case e21 => k_is); (case l21 => k_is); (case c21 => k_is); (case k21 => k_is)
    refine' Fw.def_go KX G Fw.bn_read_tokens ?e22 ?l22 ?c22 ?k22 (fun d_read_tokens => ?go22)
    (case e22 => k_is); (case l22 => k_is); (case c22 => k_is); (case k22 => k_is)
    refine' Fw.flt_go oex Fw.bn_ListFault_init ?e23 ?i23 ?l23 ?c23 ?k23 (fun d_ListFault_init => ?go23)
    (case e23 => k_is); (case i23 => k_is); (case l23 => k_is); (case c23 => k_is); (case k23 => k_is)
    refine' Fw.ini_go cl_cursor Fw.bn_Cursor_init m_cursor mk_cursor kc_cursor ?e24 ?i24 ?l24 ?c24 ?k24 (fun d_Cursor_init => ?go24)
    (case e24 => k_is); (case i24 => k_is); (case l24 => k_is); (case c24 => k_is); (case k24 => k_is)
    refine' Fw.met_go cl_cursor Fw.bn_Cursor_kind ?e25 ?i25 ?l25 ?c25 ?k25 (fun d_Cursor_kind => ?go25)
    (case e25 => k_is); (case i25 => k_is); (case l25 => k_is); (case c25 => k_is); (case k25 => k_is)
    refine' Fw.met_go cl_cursor Fw.bn_Cursor_here ?e26 ?i26 ?l26 ?c26 ?k26 (fun d_Cursor_here => ?go26)
    (case e26 => k_is); (case i26 => k_is); (case l26 => k_is); (case c26 => k_is); (case k26 => k_is)
    refine' Fw.met_go cl_cursor Fw.bn_Cursor_spelled ?e27 ?i27 ?l27 ?c27 ?k27 (fun d_Cursor_spelled => ?go27)
    (case e27 => k_is); (case i27 => k_is); (case l27 => k_is); (case c27 => k_is); (case k27 => k_is)
    refine' Fw.met_go cl_cursor Fw.bn_Cursor_need ?e28 ?i28 ?l28 ?c28 ?k28 (fun d_Cursor_need => ?go28)
    (case e28 => k_is); (case i28 => k_is); (case l28 => k_is); (case c28 => k_is); (case k28 => k_is)
    refine' Fw.met_go cl_cursor Fw.bn_Cursor_step ?e29 ?i29 ?l29 ?c29 ?k29 (fun d_Cursor_step => ?go29)
    (case e29 => k_is); (case i29 => k_is); (case l29 => k_is); (case c29 => k_is); (case k29 => k_is)
    refine' Fw.met_go cl_cursor Fw.bn_Cursor_take ?e30 ?i30 ?l30 ?c30 ?k30 (fun d_Cursor_take => ?go30)
    (case e30 => k_is); (case i30 => k_is); (case l30 => k_is); (case c30 => k_is); (case k30 => k_is)
    refine' Fw.def_go KX G Fw.bn_read_name ?e31 ?l31 ?c31 ?k31 (fun d_read_name => ?go31)
    (case e31 => k_is); (case l31 => k_is); (case c31 => k_is); (case k31 => k_is)
    refine' Fw.def_go KX G Fw.bn_read_direction ?e32 ?l32 ?c32 ?k32 (fun d_read_direction => ?go32)
    (case e32 => k_is); (case l32 => k_is); (case c32 => k_is); (case k32 => k_is)
    refine' Fw.def_go KX G Fw.bn_read_measure ?e33 ?l33 ?c33 ?k33 (fun d_read_measure => ?go33)
    (case e33 => k_is); (case l33 => k_is); (case c33 => k_is); (case k33 => k_is)
    refine' Fw.def_go KX G Fw.bn_read_measures ?e34 ?l34 ?c34 ?k34 (fun d_read_measures => ?go34)
    (case e34 => k_is); (case l34 => k_is); (case c34 => k_is); (case k34 => k_is)
    refine' Fw.def_go KX G Fw.bn_read_value ?e35 ?l35 ?c35 ?k35 (fun d_read_value => ?go35)
    (case e35 => k_is); (case l35 => k_is); (case c35 => k_is); (case k35 => k_is)
    refine' Fw.def_go KX G Fw.bn_read_row ?e36 ?l36 ?c36 ?k36 (fun d_read_row => ?go36)
    (case e36 => k_is); (case l36 => k_is); (case c36 => k_is); (case k36 => k_is)
    refine' Fw.def_go KX G Fw.bn_read_item ?e37 ?l37 ?c37 ?k37 (fun d_read_item => ?go37)
    (case e37 => k_is); (case l37 => k_is); (case c37 => k_is); (case k37 => k_is)
    refine' Fw.def_go KX G Fw.bn_read_whole ?e38 ?l38 ?c38 ?k38 (fun d_read_whole => ?go38)
    (case e38 => k_is); (case l38 => k_is); (case c38 => k_is); (case k38 => k_is)
    refine' Fw.def_go KX G Fw.bn_read_list ?e39 ?l39 ?c39 ?k39 (fun d_read_list => ?go39)
    (case e39 => k_is); (case l39 => k_is); (case c39 => k_is); (case k39 => k_is)
    refine' Fw.def_go KX G Fw.bn_sets_of ?e40 ?l40 ?c40 ?k40 (fun d_sets_of => ?go40)
    (case e40 => k_is); (case l40 => k_is); (case c40 => k_is); (case k40 => k_is)
    refine' Fw.def_go KX G Fw.bn_all_sets ?e41 ?l41 ?c41 ?k41 (fun d_all_sets => ?go41)
    (case e41 => k_is); (case l41 => k_is); (case c41 => k_is); (case k41 => k_is)
    refine' Fw.def_go KX G Fw.bn_within ?e42 ?l42 ?c42 ?k42 (fun d_within => ?go42)
    (case e42 => k_is); (case l42 => k_is); (case c42 => k_is); (case k42 => k_is)
    refine' Fw.def_go KX G Fw.bn_prey_of ?e43 ?l43 ?c43 ?k43 (fun d_prey_of => ?go43)
    (case e43 => k_is); (case l43 => k_is); (case c43 => k_is); (case k43 => k_is)
    refine' Fw.def_go KX G Fw.bn_beaten_together ?e44 ?l44 ?c44 ?k44 (fun d_beaten_together => ?go44)
    (case e44 => k_is); (case l44 => k_is); (case c44 => k_is); (case k44 => k_is)
    refine' Fw.def_go KX G Fw.bn_best_together ?e45 ?l45 ?c45 ?k45 (fun d_best_together => ?go45)
    (case e45 => k_is); (case l45 => k_is); (case c45 => k_is); (case k45 => k_is)
    refine' Fw.def_go KX G Fw.bn_next_step ?e46 ?l46 ?c46 ?k46 (fun d_next_step => ?go46)
    (case e46 => k_is); (case l46 => k_is); (case c46 => k_is); (case k46 => k_is)
    refine' Fw.def_go KX G Fw.bn_step_by_step ?e47 ?l47 ?c47 ?k47 (fun d_step_by_step => ?go47)
    (case e47 => k_is); (case l47 => k_is); (case c47 => k_is); (case k47 => k_is)
    refine' Fw.def_go KX G Fw.bn_joined ?e48 ?l48 ?c48 ?k48 (fun d_joined => ?go48)
    (case e48 => k_is); (case l48 => k_is); (case c48 => k_is); (case k48 => k_is)
    refine' Fw.def_go KX G Fw.bn_measure_part ?e49 ?l49 ?c49 ?k49 (fun d_measure_part => ?go49)
    (case e49 => k_is); (case l49 => k_is); (case c49 => k_is); (case k49 => k_is)
    refine' Fw.def_go KX G Fw.bn_measures_line ?e50 ?l50 ?c50 ?k50 (fun d_measures_line => ?go50)
    (case e50 => k_is); (case l50 => k_is); (case c50 => k_is); (case k50 => k_is)
    refine' Fw.def_go KX G Fw.bn_item_line ?e51 ?l51 ?c51 ?k51 (fun d_item_line => ?go51)
    (case e51 => k_is); (case l51 => k_is); (case c51 => k_is); (case k51 => k_is)
    refine' Fw.def_go KX G Fw.bn_one_form ?e52 ?l52 ?c52 ?k52 (fun d_one_form => ?go52)
    (case e52 => k_is); (case l52 => k_is); (case c52 => k_is); (case k52 => k_is)
    refine' Fw.def_go KX G Fw.bn_unbeaten_table ?e53 ?l53 ?c53 ?k53 (fun d_unbeaten_table => ?go53)
    (case e53 => k_is); (case l53 => k_is); (case c53 => k_is); (case k53 => k_is)
    refine' Fw.def_go KX G Fw.bn_unbeaten_by_smaller ?e54 ?l54 ?c54 ?k54 (fun d_unbeaten_by_smaller => ?go54)
    (case e54 => k_is); (case l54 => k_is); (case c54 => k_is); (case k54 => k_is)
    refine' Fw.def_go KX G Fw.bn_least_sets ?e55 ?l55 ?c55 ?k55 (fun d_least_sets => ?go55)
    (case e55 => k_is); (case l55 => k_is); (case c55 => k_is); (case k55 => k_is)
    refine' Fw.def_go KX G Fw.bn_stored_items ?e56 ?l56 ?c56 ?k56 (fun d_stored_items => ?go56)
    (case e56 => k_is); (case l56 => k_is); (case c56 => k_is); (case k56 => k_is)
    refine' Fw.def_go KX G Fw.bn_stored_table ?e57 ?l57 ?c57 ?k57 (fun d_stored_table => ?go57)
    (case e57 => k_is); (case l57 => k_is); (case c57 => k_is); (case k57 => k_is)
    refine' Fw.def_go KX G Fw.bn_how_many ?e58 ?l58 ?c58 ?k58 (fun d_how_many => ?go58)
    (case e58 => k_is); (case l58 => k_is); (case c58 => k_is); (case k58 => k_is)
    refine' Fw.def_go KX G Fw.bn_stored_within ?e59 ?l59 ?c59 ?k59 (fun d_stored_within => ?go59)
    (case e59 => k_is); (case l59 => k_is); (case c59 => k_is); (case k59 => k_is)
    refine' Fw.def_go KX G Fw.bn_candidates ?e60 ?l60 ?c60 ?k60 (fun d_candidates => ?go60)
    (case e60 => k_is); (case l60 => k_is); (case c60 => k_is); (case k60 => k_is)
    refine' Fw.def_go KX G Fw.bn_told ?e61 ?l61 ?c61 ?k61 (fun d_told => ?go61)
    (case e61 => k_is); (case l61 => k_is); (case c61 => k_is); (case k61 => k_is)
    refine' Fw.def_go KX G Fw.bn_right_measures ?e62 ?l62 ?c62 ?k62 (fun d_right_measures => ?go62)
    (case e62 => k_is); (case l62 => k_is); (case c62 => k_is); (case k62 => k_is)
    refine' Fw.def_go KX G Fw.bn_tell_shown ?e63 ?l63 ?c63 ?k63 (fun d_tell_shown => ?go63)
    (case e63 => k_is); (case l63 => k_is); (case c63 => k_is); (case k63 => k_is)
    refine' Fw.def_go KX G Fw.bn_tell_sub ?e64 ?l64 ?c64 ?k64 (fun d_tell_sub => ?go64)
    (case e64 => k_is); (case l64 => k_is); (case c64 => k_is); (case k64 => k_is)
    refine' Fw.def_go KX G Fw.bn_tell_cube ?e65 ?l65 ?c65 ?k65 (fun d_tell_cube => ?go65)
    (case e65 => k_is); (case l65 => k_is); (case c65 => k_is); (case k65 => k_is)
    refine' Fw.def_go KX G Fw.bn_tell_least ?e66 ?l66 ?c66 ?k66 (fun d_tell_least => ?go66)
    (case e66 => k_is); (case l66 => k_is); (case c66 => k_is); (case k66 => k_is)
    refine' Fw.def_go KX G Fw.bn_in_bounds ?e67 ?l67 ?c67 ?k67 (fun d_in_bounds => ?go67)
    (case e67 => k_is); (case l67 => k_is); (case c67 => k_is); (case k67 => k_is)
    refine' Fw.def_go KX G Fw.bn_tell_bounds ?e68 ?l68 ?c68 ?k68 (fun d_tell_bounds => ?go68)
    (case e68 => k_is); (case l68 => k_is); (case c68 => k_is); (case k68 => k_is)
    refine' Fw.def_go KX G Fw.bn_right_groups ?e69 ?l69 ?c69 ?k69 (fun d_right_groups => ?go69)
    (case e69 => k_is); (case l69 => k_is); (case c69 => k_is); (case k69 => k_is)
    refine' Fw.def_go KX G Fw.bn_tell_groups ?e70 ?l70 ?c70 ?k70 (fun d_tell_groups => ?go70)
    (case e70 => k_is); (case l70 => k_is); (case c70 => k_is); (case k70 => k_is)
    refine' Fw.def_go KX G Fw.bn_tell_cover ?e71 ?l71 ?c71 ?k71 (fun d_tell_cover => ?go71)
    (case e71 => k_is); (case l71 => k_is); (case c71 => k_is); (case k71 => k_is)
    refine' Fw.def_go KX G Fw.bn_tell_ask ?e72 ?l72 ?c72 ?k72 (fun d_tell_ask => ?go72)
    (case e72 => k_is); (case l72 => k_is); (case c72 => k_is); (case k72 => k_is)
    refine' Fw.ini_go cl_desk Fw.bn_Desk_init m_desk mk_desk kc_desk ?e73 ?i73 ?l73 ?c73 ?k73 (fun d_Desk_init => ?go73)
    (case e73 => k_is); (case i73 => k_is); (case l73 => k_is); (case c73 => k_is); (case k73 => k_is)
    refine' Fw.met_go cl_desk Fw.bn_Desk_load ?e74 ?i74 ?l74 ?c74 ?k74 (fun d_Desk_load => ?go74)
    (case e74 => k_is); (case i74 => k_is); (case l74 => k_is); (case c74 => k_is); (case k74 => k_is)
    refine' Fw.met_go cl_desk Fw.bn_Desk_answer ?e75 ?i75 ?l75 ?c75 ?k75 (fun d_Desk_answer => ?go75)
    (case e75 => k_is); (case i75 => k_is); (case l75 => k_is); (case c75 => k_is); (case k75 => k_is)
    refine' Fw.def_go KX G Fw.bn_tell ?e76 ?l76 ?c76 ?k76 (fun d_tell => ?go76)
    (case e76 => k_is); (case l76 => k_is); (case c76 => k_is); (case k76 => k_is)
    refine' Fw.def_go KX G Fw.bn_read_rows ?e77 ?l77 ?c77 ?k77 (fun d_read_rows => ?go77)
    (case e77 => k_is); (case l77 => k_is); (case c77 => k_is); (case k77 => k_is)
    refine' Fw.def_go KX G Fw.bn_answers ?e78 ?l78 ?c78 ?k78 (fun d_answers => ?go78)
    (case e78 => k_is); (case l78 => k_is); (case c78 => k_is); (case k78 => k_is)
    refine' Fw.con_go (x := "COMMA") (z := 44) KX G ?e79 (fun g_COMMA => ?go79)
    (case e79 => k_is)
    refine' Fw.con_go (x := "COLON") (z := 58) KX G ?e80 (fun g_COLON => ?go80)
    (case e80 => k_is)
    refine' Fw.con_go (x := "SEMICOLON") (z := 59) KX G ?e81 (fun g_SEMICOLON => ?go81)
    (case e81 => k_is)
    refine' Fw.con_go (x := "DASH") (z := 45) KX G ?e82 (fun g_DASH => ?go82)
    (case e82 => k_is)
    refine' Fw.con_go (x := "REMARK") (z := 35) KX G ?e83 (fun g_REMARK => ?go83)
    (case e83 => k_is)
    refine' Fw.con_go (x := "LINE_END") (z := 10) KX G ?e84 (fun g_LINE_END => ?go84)
    (case e84 => k_is)
    refine' Fw.con_go (x := "ZERO") (z := 48) KX G ?e85 (fun g_ZERO => ?go85)
    (case e85 => k_is)
    refine' Fw.con_go (x := "END") (z := 0) KX G ?e86 (fun g_END => ?go86)
    (case e86 => k_is)
    refine' Fw.con_go (x := "NAME") (z := 1) KX G ?e87 (fun g_NAME => ?go87)
    (case e87 => k_is)
    refine' Fw.con_go (x := "NUMBER") (z := 2) KX G ?e88 (fun g_NUMBER => ?go88)
    (case e88 => k_is)
    refine' Fw.con_go (x := "MEASURES") (z := 3) KX G ?e89 (fun g_MEASURES => ?go89)
    (case e89 => k_is)
    refine' Fw.con_go (x := "UP") (z := 4) KX G ?e90 (fun g_UP => ?go90)
    (case e90 => k_is)
    refine' Fw.con_go (x := "DOWN") (z := 5) KX G ?e91 (fun g_DOWN => ?go91)
    (case e91 => k_is)
    refine' Fw.con_go (x := "ITEM") (z := 6) KX G ?e92 (fun g_ITEM => ?go92)
    (case e92 => k_is)
    refine' Fw.con_go (x := "WRONG") (z := 7) KX G ?e93 (fun g_WRONG => ?go93)
    (case e93 => k_is)
    refine' Fw.con_go (x := "LONGEST_NAME") (z := 16) KX G ?e94 (fun g_LONGEST_NAME => ?go94)
    (case e94 => k_is)
    refine' Fw.con_go (x := "MOST_DIGITS") (z := 10) KX G ?e95 (fun g_MOST_DIGITS => ?go95)
    (case e95 => k_is)
    refine' Fw.con_go (x := "GREATEST_NUMBER") (z := 1000000000) KX G ?e96 (fun g_GREATEST_NUMBER => ?go96)
    (case e96 => k_is)
    refine' Fw.con_go (x := "MOST_BYTES") (z := 4096) KX G ?e97 (fun g_MOST_BYTES => ?go97)
    (case e97 => k_is)
    refine' Fw.con_go (x := "MOST_MEASURES") (z := 4) KX G ?e98 (fun g_MOST_MEASURES => ?go98)
    (case e98 => k_is)
    refine' Fw.con_go (x := "MOST_ITEMS") (z := 16) KX G ?e99 (fun g_MOST_ITEMS => ?go99)
    (case e99 => k_is)
    refine' Fw.con_go (x := "GREATEST_VALUE") (z := 1000) KX G ?e100 (fun g_GREATEST_VALUE => ?go100)
    (case e100 => k_is)
    refine' Fw.con_go (x := "TOO_LONG") (z := 1) KX G ?e101 (fun g_TOO_LONG => ?go101)
    (case e101 => k_is)
    refine' Fw.con_go (x := "NO_TOKEN") (z := 2) KX G ?e102 (fun g_NO_TOKEN => ?go102)
    (case e102 => k_is)
    refine' Fw.con_go (x := "NOT_ALLOWED") (z := 3) KX G ?e103 (fun g_NOT_ALLOWED => ?go103)
    (case e103 => k_is)
    refine' Fw.con_go (x := "TOO_MANY") (z := 4) KX G ?e104 (fun g_TOO_MANY => ?go104)
    (case e104 => k_is)
    refine' Fw.con_go (x := "NAME_TWICE") (z := 5) KX G ?e105 (fun g_NAME_TWICE => ?go105)
    (case e105 => k_is)
    refine' Fw.con_go (x := "TOO_GREAT") (z := 7) KX G ?e106 (fun g_TOO_GREAT => ?go106)
    (case e106 => k_is)
    refine' Fw.con_go (x := "NO_ITEM") (z := -2) KX G ?e107 (fun g_NO_ITEM => ?go107)
    (case e107 => k_is)
    refine' Fw.con_go (x := "WRONG_MEASURES") (z := -3) KX G ?e108 (fun g_WRONG_MEASURES => ?go108)
    (case e108 => k_is)
    refine' Fw.con_go (x := "WRONG_ROWS") (z := -4) KX G ?e109 (fun g_WRONG_ROWS => ?go109)
    (case e109 => k_is)
    refine' Fw.con_go (x := "WRONG_MANY") (z := -5) KX G ?e110 (fun g_WRONG_MANY => ?go110)
    (case e110 => k_is)
    refine' Fw.con_go (x := "GROUPS_telling") (z := 10) KX G ?e111 (fun g_GROUPS_telling => ?go111)
    (case e111 => k_is)
    refine' Fw.con_go (x := "MOST_TAKEN") (z := 4) KX G ?e112 (fun g_MOST_TAKEN => ?go112)
    (case e112 => k_is)
    refine' Fw.con_go (x := "NO_LIST") (z := -1) KX G ?e113 (fun g_NO_LIST => ?go113)
    (case e113 => k_is)
    refine' Fw.con_go (x := "LOAD") (z := 0) KX G ?e114 (fun g_LOAD => ?go114)
    (case e114 => k_is)
    refine' Fw.con_go (x := "SHOWN") (z := 1) KX G ?e115 (fun g_SHOWN => ?go115)
    (case e115 => k_is)
    refine' Fw.con_go (x := "SUB") (z := 2) KX G ?e116 (fun g_SUB => ?go116)
    (case e116 => k_is)
    refine' Fw.con_go (x := "CUBE") (z := 3) KX G ?e117 (fun g_CUBE => ?go117)
    (case e117 => k_is)
    refine' Fw.con_go (x := "LEAST") (z := 4) KX G ?e118 (fun g_LEAST => ?go118)
    (case e118 => k_is)
    refine' Fw.con_go (x := "BOUNDS") (z := 5) KX G ?e119 (fun g_BOUNDS => ?go119)
    (case e119 => k_is)
    refine' Fw.con_go (x := "GROUPS_desk") (z := 6) KX G ?e120 (fun g_GROUPS_desk => ?go120)
    (case e120 => k_is)
    refine' Fw.con_go (x := "COVER") (z := 7) KX G ?e121 (fun g_COVER => ?go121)
    (case e121 => k_is)
    refine' Fw.blt_go (x := "len") KX G ?e122 (fun b_len => ?go122)
    (case e122 => k_is)
    refine' Fw.blt_go (x := "range") KX G ?e123 (fun b_range => ?go123)
    (case e123 => k_is)
    refine' Fw.blt_go (x := "list") KX G ?e124 (fun b_list => ?go124)
    (case e124 => k_is)
    refine' Fw.blt_go (x := "ord") KX G ?e125 (fun b_ord => ?go125)
    (case e125 => k_is)
    refine' Fw.blt_go (x := "str") KX G ?e126 (fun b_str => ?go126)
    (case e126 => k_is)
    refine' Fw.blt_go (x := "sum") KX G ?e127 (fun b_sum => ?go127)
    (case e127 => k_is)
    refine' Fw.blt_go (x := "sorted") KX G ?e128 (fun b_sorted => ?go128)
    (case e128 => k_is)
    refine' Fw.blt_go (x := "zip") KX G ?e129 (fun b_zip => ?go129)
    (case e129 => k_is)
    refine' Fw.blt_go (x := "enumerate") KX G ?e130 (fun b_enumerate => ?go130)
    (case e130 => k_is)
    refine' Fw.na_go (x := "measure_names") cl_held ?e131 (fun na_held_measure_names => ?go131)
    (case e131 => k_is)
    refine' Fw.na_go (x := "ups") cl_held ?e132 (fun na_held_ups => ?go132)
    (case e132 => k_is)
    refine' Fw.na_go (x := "item_names") cl_held ?e133 (fun na_held_item_names => ?go133)
    (case e133 => k_is)
    refine' Fw.na_go (x := "rows") cl_held ?e134 (fun na_held_rows => ?go134)
    (case e134 => k_is)
    refine' Fw.na_go (x := "text") cl_cursor ?e135 (fun na_cursor_text => ?go135)
    (case e135 => k_is)
    refine' Fw.na_go (x := "tokens") cl_cursor ?e136 (fun na_cursor_tokens => ?go136)
    (case e136 => k_is)
    refine' Fw.na_go (x := "at") cl_cursor ?e137 (fun na_cursor_at => ?go137)
    (case e137 => k_is)
    refine' Fw.na_go (x := "held") cl_desk ?e138 (fun na_desk_held => ?go138)
    (case e138 => k_is)
    refine' Fw.nf_go (x := "code") oex ?e139 (fun nf_code => ?go139)
    (case e139 => k_is)
    refine' Fw.nf_go (x := "place") oex ?e140 (fun nf_place => ?go140)
    (case e140 => k_is)
    refine' Fw.tup_go (x := "BLANKS") (xs := [.int 32, .int 9, .int 10]) KX G ?e141 ?l141 ?s141 ?d141 ?z141 ?v141 (fun g_BLANKS t_BLANKS => ?go141)
    (case e141 => k_is); (case l141 => k_is); (case s141 => rfl); (case d141 => rfl); (case z141 => decide); (case v141 => exact .cons ⟨_, rfl⟩ (.cons ⟨_, rfl⟩ (.cons ⟨_, rfl⟩ (.nil))))
    refine' Fw.tup_go (x := "SIGNS") (xs := [.int 44, .int 58, .int 59, .int 45]) KX G ?e142 ?l142 ?s142 ?d142 ?z142 ?v142 (fun g_SIGNS t_SIGNS => ?go142)
    (case e142 => k_is); (case l142 => k_is); (case s142 => rfl); (case d142 => rfl); (case z142 => decide); (case v142 => exact .cons ⟨_, rfl⟩ (.cons ⟨_, rfl⟩ (.cons ⟨_, rfl⟩ (.cons ⟨_, rfl⟩ (.nil)))))
    refine' Fw.tup_go (x := "MANY_NUMBERS") (xs := [.int 0, .int 0, .int 0, .int 0, .int 1, .int 0, .int 0, .int 1, .int 0]) KX G ?e143 ?l143 ?s143 ?d143 ?z143 ?v143 (fun g_MANY_NUMBERS t_MANY_NUMBERS => ?go143)
    (case e143 => k_is); (case l143 => k_is); (case s143 => rfl); (case d143 => rfl); (case z143 => decide); (case v143 => exact .cons ⟨_, rfl⟩ (.cons ⟨_, rfl⟩ (.cons ⟨_, rfl⟩ (.cons ⟨_, rfl⟩ (.cons ⟨_, rfl⟩ (.cons ⟨_, rfl⟩ (.cons ⟨_, rfl⟩ (.cons ⟨_, rfl⟩ (.cons ⟨_, rfl⟩ (.nil))))))))))
    refine' Fw.tup_go (x := "MANY_ROWS") (xs := [.int 1, .int 0, .int 1, .int 0, .int 0, .int 2, .int 1, .int 0, .int 1]) KX G ?e144 ?l144 ?s144 ?d144 ?z144 ?v144 (fun g_MANY_ROWS t_MANY_ROWS => ?go144)
    (case e144 => k_is); (case l144 => k_is); (case s144 => rfl); (case d144 => rfl); (case z144 => decide); (case v144 => exact .cons ⟨_, rfl⟩ (.cons ⟨_, rfl⟩ (.cons ⟨_, rfl⟩ (.cons ⟨_, rfl⟩ (.cons ⟨_, rfl⟩ (.cons ⟨_, rfl⟩ (.cons ⟨_, rfl⟩ (.cons ⟨_, rfl⟩ (.cons ⟨_, rfl⟩ (.nil))))))))))
    exact Fw.end_mk (a := ⟨_, _, _, _, _, _, _, _⟩) { cl_held := cl_held, cl_cursor := cl_cursor, cl_desk := cl_desk, na_held_measure_names := na_held_measure_names, na_held_ups := na_held_ups, na_held_item_names := na_held_item_names, na_held_rows := na_held_rows, na_cursor_text := na_cursor_text, na_cursor_tokens := na_cursor_tokens, na_cursor_at := na_cursor_at, na_desk_held := na_desk_held, oex := oex, xf := xf, nf_code := nf_code, nf_place := nf_place, gf := m_fault, ef := ef, d_Held_init := d_Held_init, d_Held_every_measure := d_Held_every_measure, d_Held_every_item := d_Held_every_item, d_Held_lead := d_Held_lead, d_Held_beats := d_Held_beats, d_Held_beaten := d_Held_beaten, d_Held_unbeaten := d_Held_unbeaten, d_is_letter := d_is_letter, d_is_digit := d_is_digit, d_codes := d_codes, d_after_blanks := d_after_blanks, d_name_end := d_name_end, d_digits_end := d_digits_end, d_name_kind := d_name_kind, d_number_of := d_number_of, d_number_kind := d_number_kind, d_token_at := d_token_at, d_read_tokens := d_read_tokens, d_ListFault_init := d_ListFault_init, d_Cursor_init := d_Cursor_init, d_Cursor_kind := d_Cursor_kind, d_Cursor_here := d_Cursor_here, d_Cursor_spelled := d_Cursor_spelled, d_Cursor_need := d_Cursor_need, d_Cursor_step := d_Cursor_step, d_Cursor_take := d_Cursor_take, d_read_name := d_read_name, d_read_direction := d_read_direction, d_read_measure := d_read_measure, d_read_measures := d_read_measures, d_read_value := d_read_value, d_read_row := d_read_row, d_read_item := d_read_item, d_read_whole := d_read_whole, d_read_list := d_read_list, d_sets_of := d_sets_of, d_all_sets := d_all_sets, d_within := d_within, d_prey_of := d_prey_of, d_beaten_together := d_beaten_together, d_best_together := d_best_together, d_next_step := d_next_step, d_step_by_step := d_step_by_step, d_joined := d_joined, d_measure_part := d_measure_part, d_measures_line := d_measures_line, d_item_line := d_item_line, d_one_form := d_one_form, d_unbeaten_table := d_unbeaten_table, d_unbeaten_by_smaller := d_unbeaten_by_smaller, d_least_sets := d_least_sets, d_stored_items := d_stored_items, d_stored_table := d_stored_table, d_how_many := d_how_many, d_stored_within := d_stored_within, d_candidates := d_candidates, d_told := d_told, d_right_measures := d_right_measures, d_tell_shown := d_tell_shown, d_tell_sub := d_tell_sub, d_tell_cube := d_tell_cube, d_tell_least := d_tell_least, d_in_bounds := d_in_bounds, d_tell_bounds := d_tell_bounds, d_right_groups := d_right_groups, d_tell_groups := d_tell_groups, d_tell_cover := d_tell_cover, d_tell_ask := d_tell_ask, d_Desk_init := d_Desk_init, d_Desk_load := d_Desk_load, d_Desk_answer := d_Desk_answer, d_tell := d_tell, d_read_rows := d_read_rows, d_answers := d_answers, g_BLANKS := g_BLANKS, t_BLANKS := t_BLANKS, g_SIGNS := g_SIGNS, t_SIGNS := t_SIGNS, g_COMMA := g_COMMA, g_COLON := g_COLON, g_SEMICOLON := g_SEMICOLON, g_DASH := g_DASH, g_REMARK := g_REMARK, g_LINE_END := g_LINE_END, g_ZERO := g_ZERO, g_END := g_END, g_NAME := g_NAME, g_NUMBER := g_NUMBER, g_MEASURES := g_MEASURES, g_UP := g_UP, g_DOWN := g_DOWN, g_ITEM := g_ITEM, g_WRONG := g_WRONG, g_LONGEST_NAME := g_LONGEST_NAME, g_MOST_DIGITS := g_MOST_DIGITS, g_GREATEST_NUMBER := g_GREATEST_NUMBER, g_MOST_BYTES := g_MOST_BYTES, g_MOST_MEASURES := g_MOST_MEASURES, g_MOST_ITEMS := g_MOST_ITEMS, g_GREATEST_VALUE := g_GREATEST_VALUE, g_TOO_LONG := g_TOO_LONG, g_NO_TOKEN := g_NO_TOKEN, g_NOT_ALLOWED := g_NOT_ALLOWED, g_TOO_MANY := g_TOO_MANY, g_NAME_TWICE := g_NAME_TWICE, g_TOO_GREAT := g_TOO_GREAT, g_NO_ITEM := g_NO_ITEM, g_WRONG_MEASURES := g_WRONG_MEASURES, g_WRONG_ROWS := g_WRONG_ROWS, g_WRONG_MANY := g_WRONG_MANY, g_GROUPS_telling := g_GROUPS_telling, g_MOST_TAKEN := g_MOST_TAKEN, g_NO_LIST := g_NO_LIST, g_LOAD := g_LOAD, g_SHOWN := g_SHOWN, g_SUB := g_SUB, g_CUBE := g_CUBE, g_LEAST := g_LEAST, g_BOUNDS := g_BOUNDS, g_GROUPS_desk := g_GROUPS_desk, g_COVER := g_COVER, g_MANY_NUMBERS := g_MANY_NUMBERS, t_MANY_NUMBERS := t_MANY_NUMBERS, g_MANY_ROWS := g_MANY_ROWS, t_MANY_ROWS := t_MANY_ROWS, b_len := b_len, b_range := b_range, b_list := b_list, b_ord := b_ord, b_str := b_str, b_sum := b_sum, b_sorted := b_sorted, b_zip := b_zip, b_enumerate := b_enumerate } hmg
  case S =>
    intro K H xs a hO hwi hask hx
    cases hx with
    | cons h1 h2 =>
      cases h2
      cases h1 with
      | lst hs ha =>
        have e := L2.ints_dw a.1 _ ha
        subst e
        exact ⟨_, a.1, rfl, hs, hask, fun p H' _ _ hp => .lst (L2.SqL.of hp) (L2.dw_ints _)⟩
